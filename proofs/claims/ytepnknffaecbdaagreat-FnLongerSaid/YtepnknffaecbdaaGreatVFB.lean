/- What each function of this part returns, for every argument that meets its premises. -/
import Derived.Test.YtepnknffaecbdaaGreatProg
import Derived.Test.YtepnknffaecbdaaGreatVSxA
import Derived.Test.YtepnknffaecbdaaGreatVTy
import Derived.Test.YtepnknffaecbdaaGreatVPlA
import Derived.Test.YtepnknffaecbdaaGreatVF1
import Derived.Test.YtepnknffaecbdaaGreatVF2
import Derived.Test.YtepnknffaecbdaaGreatVF4
import Derived.Test.YtepnknffaecbdaaGreatVF7
import Derived.Test.YtepnknffaecbdaaGreatVF8
import Derived.Test.YtepnknffaecbdaaGreatVF9
namespace Go.Proofs.YtepnknffaecbdaaGreat
open Go.Sx Go.Pl Go.RowKit
theorem i_codesOf (p : Option Addr) (xs : List Int) (c : Nat) (w : World) (hp : Sl w p xs.length c 1 (ic xs)) (hl : xs.length ≤ 1099511627776) :
    Calls Tryz.prog 203 [.slice p xs.length c].toArray w (RetP w fun v w' => ∃ p c F, v = .slice p (codesOf xs).length c ∧ Own w' p (codesOf xs).length c 3 1 (ic (codesOf xs)) F ∧ Fr w.heap.size F ∧ (p = none ↔ ¬ codeOk xs)) := by
 have L : Exm [] w w := Exm.rfl'
 refine enter (n := 36) Tryz.func203 rfl rfl rfl ?_
 refine wp_seq (c_reg (s0 (xaS rfl) (c_end (n_then (wp_seq (wp_seq (c_reg (s0 (xmS rfl) ?_))))))))
 refine srb (zcall cl100 rfl) (i_codeOk _ _ _ _ (hp.ext L) (by omega)) (fun h9 w1 l2 => ?_) (fun h9 w1 l2 => ?_)
 ·have z_l2 := l2.size
  have L := L.tr l2.up
  refine s0 (x_not rfl) (c_end (n_then (c_false rfl (c_skipn (n_then (wp_seq ?_))))))
  have hx6 := h9.2.1
  refine c_reg ?_
  refine s_bsi (xs := [_, _, _, _, _, _]) so24 zr3 (pts_cons rfl (pts_cons rfl (pts_cons rfl (pts_cons rfl (pts_cons rfl (pts_cons rfl pts_nil)))))) rfl rfl rfl ?_
  intro p11 F11 w3 l4 o11 f11 g11
  have z_l4 := l4.size; have L := L.tr l4.up; have hn11 := o11.n1
  refine s0 (xaS rfl) (c_end (n_then (wp_seq (c_reg (s0 (xaI rfl) (c_end (n_then (wp_seq (wp_seq (c_reg (s0 (xaI rfl) (c_end (n_then ?_)))))))))))))
  refine wp_block ?_
  refine c_loop (γ := Nat) (fun n => 7 - n) (fun (n : Nat) E wl => ∃ E0 pz3 cz3 Fz3, E = upd (upd (upd (upd E0 0 (.slice p xs.length c)) 3 (.slice pz3 (6) cz3)) 4 (.int .i64 (cOut xs n).2)) 5 (.int .i64 ((n : Int) + 1)) ∧ (Exm [] w wl) ∧ (w3.heap.size ≤ wl.heap.size) ∧ (Own wl pz3 (6) cz3 3 1 (ic ((cOut xs n).1)) Fz3) ∧ (Fr (w1.heap.size) Fz3) ∧ (Lt Fz3 wl.heap.size) ∧ (n ≤ 7)) 0 ⟨_, _, _, _, upd_self4 rfl rfl rfl rfl, L, (by omega), o11, (f11.mono (by omega)), (g11.mono (by omega)), (Nat.zero_le _)⟩ ?_
  rintro n E wl5 ⟨E0, pz3, cz3, Fz3, rfl, L, Lz, oz3, fz3, gz3, hn⟩
  have Lz0 := L.size; have hr := cOut_range xs n; have hpw := two_pow_le (n := n) (m := 7) (by omega); have e7 : (2 : Int) ^ 7 = 128 := rfl; have hol := cOut_length xs n
  refine wp_seq (wp_seq (c_reg (s0 (xmI rfl) ?_)))
  refine sb (x_leq rfl rfl) (fun h13 => ?_) (fun h13 => ?_)
  ·refine c_end (n_then (c_true rfl (c_skipn (n_then (wp_seq (wp_block (wp_seq (c_reg (s0 (xmI rfl) (s0 (x_shlc 1 2 rfl rfl (by decide) (by decide) (by omega)) (s0 (xaI rfl) (c_end (n_then ?_)))))))))))))
   refine wp_seq (c_reg (s0 (xmS rfl) (s0 (x_lensl un24 rfl) (s0 (xmI rfl) (c_end (n_then (wp_block ?_)))))))
   refine c_loop (γ := Nat) (fun j => 6 - j) (fun (j : Nat) E wl => ∃ E0 pz3 cz3 Fz3, E = upd (upd (upd (upd (upd (upd (upd E0 0 (.slice p xs.length c)) 3 (.slice pz3 (6) cz3)) 4 (.int .i64 (cIn xs ((n : Int) + 1) ((cOut xs n).1, (cOut xs n).2 * 2) j).2)) 5 (.int .i64 ((n : Int) + 1))) 18 (.slice p xs.length c)) 19 (.int .i64 xs.length)) 20 (.int .i64 (j : Int)) ∧ (Exm [] w wl) ∧ (wl5.heap.size ≤ wl.heap.size) ∧ (Own wl pz3 (6) cz3 3 1 (ic ((cIn xs ((n : Int) + 1) ((cOut xs n).1, (cOut xs n).2 * 2) j).1)) Fz3) ∧ (Fr (w1.heap.size) Fz3) ∧ (Lt Fz3 wl.heap.size) ∧ ((j : Int) ≤ 6)) 0 ⟨_, _, _, _, upd_self7 rfl rfl rfl rfl rfl rfl rfl, L, (by omega), oz3, (fz3.mono (by omega)), (gz3.mono (by omega)), (by omega)⟩ ?_
   rintro j E wl6 ⟨E0, pz3, cz3, Fz3, rfl, L, Lz, oz3, fz3, gz3, hj⟩
   have Lz0 := L.size; have hc : (cOut xs n).2 * 2 ≤ (cIn xs ((n : Int) + 1) ((cOut xs n).1, (cOut xs n).2 * 2) j).2 ∧ (cIn xs ((n : Int) + 1) ((cOut xs n).1, (cOut xs n).2 * 2) j).2 ≤ (cOut xs n).2 * 2 + j := cIn_range _ _ _ _
   have hil : (cIn xs ((n : Int) + 1) ((cOut xs n).1, (cOut xs n).2 * 2) j).1.length = 6 := by rw [cIn_length]; exact hol
   refine wp_seq (c_reg ?_)
   refine sb (x_lss rfl rfl) (fun h21 => ?_) (fun h21 => ?_)
   ·refine c_end (n_then (wp_seq (c_true rfl (c_skipn (n_then (wp_seq (wp_block (wp_seq (c_reg (s0 (xmI rfl) (s0 (x_idx so24 rfl rfl hp (by decide) (by omega) (by omega)) (st (x_ldi sc3 rfl (hp.ext L) (by omega) (by omega)) (s0 (xaI rfl) ?_)))))))))))))
    refine s0 (xaI rfl) (c_end (n_then (wp_seq (c_reg (s0 (xmI rfl) (s0 (xmI rfl) ?_))))))
    refine sb (x_eql rfl rfl) (fun h27 => ?_) (fun h27 => ?_)
    ·refine c_end (n_then (c_true rfl (wp_seq (c_reg (s0 (xmS rfl) (s0 (xmI rfl) (s0 (xmI rfl) (s0 (x_idx so24 rfl rfl oz3.sl (by decide) (by omega) (by omega)) (s_stoi rfl sz3 rfl rfl oz3 (by omega) (by omega) ?_)))))))))
     intro w7 l8 el8 oz3
     have z_l8 := l8.size; have L := L.freshL l8 fz3 (by omega); have hnl8 := oz3.n1
     refine c_end (n_then (c_reg (s0 (xmI rfl) (s0 (x_add rfl rfl (by omega)) (s0 (xaI rfl) (c_end (n_block (n_then (c_reg (s0 (x_add rfl rfl (by omega)) (s0 (xmI rfl) (c_end ?_))))))))))))
     rw [Int.toNat_natCast] at h27
     exact c_round (g' := j + 1) (by omega) ⟨_, _, _, _, upd_self7 rfl (by (skip); rfl) (vint (by rw [cIn]; first | rw [if_pos h27] | rw [if_neg h27])) rfl rfl rfl (vint (by omega)), L, (by omega), (by (rw [cIn]; first | rw [if_pos h27] | rw [if_neg h27]); exact oz3), (fz3.mono (by omega)), (gz3.mono (by omega)), (by omega)⟩
    ·refine c_end (n_then (c_false rfl (c_skipn (n_block (n_then (c_reg (s0 (x_add rfl rfl (by omega)) (s0 (xmI rfl) (c_end ?_)))))))))
     rw [Int.toNat_natCast] at h27
     exact c_round (g' := j + 1) (by omega) ⟨_, _, _, _, upd_self7 rfl (by (skip); rfl) (vint (by rw [cIn]; first | rw [if_pos h27] | rw [if_neg h27])) rfl rfl rfl (vint (by omega)), L, (by omega), (by (rw [cIn]; first | rw [if_pos h27] | rw [if_neg h27]); exact oz3), (fz3.mono (by omega)), (gz3.mono (by omega)), (by omega)⟩
   ·refine c_end (n_then (wp_seq (c_false rfl ?_)))
    refine wp_exit (e_then (e_then (e_here ?_)))
    refine n_block (n_then (c_reg (s0 (xmI rfl) (s0 (x_add rfl rfl (by omega)) (s0 (xaI rfl) (c_end ?_))))))
    obtain rfl : j = 6 := by omega
    exact c_round (g' := n + 1) (by omega) ⟨_, _, _, _, upd_self4 rfl (by (skip); rfl) rfl (vint (by omega)), L, (by omega), (by (skip); exact oz3), (fz3.mono (by omega)), (gz3.mono (by omega)), (by omega)⟩
  ·refine c_end (n_then (c_false rfl ?_))
   refine wp_exit (e_then (e_then (e_here ?_)))
   refine n_then (wp_seq (c_reg (s0 (xmS rfl) (s0 (xaS rfl) (c_end (n_then (wp_ret (f_ret rfl rfl ?_))))))))
   obtain rfl : n = 7 := by omega
   have hce : codesOf xs = (cOut xs 7).1 := by unfold codesOf; rw [if_pos h9]
   rw [← hce] at oz3
   exact ⟨_, rfl, L, _, _, _, slice_len (codes_length h9), by rw [codes_length h9]; exact oz3, fz3.mono (by omega), (fun e => by have := (oz3.some_of (by rw [ic_length, codes_length h9]; decide)).1; rw [e] at this; cases this), (fun h => absurd h9 h)⟩
 ·have z_l2 := l2.size
  have L := L.tr l2.up
  refine s0 (x_not rfl) (c_end (n_then (c_true rfl (wp_seq (c_reg (s0 (xaS rfl) (c_end (n_then ?_))))))))
  refine wp_ret (r_then ?_)
  refine f_ret rfl rfl ?_
  have hce : codesOf xs = [] := by unfold codesOf; rw [if_neg h9]
  rw [hce]
  exact ⟨_, rfl, L, none, 0, [], rfl, Own.nil, Fr.no, by simp [h9]⟩

theorem s_codesOf (p : Option Addr) (xs : List Int) (c : Nat) (w : World) (hp : Sl w p xs.length c 1 (ic xs)) (hl : xs.length ≤ 1099511627776) :
    Calls Tryz.prog 187 [.slice p xs.length c].toArray w (RetP w fun v w' => ∃ p c F, v = .slice p (codesOf xs).length c ∧ Own w' p (codesOf xs).length c 3 1 (ic (codesOf xs)) F ∧ Fr w.heap.size F) := by
 have L : Exm [] w w := Exm.rfl'
 refine enter (n := 47) Tryz.func187 rfl rfl rfl ?_
 refine wp_seq (c_reg (s0 (xaS rfl) (c_end (n_then (wp_seq (c_reg (s_bs0 so24 ?_)))))))
 intro p8 F8 w1 l2 o8 f8 g8
 have o8 : Own w1 p8 0 0 3 1 (ic []) F8 := o8; have z_l2 := l2.size; have L := L.tr l2.up
 refine s0 (xaS rfl) (c_end (n_then (wp_seq (wp_seq (c_reg (s0 (xmS rfl) ?_))))))
 refine srb (zcall cl67 rfl) (s_codeOk _ _ _ _ (hp.ext L) (by omega)) (fun h10 w3 l4 => ?_) (fun h10 w3 l4 => ?_)
 ·have z_l4 := l4.size
  have L := L.tr l4.up; have o8 := o8.ext l4
  refine s0 (x_not rfl) (c_end (n_then (c_false rfl (c_skipn (n_then (wp_seq (wp_seq ?_)))))))
  have hx6 := h10.2.1
  refine c_reg (s0 (xaI rfl) (c_end (n_then (wp_block ?_))))
  refine c_loop (γ := Nat) (fun k => 6 - k) (fun (k : Nat) E wl => ∃ E0 pz3 cz3 Fz3, E = upd (upd (upd E0 0 (.slice p xs.length c)) 3 (.slice pz3 ((List.replicate k (-1)).length) cz3)) 4 (.int .i64 (k : Int)) ∧ (Exm [] w wl) ∧ (w3.heap.size ≤ wl.heap.size) ∧ (Own wl pz3 ((List.replicate k (-1)).length) cz3 3 1 (ic (List.replicate k (-1))) Fz3) ∧ (Fr (w.heap.size) Fz3) ∧ (Lt Fz3 wl.heap.size) ∧ ((k : Int) ≤ 6)) 0 ⟨_, _, _, _, upd_self3 rfl rfl rfl, L, (by omega), o8, (f8.mono (by omega)), (g8.mono (by omega)), (by omega)⟩ ?_
  rintro k E wl5 ⟨E0, pz3, cz3, Fz3, rfl, L, Lz, oz3, fz3, gz3, hk⟩
  have Lz0 := L.size; have hrl : (List.replicate k (-1 : Int)).length = k := List.length_replicate
  refine wp_seq (wp_seq (c_reg (s0 (xmI rfl) (s0 (xmS rfl) (s0 (x_lensl un24 rfl) ?_)))))
  refine sb (x_lss rfl rfl) (fun h16 => ?_) (fun h16 => ?_)
  ·refine c_end (n_then (c_true rfl (c_skipn (n_then (wp_seq (wp_block (c_reg (s0 (xmS rfl) ?_))))))))
   refine s_bsi (xs := [_]) so24 zr3 (pts_cons rfl pts_nil) rfl rfl rfl ?_
   intro p20 F20 w6 l7 o20 f20 g20
   have z_l7 := l7.size; have L := L.tr l7.up; have oz3 := oz3.ext l7; have hn20 := o20.n1
   refine s_appi (B := w.heap.size) so24 zr3 rfl rfl (xs := _) oz3 o20.sl fz3 (by omega) (by omega) (by omega) ?_
   intro p21 c21 F21 w8 l9 o21 hn21 k21 f21 g21
   have z_l9 := l9.size; have L := L.freshL l9 fz3 (by omega); have d20_21 : Dj F20 F21 := k21.dj (by first|assumption|exact Dj.symm (by assumption)|exact dj_of f20 g20 fz3 gz3 (by omega)) g20 (by omega)
   have o20 := o20.exm l9 (by first|assumption|exact Dj.symm (by assumption)|exact dj_of fz3 gz3 f20 g20 (by omega))
   refine s0 (xaS rfl) (c_end (n_block (n_then (c_reg (s0 (xmI rfl) (s0 (x_add rfl rfl (by omega)) (s0 (xaI rfl) (c_end ?_))))))))
   exact c_round (g' := k + 1) (by omega) ⟨_, _, _, _, upd_self3 rfl (by (rw [List.replicate_succ']); rfl) (vint (by omega)), L, (by omega), (by (rw [List.replicate_succ']); exact o21), (f21.mono (by omega)), (g21.mono (by omega)), (by omega)⟩
  ·refine c_end (n_then (c_false rfl ?_))
   refine wp_exit (e_then (e_then (e_here ?_)))
   refine n_then (wp_seq (c_reg (s0 (xaI rfl) (c_end (n_then (wp_seq (wp_seq (c_reg (s0 (xaI rfl) (c_end (n_then (wp_block ?_))))))))))))
   refine c_loop (γ := Nat) (fun n => 7 - n) (fun (n : Nat) E wl => ∃ E0 pz3 cz3 Fz3, E = upd (upd (upd (upd E0 0 (.slice p xs.length c)) 3 (.slice pz3 (6) cz3)) 5 (.int .i64 (cOut xs n).2)) 6 (.int .i64 ((n : Int) + 1)) ∧ (Exm [] w wl) ∧ (wl5.heap.size ≤ wl.heap.size) ∧ (Own wl pz3 (6) cz3 3 1 (ic ((cOut xs n).1)) Fz3) ∧ (Fr (w.heap.size) Fz3) ∧ (Lt Fz3 wl.heap.size) ∧ (n ≤ 7)) 0 ⟨_, _, _, _, upd_self4 rfl (slice_len (by omega)) rfl rfl, L, (by omega), (by have := oz3; rw [List.length_replicate, show k = 6 by omega] at this; exact this), (fz3.mono (by omega)), (gz3.mono (by omega)), (Nat.zero_le _)⟩ ?_
   rintro n E wl10 ⟨E0, pz3, cz3, Fz3, rfl, L, Lz, oz3, fz3, gz3, hn⟩
   have Lz0 := L.size; have hr := cOut_range xs n; have hpw := two_pow_le (n := n) (m := 7) (by omega); have e7 : (2 : Int) ^ 7 = 128 := rfl; have hol := cOut_length xs n
   refine wp_seq (wp_seq (c_reg (s0 (xmI rfl) ?_)))
   refine sb (x_leq rfl rfl) (fun h23 => ?_) (fun h23 => ?_)
   ·refine c_end (n_then (c_true rfl (c_skipn (n_then (wp_seq (wp_block (wp_seq (c_reg (s0 (xmI rfl) (s0 (x_mul rfl rfl (by omega)) (s0 (xaI rfl) (c_end (n_then ?_)))))))))))))
    refine wp_seq (c_reg (s0 (xaI rfl) (c_end (n_then (wp_block ?_)))))
    refine c_loop (γ := Nat) (fun j => 6 - j) (fun (j : Nat) E wl => ∃ E0 pz3 cz3 Fz3, E = upd (upd (upd (upd (upd E0 0 (.slice p xs.length c)) 3 (.slice pz3 (6) cz3)) 5 (.int .i64 (cIn xs ((n : Int) + 1) ((cOut xs n).1, (cOut xs n).2 * 2) j).2)) 6 (.int .i64 ((n : Int) + 1))) 7 (.int .i64 (j : Int)) ∧ (Exm [] w wl) ∧ (wl10.heap.size ≤ wl.heap.size) ∧ (Own wl pz3 (6) cz3 3 1 (ic ((cIn xs ((n : Int) + 1) ((cOut xs n).1, (cOut xs n).2 * 2) j).1)) Fz3) ∧ (Fr (w.heap.size) Fz3) ∧ (Lt Fz3 wl.heap.size) ∧ ((j : Int) ≤ 6)) 0 ⟨_, _, _, _, upd_self5 rfl rfl rfl rfl rfl, L, (by omega), oz3, (fz3.mono (by omega)), (gz3.mono (by omega)), (by omega)⟩ ?_
    rintro j E wl11 ⟨E0, pz3, cz3, Fz3, rfl, L, Lz, oz3, fz3, gz3, hj⟩
    have Lz0 := L.size; have hc : (cOut xs n).2 * 2 ≤ (cIn xs ((n : Int) + 1) ((cOut xs n).1, (cOut xs n).2 * 2) j).2 ∧ (cIn xs ((n : Int) + 1) ((cOut xs n).1, (cOut xs n).2 * 2) j).2 ≤ (cOut xs n).2 * 2 + j := cIn_range _ _ _ _
    have hil : (cIn xs ((n : Int) + 1) ((cOut xs n).1, (cOut xs n).2 * 2) j).1.length = 6 := by rw [cIn_length]; exact hol
    refine wp_seq (wp_seq (c_reg (s0 (xmI rfl) (s0 (xmS rfl) (s0 (x_lensl un24 rfl) ?_)))))
    refine sb (x_lss rfl rfl) (fun h31 => ?_) (fun h31 => ?_)
    ·refine c_end (n_then (c_true rfl (c_skipn (n_then (wp_seq (wp_block (wp_seq (c_reg (s0 (xmS rfl) (s0 (xmI rfl) (s0 (x_idx so24 rfl rfl hp (by decide) (by omega) (by omega)) (st (x_ldi sc3 rfl (hp.ext L) (by omega) (by omega)) (s0 (xmI rfl) ?_)))))))))))))
     refine sb (x_eql rfl rfl) (fun h39 => ?_) (fun h39 => ?_)
     ·refine c_end (n_then (c_true rfl (wp_seq (c_reg (s0 (xmS rfl) (s0 (xmI rfl) (s0 (xmI rfl) (s0 (x_idx so24 rfl rfl oz3.sl (by decide) (by omega) (by omega)) (s_stoi rfl sz3 rfl rfl oz3 (by omega) (by omega) ?_)))))))))
      intro w12 l13 el13 oz3
      have z_l13 := l13.size; have L := L.freshL l13 fz3 (by omega); have hnl13 := oz3.n1
      refine c_end (n_then (c_reg (s0 (xmI rfl) (s0 (x_add rfl rfl (by omega)) (s0 (xaI rfl) (c_end (n_block (n_then (c_reg (s0 (xmI rfl) (s0 (x_add rfl rfl (by omega)) (s0 (xaI rfl) (c_end ?_)))))))))))))
      rw [Int.toNat_natCast] at h39
      exact c_round (g' := j + 1) (by omega) ⟨_, _, _, _, upd_self5 rfl (by (skip); rfl) (vint (by rw [cIn]; first | rw [if_pos h39] | rw [if_neg h39])) rfl (vint (by omega)), L, (by omega), (by (rw [cIn]; first | rw [if_pos h39] | rw [if_neg h39]); exact oz3), (fz3.mono (by omega)), (gz3.mono (by omega)), (by omega)⟩
     ·refine c_end (n_then (c_false rfl (c_skipn (n_block (n_then (c_reg (s0 (xmI rfl) (s0 (x_add rfl rfl (by omega)) (s0 (xaI rfl) (c_end ?_))))))))))
      rw [Int.toNat_natCast] at h39
      exact c_round (g' := j + 1) (by omega) ⟨_, _, _, _, upd_self5 rfl (by (skip); rfl) (vint (by rw [cIn]; first | rw [if_pos h39] | rw [if_neg h39])) rfl (vint (by omega)), L, (by omega), (by (rw [cIn]; first | rw [if_pos h39] | rw [if_neg h39]); exact oz3), (fz3.mono (by omega)), (gz3.mono (by omega)), (by omega)⟩
    ·refine c_end (n_then (c_false rfl ?_))
     refine wp_exit (e_then (e_then (e_here ?_)))
     refine n_block (n_then (c_reg (s0 (xmI rfl) (s0 (x_add rfl rfl (by omega)) (s0 (xaI rfl) (c_end ?_))))))
     obtain rfl : j = 6 := by omega
     exact c_round (g' := n + 1) (by omega) ⟨_, _, _, _, upd_self4 rfl (by (skip); rfl) rfl (vint (by omega)), L, (by omega), (by (skip); exact oz3), (fz3.mono (by omega)), (gz3.mono (by omega)), (by omega)⟩
   ·refine c_end (n_then (c_false rfl ?_))
    refine wp_exit (e_then (e_then (e_here ?_)))
    refine n_then (wp_seq (c_reg (s0 (xmS rfl) (s0 (xaS rfl) (c_end (n_then (wp_ret (f_ret rfl rfl ?_))))))))
    obtain rfl : n = 7 := by omega
    have hce : codesOf xs = (cOut xs 7).1 := by unfold codesOf; rw [if_pos h10]
    rw [← hce] at oz3
    exact ⟨_, rfl, L, _, _, _, slice_len (codes_length h10), by rw [codes_length h10]; exact oz3, fz3.mono (by omega)⟩
 ·have z_l4 := l4.size
  have L := L.tr l4.up; have o8 := o8.ext l4
  refine s0 (x_not rfl) (c_end (n_then (c_true rfl (wp_seq (c_reg (s0 (xmS rfl) (s0 (xaS rfl) (c_end (n_then ?_)))))))))
  refine wp_ret (r_then ?_)
  refine f_ret rfl rfl ?_
  have hce : codesOf xs = [] := by unfold codesOf; rw [if_neg h10]
  rw [hce]
  exact ⟨_, rfl, L, _, _, _, rfl, o8, f8⟩

theorem rs_bad {s : ByteArray} {a : Int} {xs : List Int} (h : ¬ codeOk xs) : Ending.returned (.tuple [.agg [.string s, .int .i64 a].toArray, .int .i64 0, .int .i64 4].toArray) = .returned (.tuple [.agg [.string s, .int .i64 (rsAt s a xs)].toArray, .int .i64 (rsV s a xs), .int .i64 (rsE s a xs)].toArray) := by
  have h1 : ¬ rsOk s a xs := fun h2 => h h2.1
  simp only [rsAt, rsV, rsE, if_neg h1, if_neg h]
theorem rs_short {s : ByteArray} {a : Int} {xs : List Int} (h : codeOk xs) (h1 : ¬ rsOk s a xs) : Ending.returned (.tuple [.agg [.string s, .int .i64 a].toArray, .int .i64 0, .int .i64 1].toArray) = .returned (.tuple [.agg [.string s, .int .i64 (rsAt s a xs)].toArray, .int .i64 (rsV s a xs), .int .i64 (rsE s a xs)].toArray) := by
  simp only [rsAt, rsV, rsE, if_neg h1, if_pos h]
theorem rs_found {s : ByteArray} {a : Int} {xs : List Int} {k : Nat} {n : Int} (h : codeOk xs) (hk : k < 6) (hn : xs.getD k 0 = n) (h1 : rbOk s a n) (h2 : 0 < n) (h3 : (codesOf xs).getD k 0 = rbV s a n) : Ending.returned (.tuple [.agg [.string s, .int .i64 (rbAt s a n)].toArray, .int .i64 (k : Int), .int .i64 0].toArray) = .returned (.tuple [.agg [.string s, .int .i64 (rsAt s a xs)].toArray, .int .i64 (rsV s a xs), .int .i64 (rsE s a xs)].toArray) := by
  subst hn
  have e : rbV s a (xs.getD k 0) = bitsOf s a (xs.getD k 0).toNat := by unfold rbV; rw [if_pos h1]
  have hs : symAt s a xs = k := rs_at h ⟨hk, by omega⟩ (by rw [← e, h3])
  have hr : rsOk s a xs := ⟨h, by rw [hs]; exact h1⟩
  simp only [rsAt, rsV, rsE, if_pos hr, if_pos h, hs, rbAt, if_pos h1]
theorem rs_miss {s : ByteArray} {a : Int} {xs : List Int} (h : codeOk xs) (hall : ∀ j : Nat, j < 6 → ¬ (rbOk s a (xs.getD j 0) ∧ 0 < xs.getD j 0 ∧ rbV s a (xs.getD j 0) = (codesOf xs).getD j 0)) : ¬ rsOk s a xs := fun h1 => by
  obtain ⟨h2, h3⟩ := rs_sym (s := s) (a := a) h
  have e : rbV s a (xs.getD (symAt s a xs) 0) = bitsOf s a (xs.getD (symAt s a xs) 0).toNat := by unfold rbV; rw [if_pos h1.2]
  exact hall _ h2.1 ⟨h1.2, by omega, e.trans h3⟩
theorem i_readSym (s : ByteArray) (a : Int) (p : Option Addr) (xs : List Int) (c : Nat) (w : World) (hp : Sl w p xs.length c 1 (ic xs)) (hl : xs.length ≤ 1099511627776) (hs : s.size ≤ 1048576) :
    Calls Tryz.prog 160 [.agg [.string s, .int .i64 a].toArray, .slice p xs.length c].toArray w (Ret w (.tuple [.agg [.string s, .int .i64 (rsAt s a xs)].toArray, .int .i64 (rsV s a xs), .int .i64 (rsE s a xs)].toArray)) := by
 have L : Exm [] w w := Exm.rfl'
 refine enter (n := 49) Tryz.func160 rfl rfl rfl ?_
 refine wp_seq (c_reg (s_box rfl rfl ?_))
 intro b1 w2 lob1 hib1 l3 B1
 have z_l3 := l3.size; have L := L.tr l3.up
 refine s_alloc zr79 ?_
 intro b4 w5 lob4 hib4 l6 B4
 have z_l6 := l6.size; have L := L.tr l6.up; have B1 := B1.ext l6
 refine s0 (xaI rfl) (s0 (xaI rfl) (c_end (n_then (wp_seq (c_reg (s0 (xmS rfl) ?_))))))
 refine sp (zcall cl203 rfl) (i_codesOf _ _ _ _ (hp.ext L) (by omega)) ?_
 rintro v14 w7 l8 ⟨p14, c14, F14, rfl, o14, f14, hnil14⟩
 have z_l8 := l8.size; have L := L.tr l8.up; have B1 := B1.ext l8; have B4 := B4.ext l8; have g14 := o14.lt
 refine s0 (xaS rfl) (c_end (n_then (wp_seq (wp_seq (c_reg (s0 (xmS rfl) ?_))))))
 refine sb (x_eqnil un24 rfl rfl) (fun h16 => ?_) (fun h16 => ?_)
 ·refine c_end (n_then (c_true rfl (wp_seq (c_reg (st (x_loadAgB ag79 rfl B1 rfl) (s_storeAg rfl sz79 rfl rfl B4 rfl rfl rfl ?_))))))
  intro w9 l10 el10 B4
  have z_l10 := l10.size; have L := L.fresh l10 (by omega); have B1 := B1.ne l10 (by omega); have o14 := o14.ne l10 (by first|assumption|exact nin_of f14 g14 (by omega))
  refine s0 (xaI rfl) (s0 (xaI rfl) (c_end (n_then ?_)))
  refine wp_ret (r_then ?_)
  refine f_rets3 rfl (ro_cell rfl ag79 B4 rfl) (ro_tmp rfl) (ro_tmp rfl) ?_
  exact ⟨rs_bad (hnil14.1 h16), L⟩
 ·refine c_end (n_then (c_false rfl (c_skipn (n_then (wp_seq (wp_seq ?_))))))
  have hok : codeOk xs := Classical.not_not.1 (fun h => h16 (hnil14.2 h))
  have hx6 := hok.2.1; have hcl := codes_length hok
  refine c_reg (s0 (xmS rfl) (s0 (x_lensl un24 rfl) (s0 (xmI rfl) (c_end (n_then (wp_block ?_))))))
  refine c_loop (γ := Nat) (fun k => 6 - k) (fun (k : Nat) E wl => ∃ E0, E = upd (upd (upd (upd (upd (upd E0 2 (pt b1 0)) 4 (pt b4 0)) 7 (.slice p14 (codesOf xs).length c14)) 18 (.slice p xs.length c)) 19 (.int .i64 xs.length)) 20 (.int .i64 (k : Int)) ∧ (Exm [] w wl) ∧ (w7.heap.size ≤ wl.heap.size) ∧ (Bx wl b1 [.string s, .int .i64 a] 79) ∧ (Bx wl b4 [.string .empty, .int .i64 0] 79) ∧ (Own wl p14 (codesOf xs).length c14 3 1 (ic (codesOf xs)) F14) ∧ ((k : Int) ≤ 6) ∧ (∀ j : Nat, j < k → ¬ (rbOk s a (xs.getD j 0) ∧ 0 < xs.getD j 0 ∧ rbV s a (xs.getD j 0) = (codesOf xs).getD j 0))) 0 ⟨_, upd_self6 rfl rfl rfl rfl rfl rfl, L, (by omega), B1, B4, o14, (by omega), (by intro j hj; omega)⟩ ?_
  rintro k E wl11 ⟨E0, rfl, L, Lz, B1, B4, o14, hk, hall⟩
  have Lz0 := L.size
  refine wp_seq (c_reg ?_)
  refine sb (x_lss rfl rfl) (fun h21 => ?_) (fun h21 => ?_)
  ·refine c_end (n_then (wp_seq (c_true rfl (c_skipn (n_then (wp_seq (wp_block (wp_seq (c_reg (s0 (xmI rfl) (s0 (x_idx so24 rfl rfl hp (by decide) (by omega) (by omega)) (st (x_ldi sc3 rfl (hp.ext L) (by omega) (by omega)) (s0 (xaI rfl) ?_)))))))))))))
   refine s0 (xaI rfl) (c_end (n_then (wp_seq (c_reg (st (x_loadAgB ag79 rfl B1 rfl) (s0 (xmI rfl) ?_))))))
   refine sr (zcall cl101 rfl) (i_readBits _ _ _ _ (by omega)) ?_
   intro w12 l13
   have z_l13 := l13.size; have L := L.tr l13.up; have B1 := B1.ext l13; have B4 := B4.ext l13; have o14 := o14.ext l13
   refine s0 (x_move (v := .tuple _) rfl) (s0 (x_extract rfl rfl) (s0 (x_extract rfl rfl) ?_))
   refine sb (x_extract rfl rfl) (fun h31 => ?_) (fun h31 => ?_)
   ·refine s_alloc zr79 ?_
    intro b14 w15 lob14 hib14 l16 B14
    have z_l16 := l16.size; have L := L.tr l16.up; have B1 := B1.ext l16; have B4 := B4.ext l16; have o14 := o14.ext l16
    refine s_storeAg rfl sz79 rfl rfl B14 rfl rfl rfl ?_
    intro w17 l18 el18 B14
    have z_l18 := l18.size; have L := L.fresh l18 (by omega); have B1 := B1.ne l18 (by omega); have B4 := B4.ne l18 (by omega); have o14 := o14.ne l18 (by first|assumption|exact nin_of f14 g14 (by omega))
    refine s0 (xaI rfl) (s0 (x_assign (v := .bool _) rfl) (c_end (n_then (wp_seq (c_reg (s0 (x_move (v := .bool _) rfl) (s0 (x_move (v := .bool _) rfl) (gt rfl rfl rfl rfl (s0 (xmI rfl) (gt rfl rfl rfl rfl ?_))))))))))
    refine sb (x_gtr rfl rfl) (fun h35 => ?_) (fun h35 => ?_)
    ·refine s0 (x_pickt (v := .bool _) rfl rfl) (s0 (x_move (v := .bool _) rfl) (gt rfl rfl rfl rfl (s0 (xmI rfl) (gt rfl rfl rfl rfl (s0 (xmS rfl) (gt rfl rfl rfl rfl (s0 (xmI rfl) (gt rfl rfl rfl rfl (s0 (x_idx so24 rfl rfl o14.sl (by decide) (by omega) (by omega)) (gt rfl rfl rfl rfl (st (x_ldi sc3 rfl o14.sl (by omega) (by omega)) (gt rfl rfl rfl rfl ?_))))))))))))
     refine sb (x_eql rfl rfl) (fun h43 => ?_) (fun h43 => ?_)
     ·refine s0 (x_pickt (v := .bool _) rfl rfl) (c_end (n_then (c_true rfl (wp_seq (c_reg (st (x_loadAgB ag79 rfl B14 rfl) (s0 (xmI rfl) (s_storeAg rfl sz79 rfl rfl B4 rfl rfl rfl ?_))))))))
      intro w19 l20 el20 B4
      have z_l20 := l20.size; have L := L.fresh l20 (by omega); have B1 := B1.ne l20 (by omega); have B14 := B14.ne l20 (by omega); have o14 := o14.ne l20 (by first|assumption|exact nin_of f14 g14 (by omega))
      refine s0 (xaI rfl) (s0 (xaI rfl) (c_end (n_then ?_)))
      refine wp_ret (r_block (r_then (r_then (r_block (r_then ?_)))))
      refine f_rets3 rfl (ro_cell rfl ag79 B4 rfl) (ro_tmp rfl) (ro_tmp rfl) ?_
      rw [Int.toNat_natCast] at h31 h35 h43
      exact ⟨rs_found hok (by omega) rfl h31 h35 h43.symm, L⟩
     ·refine s0 (x_pickt (v := .bool _) rfl rfl) (c_end (n_then (c_false rfl (c_skipn (n_block (n_then (c_reg (s0 (x_add rfl rfl (by omega)) (s0 (xmI rfl) (c_end ?_))))))))))
      exact c_round (g' := k + 1) (by omega) ⟨_, upd_self6 rfl rfl rfl rfl rfl (vint (by omega)), L, (by omega), B1, B4, o14, (by omega), (upto_succ' hall (by rw [Int.toNat_natCast] at *; rintro ⟨a1, a2, a3⟩; first | exact h43 a3 | exact h35 a2 | exact h31 a1))⟩
    ·refine s0 (x_pickt (v := .bool _) rfl rfl) (s0 (x_move (v := .bool _) rfl) (gf rfl rfl rfl rfl (gf rfl rfl rfl rfl (gf rfl rfl rfl rfl (gf rfl rfl rfl rfl (gf rfl rfl rfl rfl (gf rfl rfl rfl rfl (s0 (x_pickf (v := .bool _) rfl rfl) (c_end (n_then (c_false rfl (c_skipn (n_block ?_)))))))))))))
     refine n_then (c_reg (s0 (x_add rfl rfl (by omega)) (s0 (xmI rfl) (c_end ?_))))
     exact c_round (g' := k + 1) (by omega) ⟨_, upd_self6 rfl rfl rfl rfl rfl (vint (by omega)), L, (by omega), B1, B4, o14, (by omega), (upto_succ' hall (by rw [Int.toNat_natCast] at *; rintro ⟨a1, a2, a3⟩; first | exact h43 a3 | exact h35 a2 | exact h31 a1))⟩
   ·refine s_alloc zr79 ?_
    intro b21 w22 lob21 hib21 l23 B21
    have z_l23 := l23.size; have L := L.tr l23.up; have B1 := B1.ext l23; have B4 := B4.ext l23; have o14 := o14.ext l23
    refine s_storeAg rfl sz79 rfl rfl B21 rfl rfl rfl ?_
    intro w24 l25 el25 B21
    have z_l25 := l25.size; have L := L.fresh l25 (by omega); have B1 := B1.ne l25 (by omega); have B4 := B4.ne l25 (by omega); have o14 := o14.ne l25 (by first|assumption|exact nin_of f14 g14 (by omega))
    refine s0 (xaI rfl) (s0 (x_assign (v := .bool _) rfl) (c_end (n_then (wp_seq (c_reg (s0 (x_move (v := .bool _) rfl) (s0 (x_move (v := .bool _) rfl) (gf rfl rfl rfl rfl (gf rfl rfl rfl rfl (s0 (x_pickf (v := .bool _) rfl rfl) (s0 (x_move (v := .bool _) rfl) (gf rfl rfl rfl rfl (gf rfl rfl rfl rfl ?_)))))))))))))
    refine gf rfl rfl rfl rfl (gf rfl rfl rfl rfl (gf rfl rfl rfl rfl (gf rfl rfl rfl rfl (s0 (x_pickf (v := .bool _) rfl rfl) (c_end (n_then (c_false rfl (c_skipn (n_block (n_then (c_reg (s0 (x_add rfl rfl (by omega)) (s0 (xmI rfl) ?_)))))))))))))
    refine c_end ?_
    exact c_round (g' := k + 1) (by omega) ⟨_, upd_self6 rfl rfl rfl rfl rfl (vint (by omega)), L, (by omega), B1, B4, o14, (by omega), (upto_succ' hall (by rw [Int.toNat_natCast] at *; rintro ⟨a1, a2, a3⟩; first | exact h43 a3 | exact h35 a2 | exact h31 a1))⟩
  ·refine c_end (n_then (wp_seq (c_false rfl ?_)))
   refine wp_exit (e_then (e_then (e_here ?_)))
   refine n_then (wp_seq (c_reg (st (x_loadAgB ag79 rfl B1 rfl) (s_storeAg rfl sz79 rfl rfl B4 rfl rfl rfl ?_))))
   intro w26 l27 el27 B4
   have z_l27 := l27.size; have L := L.fresh l27 (by omega); have B1 := B1.ne l27 (by omega); have o14 := o14.ne l27 (by first|assumption|exact nin_of f14 g14 (by omega))
   refine s0 (xaI rfl) (s0 (xaI rfl) (c_end (n_then (wp_ret (f_rets3 rfl (ro_cell rfl ag79 B4 rfl) (ro_tmp rfl) (ro_tmp rfl) ?_)))))
   exact ⟨rs_short hok (rs_miss hok fun j hj => hall j (by omega)), L⟩

theorem i_sizeOk (n : Int) (w : World) :
    Calls Tryz.prog 145 [.int .i64 n].toArray w (Ret w (.bool (decide (n = 4 ∨ n = 8)))) := by
 have L : Exm [] w w := Exm.rfl'
 refine enter (n := 9) Tryz.func145 rfl rfl rfl ?_
 refine wp_seq (c_reg (s0 (x_assign (v := .bool _) rfl) (c_end (n_then (wp_seq (c_reg (s0 (xmI rfl) ?_)))))))
 refine sb (x_eql rfl rfl) (fun h4 => ?_) (fun h4 => ?_)
 ·refine s0 (x_move (v := .bool _) rfl) (gf rfl rfl rfl rfl (gf rfl rfl rfl rfl (s0 (x_pickt (v := .bool _) rfl rfl) (s0 (x_assign (v := .bool _) rfl) (c_end (n_then (wp_ret (f_ret rfl rfl ?_))))))))
  exact ⟨ret_t (.inl h4), L⟩
 ·refine s0 (x_move (v := .bool _) rfl) (gt rfl rfl rfl rfl (s0 (xmI rfl) (gt rfl rfl rfl rfl (s0 (x_eql rfl rfl) (s0 (x_pickf (v := .bool _) rfl rfl) (s0 (x_assign (v := .bool _) rfl) (c_end (n_then (wp_ret (f_ret rfl rfl ?_))))))))))
  exact ⟨ret_dec2 (by omega), L⟩

theorem s_sizeOk (n : Int) (w : World) :
    Calls Tryz.prog 131 [.int .i64 n].toArray w (Ret w (.bool (decide (n = 4 ∨ n = 8)))) := by
 have L : Exm [] w w := Exm.rfl'
 refine enter (n := 9) Tryz.func131 rfl rfl rfl ?_
 refine wp_seq (c_reg (s0 (x_assign (v := .bool _) rfl) (c_end (n_then (wp_seq (c_reg (s0 (xmI rfl) ?_)))))))
 refine sb (x_eql rfl rfl) (fun h4 => ?_) (fun h4 => ?_)
 ·refine s0 (x_move (v := .bool _) rfl) (gf rfl rfl rfl rfl (gf rfl rfl rfl rfl (s0 (x_pickt (v := .bool _) rfl rfl) (s0 (x_assign (v := .bool _) rfl) (c_end (n_then (wp_ret (f_ret rfl rfl ?_))))))))
  exact ⟨ret_t (.inl h4), L⟩
 ·refine s0 (x_move (v := .bool _) rfl) (gt rfl rfl rfl rfl (s0 (xmI rfl) (gt rfl rfl rfl rfl (s0 (x_eql rfl rfl) (s0 (x_pickf (v := .bool _) rfl rfl) (s0 (x_assign (v := .bool _) rfl) (c_end (n_then (wp_ret (f_ret rfl rfl ?_))))))))))
  exact ⟨ret_dec2 (by omega), L⟩

theorem i_sizeOf (n : Int) (w : World) :
    Calls Tryz.prog 76 [.int .i64 n].toArray w (Ret w (.int .i64 (sideOf n))) := by
 have L : Exm [] w w := Exm.rfl'
 refine enter (n := 8) Tryz.func76 rfl rfl rfl ?_
 refine wp_seq (c_reg (s0 (xaI rfl) (c_end (n_then (wp_seq (wp_seq (c_reg (s0 (xmI rfl) (c_end (n_then (wp_block (wp_seq (c_reg ?_)))))))))))))
 refine sb (x_eql rfl rfl) (fun h5 => ?_) (fun h5 => ?_)
 ·refine s0 (x_assign (v := .bool _) rfl) (c_end (n_then (c_true rfl (wp_seq (c_reg (s0 (xaI rfl) (c_end (n_then ?_))))))))
  refine wp_ret (r_block (r_then ?_))
  refine f_ret rfl rfl ?_
  exact ⟨ret_int (by unfold sideOf; rw [if_pos h5]), L⟩
 ·refine s0 (x_assign (v := .bool _) rfl) (c_end (n_then (c_false rfl (wp_seq (c_reg ?_)))))
  refine sb (x_eql rfl rfl) (fun h7 => ?_) (fun h7 => ?_)
  ·refine s0 (x_assign (v := .bool _) rfl) (c_end (n_then (c_true rfl (wp_seq (c_reg (s0 (xaI rfl) (c_end (n_then ?_))))))))
   refine wp_ret (r_block (r_then ?_))
   refine f_ret rfl rfl ?_
   exact ⟨ret_int (by unfold sideOf; rw [if_neg h5, if_pos h7]), L⟩
  ·refine s0 (x_assign (v := .bool _) rfl) (c_end (n_then (c_false rfl (c_skipn (n_block (n_then (wp_seq (c_reg (s0 (xaI rfl) (c_end (n_then (wp_ret (f_ret rfl rfl ?_)))))))))))))
   exact ⟨ret_int (by unfold sideOf; rw [if_neg h5, if_neg h7]), L⟩

theorem s_l9Side (p : Option Addr) (n c : Nat) (w : World) :
    Calls Tryz.prog 107 [.slice p n c].toArray w (Ret w (.int .i64 (sideOf n))) := by
 have L : Exm [] w w := Exm.rfl'
 refine enter (n := 9) Tryz.func107 rfl rfl rfl ?_
 refine wp_seq (c_reg (s0 (xaI rfl) (c_end (n_then (wp_seq (wp_seq (c_reg (s0 (xmS rfl) (s0 (x_lensl un24 rfl) (c_end (n_then (wp_block (wp_seq ?_)))))))))))))
 refine c_reg ?_
 refine sb (x_eql rfl rfl) (fun h6 => ?_) (fun h6 => ?_)
 ·refine s0 (x_assign (v := .bool _) rfl) (c_end (n_then (c_true rfl (wp_seq (c_reg (s0 (xaI rfl) (c_end (n_then ?_))))))))
  refine wp_ret (r_block (r_then ?_))
  refine f_ret rfl rfl ?_
  exact ⟨ret_int (by unfold sideOf; rw [if_pos h6]), L⟩
 ·refine s0 (x_assign (v := .bool _) rfl) (c_end (n_then (c_false rfl (wp_seq (c_reg ?_)))))
  refine sb (x_eql rfl rfl) (fun h8 => ?_) (fun h8 => ?_)
  ·refine s0 (x_assign (v := .bool _) rfl) (c_end (n_then (c_true rfl (wp_seq (c_reg (s0 (xaI rfl) (c_end (n_then ?_))))))))
   refine wp_ret (r_block (r_then ?_))
   refine f_ret rfl rfl ?_
   exact ⟨ret_int (by unfold sideOf; rw [if_neg h6, if_pos h8]), L⟩
  ·refine s0 (x_assign (v := .bool _) rfl) (c_end (n_then (c_false rfl (c_skipn (n_block (n_then (wp_seq (c_reg (s0 (xaI rfl) (c_end (n_then (wp_ret (f_ret rfl rfl ?_)))))))))))))
   exact ⟨ret_int (by unfold sideOf; rw [if_neg h6, if_neg h8]), L⟩

theorem i_levelsOk (p : Option Addr) (xs : List Int) (c : Nat) (w : World) (hp : Sl w p xs.length c 1 (ic xs)) (hl : xs.length ≤ 1099511627776) :
    Calls Tryz.prog 138 [.slice p xs.length c].toArray w (Ret w (.bool (decide (levelsOk xs)))) := by
 have L : Exm [] w w := Exm.rfl'
 refine enter (n := 19) Tryz.func138 rfl rfl rfl ?_
 refine wp_seq (c_reg (s0 (x_assign (v := .bool _) rfl) (c_end (n_then (wp_seq (wp_seq (c_reg (s0 (xmS rfl) (s0 (x_lensl un24 rfl) (s0 (xmI rfl) (c_end (n_then (wp_block ?_)))))))))))))
 refine c_loop (γ := Nat) (fun k => xs.length - k) (fun (k : Nat) E wl => ∃ E0, E = upd (upd (upd (upd E0 0 (.slice p xs.length c)) 5 (.slice p xs.length c)) 6 (.int .i64 xs.length)) 7 (.int .i64 (k : Int)) ∧ (Exm [] w wl) ∧ ((k : Int) ≤ xs.length) ∧ (∀ j : Nat, j < k → -16383 ≤ xs.getD j 0 ∧ xs.getD j 0 ≤ 16383)) 0 ⟨_, upd_self4 rfl rfl rfl rfl, L, (by omega), (by intro j hj; omega)⟩ ?_
 rintro k E wl1 ⟨E0, rfl, L, hk, hall⟩
 have Lz0 := L.size
 refine wp_seq (c_reg ?_)
 refine sb (x_lss rfl rfl) (fun h8 => ?_) (fun h8 => ?_)
 ·refine c_end (n_then (wp_seq (c_true rfl (c_skipn (n_then (wp_seq (wp_block (wp_seq (c_reg (s0 (x_idx so24 rfl rfl hp (by decide) (by omega) (by omega)) (st (x_ldi sc3 rfl (hp.ext L) (by omega) (by omega)) (s0 (xaI rfl) (c_end ?_)))))))))))))
  refine n_then (wp_seq (c_reg (s0 (xmI rfl) ?_)))
  refine srb (zcall cl77 rfl) (i_within _ _ _ _) (fun h12 w2 l3 => ?_) (fun h12 w2 l3 => ?_)
  ·have z_l3 := l3.size
   have L := L.tr l3.up
   refine s0 (x_not rfl) (c_end (n_then (c_false rfl (c_skipn (n_block (n_then (c_reg (s0 (x_add rfl rfl (by omega)) (s0 (xmI rfl) (c_end ?_))))))))))
   exact c_round (g' := k + 1) (by omega) ⟨_, upd_self4 rfl rfl rfl (vint (by omega)), L, (by omega), (upto_succ' hall (by simpa using h12))⟩
  ·have z_l3 := l3.size
   have L := L.tr l3.up
   refine s0 (x_not rfl) (c_end (n_then (c_true rfl (wp_seq (c_reg (s0 (x_assign (v := .bool _) rfl) (c_end (n_then ?_))))))))
   refine wp_ret (r_block (r_then (r_then (r_block (r_then ?_)))))
   refine f_ret rfl rfl ?_
   exact ⟨ret_f (fun h => h12 (by simpa using h.1 k (by omega))), L⟩
 ·refine c_end (n_then (wp_seq (c_false rfl ?_)))
  refine wp_exit (e_then (e_then (e_here ?_)))
  refine n_then (wp_seq (c_reg (s0 (xmS rfl) (s0 (x_lensl un24 rfl) ?_))))
  refine sr (zcall cl76 rfl) (i_sizeOf _ _) ?_
  intro w4 l5
  have z_l5 := l5.size; have L := L.tr l5.up
  refine s0 (x_gtr rfl rfl) (s0 (x_assign (v := .bool _) rfl) (c_end (n_then (wp_ret (f_ret rfl rfl ?_)))))
  exact ⟨ret_dec2 ⟨fun h => ⟨fun j hj => hall j (by omega), h⟩, fun h => h.2⟩, L⟩

theorem s_levelsOk (p : Option Addr) (xs : List Int) (c : Nat) (w : World) (hp : Sl w p xs.length c 1 (ic xs)) (hl : xs.length ≤ 1099511627776) :
    Calls Tryz.prog 133 [.slice p xs.length c].toArray w (Ret w (.bool (decide (levelsOk xs)))) := by
 have L : Exm [] w w := Exm.rfl'
 refine enter (n := 19) Tryz.func133 rfl rfl rfl ?_
 refine wp_seq (c_reg (s0 (x_assign (v := .bool _) rfl) (c_end (n_then (wp_seq (wp_seq (c_reg (s0 (xaI rfl) (c_end (n_then (wp_block ?_)))))))))))
 refine c_loop (γ := Nat) (fun k => xs.length - k) (fun (k : Nat) E wl => ∃ E0, E = upd (upd E0 0 (.slice p xs.length c)) 3 (.int .i64 (k : Int)) ∧ (Exm [] w wl) ∧ ((k : Int) ≤ xs.length) ∧ (∀ j : Nat, j < k → -16383 ≤ xs.getD j 0 ∧ xs.getD j 0 ≤ 16383)) 0 ⟨_, upd_self2 rfl rfl, L, (by omega), (by intro j hj; omega)⟩ ?_
 rintro k E wl1 ⟨E0, rfl, L, hk, hall⟩
 have Lz0 := L.size
 refine wp_seq (wp_seq (c_reg (s0 (xmI rfl) (s0 (xmS rfl) (s0 (x_lensl un24 rfl) ?_)))))
 refine sb (x_lss rfl rfl) (fun h7 => ?_) (fun h7 => ?_)
 ·refine c_end (n_then (c_true rfl (c_skipn (n_then (wp_seq (wp_block (wp_seq (c_reg (s0 (xmS rfl) (s0 (xmI rfl) (s0 (x_idx so24 rfl rfl hp (by decide) (by omega) (by omega)) (st (x_ldi sc3 rfl (hp.ext L) (by omega) (by omega)) ?_))))))))))))
  refine srb (zcall cl85 rfl) (s_l1In _ _ _ _) (fun h14 w2 l3 => ?_) (fun h14 w2 l3 => ?_)
  ·have z_l3 := l3.size
   have L := L.tr l3.up
   refine s0 (x_not rfl) (c_end (n_then (c_false rfl (c_skipn (n_block (n_then (c_reg (s0 (xmI rfl) (s0 (x_add rfl rfl (by omega)) (s0 (xaI rfl) (c_end ?_)))))))))))
   exact c_round (g' := k + 1) (by omega) ⟨_, upd_self2 rfl (vint (by omega)), L, (by omega), (upto_succ' hall (by simpa using h14))⟩
  ·have z_l3 := l3.size
   have L := L.tr l3.up
   refine s0 (x_not rfl) (c_end (n_then (c_true rfl (wp_seq (c_reg (s0 (x_assign (v := .bool _) rfl) (c_end (n_then ?_))))))))
   refine wp_ret (r_block (r_then (r_then (r_block (r_then ?_)))))
   refine f_ret rfl rfl ?_
   exact ⟨ret_f (fun h => h14 (by simpa using h.1 k (by omega))), L⟩
 ·refine c_end (n_then (c_false rfl ?_))
  refine wp_exit (e_then (e_then (e_here ?_)))
  refine n_then (wp_seq (c_reg (s0 (xmS rfl) ?_)))
  refine sr (zcall cl107 rfl) (s_l9Side _ _ _ _) ?_
  intro w4 l5
  have z_l5 := l5.size; have L := L.tr l5.up
  refine s0 (x_gtr rfl rfl) (s0 (x_assign (v := .bool _) rfl) (c_end (n_then (wp_ret (f_ret rfl rfl ?_)))))
  exact ⟨ret_dec2 ⟨fun h => ⟨fun j hj => hall j (by omega), h⟩, fun h => h.2⟩, L⟩

theorem i_symBits (m : Int) (p : Option Addr) (xs : List Int) (c : Nat) (w : World) (hp : Sl w p xs.length c 1 (ic xs)) (hl : xs.length ≤ 1099511627776) :
    Calls Tryz.prog 189 [.slice p xs.length c, .int .i64 m].toArray w (RetP w fun v w' => ∃ p c F, v = .slice p (symBits xs m).length c ∧ Own w' p (symBits xs m).length c 3 1 (ic (symBits xs m)) F ∧ Fr w.heap.size F) := by
 have L : Exm [] w w := Exm.rfl'
 refine enter (n := 31) Tryz.func189 rfl rfl rfl ?_
 refine wp_seq (c_reg (s0 (xaS rfl) (c_end (n_then (wp_seq (c_reg (s0 (xmS rfl) ?_)))))))
 refine sp (zcall cl203 rfl) (i_codesOf _ _ _ _ (hp.ext L) (by omega)) ?_
 rintro v7 w1 l2 ⟨p7, c7, F7, rfl, o7, f7, hnil7⟩
 have z_l2 := l2.size; have L := L.tr l2.up; have g7 := o7.lt
 refine s0 (xaS rfl) (c_end (n_then (wp_seq (wp_seq ?_))))
 have hx6 : p7 ≠ none → xs.length = 6 := fun h => (Classical.not_not.1 (fun h2 => h (hnil7.2 h2)) : codeOk xs).2.1
 refine c_reg (s0 (xmS rfl) ?_)
 refine sb (x_eqnil un24 rfl rfl) (fun h9 => ?_) (fun h9 => ?_)
 ·refine s0 (x_move (v := .bool _) rfl) (gf rfl rfl rfl rfl (gf rfl rfl rfl rfl (gf rfl rfl rfl rfl (s0 (x_pickt (v := .bool _) rfl rfl) (s0 (x_move (v := .bool _) rfl) (gf rfl rfl rfl rfl (gf rfl rfl rfl rfl (gf rfl rfl rfl rfl (gf rfl rfl rfl rfl (gf rfl rfl rfl rfl (s0 (x_pickt (v := .bool _) rfl rfl) (c_end (n_then ?_)))))))))))))
  refine c_true rfl (wp_seq (c_reg (s0 (xaS rfl) (c_end (n_then ?_)))))
  refine wp_ret (r_then ?_)
  refine f_ret rfl rfl ?_
  rw [symBits_no (fun h => (hnil7.1 h9) h.1)]
  exact ⟨_, rfl, L, none, 0, [], rfl, Own.nil, Fr.no⟩
 ·refine s0 (x_move (v := .bool _) rfl) (gt rfl rfl rfl rfl (s0 (xmI rfl) (gt rfl rfl rfl rfl ?_)))
  refine srb (zcall cl77 rfl) (i_within _ _ _ _) (fun h12 w3 l4 => ?_) (fun h12 w3 l4 => ?_)
  ·have z_l4 := l4.size
   have L := L.tr l4.up; have o7 := o7.ext l4
   refine gt rfl rfl rfl rfl (s0 (x_not rfl) (s0 (x_pickf (v := .bool _) rfl rfl) (s0 (x_move (v := .bool _) rfl) (gt rfl rfl rfl rfl (s0 (xmS rfl) (gt rfl rfl rfl rfl (s0 (xmI rfl) (gt rfl rfl rfl rfl ?_))))))))
   refine s0 (x_idx so24 rfl rfl hp (by decide) (by have hx6 := hx6 h9; omega) (by have hx6 := hx6 h9; omega)) ?_
   refine gt rfl rfl rfl rfl ?_
   refine st (x_ldi sc3 rfl (hp.ext L) (by have hx6 := hx6 h9; omega) (by have hx6 := hx6 h9; omega)) ?_
   refine gt rfl rfl rfl rfl ?_
   refine sb (x_eql rfl rfl) (fun h20 => ?_) (fun h20 => ?_)
   ·refine s0 (x_pickf (v := .bool _) rfl rfl) (c_end (n_then (c_true rfl (wp_seq (c_reg (s0 (xaS rfl) (c_end (n_then ?_))))))))
    refine wp_ret (r_then ?_)
    refine f_ret rfl rfl ?_
    rw [symBits_no (fun h => h.2.2 h20)]
    exact ⟨_, rfl, L, none, 0, [], rfl, Own.nil, Fr.no⟩
   ·refine s0 (x_pickf (v := .bool _) rfl rfl) (c_end (n_then (c_false rfl (c_skipn (n_then (wp_seq ?_))))))
    have hok : codeOk xs := Classical.not_not.1 (fun h => h9 (hnil7.2 h))
    have hx6 := hok.2.1; have hcl := codes_length hok; have hcr := codeOk_at hok m.toNat; have hc2 := code_range2 hok (m := m.toNat) ⟨by omega, by omega⟩
    have hp7 := two_pow_le (n := (xs.getD m.toNat 0).toNat) (m := 7) (by omega); have e7 : (2 : Int) ^ 7 = 128 := rfl
    refine c_plan (fun wq => Exm [] w3 wq) 10 (.cons (0, 2) (.cons (1, 2) (.cons (2, 2) (.cons (3, 1) (.cons (4, 2) (.cons (5, 2) (.cons (6, 2) (.cons (7, 1) (.cons (8, 0) (.cons (9, 2) .nil)))))))))) (by kernel_rfl) (by kernel_rfl) (Exm.drew _) ?_
    obtain ⟨w5, hwd⟩ : ∃ x, x = w3.drew := ⟨_, rfl⟩
    have l6 : Ext w3 w5 := by rw [hwd]; exact Exm.drew _
    rw [← hwd]; clear hwd
    have Lq : Exm [] w3 w5 := l6.up; have qo7 := o7; have qL := L; have z_l6 := l6.size; have L := L.tr l6.up; have o7 := o7.ext l6
    refine p0 rfl (xmS rfl) (p0 rfl (xmI rfl) (p0 rfl (x_idx so24 rfl rfl o7.sl (by decide) (by omega) (by omega)) ?_))
    refine ps rfl (fun wq hwq => x_ldi sc3 rfl (qo7.ext hwq).sl (by omega) (by omega)) ?_
    refine p0 rfl (xmS rfl) (p0 rfl (xmI rfl) (p0 rfl (x_idx so24 rfl rfl hp (by decide) (by omega) (by omega)) ?_))
    refine ps rfl (fun wq hwq => x_ldi sc3 rfl ((hp.ext qL).ext hwq) (by omega) (by omega)) ?_
    refine pu rfl ?_
    refine sp (zcall cl224 rfl) (i_bitsIn _ _ _ (by omega) (by omega)) ?_
    rintro v30 w7 l8 ⟨p30, c30, F30, rfl, o30, f30⟩
    have z_l8 := l8.size; have L := L.tr l8.up; have Lq := Lq.tr l8.up; have g30 := o30.lt
    refine c_end ⟨rfl, fun h hS => Lq, ?_⟩
    refine p0 rfl (xaS rfl) ?_
    refine p_nil (np_normal ?_)
    refine n_then (wp_ret (f_ret rfl rfl ?_))
    rw [symBits_yes ⟨hok, h12, h20⟩]
    exact ⟨_, rfl, L, _, _, _, rfl, o30, f30.mono (by omega)⟩
  ·have z_l4 := l4.size
   have L := L.tr l4.up
   refine gt rfl rfl rfl rfl (s0 (x_not rfl) (s0 (x_pickf (v := .bool _) rfl rfl) (s0 (x_move (v := .bool _) rfl) (gf rfl rfl rfl rfl (gf rfl rfl rfl rfl (gf rfl rfl rfl rfl (gf rfl rfl rfl rfl (gf rfl rfl rfl rfl (s0 (x_pickt (v := .bool _) rfl rfl) (c_end (n_then (c_true rfl (wp_seq ?_)))))))))))))
   refine c_reg (s0 (xaS rfl) (c_end (n_then ?_)))
   refine wp_ret (r_then ?_)
   refine f_ret rfl rfl ?_
   rw [symBits_no (fun h => h12 h.2.1)]
   exact ⟨_, rfl, L, none, 0, [], rfl, Own.nil, Fr.no⟩

theorem s_symBits (m : Int) (p : Option Addr) (xs : List Int) (c : Nat) (w : World) (hp : Sl w p xs.length c 1 (ic xs)) (hl : xs.length ≤ 1099511627776) :
    Calls Tryz.prog 132 [.slice p xs.length c, .int .i64 m].toArray w (RetP w fun v w' => ∃ p c F, v = .slice p (symBits xs m).length c ∧ Own w' p (symBits xs m).length c 3 1 (ic (symBits xs m)) F ∧ Fr w.heap.size F) := by
 have L : Exm [] w w := Exm.rfl'
 refine enter (n := 31) Tryz.func132 rfl rfl rfl ?_
 refine wp_seq (c_reg (s0 (xaS rfl) (c_end (n_then (wp_seq (wp_seq ?_))))))
 have hx6 : codeOk xs → xs.length = 6 := fun h => h.2.1
 refine c_reg (s0 (xmS rfl) ?_)
 refine srb (zcall cl67 rfl) (s_codeOk _ _ _ _ (hp.ext L) (by omega)) (fun h6 w1 l2 => ?_) (fun h6 w1 l2 => ?_)
 ·have z_l2 := l2.size
  have L := L.tr l2.up
  refine s0 (x_not rfl) (s0 (x_move (v := .bool _) rfl) (gt rfl rfl rfl rfl (s0 (xmI rfl) (gt rfl rfl rfl rfl ?_))))
  refine srb (zcall cl85 rfl) (s_l1In _ _ _ _) (fun h10 w3 l4 => ?_) (fun h10 w3 l4 => ?_)
  ·have z_l4 := l4.size
   have L := L.tr l4.up
   refine gt rfl rfl rfl rfl (s0 (x_not rfl) (s0 (x_pickf (v := .bool _) rfl rfl) (s0 (x_move (v := .bool _) rfl) (gt rfl rfl rfl rfl (s0 (xmS rfl) (gt rfl rfl rfl rfl (s0 (xmI rfl) (gt rfl rfl rfl rfl ?_))))))))
   refine s0 (x_idx so24 rfl rfl hp (by decide) (by have hx6 := hx6 h6; omega) (by have hx6 := hx6 h6; omega)) ?_
   refine gt rfl rfl rfl rfl ?_
   refine st (x_ldi sc3 rfl (hp.ext L) (by have hx6 := hx6 h6; omega) (by have hx6 := hx6 h6; omega)) ?_
   refine gt rfl rfl rfl rfl ?_
   refine sb (x_eql rfl rfl) (fun h18 => ?_) (fun h18 => ?_)
   ·refine s0 (x_pickf (v := .bool _) rfl rfl) (c_end (n_then (c_true rfl (wp_seq (c_reg (s_bs0 so24 ?_))))))
    intro p20 F20 w5 l6 o20 f20 g20
    have o20 : Own w5 p20 0 0 3 1 (ic []) F20 := o20; have z_l6 := l6.size; have L := L.tr l6.up
    refine s0 (xaS rfl) (c_end (n_then ?_))
    refine wp_ret (r_then ?_)
    refine f_ret rfl rfl ?_
    rw [symBits_no (fun h => h.2.2 h18)]
    exact ⟨_, rfl, L, _, _, _, rfl, o20, f20.mono (by omega)⟩
   ·refine s0 (x_pickf (v := .bool _) rfl rfl) (c_end (n_then (c_false rfl (c_skipn (n_then (wp_seq ?_))))))
    have hok := h6; have hx6e := h6.2.1; have hcl := codes_length hok; have hcr := codeOk_at hok m.toNat; have hc2 := code_range2 hok (m := m.toNat) ⟨by omega, by omega⟩
    have hp7 := two_pow_le (n := (xs.getD m.toNat 0).toNat) (m := 7) (by omega); have e7 : (2 : Int) ^ 7 = 128 := rfl
    refine c_plan (fun wq => Exm [] w3 wq) 11 (.cons (0, 2) (.cons (2, 2) (.cons (5, 2) (.cons (6, 2) (.cons (7, 2) (.cons (8, 1) (.cons (1, 0) (.cons (3, 2) (.cons (4, 0) (.cons (9, 0) (.cons (10, 2) .nil))))))))))) (by kernel_rfl) (by kernel_rfl) (Exm.drew _) ?_
    obtain ⟨w7, hwd⟩ : ∃ x, x = w3.drew := ⟨_, rfl⟩
    have l8 : Ext w3 w7 := by rw [hwd]; exact Exm.drew _
    rw [← hwd]; clear hwd
    have Lq : Exm [] w3 w7 := l8.up; have qL := L; have z_l8 := l8.size; have L := L.tr l8.up
    refine p0 rfl (xmS rfl) (p0 rfl (xmI rfl) (p0 rfl (xmS rfl) (p0 rfl (xmI rfl) (p0 rfl (x_idx so24 rfl rfl hp (by decide) (by omega) (by omega)) ?_))))
    refine ps rfl (fun wq hwq => x_ldi sc3 rfl ((hp.ext qL).ext hwq) (by omega) (by omega)) ?_
    refine pu rfl ?_
    refine sp (zcall cl187 rfl) (s_codesOf _ _ _ _ (hp.ext L) (by omega)) ?_
    rintro v22 w9 l10 ⟨p22, c22, F22, rfl, o22, f22⟩
    have z_l10 := l10.size; have L := L.tr l10.up; have Lq := Lq.tr l10.up; have g22 := o22.lt
    refine c_end ⟨rfl, fun h hS => Lq, ?_⟩
    refine p0 rfl (x_idx so24 rfl rfl o22.sl (by decide) (by omega) (by omega)) (pu rfl (st (x_ldi sc3 rfl o22.sl (by omega) (by omega)) ?_))
    refine c_end ⟨rfl, fun h hS => Lq, ?_⟩
    refine pu rfl ?_
    refine sp (zcall cl86 rfl) (s_bitsIn _ _ _ (by omega) (by omega)) ?_
    rintro v30 w11 l12 ⟨p30, c30, F30, rfl, o30, f30⟩
    have z_l12 := l12.size; have L := L.tr l12.up; have Lq := Lq.tr l12.up; have g30 := o30.lt
    refine c_end ⟨rfl, fun h hS => Lq, ?_⟩
    refine p0 rfl (xaS rfl) ?_
    refine p_nil (np_normal ?_)
    refine n_then (wp_ret (f_ret rfl rfl ?_))
    rw [symBits_yes ⟨hok, h10, h18⟩]
    exact ⟨_, rfl, L, _, _, _, rfl, o30, f30.mono (by omega)⟩
  ·have z_l4 := l4.size
   have L := L.tr l4.up
   refine gt rfl rfl rfl rfl (s0 (x_not rfl) (s0 (x_pickf (v := .bool _) rfl rfl) (s0 (x_move (v := .bool _) rfl) (gf rfl rfl rfl rfl (gf rfl rfl rfl rfl (gf rfl rfl rfl rfl (gf rfl rfl rfl rfl (gf rfl rfl rfl rfl (s0 (x_pickt (v := .bool _) rfl rfl) (c_end (n_then (c_true rfl (wp_seq ?_)))))))))))))
   refine c_reg (s_bs0 so24 ?_)
   intro p20 F20 w13 l14 o20 f20 g20
   have o20 : Own w13 p20 0 0 3 1 (ic []) F20 := o20; have z_l14 := l14.size; have L := L.tr l14.up
   refine s0 (xaS rfl) (c_end (n_then ?_))
   refine wp_ret (r_then ?_)
   refine f_ret rfl rfl ?_
   rw [symBits_no (fun h => h10 h.2.1)]
   exact ⟨_, rfl, L, _, _, _, rfl, o20, f20.mono (by omega)⟩
 ·have z_l2 := l2.size
  have L := L.tr l2.up
  refine s0 (x_not rfl) (s0 (x_move (v := .bool _) rfl) (gf rfl rfl rfl rfl (gf rfl rfl rfl rfl (gf rfl rfl rfl rfl (s0 (x_pickt (v := .bool _) rfl rfl) (s0 (x_move (v := .bool _) rfl) (gf rfl rfl rfl rfl (gf rfl rfl rfl rfl (gf rfl rfl rfl rfl (gf rfl rfl rfl rfl (gf rfl rfl rfl rfl (s0 (x_pickt (v := .bool _) rfl rfl) (c_end ?_)))))))))))))
  refine n_then (c_true rfl (wp_seq (c_reg (s_bs0 so24 ?_))))
  intro p20 F20 w15 l16 o20 f20 g20
  have o20 : Own w15 p20 0 0 3 1 (ic []) F20 := o20; have z_l16 := l16.size; have L := L.tr l16.up
  refine s0 (xaS rfl) (c_end (n_then ?_))
  refine wp_ret (r_then ?_)
  refine f_ret rfl rfl ?_
  rw [symBits_no (fun h => h6 h.1)]
  exact ⟨_, rfl, L, _, _, _, rfl, o20, f20.mono (by omega)⟩

theorem i_blockOk (m : Int) (q : Option Addr) (ys : List Int) (d : Nat) (n : Int) (p : Option Addr) (xs : List Int) (c : Nat) (w : World) (hp : Sl w p xs.length c 1 (ic xs)) (hl : xs.length ≤ 1099511627776) (hq : Sl w q ys.length d 1 (ic ys)) (hl2 : ys.length ≤ 1099511627776) :
    Calls Tryz.prog 137 [.agg [.int .i64 m, .slice q ys.length d].toArray, .slice p xs.length c, .int .i64 n].toArray w (Ret w (.bool (decide (blockOk m ys xs n)))) := by
 have L : Exm [] w w := Exm.rfl'
 refine enter (n := 31) Tryz.func137 rfl rfl rfl ?_
 refine wp_seq (c_reg (s_box rfl rfl ?_))
 intro b1 w2 lob1 hib1 l3 B1
 have z_l3 := l3.size; have L := L.tr l3.up
 refine s0 (x_assign (v := .bool _) rfl) (c_end (n_then (wp_seq ?_)))
 have hsy := symBits_pos xs m
 refine c_reg (s0 (xmI rfl) ?_)
 refine srb (zcall cl145 rfl) (i_sizeOk _ _) (fun h8 w4 l5 => ?_) (fun h8 w4 l5 => ?_)
 ·have z_l5 := l5.size
  have L := L.tr l5.up; have B1 := B1.ext l5
  refine s0 (x_move (v := .bool _) rfl) (gt rfl rfl rfl rfl (s0 (xmS rfl) (gt rfl rfl rfl rfl (s0 (x_fieldAddr fa71_0 rfl) (gt rfl rfl rfl rfl (st (x_loadB sc3 rfl B1 rfl) (gt rfl rfl rfl rfl ?_)))))))
  refine sp (zcall cl189 rfl) (i_symBits _ _ _ _ _ (hp.ext L) (by omega)) ?_
  rintro v13 w6 l7 ⟨p13, c13, F13, rfl, o13, f13⟩
  have z_l7 := l7.size; have L := L.tr l7.up; have B1 := B1.ext l7; have g13 := o13.lt
  refine gt rfl rfl rfl rfl (s0 (x_lensl un24 rfl) (gt rfl rfl rfl rfl ?_))
  refine sb (x_gtr rfl rfl) (fun h15 => ?_) (fun h15 => ?_)
  ·refine s0 (x_pickt (v := .bool _) rfl rfl) (s0 (x_move (v := .bool _) rfl) (gt rfl rfl rfl rfl (s0 (x_fieldAddr fa71_1 rfl) (gt rfl rfl rfl rfl (st (x_loadB sc24 rfl B1 rfl) (gt rfl rfl rfl rfl (s0 (x_lensl un24 rfl) (gt rfl rfl rfl rfl (s0 (xmI rfl) (gt rfl rfl rfl rfl (s0 (xmI rfl) (gt rfl rfl rfl rfl ?_))))))))))))
   refine s0 (x_mul rfl rfl (by rcases h8 with h | h <;> subst h <;> decide)) ?_
   refine gt rfl rfl rfl rfl ?_
   refine sb (x_eql rfl rfl) (fun h24 => ?_) (fun h24 => ?_)
   ·refine s0 (x_pickt (v := .bool _) rfl rfl) (s0 (x_move (v := .bool _) rfl) (gt rfl rfl rfl rfl (s0 (x_fieldAddr fa71_1 rfl) (gt rfl rfl rfl rfl (st (x_loadB sc24 rfl B1 rfl) (gt rfl rfl rfl rfl ?_))))))
    refine sr (zcall cl138 rfl) (i_levelsOk _ _ _ _ (hq.ext L) (by omega)) ?_
    intro w8 l9
    have z_l9 := l9.size; have L := L.tr l9.up
    refine s0 (x_pickt (v := .bool _) rfl rfl) (s0 (x_assign (v := .bool _) rfl) (c_end (n_then (wp_ret (f_ret rfl rfl ?_)))))
    exact ⟨ret_dec2 ⟨fun h => ⟨h8, hsy.1 (by omega), h24, h⟩, fun h => h.2.2.2⟩, L⟩
   ·refine s0 (x_pickt (v := .bool _) rfl rfl) (s0 (x_move (v := .bool _) rfl) (gf rfl rfl rfl rfl (gf rfl rfl rfl rfl (gf rfl rfl rfl rfl (s0 (x_pickf (v := .bool _) rfl rfl) (s0 (x_assign (v := .bool _) rfl) (c_end (n_then (wp_ret (f_ret rfl rfl ?_))))))))))
    exact ⟨ret_f (fun h => h24 h.2.2.1), L⟩
  ·refine s0 (x_pickt (v := .bool _) rfl rfl) (s0 (x_move (v := .bool _) rfl) (gf rfl rfl rfl rfl (gf rfl rfl rfl rfl (gf rfl rfl rfl rfl (gf rfl rfl rfl rfl (gf rfl rfl rfl rfl (gf rfl rfl rfl rfl (gf rfl rfl rfl rfl (s0 (x_pickf (v := .bool _) rfl rfl) (s0 (x_move (v := .bool _) rfl) (gf rfl rfl rfl rfl (gf rfl rfl rfl rfl (gf rfl rfl rfl rfl ?_)))))))))))))
   refine s0 (x_pickf (v := .bool _) rfl rfl) (s0 (x_assign (v := .bool _) rfl) (c_end (n_then (wp_ret (f_ret rfl rfl ?_)))))
   exact ⟨ret_f (fun h => h15 (by have := hsy.2 h.2.1; omega)), L⟩
 ·have z_l5 := l5.size
  have L := L.tr l5.up
  refine s0 (x_move (v := .bool _) rfl) (gf rfl rfl rfl rfl (gf rfl rfl rfl rfl (gf rfl rfl rfl rfl (gf rfl rfl rfl rfl (gf rfl rfl rfl rfl (gf rfl rfl rfl rfl (s0 (x_pickf (v := .bool _) rfl rfl) (s0 (x_move (v := .bool _) rfl) (gf rfl rfl rfl rfl (gf rfl rfl rfl rfl (gf rfl rfl rfl rfl (gf rfl rfl rfl rfl (gf rfl rfl rfl rfl ?_)))))))))))))
  refine gf rfl rfl rfl rfl (gf rfl rfl rfl rfl (s0 (x_pickf (v := .bool _) rfl rfl) (s0 (x_move (v := .bool _) rfl) (gf rfl rfl rfl rfl (gf rfl rfl rfl rfl (gf rfl rfl rfl rfl (s0 (x_pickf (v := .bool _) rfl rfl) (s0 (x_assign (v := .bool _) rfl) (c_end (n_then (wp_ret (f_ret rfl rfl ?_))))))))))))
  exact ⟨ret_f (fun h => h8 h.1), L⟩

theorem s_blockOk (m : Int) (q : Option Addr) (ys : List Int) (d : Nat) (n : Int) (p : Option Addr) (xs : List Int) (c : Nat) (w : World) (hp : Sl w p xs.length c 1 (ic xs)) (hl : xs.length ≤ 1099511627776) (hq : Sl w q ys.length d 1 (ic ys)) (hl2 : ys.length ≤ 1099511627776) :
    Calls Tryz.prog 68 [.agg [.int .i64 m, .slice q ys.length d].toArray, .slice p xs.length c, .int .i64 n].toArray w (Ret w (.bool (decide (blockOk m ys xs n)))) := by
 have L : Exm [] w w := Exm.rfl'
 refine enter (n := 31) Tryz.func68 rfl rfl rfl ?_
 refine wp_seq (c_reg (s_box rfl rfl ?_))
 intro b1 w2 lob1 hib1 l3 B1
 have z_l3 := l3.size; have L := L.tr l3.up
 refine s0 (x_assign (v := .bool _) rfl) (c_end (n_then (wp_seq ?_)))
 have hsy := symBits_pos xs m
 refine c_reg (s0 (xmI rfl) ?_)
 refine srb (zcall cl131 rfl) (s_sizeOk _ _) (fun h8 w4 l5 => ?_) (fun h8 w4 l5 => ?_)
 ·have z_l5 := l5.size
  have L := L.tr l5.up; have B1 := B1.ext l5
  refine s0 (x_move (v := .bool _) rfl) (gt rfl rfl rfl rfl (s0 (xmS rfl) (gt rfl rfl rfl rfl (s0 (x_fieldAddr fa71_0 rfl) (gt rfl rfl rfl rfl (st (x_loadB sc3 rfl B1 rfl) (gt rfl rfl rfl rfl ?_)))))))
  refine sp (zcall cl132 rfl) (s_symBits _ _ _ _ _ (hp.ext L) (by omega)) ?_
  rintro v13 w6 l7 ⟨p13, c13, F13, rfl, o13, f13⟩
  have z_l7 := l7.size; have L := L.tr l7.up; have B1 := B1.ext l7; have g13 := o13.lt
  refine gt rfl rfl rfl rfl (s0 (x_lensl un24 rfl) (gt rfl rfl rfl rfl ?_))
  refine sb (x_gtr rfl rfl) (fun h15 => ?_) (fun h15 => ?_)
  ·refine s0 (x_pickt (v := .bool _) rfl rfl) (s0 (x_move (v := .bool _) rfl) (gt rfl rfl rfl rfl (s0 (x_fieldAddr fa71_1 rfl) (gt rfl rfl rfl rfl (st (x_loadB sc24 rfl B1 rfl) (gt rfl rfl rfl rfl (s0 (x_lensl un24 rfl) (gt rfl rfl rfl rfl (s0 (xmI rfl) (gt rfl rfl rfl rfl (s0 (xmI rfl) (gt rfl rfl rfl rfl ?_))))))))))))
   refine s0 (x_mul rfl rfl (by rcases h8 with h | h <;> subst h <;> decide)) ?_
   refine gt rfl rfl rfl rfl ?_
   refine sb (x_eql rfl rfl) (fun h24 => ?_) (fun h24 => ?_)
   ·refine s0 (x_pickt (v := .bool _) rfl rfl) (s0 (x_move (v := .bool _) rfl) (gt rfl rfl rfl rfl (s0 (x_fieldAddr fa71_1 rfl) (gt rfl rfl rfl rfl (st (x_loadB sc24 rfl B1 rfl) (gt rfl rfl rfl rfl ?_))))))
    refine sr (zcall cl133 rfl) (s_levelsOk _ _ _ _ (hq.ext L) (by omega)) ?_
    intro w8 l9
    have z_l9 := l9.size; have L := L.tr l9.up
    refine s0 (x_pickt (v := .bool _) rfl rfl) (s0 (x_assign (v := .bool _) rfl) (c_end (n_then (wp_ret (f_ret rfl rfl ?_)))))
    exact ⟨ret_dec2 ⟨fun h => ⟨h8, hsy.1 (by omega), h24, h⟩, fun h => h.2.2.2⟩, L⟩
   ·refine s0 (x_pickt (v := .bool _) rfl rfl) (s0 (x_move (v := .bool _) rfl) (gf rfl rfl rfl rfl (gf rfl rfl rfl rfl (gf rfl rfl rfl rfl (s0 (x_pickf (v := .bool _) rfl rfl) (s0 (x_assign (v := .bool _) rfl) (c_end (n_then (wp_ret (f_ret rfl rfl ?_))))))))))
    exact ⟨ret_f (fun h => h24 h.2.2.1), L⟩
  ·refine s0 (x_pickt (v := .bool _) rfl rfl) (s0 (x_move (v := .bool _) rfl) (gf rfl rfl rfl rfl (gf rfl rfl rfl rfl (gf rfl rfl rfl rfl (gf rfl rfl rfl rfl (gf rfl rfl rfl rfl (gf rfl rfl rfl rfl (gf rfl rfl rfl rfl (s0 (x_pickf (v := .bool _) rfl rfl) (s0 (x_move (v := .bool _) rfl) (gf rfl rfl rfl rfl (gf rfl rfl rfl rfl (gf rfl rfl rfl rfl ?_)))))))))))))
   refine s0 (x_pickf (v := .bool _) rfl rfl) (s0 (x_assign (v := .bool _) rfl) (c_end (n_then (wp_ret (f_ret rfl rfl ?_)))))
   exact ⟨ret_f (fun h => h15 (by have := hsy.2 h.2.1; omega)), L⟩
 ·have z_l5 := l5.size
  have L := L.tr l5.up
  refine s0 (x_move (v := .bool _) rfl) (gf rfl rfl rfl rfl (gf rfl rfl rfl rfl (gf rfl rfl rfl rfl (gf rfl rfl rfl rfl (gf rfl rfl rfl rfl (gf rfl rfl rfl rfl (s0 (x_pickf (v := .bool _) rfl rfl) (s0 (x_move (v := .bool _) rfl) (gf rfl rfl rfl rfl (gf rfl rfl rfl rfl (gf rfl rfl rfl rfl (gf rfl rfl rfl rfl (gf rfl rfl rfl rfl ?_)))))))))))))
  refine gf rfl rfl rfl rfl (gf rfl rfl rfl rfl (s0 (x_pickf (v := .bool _) rfl rfl) (s0 (x_move (v := .bool _) rfl) (gf rfl rfl rfl rfl (gf rfl rfl rfl rfl (gf rfl rfl rfl rfl (s0 (x_pickf (v := .bool _) rfl rfl) (s0 (x_assign (v := .bool _) rfl) (c_end (n_then (wp_ret (f_ret rfl rfl ?_))))))))))))
  exact ⟨ret_f (fun h => h8 h.1), L⟩

end Go.Proofs.YtepnknffaecbdaaGreat
