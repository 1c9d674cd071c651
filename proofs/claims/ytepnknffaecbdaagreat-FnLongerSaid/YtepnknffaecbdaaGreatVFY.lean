/- What each function of this part returns, for every argument that meets its premises. -/
import Derived.Test.YtepnknffaecbdaaGreatProg
import Derived.Test.YtepnknffaecbdaaGreatVSxA
import Derived.Test.YtepnknffaecbdaaGreatVTy
import Derived.Test.YtepnknffaecbdaaGreatVPlA
import Derived.Test.YtepnknffaecbdaaGreatVF1
import Derived.Test.YtepnknffaecbdaaGreatVF4
import Derived.Test.YtepnknffaecbdaaGreatVF9
import Derived.Test.YtepnknffaecbdaaGreatVFB
namespace Go.Proofs.YtepnknffaecbdaaGreat
open Go.Sx Go.Pl Go.RowKit
theorem i_scanOrder (n : Int) (w : World) (hn : -1073741824 ≤ n ∧ n ≤ 1073741824) :
    Calls Tryz.prog 190 [.int .i64 n].toArray w (RetP w fun v w' => ∃ p c F, v = .slice p (scanOf n).length c ∧ Own w' p (scanOf n).length c 3 1 (ic (scanOf n)) F ∧ Fr w.heap.size F) := by
 have L : Exm [] w w := Exm.rfl'
 refine enter (n := 52) Tryz.func190 rfl rfl rfl ?_
 refine wp_seq (c_reg (s0 (xaS rfl) (c_end (n_then (wp_seq (wp_seq (c_reg (s0 (xmI rfl) ?_))))))))
 refine srb (zcall cl145 rfl) (i_sizeOk _ _) (fun h9 w1 l2 => ?_) (fun h9 w1 l2 => ?_)
 ·have z_l2 := l2.size
  have L := L.tr l2.up
  refine s0 (x_not rfl) (c_end (n_then (c_false rfl (c_skipn (n_then (wp_seq (c_reg (s_bs0 so24 ?_))))))))
  intro p11 F11 w3 l4 o11 f11 g11
  have o11 : Own w3 p11 0 0 3 1 (ic []) F11 := o11; have z_l4 := l4.size; have L := L.tr l4.up
  refine s0 (xaS rfl) (c_end (n_then (wp_seq (wp_seq (c_reg (s0 (xmI rfl) (s0 (x_mul rfl rfl (by omega)) (s0 (x_sub rfl rfl (by omega)) (s0 (xmI rfl) (c_end (n_then (wp_block ?_))))))))))))
  refine c_loop (γ := Nat) (fun d => (2 * n - 1).toNat - d) (fun (d : Nat) E wl => ∃ E0 pz3 cz3 Fz3, E = upd (upd (upd (upd E0 0 (.int .i64 n)) 3 (.slice pz3 ((scN n d).length) cz3)) 14 (.int .i64 (2 * n - 1))) 15 (.int .i64 (d : Int)) ∧ (Exm [] w wl) ∧ (w3.heap.size ≤ wl.heap.size) ∧ (Own wl pz3 ((scN n d).length) cz3 3 1 (ic (scN n d)) Fz3) ∧ (Fr (w1.heap.size) Fz3) ∧ (Lt Fz3 wl.heap.size) ∧ ((d : Int) ≤ 2 * n - 1)) 0 ⟨_, _, _, _, upd_self4 rfl (slice_len rfl) rfl rfl, L, (by omega), o11, (f11.mono (by omega)), (g11.mono (by omega)), (by omega)⟩ ?_
  rintro d E wl5 ⟨E0, pz3, cz3, Fz3, rfl, L, Lz, oz3, fz3, gz3, hd⟩
  have Lz0 := L.size; have hnl := scN_len n (d := d) (by omega)
  refine wp_seq (c_reg ?_)
  refine sb (x_lss rfl rfl) (fun h16 => ?_) (fun h16 => ?_)
  ·refine c_end (n_then (wp_seq (c_true rfl (c_skipn (n_then (wp_seq (wp_block (wp_seq (c_reg (s0 (xmI rfl) (s0 (xaI rfl) (c_end (n_then ?_)))))))))))))
   refine wp_seq (c_reg (s0 (xmI rfl) (s0 (x_add rfl rfl (by omega)) (s0 (xmI rfl) (c_end (n_then (wp_block ?_)))))))
   refine c_loop (γ := Nat) (fun k => d + 1 - k) (fun (k : Nat) E wl => ∃ E0 pz3 cz3 Fz3, E = upd (upd (upd (upd (upd (upd (upd E0 0 (.int .i64 n)) 3 (.slice pz3 ((scN n d ++ scRow n d k).length) cz3)) 4 (.int .i64 (d : Int))) 14 (.int .i64 (2 * n - 1))) 15 (.int .i64 (d : Int))) 19 (.int .i64 ((d : Int) + 1))) 20 (.int .i64 (k : Int)) ∧ (Exm [] w wl) ∧ (wl5.heap.size ≤ wl.heap.size) ∧ (Own wl pz3 ((scN n d ++ scRow n d k).length) cz3 3 1 (ic (scN n d ++ scRow n d k)) Fz3) ∧ (Fr (w1.heap.size) Fz3) ∧ (Lt Fz3 wl.heap.size) ∧ ((k : Int) ≤ (d : Int) + 1)) 0 ⟨_, _, _, _, upd_self7 rfl (slice_len (by rw [show scRow n d 0 = [] from rfl, List.append_nil])) rfl rfl rfl rfl rfl, L, (by omega), (by rw [show scRow n d 0 = [] from rfl, List.append_nil]; exact oz3), (fz3.mono (by omega)), (gz3.mono (by omega)), (by omega)⟩ ?_
   rintro k E wl6 ⟨E0, pz3, cz3, Fz3, rfl, L, Lz, oz3, fz3, gz3, hk⟩
   have Lz0 := L.size; have hrl := scRow_len n d k
   have hll : (scN n d ++ scRow n d k).length ≤ 300 := by rw [List.length_append]; omega
   refine wp_seq (c_reg ?_)
   refine sb (x_lss rfl rfl) (fun h21 => ?_) (fun h21 => ?_)
   ·refine c_end (n_then (wp_seq (c_true rfl (c_skipn (n_then (wp_seq (wp_block (wp_seq (c_reg (s0 (xmI rfl) (s0 (xaI rfl) (c_end (n_then ?_)))))))))))))
    refine wp_seq (c_reg (s0 (xmI rfl) (s0 (xaI rfl) (c_end (n_then (wp_seq (wp_seq (c_reg (s0 (xmI rfl) (s0 (x_rem rfl rfl (by omega) (by omega)) ?_))))))))))
    refine sb (x_eql rfl rfl) (fun h26 => ?_) (fun h26 => ?_)
    ·refine c_end (n_then (c_true rfl (c_reg (s0 (xmI rfl) (s0 (xmI rfl) (s0 (x_sub rfl rfl (by omega)) (s0 (xaI rfl) (c_end (n_then (wp_seq (c_reg (s0 (xmI rfl) (s0 (xmI rfl) ?_)))))))))))))
     refine s0 (x_sub rfl rfl (by omega)) (s0 (xaI rfl) (c_end (n_then (wp_seq (c_reg (s0 (xmI rfl) (s0 (xmI rfl) ?_)))))))
     refine sb (x_lss rfl rfl) (fun h35 => ?_) (fun h35 => ?_)
     ·refine s0 (x_move (v := .bool _) rfl) (gt rfl rfl rfl rfl (s0 (xmI rfl) (gt rfl rfl rfl rfl (s0 (xmI rfl) (gt rfl rfl rfl rfl ?_)))))
      refine sb (x_lss rfl rfl) (fun h39 => ?_) (fun h39 => ?_)
      ·refine s0 (x_pickt (v := .bool _) rfl rfl) (c_end (n_then (c_true rfl ?_)))
       have hce := (scE (n := n) (k := k) h26).trans (if_pos ⟨h35, h39⟩)
       refine c_reg (s0 (xmS rfl) (s0 (xmI rfl) (s0 (xmI rfl) ?_)))
       refine s0 (x_mul rfl rfl (by rcases h9 with h | h <;> rw [h] <;> omega)) ?_
       refine s0 (xmI rfl) ?_
       refine s0 (x_add rfl rfl (by rcases h9 with h | h <;> rw [h] <;> omega)) ?_
       refine s_bsi (xs := [_]) so24 zr3 (pts_cons rfl pts_nil) rfl rfl rfl ?_
       intro p47 F47 w7 l8 o47 f47 g47
       have z_l8 := l8.size; have L := L.tr l8.up; have oz3 := oz3.ext l8; have hn47 := o47.n1
       refine s_appi (B := w1.heap.size) so24 zr3 rfl rfl (xs := _) oz3 o47.sl fz3 (by omega) (by omega) (by omega) ?_
       intro p48 c48 F48 w9 l10 o48 hn48 k48 f48 g48
       have z_l10 := l10.size; have L := L.freshL l10 fz3 (by omega); have d47_48 : Dj F47 F48 := k48.dj (by first|assumption|exact Dj.symm (by assumption)|exact dj_of f47 g47 fz3 gz3 (by omega)) g47 (by omega)
       have o47 := o47.exm l10 (by first|assumption|exact Dj.symm (by assumption)|exact dj_of fz3 gz3 f47 g47 (by omega))
       refine s0 (xaS rfl) (c_end (n_block (n_then (c_reg (s0 (x_add rfl rfl (by omega)) (s0 (xmI rfl) (c_end ?_)))))))
       exact c_round (g' := k + 1) (by omega) ⟨_, _, _, _, upd_self7 rfl (slice_len (by rw [scRow_succ, hce, ← List.append_assoc] <;> first | rfl | rw [List.append_nil])) rfl rfl rfl rfl (vint (by omega)), L, (by omega), (by rw [scRow_succ, hce, ← List.append_assoc]; first | exact o48 | (rw [List.append_nil]; exact oz3)), (f48.mono (by omega)), (g48.mono (by omega)), (by omega)⟩
      ·refine s0 (x_pickt (v := .bool _) rfl rfl) (c_end (n_then (c_false rfl (c_skipn (n_block (n_then ?_))))))
       have hce := (scE (n := n) (k := k) h26).trans (if_neg (fun h => h39 h.2))
       refine c_reg (s0 (x_add rfl rfl (by omega)) (s0 (xmI rfl) (c_end ?_)))
       exact c_round (g' := k + 1) (by omega) ⟨_, _, _, _, upd_self7 rfl (slice_len (by rw [scRow_succ, hce, ← List.append_assoc] <;> first | rfl | rw [List.append_nil])) rfl rfl rfl rfl (vint (by omega)), L, (by omega), (by rw [scRow_succ, hce, ← List.append_assoc]; first | exact o48 | (rw [List.append_nil]; exact oz3)), (fz3.mono (by omega)), (gz3.mono (by omega)), (by omega)⟩
     ·refine s0 (x_move (v := .bool _) rfl) (gf rfl rfl rfl rfl (gf rfl rfl rfl rfl (gf rfl rfl rfl rfl (s0 (x_pickf (v := .bool _) rfl rfl) (c_end (n_then (c_false rfl (c_skipn (n_block (n_then ?_))))))))))
      have hce := (scE (n := n) (k := k) h26).trans (if_neg (fun h => h35 h.1))
      refine c_reg (s0 (x_add rfl rfl (by omega)) (s0 (xmI rfl) (c_end ?_)))
      exact c_round (g' := k + 1) (by omega) ⟨_, _, _, _, upd_self7 rfl (slice_len (by rw [scRow_succ, hce, ← List.append_assoc] <;> first | rfl | rw [List.append_nil])) rfl rfl rfl rfl (vint (by omega)), L, (by omega), (by rw [scRow_succ, hce, ← List.append_assoc]; first | exact o48 | (rw [List.append_nil]; exact oz3)), (fz3.mono (by omega)), (gz3.mono (by omega)), (by omega)⟩
    ·refine c_end (n_then (c_false rfl (c_skipn (n_then (wp_seq (c_reg (s0 (xmI rfl) (s0 (xmI rfl) (s0 (x_sub rfl rfl (by omega)) (s0 (xaI rfl) (c_end (n_then (wp_seq ?_)))))))))))))
     refine c_reg (s0 (xmI rfl) (s0 (xmI rfl) ?_))
     refine sb (x_lss rfl rfl) (fun h35 => ?_) (fun h35 => ?_)
     ·refine s0 (x_move (v := .bool _) rfl) (gt rfl rfl rfl rfl (s0 (xmI rfl) (gt rfl rfl rfl rfl (s0 (xmI rfl) (gt rfl rfl rfl rfl ?_)))))
      refine sb (x_lss rfl rfl) (fun h39 => ?_) (fun h39 => ?_)
      ·refine s0 (x_pickt (v := .bool _) rfl rfl) (c_end (n_then (c_true rfl ?_)))
       have hce := (scO (n := n) (k := k) h26).trans (if_pos ⟨h35, h39⟩)
       refine c_reg (s0 (xmS rfl) (s0 (xmI rfl) (s0 (xmI rfl) ?_)))
       refine s0 (x_mul rfl rfl (by rcases h9 with h | h <;> rw [h] <;> omega)) ?_
       refine s0 (xmI rfl) ?_
       refine s0 (x_add rfl rfl (by rcases h9 with h | h <;> rw [h] <;> omega)) ?_
       refine s_bsi (xs := [_]) so24 zr3 (pts_cons rfl pts_nil) rfl rfl rfl ?_
       intro p47 F47 w11 l12 o47 f47 g47
       have z_l12 := l12.size; have L := L.tr l12.up; have oz3 := oz3.ext l12; have hn47 := o47.n1
       refine s_appi (B := w1.heap.size) so24 zr3 rfl rfl (xs := _) oz3 o47.sl fz3 (by omega) (by omega) (by omega) ?_
       intro p48 c48 F48 w13 l14 o48 hn48 k48 f48 g48
       have z_l14 := l14.size; have L := L.freshL l14 fz3 (by omega); have d47_48 : Dj F47 F48 := k48.dj (by first|assumption|exact Dj.symm (by assumption)|exact dj_of f47 g47 fz3 gz3 (by omega)) g47 (by omega)
       have o47 := o47.exm l14 (by first|assumption|exact Dj.symm (by assumption)|exact dj_of fz3 gz3 f47 g47 (by omega))
       refine s0 (xaS rfl) (c_end (n_block (n_then (c_reg (s0 (x_add rfl rfl (by omega)) (s0 (xmI rfl) (c_end ?_)))))))
       exact c_round (g' := k + 1) (by omega) ⟨_, _, _, _, upd_self7 rfl (slice_len (by rw [scRow_succ, hce, ← List.append_assoc] <;> first | rfl | rw [List.append_nil])) rfl rfl rfl rfl (vint (by omega)), L, (by omega), (by rw [scRow_succ, hce, ← List.append_assoc]; first | exact o48 | (rw [List.append_nil]; exact oz3)), (f48.mono (by omega)), (g48.mono (by omega)), (by omega)⟩
      ·refine s0 (x_pickt (v := .bool _) rfl rfl) (c_end (n_then (c_false rfl (c_skipn (n_block (n_then ?_))))))
       have hce := (scO (n := n) (k := k) h26).trans (if_neg (fun h => h39 h.2))
       refine c_reg (s0 (x_add rfl rfl (by omega)) (s0 (xmI rfl) (c_end ?_)))
       exact c_round (g' := k + 1) (by omega) ⟨_, _, _, _, upd_self7 rfl (slice_len (by rw [scRow_succ, hce, ← List.append_assoc] <;> first | rfl | rw [List.append_nil])) rfl rfl rfl rfl (vint (by omega)), L, (by omega), (by rw [scRow_succ, hce, ← List.append_assoc]; first | exact o48 | (rw [List.append_nil]; exact oz3)), (fz3.mono (by omega)), (gz3.mono (by omega)), (by omega)⟩
     ·refine s0 (x_move (v := .bool _) rfl) (gf rfl rfl rfl rfl (gf rfl rfl rfl rfl (gf rfl rfl rfl rfl (s0 (x_pickf (v := .bool _) rfl rfl) (c_end (n_then (c_false rfl (c_skipn (n_block (n_then ?_))))))))))
      have hce := (scO (n := n) (k := k) h26).trans (if_neg (fun h => h35 h.1))
      refine c_reg (s0 (x_add rfl rfl (by omega)) (s0 (xmI rfl) (c_end ?_)))
      exact c_round (g' := k + 1) (by omega) ⟨_, _, _, _, upd_self7 rfl (slice_len (by rw [scRow_succ, hce, ← List.append_assoc] <;> first | rfl | rw [List.append_nil])) rfl rfl rfl rfl (vint (by omega)), L, (by omega), (by rw [scRow_succ, hce, ← List.append_assoc]; first | exact o48 | (rw [List.append_nil]; exact oz3)), (fz3.mono (by omega)), (gz3.mono (by omega)), (by omega)⟩
   ·refine c_end (n_then (wp_seq (c_false rfl ?_)))
    refine wp_exit (e_then (e_then (e_here ?_)))
    refine n_block (n_then (c_reg (s0 (x_add rfl rfl (by omega)) (s0 (xmI rfl) (c_end ?_)))))
    exact c_round (g' := d + 1) (by omega) ⟨_, _, _, _, upd_self4 rfl (slice_len (by rw [scN_succ, show k = d + 1 by omega])) rfl (vint (by omega)), L, (by omega), (by rw [scN_succ]; rw [show k = d + 1 by omega] at oz3; exact oz3), (fz3.mono (by omega)), (gz3.mono (by omega)), (by omega)⟩
  ·refine c_end (n_then (wp_seq (c_false rfl ?_)))
   refine wp_exit (e_then (e_then (e_here ?_)))
   refine n_then (wp_seq (c_reg (s0 (xmS rfl) (s0 (xaS rfl) (c_end (n_then (wp_ret (f_ret rfl rfl ?_))))))))
   rw [scan_yes h9 (d := d) (by omega)]
   exact ⟨_, rfl, L, _, _, _, rfl, oz3, fz3.mono (by omega)⟩
 ·have z_l2 := l2.size
  have L := L.tr l2.up
  refine s0 (x_not rfl) (c_end (n_then (c_true rfl (wp_seq (c_reg (s0 (xaS rfl) (c_end (n_then ?_))))))))
  refine wp_ret (r_then ?_)
  refine f_ret rfl rfl ?_
  rw [scan_no h9]
  exact ⟨_, rfl, L, none, 0, [], rfl, Own.nil, Fr.no⟩

theorem i_placed (p : Option Addr) (xs : List Int) (c : Nat) (w : World) (hp : Sl w p xs.length c 1 (ic xs)) (hl : xs.length ≤ 1099511627776) :
    Calls Tryz.prog 139 [.slice p xs.length c].toArray w (RetP w fun v w' => ∃ p c F, v = .slice p (placed xs).length c ∧ Own w' p (placed xs).length c 3 1 (ic (placed xs)) F ∧ Fr w.heap.size F) := by
 have hsr : sideOf xs.length = 0 ∨ sideOf xs.length = 4 ∨ sideOf xs.length = 8 := by unfold sideOf; split <;> (try split) <;> omega
 have hsl : (scanOf (sideOf xs.length)).length ≤ 64 := by by_cases h0 : 0 < (scanOf (sideOf xs.length)).length; (have := scan_facts h0; omega); omega
 have L : Exm [] w w := Exm.rfl'
 refine enter (n := 30) Tryz.func139 rfl rfl rfl ?_
 refine wp_seq (c_reg (s0 (xaS rfl) (c_end (n_then (wp_seq (c_reg (s0 (xmS rfl) (s0 (x_lensl un24 rfl) ?_))))))))
 refine sr (zcall cl76 rfl) (i_sizeOf _ _) ?_
 intro w1 l2
 have z_l2 := l2.size; have L := L.tr l2.up
 refine sp (zcall cl190 rfl) (i_scanOrder _ _ (by omega)) ?_
 rintro v10 w3 l4 ⟨p10, c10, F10, rfl, o10, f10⟩
 have z_l4 := l4.size; have L := L.tr l4.up; have g10 := o10.lt
 refine s0 (xaS rfl) (c_end (n_then (wp_seq (c_reg (s0 (xmS rfl) (s0 (x_lensl un24 rfl) (s_makei so24 zr3 rfl rfl (by omega) (by omega) (by omega) ?_)))))))
 intro p13 F13 w5 l6 o13 f13 g13
 have z_l6 := l6.size; have L := L.tr l6.up; have o10 := o10.ext l6; have hn13 := o13.n1
 refine s0 (xaS rfl) (c_end (n_then (wp_seq (wp_seq (c_reg (s0 (xmS rfl) (s0 (x_lensl un24 rfl) (s0 (xmI rfl) (c_end (n_then (wp_block ?_)))))))))))
 refine c_loop (γ := Nat) (fun k => (scanOf (sideOf xs.length)).length - k) (fun (k : Nat) E wl => ∃ E0, E = upd (upd (upd (upd (upd (upd E0 0 (.slice p xs.length c)) 3 (.slice p10 (scanOf (sideOf xs.length)).length c10)) 4 (.slice p13 (scanOf (sideOf xs.length)).length (scanOf (sideOf xs.length)).length)) 14 (.slice p10 (scanOf (sideOf xs.length)).length c10)) 15 (.int .i64 (scanOf (sideOf xs.length)).length)) 16 (.int .i64 (k : Int)) ∧ (Exm [] w wl) ∧ (w5.heap.size ≤ wl.heap.size) ∧ (Own wl p10 (scanOf (sideOf xs.length)).length c10 3 1 (ic (scanOf (sideOf xs.length))) F10) ∧ (Own wl p13 (scanOf (sideOf xs.length)).length (scanOf (sideOf xs.length)).length 3 1 (ic (plK (scanOf (sideOf xs.length)) xs (scanOf (sideOf xs.length)).length k)) F13) ∧ ((k : Int) ≤ (scanOf (sideOf xs.length)).length)) 0 ⟨_, upd_self6 rfl rfl rfl rfl rfl rfl, L, (by omega), o10, o13, (by omega)⟩ ?_
 rintro k E wl7 ⟨E0, rfl, L, Lz, o10, o13, hk⟩
 have Lz0 := L.size; have hpk := plK_length (scanOf (sideOf xs.length)) xs (scanOf (sideOf xs.length)).length k
 refine wp_seq (c_reg ?_)
 refine sb (x_lss rfl rfl) (fun h17 => ?_) (fun h17 => ?_)
 ·refine c_end (n_then (wp_seq (c_true rfl (c_skipn (n_then (wp_seq (wp_block (wp_seq ?_))))))))
  have hsf := scan_facts (N := xs.length) (k := (k : Int).toNat) (by omega)
  refine c_reg (s0 (xmI rfl) (s0 (x_idx so24 rfl rfl o10.sl (by decide) (by omega) (by omega)) (st (x_ldi sc3 rfl o10.sl (by omega) (by omega)) (s0 (xaI rfl) (s0 (xaI rfl) (c_end (n_then (c_reg (s0 (xmS rfl) (s0 (xmI rfl) (s0 (xmS rfl) (s0 (xmI rfl) (s0 (x_idx so24 rfl rfl hp (by decide) (by omega) (by omega)) ?_)))))))))))))
  refine st (x_ldi sc3 rfl (hp.ext L) (by omega) (by omega)) (s0 (x_idx so24 rfl rfl o13.sl (by decide) (by omega) (by omega)) (s_stoi rfl sz3 rfl rfl o13 (by omega) (by omega) ?_))
  intro w8 l9 el9 o13
  have z_l9 := l9.size; have L := L.freshL l9 f13 (by omega); have o10 := o10.exm l9 (by first|assumption|exact Dj.symm (by assumption)|exact dj_of f13 g13 f10 g10 (by omega))
  have hnl9 := o13.n1
  refine c_end (n_block (n_then (c_reg (s0 (x_add rfl rfl (by omega)) (s0 (xmI rfl) (c_end ?_))))))
  exact c_round (g' := k + 1) (by omega) ⟨_, upd_self6 rfl rfl rfl rfl rfl (vint (by omega)), L, (by omega), o10, o13, (by omega)⟩
 ·refine c_end (n_then (wp_seq (c_false rfl ?_)))
  refine wp_exit (e_then (e_then (e_here ?_)))
  refine n_then (wp_seq (c_reg (s0 (xmS rfl) (s0 (xaS rfl) (c_end (n_then (wp_ret (f_ret rfl rfl ?_))))))))
  obtain hke : k = (scanOf (sideOf xs.length)).length := by omega
  rw [hke] at o13
  have hpl : (placed xs).length = (scanOf (sideOf xs.length)).length := plK_length _ _ _ _
  exact ⟨_, rfl, L, p13, _, F13, slice_len hpl, (by rw [hpl]; exact o13), f13.mono (by omega)⟩

theorem i_stepOf (q : Int) (w : World) :
    Calls Tryz.prog 191 [.int .i64 q].toArray w (Ret w (.int .i64 (stepOf q))) := by
 have L : Exm [] w w := Exm.rfl'
 refine enter (n := 15) Tryz.func191 rfl rfl rfl ?_
 refine wp_seq (c_reg (s0 (xaI rfl) (c_end (n_then (wp_seq (wp_seq (c_reg (s0 (xmI rfl) ?_))))))))
 refine srb (zcall cl77 rfl) (i_within _ _ _ _) (fun h4 w1 l2 => ?_) (fun h4 w1 l2 => ?_)
 ·have z_l2 := l2.size
  have L := L.tr l2.up
  refine s0 (x_not rfl) (c_end (n_then (c_false rfl (c_skipn (n_then (wp_seq ?_))))))
  have hst := step_range q h4; have hsr := step_row q
  refine c_reg ?_
  refine s_bsi (xs := [_, _, _, _, _, _]) so24 zr3 (pts_cons rfl (pts_cons rfl (pts_cons rfl (pts_cons rfl (pts_cons rfl (pts_cons rfl pts_nil)))))) rfl rfl rfl ?_
  intro p6 F6 w3 l4 o6 f6 g6
  have z_l4 := l4.size; have L := L.tr l4.up; have hn6 := o6.n1
  refine s0 (xmI rfl) (s0 (x_rem rfl rfl (by omega) (by omega)) (s0 (x_idx so24 rfl rfl o6.sl (by decide) (by omega) (by omega)) (st (x_ldi sc3 rfl o6.sl (by omega) (by omega)) (s0 (xmI rfl) (s0 (x_quo rfl rfl (by omega) (by omega)) (s0 (x_shl rfl rfl (by omega) (by omega)) (s0 (x_quo rfl rfl (by omega) (by omega)) (s0 (xaI rfl) (c_end (n_then (wp_ret (f_ret rfl rfl ?_))))))))))))
  exact ⟨ret_int (by unfold stepOf; rw [if_pos h4]), L⟩
 ·have z_l2 := l2.size
  have L := L.tr l2.up
  refine s0 (x_not rfl) (c_end (n_then (c_true rfl (wp_seq (c_reg (s0 (xaI rfl) (c_end (n_then ?_))))))))
  refine wp_ret (r_then ?_)
  refine f_ret rfl rfl ?_
  exact ⟨ret_int (by unfold stepOf; rw [if_neg h4]), L⟩

theorem sq_in {n : Int} (h : -1073741824 ≤ n ∧ n ≤ 1073741824) : 0 ≤ n * n ∧ n * n ≤ 1152921504606846976 := by
  rcases Int.le_total 0 n with h1 | h1
  · exact ⟨Int.mul_nonneg h1 h1, Int.le_trans (Int.mul_le_mul h.2 h.2 h1 (by decide)) (by decide)⟩
  · have e : n * n = (-n) * (-n) := by rw [Int.neg_mul_neg]
    rw [e]
    exact ⟨Int.mul_nonneg (by omega) (by omega), Int.le_trans (Int.mul_le_mul (show -n ≤ 1073741824 by omega) (show -n ≤ 1073741824 by omega) (by omega) (by decide)) (by decide)⟩

theorem i_normAt (n i : Int) (w : World) (hn : -1073741824 ≤ n ∧ n ≤ 1073741824) :
    Calls Tryz.prog 192 [.int .i64 n, .int .i64 i].toArray w (Ret w (.int .i64 (normAt n i))) := by
 have L : Exm [] w w := Exm.rfl'
 refine enter (n := 36) Tryz.func192 rfl rfl rfl ?_
 refine wp_seq (c_reg (s0 (xaI rfl) (c_end (n_then (wp_seq (wp_seq ?_))))))
 have hsq := sq_in hn
 refine c_reg (s0 (xmI rfl) ?_)
 refine srb (zcall cl145 rfl) (i_sizeOk _ _) (fun h7 w1 l2 => ?_) (fun h7 w1 l2 => ?_)
 ·have z_l2 := l2.size
  have L := L.tr l2.up
  refine s0 (x_not rfl) (s0 (x_move (v := .bool _) rfl) (gt rfl rfl rfl rfl (s0 (xmI rfl) (gt rfl rfl rfl rfl (s0 (xmI rfl) (gt rfl rfl rfl rfl (s0 (xmI rfl) (gt rfl rfl rfl rfl ?_))))))))
  refine s0 (x_mul rfl rfl (by have h5 := sq_in hn; omega)) ?_
  refine gt rfl rfl rfl rfl (s0 (x_sub rfl rfl (by omega)) (gt rfl rfl rfl rfl ?_))
  refine srb (zcall cl77 rfl) (i_within _ _ _ _) (fun h15 w3 l4 => ?_) (fun h15 w3 l4 => ?_)
  ·have z_l4 := l4.size
   have L := L.tr l4.up
   refine gt rfl rfl rfl rfl (s0 (x_not rfl) (s0 (x_pickf (v := .bool _) rfl rfl) (c_end (n_then (c_false rfl (c_skipn (n_then (wp_seq ?_))))))))
   have hsz : n = 4 ∨ n = 8 := h7
   have hi64 : 0 ≤ i ∧ i ≤ 63 := by rcases hsz with h | h <;> subst h <;> omega
   have hqd : 0 ≤ i / n ∧ i / n ≤ 63 := by rcases hsz with h | h <;> subst h <;> omega
   have hqm : 0 ≤ i % n ∧ i % n ≤ 63 := by rcases hsz with h | h <;> subst h <;> omega
   refine c_plan (fun wq => Exm [] w3 wq) 10 (.cons (0, 2) (.cons (1, 2) (.cons (2, 2) (.cons (3, 2) (.cons (4, 2) (.cons (5, 2) (.cons (6, 2) (.cons (7, 2) (.cons (8, 2) (.cons (9, 2) .nil)))))))))) (by kernel_rfl) (by kernel_rfl) (Exm.drew _) ?_
   obtain ⟨w5, hwd⟩ : ∃ x, x = w3.drew := ⟨_, rfl⟩
   have l6 : Ext w3 w5 := by rw [hwd]; exact Exm.drew _
   rw [← hwd]; clear hwd
   have Lq : Exm [] w3 w5 := l6.up; have z_l6 := l6.size; have L := L.tr l6.up
   refine p0 rfl (xmI rfl) (p0 rfl (xmI rfl) (p0 rfl (x_quo rfl rfl (by omega) (by omega)) (p0 rfl (x_rem rfl rfl (by omega) (by omega)) (p0 rfl (xmI rfl) (p0 rfl (xmI rfl) (p0 rfl (x_rem rfl rfl (by omega) (by omega)) (p0 rfl (x_rem rfl rfl (by omega) (by omega)) (p0 rfl (x_add rfl rfl (by omega)) (p0 rfl (xaI rfl) ?_)))))))))
   refine p_nil (np_normal ?_)
   refine n_then (wp_seq (wp_block (wp_seq (c_reg (s0 (xmI rfl) ?_)))))
   refine sb (x_eql rfl rfl) (fun h29 => ?_) (fun h29 => ?_)
   ·refine s0 (x_assign (v := .bool _) rfl) (c_end (n_then (c_true rfl (wp_seq (c_reg (s0 (xaI rfl) (c_end (n_then ?_))))))))
    refine wp_ret (r_block (r_then ?_))
    refine f_ret rfl rfl ?_
    exact ⟨ret_int (by unfold normAt; rw [if_pos ⟨hsz, h15⟩, if_pos h29]), L⟩
   ·refine s0 (x_assign (v := .bool _) rfl) (c_end (n_then (c_false rfl (wp_seq (c_reg (s0 (xmI rfl) ?_))))))
    refine sb (x_eql rfl rfl) (fun h32 => ?_) (fun h32 => ?_)
    ·refine s0 (x_assign (v := .bool _) rfl) (c_end (n_then (c_true rfl (wp_seq (c_reg (s0 (xaI rfl) (c_end (n_then ?_))))))))
     refine wp_ret (r_block (r_then ?_))
     refine f_ret rfl rfl ?_
     obtain rfl : n = 4 := by omega
     exact ⟨ret_int (by unfold normAt; rw [if_pos ⟨hsz, h15⟩, if_neg h29, if_pos h32]), L⟩
    ·refine s0 (x_assign (v := .bool _) rfl) (c_end (n_then (c_false rfl (wp_seq (c_reg (s0 (xmI rfl) ?_))))))
     refine sb (x_eql rfl rfl) (fun h35 => ?_) (fun h35 => ?_)
     ·refine s0 (x_assign (v := .bool _) rfl) (c_end (n_then (c_true rfl (wp_seq (c_reg (s0 (xaI rfl) (c_end (n_then ?_))))))))
      refine wp_ret (r_block (r_then ?_))
      refine f_ret rfl rfl ?_
      obtain rfl : n = 4 := by omega
      exact ⟨ret_int (by unfold normAt; rw [if_pos ⟨hsz, h15⟩, if_neg h29, if_neg h32, if_pos h35]), L⟩
     ·refine s0 (x_assign (v := .bool _) rfl) (c_end (n_then (c_false rfl (c_skipn (n_block (n_then (wp_seq (c_reg (s0 (xaI rfl) (c_end (n_then (wp_ret (f_ret rfl rfl ?_)))))))))))))
      obtain rfl : n = 4 := by omega
      exact ⟨ret_int (by unfold normAt; rw [if_pos ⟨hsz, h15⟩, if_neg h29, if_neg h32, if_neg h35]), L⟩
  ·have z_l4 := l4.size
   have L := L.tr l4.up
   refine gt rfl rfl rfl rfl (s0 (x_not rfl) (s0 (x_pickf (v := .bool _) rfl rfl) (c_end (n_then (c_true rfl (wp_seq (c_reg (s0 (xaI rfl) (c_end (n_then ?_))))))))))
   refine wp_ret (r_then ?_)
   refine f_ret rfl rfl ?_
   exact ⟨ret_int (by unfold normAt; rw [if_neg (fun h => h15 h.2)]), L⟩
 ·have z_l2 := l2.size
  have L := L.tr l2.up
  refine s0 (x_not rfl) (s0 (x_move (v := .bool _) rfl) (gf rfl rfl rfl rfl (gf rfl rfl rfl rfl (gf rfl rfl rfl rfl (gf rfl rfl rfl rfl (gf rfl rfl rfl rfl (gf rfl rfl rfl rfl (gf rfl rfl rfl rfl (s0 (x_pickt (v := .bool _) rfl rfl) (c_end (n_then (c_true rfl (wp_seq ?_)))))))))))))
  refine c_reg (s0 (xaI rfl) (c_end (n_then ?_)))
  refine wp_ret (r_then ?_)
  refine f_ret rfl rfl ?_
  exact ⟨ret_int (by unfold normAt; rw [if_neg (fun h => h7 h.1)]), L⟩

theorem i_scaled (p : Option Addr) (xs : List Int) (c : Nat) (q : Int) (w : World) (hp : Sl w p xs.length c 1 (ic xs)) (hl : xs.length ≤ 1099511627776) :
    Calls Tryz.prog 140 [.slice p xs.length c, .int .i64 q].toArray w (RetP w fun v w' => ∃ p c F, v = .slice p (scaled xs q).length c ∧ Own w' p (scaled xs q).length c 3 1 (ic (scaled xs q)) F ∧ Fr w.heap.size F) := by
 have hsr0 : sideOf xs.length = 0 ∨ sideOf xs.length = 4 ∨ sideOf xs.length = 8 := by unfold sideOf; split <;> (try split) <;> omega
 have L : Exm [] w w := Exm.rfl'
 refine enter (n := 39) Tryz.func140 rfl rfl rfl ?_
 refine wp_seq (c_reg (s0 (xaS rfl) (c_end (n_then (wp_seq (wp_seq (c_reg (s0 (xmS rfl) ?_))))))))
 refine srb (zcall cl138 rfl) (i_levelsOk _ _ _ _ (hp.ext L) (by omega)) (fun h9 w1 l2 => ?_) (fun h9 w1 l2 => ?_)
 ·have z_l2 := l2.size
  have L := L.tr l2.up
  refine s0 (x_not rfl) (s0 (x_move (v := .bool _) rfl) (gt rfl rfl rfl rfl (s0 (xmI rfl) (gt rfl rfl rfl rfl ?_))))
  refine sr (zcall cl191 rfl) (i_stepOf _ _) ?_
  intro w3 l4
  have z_l4 := l4.size; have L := L.tr l4.up
  refine gt rfl rfl rfl rfl ?_
  refine sb (x_eql rfl rfl) (fun h14 => ?_) (fun h14 => ?_)
  ·refine s0 (x_pickf (v := .bool _) rfl rfl) (c_end (n_then (c_true rfl (wp_seq (c_reg (s0 (xaS rfl) (c_end (n_then ?_))))))))
   refine wp_ret (r_then ?_)
   refine f_ret rfl rfl ?_
   rw [scaled_no (fun h => h.2 h14)]
   exact ⟨_, rfl, L, none, 0, [], rfl, Own.nil, Fr.no⟩
  ·refine s0 (x_pickf (v := .bool _) rfl rfl) (c_end (n_then (c_false rfl (c_skipn (n_then (wp_seq (c_reg (s_bs0 so24 ?_))))))))
   intro p16 F16 w5 l6 o16 f16 g16
   have o16 : Own w5 p16 0 0 3 1 (ic []) F16 := o16; have z_l6 := l6.size; have L := L.tr l6.up
   refine s0 (xaS rfl) (c_end (n_then (wp_seq (wp_seq (c_reg (s0 (xmS rfl) (s0 (x_lensl un24 rfl) (s0 (xmI rfl) (c_end (n_then (wp_block ?_)))))))))))
   refine c_loop (γ := Nat) (fun k => xs.length - k) (fun (k : Nat) E wl => ∃ E0 pz5 cz5 Fz5, E = upd (upd (upd (upd (upd (upd E0 0 (.slice p xs.length c)) 1 (.int .i64 q)) 5 (.slice pz5 ((scaledK xs q k).length) cz5)) 17 (.slice p xs.length c)) 18 (.int .i64 xs.length)) 19 (.int .i64 (k : Int)) ∧ (Exm [] w wl) ∧ (w5.heap.size ≤ wl.heap.size) ∧ (Own wl pz5 ((scaledK xs q k).length) cz5 3 1 (ic (scaledK xs q k)) Fz5) ∧ (Fr (w3.heap.size) Fz5) ∧ (Lt Fz5 wl.heap.size) ∧ ((k : Int) ≤ xs.length)) 0 ⟨_, _, _, _, upd_self6 rfl rfl (slice_len rfl) rfl rfl rfl, L, (by omega), o16, (f16.mono (by omega)), (g16.mono (by omega)), (by omega)⟩ ?_
   rintro k E wl7 ⟨E0, pz5, cz5, Fz5, rfl, L, Lz, oz5, fz5, gz5, hk⟩
   have Lz0 := L.size; have hskl := scaledK_length xs q k
   refine wp_seq (c_reg ?_)
   refine sb (x_lss rfl rfl) (fun h20 => ?_) (fun h20 => ?_)
   ·refine c_end (n_then (wp_seq (c_true rfl (c_skipn (n_then (wp_seq (wp_block (wp_seq (c_reg (s0 (xmI rfl) (s0 (x_idx so24 rfl rfl hp (by decide) (by omega) (by omega)) (st (x_ldi sc3 rfl (hp.ext L) (by omega) (by omega)) (s0 (xaI rfl) ?_)))))))))))))
    refine s0 (xaI rfl) (c_end (n_then ?_))
    have hlv := levels_any h9 (k : Int).toNat; have hsr := stepOf_rng q; have hnr := normAt_range (sideOf xs.length) (k : Int); have hm3 := mul3 hlv hsr hnr
    refine c_reg (s0 (xmS rfl) (s0 (xmI rfl) (s0 (xmI rfl) ?_)))
    refine sr (zcall cl191 rfl) (i_stepOf _ _) ?_
    intro w8 l9
    have z_l9 := l9.size; have L := L.tr l9.up; have oz5 := oz5.ext l9
    refine s0 (x_mul rfl rfl (by omega)) (s0 (xmS rfl) (s0 (x_lensl un24 rfl) ?_))
    refine sr (zcall cl76 rfl) (i_sizeOf _ _) ?_
    intro w10 l11
    have z_l11 := l11.size; have L := L.tr l11.up; have oz5 := oz5.ext l11
    refine s0 (xmI rfl) ?_
    refine sr (zcall cl192 rfl) (i_normAt _ _ _ (by omega)) ?_
    intro w12 l13
    have z_l13 := l13.size; have L := L.tr l13.up; have oz5 := oz5.ext l13
    refine s0 (x_mul rfl rfl (by omega)) ?_
    refine s_bsi (xs := [_]) so24 zr3 (pts_cons rfl pts_nil) rfl rfl rfl ?_
    intro p35 F35 w14 l15 o35 f35 g35
    have z_l15 := l15.size; have L := L.tr l15.up; have oz5 := oz5.ext l15; have hn35 := o35.n1
    refine s_appi (B := w3.heap.size) so24 zr3 rfl rfl (xs := _) oz5 o35.sl fz5 (by omega) (by omega) (by omega) ?_
    intro p36 c36 F36 w16 l17 o36 hn36 k36 f36 g36
    have z_l17 := l17.size; have L := L.freshL l17 fz5 (by omega); have d35_36 : Dj F35 F36 := k36.dj (by first|assumption|exact Dj.symm (by assumption)|exact dj_of f35 g35 fz5 gz5 (by omega)) g35 (by omega)
    have o35 := o35.exm l17 (by first|assumption|exact Dj.symm (by assumption)|exact dj_of fz5 gz5 f35 g35 (by omega))
    refine s0 (xaS rfl) (c_end (n_block (n_then (c_reg (s0 (x_add rfl rfl (by omega)) (s0 (xmI rfl) (c_end ?_)))))))
    exact c_round (g' := k + 1) (by omega) ⟨_, _, _, _, upd_self6 rfl rfl (slice_len (by rw [scaledK_succ, Int.toNat_natCast])) rfl rfl (vint (by omega)), L, (by omega), (by rw [scaledK_succ]; rw [Int.toNat_natCast] at o36; exact o36), (f36.mono (by omega)), (g36.mono (by omega)), (by omega)⟩
   ·refine c_end (n_then (wp_seq (c_false rfl ?_)))
    refine wp_exit (e_then (e_then (e_here ?_)))
    refine n_then (wp_seq (c_reg (s0 (xmS rfl) (s0 (xaS rfl) (c_end (n_then (wp_ret (f_ret rfl rfl ?_))))))))
    have he : scaled xs q = scaledK xs q k := by unfold scaled; rw [if_pos ⟨h9, h14⟩, show k = xs.length by omega]
    rw [he]
    exact ⟨_, rfl, L, _, _, _, rfl, oz5, fz5.mono (by omega)⟩
 ·have z_l2 := l2.size
  have L := L.tr l2.up
  refine s0 (x_not rfl) (s0 (x_move (v := .bool _) rfl) (gf rfl rfl rfl rfl (gf rfl rfl rfl rfl (gf rfl rfl rfl rfl (s0 (x_pickt (v := .bool _) rfl rfl) (c_end (n_then (c_true rfl (wp_seq (c_reg (s0 (xaS rfl) (c_end (n_then ?_)))))))))))))
  refine wp_ret (r_then ?_)
  refine f_ret rfl rfl ?_
  rw [scaled_no (fun h => h9 h.1)]
  exact ⟨_, rfl, L, none, 0, [], rfl, Own.nil, Fr.no⟩

end Go.Proofs.YtepnknffaecbdaaGreat
