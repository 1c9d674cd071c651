/- What each function of this part returns, for every argument that meets its premises. -/
import Derived.Test.YtepnknffaecbdaaGreatProg
import Derived.Test.YtepnknffaecbdaaGreatVSxA
import Derived.Test.YtepnknffaecbdaaGreatVTy
import Derived.Test.YtepnknffaecbdaaGreatVPlA
import Derived.Test.YtepnknffaecbdaaGreatVF1
import Derived.Test.YtepnknffaecbdaaGreatVF7
namespace Go.Proofs.YtepnknffaecbdaaGreat
open Go.Sx Go.Pl Go.RowKit
theorem i_bitsIn (n u : Int) (w : World) (hn : -9223372036854775808 ≤ n ∧ n ≤ 9223372036854775807) (hu : -9223372036854775808 ≤ u ∧ u ≤ 9223372036854775807) :
    Calls Tryz.prog 224 [.int .i64 n, .int .i64 u].toArray w (RetP w fun v w' => ∃ p c F, v = .slice p (bitsIn n u).length c ∧ Own w' p (bitsIn n u).length c 3 1 (ic (bitsIn n u)) F ∧ Fr w.heap.size F) := by
 have L : Exm [] w w := Exm.rfl'
 refine enter (n := 35) Tryz.func224 rfl rfl rfl ?_
 refine wp_seq (c_reg (s0 (xaS rfl) (c_end (n_then (wp_seq (wp_seq (c_reg (s0 (xmI rfl) ?_))))))))
 refine srb (zcall cl77 rfl) (i_within _ _ _ _) (fun h8 w1 l2 => ?_) (fun h8 w1 l2 => ?_)
 ·have z_l2 := l2.size
  have L := L.tr l2.up
  refine s0 (x_not rfl) (s0 (x_move (v := .bool _) rfl) (gt rfl rfl rfl rfl (s0 (xmI rfl) (gt rfl rfl rfl rfl ?_))))
  refine sb (x_lss rfl rfl) (fun h12 => ?_) (fun h12 => ?_)
  ·refine s0 (x_pickf (v := .bool _) rfl rfl) (s0 (x_move (v := .bool _) rfl) (gf rfl rfl rfl rfl (gf rfl rfl rfl rfl (gf rfl rfl rfl rfl (gf rfl rfl rfl rfl (s0 (x_pickt (v := .bool _) rfl rfl) (c_end (n_then (c_true rfl (wp_seq (c_reg (s0 (xaS rfl) (c_end ?_)))))))))))))
   refine n_then ?_
   refine wp_ret (r_then ?_)
   refine f_ret rfl rfl ?_
   rw [bitsIn_no (fun h => by have := h.2.1; omega)]
   exact ⟨_, rfl, L, none, 0, [], rfl, Own.nil, Fr.no⟩
  ·refine s0 (x_pickf (v := .bool _) rfl rfl) (s0 (x_move (v := .bool _) rfl) (gt rfl rfl rfl rfl (s0 (xmI rfl) (gt rfl rfl rfl rfl (s0 (xmI rfl) (gt rfl rfl rfl rfl ?_))))))
   refine s0 (x_shr rfl rfl (by simp only [IntKind.bits]; omega)) ?_
   refine gt rfl rfl rfl rfl ?_
   refine sb (x_neq rfl rfl) (fun h18 => ?_) (fun h18 => ?_)
   ·refine s0 (x_pickf (v := .bool _) rfl rfl) (c_end (n_then (c_true rfl (wp_seq (c_reg (s0 (xaS rfl) (c_end (n_then ?_))))))))
    refine wp_ret (r_then ?_)
    refine f_ret rfl rfl ?_
    rw [bitsIn_no (fun h => h18 h.2.2)]
    exact ⟨_, rfl, L, none, 0, [], rfl, Own.nil, Fr.no⟩
   ·refine s0 (x_pickf (v := .bool _) rfl rfl) (c_end (n_then (c_false rfl (c_skipn (n_then (wp_seq (c_reg (s_bs0 so24 ?_))))))))
    intro p20 F20 w3 l4 o20 f20 g20
    have o20 : Own w3 p20 0 0 3 1 (ic []) F20 := o20; have z_l4 := l4.size; have L := L.tr l4.up
    refine s0 (xaS rfl) (c_end (n_then (wp_seq (wp_seq (c_reg (s0 (xmI rfl) (s0 (x_sub rfl rfl (by omega)) (s0 (xaI rfl) (c_end (n_then (wp_block ?_)))))))))))
    refine c_loop (γ := Nat) (fun k => u.toNat - k) (fun (k : Nat) E wl => ∃ E0 pz5 cz5 Fz5, E = upd (upd (upd E0 0 (.int .i64 n)) 5 (.slice pz5 (((bitsl n u.toNat).take k).length) cz5)) 6 (.int .i64 (u - 1 - k)) ∧ (Exm [] w wl) ∧ (w3.heap.size ≤ wl.heap.size) ∧ (Own wl pz5 (((bitsl n u.toNat).take k).length) cz5 3 1 (ic ((bitsl n u.toNat).take k)) Fz5) ∧ (Fr (w1.heap.size) Fz5) ∧ (Lt Fz5 wl.heap.size) ∧ ((k : Int) ≤ u)) 0 ⟨_, _, _, _, upd_self3 rfl rfl (vint (by omega)), L, (by omega), o20, (f20.mono (by omega)), (g20.mono (by omega)), (by omega)⟩ ?_
    rintro k E wl5 ⟨E0, pz5, cz5, Fz5, rfl, L, Lz, oz5, fz5, gz5, hk⟩
    have Lz0 := L.size; have hlen : ((bitsl n u.toNat).take k).length ≤ k := List.length_take_le _ _; have hq := Int.ediv_nonneg (a := n) (b := 2 ^ (u - 1 - k).toNat) (by omega) (Int.le_of_lt (two_pow_pos _)); have hq2 := Int.ediv_le_self (b := 2 ^ (u - 1 - k).toNat) (show 0 ≤ n by omega)
    refine wp_seq (wp_seq (c_reg (s0 (xmI rfl) ?_)))
    refine sb (x_geq rfl rfl) (fun h24 => ?_) (fun h24 => ?_)
    ·refine c_end (n_then (c_true rfl (c_skipn (n_then (wp_seq (wp_block (c_reg (s0 (xmS rfl) (s0 (xmI rfl) (s0 (xmI rfl) ?_))))))))))
     refine s0 (x_shr rfl rfl (by simp only [IntKind.bits]; omega)) ?_
     refine s0 (x_and1 rfl rfl (by omega) (by omega)) ?_
     refine s_bsi (xs := [_]) so24 zr3 (pts_cons rfl pts_nil) rfl rfl rfl ?_
     intro p32 F32 w6 l7 o32 f32 g32
     have z_l7 := l7.size; have L := L.tr l7.up; have oz5 := oz5.ext l7; have hn32 := o32.n1
     refine s_appi (B := w1.heap.size) so24 zr3 rfl rfl (xs := _) oz5 o32.sl fz5 (by omega) (by omega) (by omega) ?_
     intro p33 c33 F33 w8 l9 o33 hn33 k33 f33 g33
     have z_l9 := l9.size; have L := L.freshL l9 fz5 (by omega); have d32_33 : Dj F32 F33 := k33.dj (by first|assumption|exact Dj.symm (by assumption)|exact dj_of f32 g32 fz5 gz5 (by omega)) g32 (by omega)
     have o32 := o32.exm l9 (by first|assumption|exact Dj.symm (by assumption)|exact dj_of fz5 gz5 f32 g32 (by omega))
     refine s0 (xaS rfl) (c_end (n_block (n_then (c_reg (s0 (xmI rfl) (s0 (x_sub rfl rfl (by omega)) (s0 (xaI rfl) (c_end ?_))))))))
     exact c_round (g' := k + 1) (by omega) ⟨_, _, _, _, upd_self3 rfl (by (rw [bitsl_take (by omega)]); rfl) (vint (by omega)), L, (by omega), (by (rw [bitsl_take (by omega)]); exact o33), (f33.mono (by omega)), (g33.mono (by omega)), (by omega)⟩
    ·refine c_end (n_then (c_false rfl ?_))
     refine wp_exit (e_then (e_then (e_here ?_)))
     refine n_then (wp_seq (c_reg (s0 (xmS rfl) (s0 (xaS rfl) (c_end (n_then (wp_ret (f_ret rfl rfl ?_))))))))
     rw [bitsIn_yes (k := k) ⟨h8, by omega, by omega⟩ (by omega)]
     exact ⟨_, rfl, L, _, _, _, rfl, oz5, fz5.mono (by omega)⟩
 ·have z_l2 := l2.size
  have L := L.tr l2.up
  refine s0 (x_not rfl) (s0 (x_move (v := .bool _) rfl) (gf rfl rfl rfl rfl (gf rfl rfl rfl rfl (s0 (x_pickt (v := .bool _) rfl rfl) (s0 (x_move (v := .bool _) rfl) (gf rfl rfl rfl rfl (gf rfl rfl rfl rfl (gf rfl rfl rfl rfl (gf rfl rfl rfl rfl (s0 (x_pickt (v := .bool _) rfl rfl) (c_end (n_then (c_true rfl ?_)))))))))))))
  refine wp_seq (c_reg (s0 (xaS rfl) (c_end (n_then ?_))))
  refine wp_ret (r_then ?_)
  refine f_ret rfl rfl ?_
  rw [bitsIn_no (fun h => h8 h.1)]
  exact ⟨_, rfl, L, none, 0, [], rfl, Own.nil, Fr.no⟩

theorem s_bitsIn (n u : Int) (w : World) (hn : -9223372036854775808 ≤ n ∧ n ≤ 9223372036854775807) (hu : -9223372036854775808 ≤ u ∧ u ≤ 9223372036854775807) :
    Calls Tryz.prog 86 [.int .i64 n, .int .i64 u].toArray w (RetP w fun v w' => ∃ p c F, v = .slice p (bitsIn n u).length c ∧ Own w' p (bitsIn n u).length c 3 1 (ic (bitsIn n u)) F ∧ Fr w.heap.size F) := by
 have L : Exm [] w w := Exm.rfl'
 refine enter (n := 36) Tryz.func86 rfl rfl rfl ?_
 refine wp_seq (c_reg (s0 (xaS rfl) (c_end (n_then (wp_seq (c_reg (s_bs0 so24 ?_)))))))
 intro p7 F7 w1 l2 o7 f7 g7
 have o7 : Own w1 p7 0 0 3 1 (ic []) F7 := o7; have z_l2 := l2.size; have L := L.tr l2.up
 refine s0 (xaS rfl) (c_end (n_then (wp_seq (wp_seq (c_reg (s0 (xmI rfl) ?_))))))
 refine srb (zcall cl85 rfl) (s_l1In _ _ _ _) (fun h9 w3 l4 => ?_) (fun h9 w3 l4 => ?_)
 ·have z_l4 := l4.size
  have L := L.tr l4.up; have o7 := o7.ext l4
  refine s0 (x_not rfl) (s0 (x_move (v := .bool _) rfl) (gt rfl rfl rfl rfl (s0 (xmI rfl) (gt rfl rfl rfl rfl ?_))))
  refine sb (x_lss rfl rfl) (fun h13 => ?_) (fun h13 => ?_)
  ·refine s0 (x_pickf (v := .bool _) rfl rfl) (s0 (x_move (v := .bool _) rfl) (gf rfl rfl rfl rfl (gf rfl rfl rfl rfl (gf rfl rfl rfl rfl (gf rfl rfl rfl rfl (s0 (x_pickt (v := .bool _) rfl rfl) (c_end (n_then (c_true rfl (wp_seq (c_reg (s0 (xmS rfl) (s0 (xaS rfl) ?_)))))))))))))
   refine c_end (n_then ?_)
   refine wp_ret (r_then ?_)
   refine f_ret rfl rfl ?_
   rw [bitsIn_no (fun h => by have := h.2.1; omega)]
   exact ⟨_, rfl, L, _, _, _, rfl, o7, f7⟩
  ·refine s0 (x_pickf (v := .bool _) rfl rfl) (s0 (x_move (v := .bool _) rfl) (gt rfl rfl rfl rfl (s0 (xmI rfl) (gt rfl rfl rfl rfl (s0 (xmI rfl) (gt rfl rfl rfl rfl ?_))))))
   refine s0 (x_shr rfl rfl (by simp only [IntKind.bits]; omega)) ?_
   refine gt rfl rfl rfl rfl ?_
   refine sb (x_neq rfl rfl) (fun h19 => ?_) (fun h19 => ?_)
   ·refine s0 (x_pickf (v := .bool _) rfl rfl) (c_end (n_then (c_true rfl (wp_seq (c_reg (s0 (xmS rfl) (s0 (xaS rfl) (c_end (n_then ?_)))))))))
    refine wp_ret (r_then ?_)
    refine f_ret rfl rfl ?_
    rw [bitsIn_no (fun h => h19 h.2.2)]
    exact ⟨_, rfl, L, _, _, _, rfl, o7, f7⟩
   ·refine s0 (x_pickf (v := .bool _) rfl rfl) (c_end (n_then (c_false rfl (c_skipn (n_then (wp_seq (wp_seq (c_reg (s0 (xmI rfl) (s0 (x_sub rfl rfl (by omega)) (s0 (xaI rfl) (c_end (n_then ?_)))))))))))))
    refine wp_block ?_
    refine c_loop (γ := Nat) (fun k => u.toNat - k) (fun (k : Nat) E wl => ∃ E0 pz5 cz5 Fz5, E = upd (upd (upd E0 0 (.int .i64 n)) 5 (.slice pz5 (((bitsl n u.toNat).take k).length) cz5)) 6 (.int .i64 (u - 1 - k)) ∧ (Exm [] w wl) ∧ (w3.heap.size ≤ wl.heap.size) ∧ (Own wl pz5 (((bitsl n u.toNat).take k).length) cz5 3 1 (ic ((bitsl n u.toNat).take k)) Fz5) ∧ (Fr (w.heap.size) Fz5) ∧ (Lt Fz5 wl.heap.size) ∧ ((k : Int) ≤ u)) 0 ⟨_, _, _, _, upd_self3 rfl rfl (vint (by omega)), L, (by omega), o7, (f7.mono (by omega)), (g7.mono (by omega)), (by omega)⟩ ?_
    rintro k E wl5 ⟨E0, pz5, cz5, Fz5, rfl, L, Lz, oz5, fz5, gz5, hk⟩
    have Lz0 := L.size; have hlen : ((bitsl n u.toNat).take k).length ≤ k := List.length_take_le _ _; have hq := Int.ediv_nonneg (a := n) (b := 2 ^ (u - 1 - k).toNat) (by omega) (Int.le_of_lt (two_pow_pos _)); have hq2 := Int.ediv_le_self (b := 2 ^ (u - 1 - k).toNat) (show 0 ≤ n by omega)
    refine wp_seq (wp_seq (c_reg (s0 (xmI rfl) ?_)))
    refine sb (x_geq rfl rfl) (fun h25 => ?_) (fun h25 => ?_)
    ·refine c_end (n_then (c_true rfl (c_skipn (n_then (wp_seq (wp_block (c_reg (s0 (xmS rfl) (s0 (xmI rfl) (s0 (xmI rfl) ?_))))))))))
     refine s0 (x_shr rfl rfl (by simp only [IntKind.bits]; omega)) ?_
     refine s0 (x_and1 rfl rfl (by omega) (by omega)) ?_
     refine s_bsi (xs := [_]) so24 zr3 (pts_cons rfl pts_nil) rfl rfl rfl ?_
     intro p33 F33 w6 l7 o33 f33 g33
     have z_l7 := l7.size; have L := L.tr l7.up; have oz5 := oz5.ext l7; have hn33 := o33.n1
     refine s_appi (B := w.heap.size) so24 zr3 rfl rfl (xs := _) oz5 o33.sl fz5 (by omega) (by omega) (by omega) ?_
     intro p34 c34 F34 w8 l9 o34 hn34 k34 f34 g34
     have z_l9 := l9.size; have L := L.freshL l9 fz5 (by omega); have d33_34 : Dj F33 F34 := k34.dj (by first|assumption|exact Dj.symm (by assumption)|exact dj_of f33 g33 fz5 gz5 (by omega)) g33 (by omega)
     have o33 := o33.exm l9 (by first|assumption|exact Dj.symm (by assumption)|exact dj_of fz5 gz5 f33 g33 (by omega))
     refine s0 (xaS rfl) (c_end (n_block (n_then (c_reg (s0 (xmI rfl) (s0 (x_sub rfl rfl (by omega)) (s0 (xaI rfl) (c_end ?_))))))))
     exact c_round (g' := k + 1) (by omega) ⟨_, _, _, _, upd_self3 rfl (by (rw [bitsl_take (by omega)]); rfl) (vint (by omega)), L, (by omega), (by (rw [bitsl_take (by omega)]); exact o34), (f34.mono (by omega)), (g34.mono (by omega)), (by omega)⟩
    ·refine c_end (n_then (c_false rfl ?_))
     refine wp_exit (e_then (e_then (e_here ?_)))
     refine n_then (wp_seq (c_reg (s0 (xmS rfl) (s0 (xaS rfl) (c_end (n_then (wp_ret (f_ret rfl rfl ?_))))))))
     rw [bitsIn_yes (k := k) ⟨h9, by omega, by omega⟩ (by omega)]
     exact ⟨_, rfl, L, _, _, _, rfl, oz5, fz5.mono (by omega)⟩
 ·have z_l4 := l4.size
  have L := L.tr l4.up; have o7 := o7.ext l4
  refine s0 (x_not rfl) (s0 (x_move (v := .bool _) rfl) (gf rfl rfl rfl rfl (gf rfl rfl rfl rfl (s0 (x_pickt (v := .bool _) rfl rfl) (s0 (x_move (v := .bool _) rfl) (gf rfl rfl rfl rfl (gf rfl rfl rfl rfl (gf rfl rfl rfl rfl (gf rfl rfl rfl rfl (s0 (x_pickt (v := .bool _) rfl rfl) (c_end (n_then (c_true rfl ?_)))))))))))))
  refine wp_seq (c_reg (s0 (xmS rfl) (s0 (xaS rfl) (c_end (n_then ?_)))))
  refine wp_ret (r_then ?_)
  refine f_ret rfl rfl ?_
  rw [bitsIn_no (fun h => h9 h.1)]
  exact ⟨_, rfl, L, _, _, _, rfl, o7, f7⟩

theorem by_no {xs : List Int} (h : ¬ byOk xs) : Ending.returned (.tuple [.string ⟨#[]⟩, .bool false].toArray) = .returned (.tuple [.string (bytesStr xs), .bool (decide (byOk xs))].toArray) := by simp only [bytesStr, if_neg h, decide_eq_false h]
theorem by_yes {xs ys : List Int} (h : byOk xs) (hy : ys = bytesl xs) : Ending.returned (.tuple [.string (strOf ys), .bool true].toArray) = .returned (.tuple [.string (bytesStr xs), .bool (decide (byOk xs))].toArray) := by simp only [bytesStr, if_pos h, decide_eq_true h, hy, packs]

theorem div_ne {a b : Int} (h : 0 ≤ a) (hb : 0 < b) : a / b ≠ 0 ↔ b ≤ a := by
  constructor
  · intro h1
    rcases Int.lt_or_le a b with h2 | h2
    · exact absurd (Int.ediv_eq_zero_of_lt h h2) h1
    · exact h2
  · intro h1 h2
    have := Int.lt_ediv_add_one_mul_self a hb
    rw [h2] at this; omega
theorem s_l6Zeros (n : Int) (w : World) (hn : 0 ≤ n ∧ n ≤ 65534) :
    Calls Tryz.prog 154 [.int .i64 n].toArray w (Ret w (.int .i64 (lz n))) := by
 have hz := lz_spec hn.1; have hz2 := lz_range hn; have L : Exm [] w w := Exm.rfl'
 refine enter (n := 13) Tryz.func154 rfl rfl rfl ?_
 refine wp_seq (c_reg (s0 (xaI rfl) (c_end (n_then (wp_seq (c_reg (s0 (xaI rfl) (c_end (n_then (wp_seq (wp_block ?_)))))))))))
 refine c_loop (γ := Nat) (fun k => 16 - k) (fun (k : Nat) E wl => ∃ E0, E = upd (upd E0 0 (.int .i64 n)) 3 (.int .i64 (k : Int)) ∧ (Exm [] w wl) ∧ ((k : Int) ≤ 15) ∧ ((2 : Int) ^ k ≤ n + 1)) 0 ⟨_, upd_self2 rfl rfl, L, (by simp), (by simp; omega)⟩ ?_
 rintro k E wl1 ⟨E0, rfl, L, hk, hp⟩
 have Lz0 := L.size; have hd : (n + 1) / 2 ^ (k + 1) ≠ 0 ↔ 2 ^ (k + 1) ≤ n + 1 := div_ne (by omega) (two_pow_pos _); have ee : ((k : Int) + 1).toNat = k + 1 := by omega
 have h65 : k = 15 → (2 : Int) ^ (k + 1) = 65536 := fun h => by subst h; rfl
 refine wp_seq (wp_seq (c_reg (s0 (xmI rfl) (s0 (x_add rfl rfl (by omega)) (s0 (xmI rfl) (s0 (x_add rfl rfl (by omega)) ?_))))))
 refine s0 (x_shr rfl rfl (by simp only [IntKind.bits]; omega)) ?_
 refine sb (x_neq rfl rfl) (fun h9 => ?_) (fun h9 => ?_)
 ·refine c_end (n_then (c_true rfl (c_skipn (n_then (wp_block (c_reg (s0 (xmI rfl) (s0 (x_add rfl rfl (by omega)) (s0 (xaI rfl) (c_end (n_block ?_)))))))))))
  exact c_round (g' := k + 1) (by omega) ⟨_, upd_self2 rfl (vint (by omega)), L, (by rw [ee] at h9; have := hd.1 h9; omega), (by rw [ee] at h9; exact hd.1 h9)⟩
 ·refine c_end (n_then (c_false rfl ?_))
  refine wp_exit (e_then (e_then (e_here ?_)))
  refine n_then (wp_seq (c_reg (s0 (xmI rfl) (s0 (xaI rfl) (c_end (n_then (wp_ret (f_ret rfl rfl ?_))))))))
  exact ⟨ret_int (lz_uniq hn.1 hp (by rw [ee] at h9; omega)).symm, L⟩

end Go.Proofs.YtepnknffaecbdaaGreat
