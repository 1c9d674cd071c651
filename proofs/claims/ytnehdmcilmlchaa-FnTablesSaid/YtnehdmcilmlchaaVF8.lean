/- What each function of this part returns, for every argument that meets its premises. -/
import Derived.Test.YtnehdmcilmlchaaProg
import Derived.Test.YtnehdmcilmlchaaVSxF
import Derived.Test.YtnehdmcilmlchaaVPlX
import Derived.Test.YtnehdmcilmlchaaVF1
import Derived.Test.YtnehdmcilmlchaaVF7
namespace Go.Proofs.Ytnehdmcilmlchaa
open Go.Sx Go.Pl Go.RowKit
theorem cl178F8 : Callable Try.prog 178 := callable Try.func178 (by kernel_rfl) rfl
theorem cl235F8 : Callable Try.prog 235 := callable Try.func235 (by kernel_rfl) rfl
theorem cl88F8 : Callable Try.prog 88 := callable Try.func88 (by kernel_rfl) rfl
theorem cl95F8 : Callable Try.prog 95 := callable Try.func95 (by kernel_rfl) rfl
theorem sc3F8 : Sc Try.prog 3 := ⟨(.int .i64), by kernel_rfl, trivial⟩
theorem sc5F8 : Sc Try.prog 5 := ⟨(.int .u8), by kernel_rfl, trivial⟩
theorem so22F8 : SliceOf Try.prog 22 5 1 1 := ⟨by kernel_rfl, by kernel_rfl⟩
theorem so40F8 : SliceOf Try.prog 40 3 1 8 := ⟨by kernel_rfl, by kernel_rfl⟩
theorem sz5F8 : Sz Try.prog 5 1 := by unfold Sz; kernel_rfl
theorem un22F8 : Try.prog.underlying 22 = some (.slice 5) := by kernel_rfl
theorem un40F8 : Try.prog.underlying 40 = some (.slice 3) := by kernel_rfl
theorem un5F8 : Try.prog.underlying 5 = some (.int .u8) := by kernel_rfl
theorem un9F8 : Try.prog.underlying 9 = some .string := by kernel_rfl
theorem us3F8 : (Try.prog.underlying 3).isSome = true := by kernel_rfl
theorem zr3F8 : ZeroV Try.prog 3 [.int .i64 0] := by unfold ZeroV; kernel_rfl
theorem zr5F8 : ZeroV Try.prog 5 [.int .u8 0] := by unfold ZeroV; kernel_rfl
/-- impl.BitsIn -/
theorem i_bitsIn (n u : Int) (w : World) (hn : -9223372036854775808 ≤ n ∧ n ≤ 9223372036854775807) (hu : -9223372036854775808 ≤ u ∧ u ≤ 9223372036854775807) :
    Calls Try.prog 92 [.int .i64 n, .int .i64 u].toArray w (RetP w fun v w' => ∃ p c F, v = .slice p (bitsIn n u).length c ∧ Own w' p (bitsIn n u).length c 3 1 (ic (bitsIn n u)) F ∧ Fr w.heap.size F) := by
  have L : Exm [] w w := Exm.rfl'
  refine enter (n := 35) Try.func92 rfl rfl rfl ?_
  refine wp_seq ?_
  refine c_reg ?_
  refine s0 (x_assign (v := .slice _ _ _) rfl) ?_
  refine c_end ?_
  refine n_then ?_
  refine wp_seq ?_
  refine wp_seq ?_
  refine c_reg ?_
  refine s0 (x_move (v := .int _ _) rfl) ?_
  refine srb (zcall cl88F8 rfl) (i_within _ _ _ _) (fun h8 w1 l2 => ?_) (fun h8 w1 l2 => ?_)
  · have z_l2 := l2.size
    have L := L.tr l2.up
    refine s0 (x_not rfl) ?_
    refine s0 (x_move (v := .bool _) rfl) ?_
    refine gt rfl rfl rfl rfl ?_
    refine s0 (x_move (v := .int _ _) rfl) ?_
    refine gt rfl rfl rfl rfl ?_
    refine sb (x_lss rfl rfl) (fun h12 => ?_) (fun h12 => ?_)
    · refine s0 (x_pickf (v := .bool _) rfl rfl) ?_
      refine s0 (x_move (v := .bool _) rfl) ?_
      refine gf rfl rfl rfl rfl ?_
      refine gf rfl rfl rfl rfl ?_
      refine gf rfl rfl rfl rfl ?_
      refine gf rfl rfl rfl rfl ?_
      refine s0 (x_pickt (v := .bool _) rfl rfl) ?_
      refine c_end ?_
      refine n_then ?_
      refine c_true rfl ?_
      refine wp_seq ?_
      refine c_reg ?_
      refine s0 (x_assign (v := .slice _ _ _) rfl) ?_
      refine c_end ?_
      refine n_then ?_
      refine wp_ret (r_then ?_)
      refine f_ret rfl rfl ?_
      rw [bitsIn_no (fun h => by have := h.2.1; omega)]
      exact ⟨_, rfl, L, none, 0, [], rfl, Own.nil, Fr.no⟩
    · refine s0 (x_pickf (v := .bool _) rfl rfl) ?_
      refine s0 (x_move (v := .bool _) rfl) ?_
      refine gt rfl rfl rfl rfl ?_
      refine s0 (x_move (v := .int _ _) rfl) ?_
      refine gt rfl rfl rfl rfl ?_
      refine s0 (x_move (v := .int _ _) rfl) ?_
      refine gt rfl rfl rfl rfl ?_
      refine s0 (x_shr rfl rfl (by simp only [IntKind.bits]; omega)) ?_
      refine gt rfl rfl rfl rfl ?_
      refine sb (x_neq rfl rfl) (fun h18 => ?_) (fun h18 => ?_)
      · refine s0 (x_pickf (v := .bool _) rfl rfl) ?_
        refine c_end ?_
        refine n_then ?_
        refine c_true rfl ?_
        refine wp_seq ?_
        refine c_reg ?_
        refine s0 (x_assign (v := .slice _ _ _) rfl) ?_
        refine c_end ?_
        refine n_then ?_
        refine wp_ret (r_then ?_)
        refine f_ret rfl rfl ?_
        rw [bitsIn_no (fun h => h18 h.2.2)]
        exact ⟨_, rfl, L, none, 0, [], rfl, Own.nil, Fr.no⟩
      · refine s0 (x_pickf (v := .bool _) rfl rfl) ?_
        refine c_end ?_
        refine n_then ?_
        refine c_false rfl ?_
        refine c_skipn ?_
        refine n_then ?_
        refine wp_seq ?_
        refine c_reg ?_
        refine s_bs0 so40F8 ?_
        intro p20 F20 w3 l4 o20 f20 g20
        have o20 : Own w3 p20 0 0 3 1 (ic []) F20 := o20
        have z_l4 := l4.size
        have L := L.tr l4.up
        refine s0 (x_assign (v := .slice _ _ _) rfl) ?_
        refine c_end ?_
        refine n_then ?_
        refine wp_seq ?_
        refine wp_seq ?_
        refine c_reg ?_
        refine s0 (x_move (v := .int _ _) rfl) ?_
        refine s0 (x_sub rfl rfl (by omega)) ?_
        refine s0 (x_assign (v := .int _ _) rfl) ?_
        refine c_end ?_
        refine n_then ?_
        refine wp_block ?_
        refine c_loop (γ := Nat) (fun k => u.toNat - k) (fun (k : Nat) E wl => ∃ E0 pz5 cz5 Fz5, E = upd (upd (upd E0 0 (.int .i64 n)) 5 (.slice pz5 (((bitsl n u.toNat).take k).length) cz5)) 6 (.int .i64 (u - 1 - k)) ∧ (Exm [] w wl) ∧ (w3.heap.size ≤ wl.heap.size) ∧ (Own wl pz5 (((bitsl n u.toNat).take k).length) cz5 3 1 (ic ((bitsl n u.toNat).take k)) Fz5) ∧ (Fr (w1.heap.size) Fz5) ∧ (Lt Fz5 wl.heap.size) ∧ ((k : Int) ≤ u)) 0 ⟨_, _, _, _, upd_self3 rfl rfl (vint (by omega)), L, (by omega), o20, (f20.mono (by omega)), (g20.mono (by omega)), (by omega)⟩ ?_
        rintro k E wl5 ⟨E0, pz5, cz5, Fz5, rfl, L, Lz, oz5, fz5, gz5, hk⟩
        have Lz0 := L.size
        have hlen : ((bitsl n u.toNat).take k).length ≤ k := List.length_take_le _ _
        have hq := Int.ediv_nonneg (a := n) (b := 2 ^ (u - 1 - k).toNat) (by omega) (Int.le_of_lt (two_pow_pos _))
        have hq2 := Int.ediv_le_self (b := 2 ^ (u - 1 - k).toNat) (show 0 ≤ n by omega)
        refine wp_seq ?_
        refine wp_seq ?_
        refine c_reg ?_
        refine s0 (x_move (v := .int _ _) rfl) ?_
        refine sb (x_geq rfl rfl) (fun h24 => ?_) (fun h24 => ?_)
        · refine c_end ?_
          refine n_then ?_
          refine c_true rfl ?_
          refine c_skipn ?_
          refine n_then ?_
          refine wp_seq ?_
          refine wp_block ?_
          refine c_reg ?_
          refine s0 (x_move (v := .slice _ _ _) rfl) ?_
          refine s0 (x_move (v := .int _ _) rfl) ?_
          refine s0 (x_move (v := .int _ _) rfl) ?_
          refine s0 (x_shr rfl rfl (by simp only [IntKind.bits]; omega)) ?_
          refine s0 (x_and1 rfl rfl (by omega) (by omega)) ?_
          refine s_bsi (xs := [_]) so40F8 zr3F8 (pts_cons rfl pts_nil) rfl rfl rfl ?_
          intro p32 F32 w6 l7 o32 f32 g32
          have z_l7 := l7.size
          have L := L.tr l7.up
          have oz5 := oz5.ext l7
          have hn32 := o32.n1
          refine s_appi (B := w1.heap.size) so40F8 zr3F8 rfl rfl (xs := _) oz5 o32.sl fz5 (by omega) (by omega) (by omega) ?_
          intro p33 c33 F33 w8 l9 o33 hn33 k33 f33 g33
          have z_l9 := l9.size
          have L := L.freshL l9 fz5 (by omega)
          have d32_33 : Dj F32 F33 := k33.dj (by first | assumption | exact Dj.symm (by assumption) | exact dj_of f32 g32 fz5 gz5 (by omega)) g32 (by omega)
          have o32 := o32.exm l9 (by first | assumption | exact Dj.symm (by assumption) | exact dj_of fz5 gz5 f32 g32 (by omega))
          refine s0 (x_assign (v := .slice _ _ _) rfl) ?_
          refine c_end ?_
          refine n_block ?_
          refine n_then ?_
          refine c_reg ?_
          refine s0 (x_move (v := .int _ _) rfl) ?_
          refine s0 (x_sub rfl rfl (by omega)) ?_
          refine s0 (x_assign (v := .int _ _) rfl) ?_
          refine c_end ?_
          exact c_round (g' := k + 1) (by omega) ⟨_, _, _, _, upd_self3 rfl (by (rw [bitsl_take (by omega)]); rfl) (vint (by omega)), L, (by omega), (by (rw [bitsl_take (by omega)]); exact o33), (f33.mono (by omega)), (g33.mono (by omega)), (by omega)⟩
        · refine c_end ?_
          refine n_then ?_
          refine c_false rfl ?_
          refine wp_exit (e_then (e_then (e_here ?_)))
          refine n_then ?_
          refine wp_seq ?_
          refine c_reg ?_
          refine s0 (x_move (v := .slice _ _ _) rfl) ?_
          refine s0 (x_assign (v := .slice _ _ _) rfl) ?_
          refine c_end ?_
          refine n_then ?_
          refine wp_ret ?_
          refine f_ret rfl rfl ?_
          rw [bitsIn_yes (k := k) ⟨h8, by omega, by omega⟩ (by omega)]
          exact ⟨_, rfl, L, _, _, _, rfl, oz5, fz5.mono (by omega)⟩
  · have z_l2 := l2.size
    have L := L.tr l2.up
    refine s0 (x_not rfl) ?_
    refine s0 (x_move (v := .bool _) rfl) ?_
    refine gf rfl rfl rfl rfl ?_
    refine gf rfl rfl rfl rfl ?_
    refine s0 (x_pickt (v := .bool _) rfl rfl) ?_
    refine s0 (x_move (v := .bool _) rfl) ?_
    refine gf rfl rfl rfl rfl ?_
    refine gf rfl rfl rfl rfl ?_
    refine gf rfl rfl rfl rfl ?_
    refine gf rfl rfl rfl rfl ?_
    refine s0 (x_pickt (v := .bool _) rfl rfl) ?_
    refine c_end ?_
    refine n_then ?_
    refine c_true rfl ?_
    refine wp_seq ?_
    refine c_reg ?_
    refine s0 (x_assign (v := .slice _ _ _) rfl) ?_
    refine c_end ?_
    refine n_then ?_
    refine wp_ret (r_then ?_)
    refine f_ret rfl rfl ?_
    rw [bitsIn_no (fun h => h8 h.1)]
    exact ⟨_, rfl, L, none, 0, [], rfl, Own.nil, Fr.no⟩

/-- spec.BitsIn -/
theorem s_bitsIn (n u : Int) (w : World) (hn : -9223372036854775808 ≤ n ∧ n ≤ 9223372036854775807) (hu : -9223372036854775808 ≤ u ∧ u ≤ 9223372036854775807) :
    Calls Try.prog 204 [.int .i64 n, .int .i64 u].toArray w (RetP w fun v w' => ∃ p c F, v = .slice p (bitsIn n u).length c ∧ Own w' p (bitsIn n u).length c 3 1 (ic (bitsIn n u)) F ∧ Fr w.heap.size F) := by
  have L : Exm [] w w := Exm.rfl'
  refine enter (n := 36) Try.func204 rfl rfl rfl ?_
  refine wp_seq ?_
  refine c_reg ?_
  refine s0 (x_assign (v := .slice _ _ _) rfl) ?_
  refine c_end ?_
  refine n_then ?_
  refine wp_seq ?_
  refine c_reg ?_
  refine s_bs0 so40F8 ?_
  intro p7 F7 w1 l2 o7 f7 g7
  have o7 : Own w1 p7 0 0 3 1 (ic []) F7 := o7
  have z_l2 := l2.size
  have L := L.tr l2.up
  refine s0 (x_assign (v := .slice _ _ _) rfl) ?_
  refine c_end ?_
  refine n_then ?_
  refine wp_seq ?_
  refine wp_seq ?_
  refine c_reg ?_
  refine s0 (x_move (v := .int _ _) rfl) ?_
  refine srb (zcall cl95F8 rfl) (s_l1In _ _ _ _) (fun h9 w3 l4 => ?_) (fun h9 w3 l4 => ?_)
  · have z_l4 := l4.size
    have L := L.tr l4.up
    have o7 := o7.ext l4
    refine s0 (x_not rfl) ?_
    refine s0 (x_move (v := .bool _) rfl) ?_
    refine gt rfl rfl rfl rfl ?_
    refine s0 (x_move (v := .int _ _) rfl) ?_
    refine gt rfl rfl rfl rfl ?_
    refine sb (x_lss rfl rfl) (fun h13 => ?_) (fun h13 => ?_)
    · refine s0 (x_pickf (v := .bool _) rfl rfl) ?_
      refine s0 (x_move (v := .bool _) rfl) ?_
      refine gf rfl rfl rfl rfl ?_
      refine gf rfl rfl rfl rfl ?_
      refine gf rfl rfl rfl rfl ?_
      refine gf rfl rfl rfl rfl ?_
      refine s0 (x_pickt (v := .bool _) rfl rfl) ?_
      refine c_end ?_
      refine n_then ?_
      refine c_true rfl ?_
      refine wp_seq ?_
      refine c_reg ?_
      refine s0 (x_move (v := .slice _ _ _) rfl) ?_
      refine s0 (x_assign (v := .slice _ _ _) rfl) ?_
      refine c_end ?_
      refine n_then ?_
      refine wp_ret (r_then ?_)
      refine f_ret rfl rfl ?_
      rw [bitsIn_no (fun h => by have := h.2.1; omega)]
      exact ⟨_, rfl, L, _, _, _, rfl, o7, f7⟩
    · refine s0 (x_pickf (v := .bool _) rfl rfl) ?_
      refine s0 (x_move (v := .bool _) rfl) ?_
      refine gt rfl rfl rfl rfl ?_
      refine s0 (x_move (v := .int _ _) rfl) ?_
      refine gt rfl rfl rfl rfl ?_
      refine s0 (x_move (v := .int _ _) rfl) ?_
      refine gt rfl rfl rfl rfl ?_
      refine s0 (x_shr rfl rfl (by simp only [IntKind.bits]; omega)) ?_
      refine gt rfl rfl rfl rfl ?_
      refine sb (x_neq rfl rfl) (fun h19 => ?_) (fun h19 => ?_)
      · refine s0 (x_pickf (v := .bool _) rfl rfl) ?_
        refine c_end ?_
        refine n_then ?_
        refine c_true rfl ?_
        refine wp_seq ?_
        refine c_reg ?_
        refine s0 (x_move (v := .slice _ _ _) rfl) ?_
        refine s0 (x_assign (v := .slice _ _ _) rfl) ?_
        refine c_end ?_
        refine n_then ?_
        refine wp_ret (r_then ?_)
        refine f_ret rfl rfl ?_
        rw [bitsIn_no (fun h => h19 h.2.2)]
        exact ⟨_, rfl, L, _, _, _, rfl, o7, f7⟩
      · refine s0 (x_pickf (v := .bool _) rfl rfl) ?_
        refine c_end ?_
        refine n_then ?_
        refine c_false rfl ?_
        refine c_skipn ?_
        refine n_then ?_
        refine wp_seq ?_
        refine wp_seq ?_
        refine c_reg ?_
        refine s0 (x_move (v := .int _ _) rfl) ?_
        refine s0 (x_sub rfl rfl (by omega)) ?_
        refine s0 (x_assign (v := .int _ _) rfl) ?_
        refine c_end ?_
        refine n_then ?_
        refine wp_block ?_
        refine c_loop (γ := Nat) (fun k => u.toNat - k) (fun (k : Nat) E wl => ∃ E0 pz5 cz5 Fz5, E = upd (upd (upd E0 0 (.int .i64 n)) 5 (.slice pz5 (((bitsl n u.toNat).take k).length) cz5)) 6 (.int .i64 (u - 1 - k)) ∧ (Exm [] w wl) ∧ (w3.heap.size ≤ wl.heap.size) ∧ (Own wl pz5 (((bitsl n u.toNat).take k).length) cz5 3 1 (ic ((bitsl n u.toNat).take k)) Fz5) ∧ (Fr (w.heap.size) Fz5) ∧ (Lt Fz5 wl.heap.size) ∧ ((k : Int) ≤ u)) 0 ⟨_, _, _, _, upd_self3 rfl rfl (vint (by omega)), L, (by omega), o7, (f7.mono (by omega)), (g7.mono (by omega)), (by omega)⟩ ?_
        rintro k E wl5 ⟨E0, pz5, cz5, Fz5, rfl, L, Lz, oz5, fz5, gz5, hk⟩
        have Lz0 := L.size
        have hlen : ((bitsl n u.toNat).take k).length ≤ k := List.length_take_le _ _
        have hq := Int.ediv_nonneg (a := n) (b := 2 ^ (u - 1 - k).toNat) (by omega) (Int.le_of_lt (two_pow_pos _))
        have hq2 := Int.ediv_le_self (b := 2 ^ (u - 1 - k).toNat) (show 0 ≤ n by omega)
        refine wp_seq ?_
        refine wp_seq ?_
        refine c_reg ?_
        refine s0 (x_move (v := .int _ _) rfl) ?_
        refine sb (x_geq rfl rfl) (fun h25 => ?_) (fun h25 => ?_)
        · refine c_end ?_
          refine n_then ?_
          refine c_true rfl ?_
          refine c_skipn ?_
          refine n_then ?_
          refine wp_seq ?_
          refine wp_block ?_
          refine c_reg ?_
          refine s0 (x_move (v := .slice _ _ _) rfl) ?_
          refine s0 (x_move (v := .int _ _) rfl) ?_
          refine s0 (x_move (v := .int _ _) rfl) ?_
          refine s0 (x_shr rfl rfl (by simp only [IntKind.bits]; omega)) ?_
          refine s0 (x_and1 rfl rfl (by omega) (by omega)) ?_
          refine s_bsi (xs := [_]) so40F8 zr3F8 (pts_cons rfl pts_nil) rfl rfl rfl ?_
          intro p33 F33 w6 l7 o33 f33 g33
          have z_l7 := l7.size
          have L := L.tr l7.up
          have oz5 := oz5.ext l7
          have hn33 := o33.n1
          refine s_appi (B := w.heap.size) so40F8 zr3F8 rfl rfl (xs := _) oz5 o33.sl fz5 (by omega) (by omega) (by omega) ?_
          intro p34 c34 F34 w8 l9 o34 hn34 k34 f34 g34
          have z_l9 := l9.size
          have L := L.freshL l9 fz5 (by omega)
          have d33_34 : Dj F33 F34 := k34.dj (by first | assumption | exact Dj.symm (by assumption) | exact dj_of f33 g33 fz5 gz5 (by omega)) g33 (by omega)
          have o33 := o33.exm l9 (by first | assumption | exact Dj.symm (by assumption) | exact dj_of fz5 gz5 f33 g33 (by omega))
          refine s0 (x_assign (v := .slice _ _ _) rfl) ?_
          refine c_end ?_
          refine n_block ?_
          refine n_then ?_
          refine c_reg ?_
          refine s0 (x_move (v := .int _ _) rfl) ?_
          refine s0 (x_sub rfl rfl (by omega)) ?_
          refine s0 (x_assign (v := .int _ _) rfl) ?_
          refine c_end ?_
          exact c_round (g' := k + 1) (by omega) ⟨_, _, _, _, upd_self3 rfl (by (rw [bitsl_take (by omega)]); rfl) (vint (by omega)), L, (by omega), (by (rw [bitsl_take (by omega)]); exact o34), (f34.mono (by omega)), (g34.mono (by omega)), (by omega)⟩
        · refine c_end ?_
          refine n_then ?_
          refine c_false rfl ?_
          refine wp_exit (e_then (e_then (e_here ?_)))
          refine n_then ?_
          refine wp_seq ?_
          refine c_reg ?_
          refine s0 (x_move (v := .slice _ _ _) rfl) ?_
          refine s0 (x_assign (v := .slice _ _ _) rfl) ?_
          refine c_end ?_
          refine n_then ?_
          refine wp_ret ?_
          refine f_ret rfl rfl ?_
          rw [bitsIn_yes (k := k) ⟨h9, by omega, by omega⟩ (by omega)]
          exact ⟨_, rfl, L, _, _, _, rfl, oz5, fz5.mono (by omega)⟩
  · have z_l4 := l4.size
    have L := L.tr l4.up
    have o7 := o7.ext l4
    refine s0 (x_not rfl) ?_
    refine s0 (x_move (v := .bool _) rfl) ?_
    refine gf rfl rfl rfl rfl ?_
    refine gf rfl rfl rfl rfl ?_
    refine s0 (x_pickt (v := .bool _) rfl rfl) ?_
    refine s0 (x_move (v := .bool _) rfl) ?_
    refine gf rfl rfl rfl rfl ?_
    refine gf rfl rfl rfl rfl ?_
    refine gf rfl rfl rfl rfl ?_
    refine gf rfl rfl rfl rfl ?_
    refine s0 (x_pickt (v := .bool _) rfl rfl) ?_
    refine c_end ?_
    refine n_then ?_
    refine c_true rfl ?_
    refine wp_seq ?_
    refine c_reg ?_
    refine s0 (x_move (v := .slice _ _ _) rfl) ?_
    refine s0 (x_assign (v := .slice _ _ _) rfl) ?_
    refine c_end ?_
    refine n_then ?_
    refine wp_ret (r_then ?_)
    refine f_ret rfl rfl ?_
    rw [bitsIn_no (fun h => h9 h.1)]
    exact ⟨_, rfl, L, _, _, _, rfl, o7, f7⟩

/-- impl.areBits -/
theorem i_areBits (p : Option Addr) (xs : List Int) (c : Nat) (w : World) (hp : Sl w p xs.length c 1 (ic xs)) (hl : xs.length ≤ 1099511627776) :
    Calls Try.prog 178 [.slice p xs.length c].toArray w (Ret w (.bool (decide (isBits xs)))) := by
  have L : Exm [] w w := Exm.rfl'
  refine enter (n := 18) Try.func178 rfl rfl rfl ?_
  refine wp_seq ?_
  refine c_reg ?_
  refine s0 (x_assign (v := .bool _) rfl) ?_
  refine c_end ?_
  refine n_then ?_
  refine wp_seq ?_
  refine wp_seq ?_
  refine c_reg ?_
  refine s0 (x_move (v := .slice _ _ _) rfl) ?_
  refine s0 (x_lensl un40F8 rfl) ?_
  refine s0 (x_move (v := .int _ _) rfl) ?_
  refine c_end ?_
  refine n_then ?_
  refine wp_block ?_
  refine c_loop (γ := Nat) (fun k => xs.length - k) (fun (k : Nat) E wl => ∃ E0, E = upd (upd (upd E0 5 (.slice p xs.length c)) 6 (.int .i64 xs.length)) 7 (.int .i64 (k : Int)) ∧ (Exm [] w wl) ∧ ((k : Int) ≤ xs.length) ∧ (∀ j : Nat, j < k → xs.getD j 0 = 0 ∨ xs.getD j 0 = 1)) 0 ⟨_, upd_self3 rfl rfl rfl, L, (by omega), (by intro j hj; omega)⟩ ?_
  rintro k E wl1 ⟨E0, rfl, L, hk, hall⟩
  have Lz0 := L.size
  refine wp_seq ?_
  refine c_reg ?_
  refine sb (x_lss rfl rfl) (fun h8 => ?_) (fun h8 => ?_)
  · refine c_end ?_
    refine n_then ?_
    refine wp_seq ?_
    refine c_true rfl ?_
    refine c_skipn ?_
    refine n_then ?_
    refine wp_seq ?_
    refine wp_block ?_
    refine wp_seq ?_
    refine c_reg ?_
    refine s0 (x_idx so40F8 rfl rfl hp (by decide) (by omega) (by omega)) ?_
    refine st (x_ldi sc3F8 rfl (hp.ext L) (by omega) (by omega)) ?_
    refine s0 (x_assign (v := .int _ _) rfl) ?_
    refine c_end ?_
    refine n_then ?_
    refine wp_seq ?_
    refine c_reg ?_
    refine s0 (x_move (v := .int _ _) rfl) ?_
    refine sb (x_neq rfl rfl) (fun h12 => ?_) (fun h12 => ?_)
    · refine s0 (x_move (v := .bool _) rfl) ?_
      refine gt rfl rfl rfl rfl ?_
      refine s0 (x_move (v := .int _ _) rfl) ?_
      refine gt rfl rfl rfl rfl ?_
      refine sb (x_neq rfl rfl) (fun h15 => ?_) (fun h15 => ?_)
      · refine s0 (x_pickt (v := .bool _) rfl rfl) ?_
        refine c_end ?_
        refine n_then ?_
        refine c_true rfl ?_
        refine wp_seq ?_
        refine c_reg ?_
        refine s0 (x_assign (v := .bool _) rfl) ?_
        refine c_end ?_
        refine n_then ?_
        refine wp_ret (r_block (r_then (r_then (r_block (r_then ?_)))))
        refine f_ret rfl rfl ?_
        exact ⟨ret_f (fun h => by have := isBits_get h k; rw [Int.toNat_natCast] at *; omega), L⟩
      · refine s0 (x_pickt (v := .bool _) rfl rfl) ?_
        refine c_end ?_
        refine n_then ?_
        refine c_false rfl ?_
        refine c_skipn ?_
        refine n_block ?_
        refine n_then ?_
        refine c_reg ?_
        refine s0 (x_add rfl rfl (by omega)) ?_
        refine s0 (x_move (v := .int _ _) rfl) ?_
        refine c_end ?_
        exact c_round (g' := k + 1) (by omega) ⟨_, upd_self3 rfl rfl (vint (by omega)), L, (by omega), (upto_succ' hall (by rw [Int.toNat_natCast] at *; omega))⟩
    · refine s0 (x_move (v := .bool _) rfl) ?_
      refine gf rfl rfl rfl rfl ?_
      refine gf rfl rfl rfl rfl ?_
      refine s0 (x_pickf (v := .bool _) rfl rfl) ?_
      refine c_end ?_
      refine n_then ?_
      refine c_false rfl ?_
      refine c_skipn ?_
      refine n_block ?_
      refine n_then ?_
      refine c_reg ?_
      refine s0 (x_add rfl rfl (by omega)) ?_
      refine s0 (x_move (v := .int _ _) rfl) ?_
      refine c_end ?_
      exact c_round (g' := k + 1) (by omega) ⟨_, upd_self3 rfl rfl (vint (by omega)), L, (by omega), (upto_succ' hall (by rw [Int.toNat_natCast] at *; omega))⟩
  · refine c_end ?_
    refine n_then ?_
    refine wp_seq ?_
    refine c_false rfl ?_
    refine wp_exit (e_then (e_then (e_here ?_)))
    refine n_then ?_
    refine wp_seq ?_
    refine c_reg ?_
    refine s0 (x_assign (v := .bool _) rfl) ?_
    refine c_end ?_
    refine n_then ?_
    refine wp_ret ?_
    refine f_ret rfl rfl ?_
    exact ⟨ret_t (isBits_upto fun j hj => hall j (by omega)), L⟩

theorem by_no {xs : List Int} (h : ¬ byOk xs) : Ending.returned (.tuple [.string ⟨#[]⟩, .bool false].toArray) = .returned (.tuple [.string (bytesStr xs), .bool (decide (byOk xs))].toArray) := by simp only [bytesStr, if_neg h, decide_eq_false h]
theorem by_yes {xs ys : List Int} (h : byOk xs) (hy : ys = bytesl xs) : Ending.returned (.tuple [.string (strOf ys), .bool true].toArray) = .returned (.tuple [.string (bytesStr xs), .bool (decide (byOk xs))].toArray) := by simp only [bytesStr, if_pos h, decide_eq_true h, hy, packs]

/-- impl.BytesOf -/
theorem i_bytesOf (p : Option Addr) (xs : List Int) (c : Nat) (w : World) (hp : Sl w p xs.length c 1 (ic xs)) (hl : xs.length ≤ 1099511627776) :
    Calls Try.prog 91 [.slice p xs.length c].toArray w (Ret w (.tuple [.string (bytesStr xs), .bool (decide (byOk xs))].toArray)) := by
  have L : Exm [] w w := Exm.rfl'
  refine enter (n := 43) Try.func91 rfl rfl rfl ?_
  refine wp_seq ?_
  refine c_reg ?_
  refine s0 (x_assign (v := .string _) rfl) ?_
  refine s0 (x_assign (v := .bool _) rfl) ?_
  refine c_end ?_
  refine n_then ?_
  refine wp_seq ?_
  refine wp_seq ?_
  refine c_reg ?_
  refine s0 (x_move (v := .slice _ _ _) rfl) ?_
  refine srb (zcall cl178F8 rfl) (i_areBits _ _ _ _ (hp.ext L) (by omega)) (fun h8 w1 l2 => ?_) (fun h8 w1 l2 => ?_)
  · have z_l2 := l2.size
    have L := L.tr l2.up
    refine s0 (x_not rfl) ?_
    refine s0 (x_move (v := .bool _) rfl) ?_
    refine gt rfl rfl rfl rfl ?_
    refine s0 (x_move (v := .slice _ _ _) rfl) ?_
    refine gt rfl rfl rfl rfl ?_
    refine s0 (x_lensl un40F8 rfl) ?_
    refine gt rfl rfl rfl rfl ?_
    refine s0 (x_rem rfl rfl (by omega) (by omega)) ?_
    refine gt rfl rfl rfl rfl ?_
    refine sb (x_neq rfl rfl) (fun h14 => ?_) (fun h14 => ?_)
    · refine s0 (x_pickf (v := .bool _) rfl rfl) ?_
      refine c_end ?_
      refine n_then ?_
      refine c_true rfl ?_
      refine wp_seq ?_
      refine c_reg ?_
      refine s0 (x_assign (v := .string _) rfl) ?_
      refine s0 (x_assign (v := .bool _) rfl) ?_
      refine c_end ?_
      refine n_then ?_
      refine wp_ret (r_then ?_)
      refine f_rets2 rfl (ro_tmp rfl) (ro_tmp rfl) ?_
      exact ⟨by_no (fun h => by have := h.2; omega), L⟩
    · refine s0 (x_pickf (v := .bool _) rfl rfl) ?_
      refine c_end ?_
      refine n_then ?_
      refine c_false rfl ?_
      refine c_skipn ?_
      refine n_then ?_
      refine wp_seq ?_
      refine c_reg ?_
      refine s0 (x_move (v := .slice _ _ _) rfl) ?_
      refine s0 (x_lensl un40F8 rfl) ?_
      refine s0 (x_quo rfl rfl (by omega) (by omega)) ?_
      refine s_makeb so22F8 zr5F8 rfl rfl (by omega) (by omega) (by omega) ?_
      intro p19 F19 w3 l4 o19 f19 g19
      have z_l4 := l4.size
      have L := L.tr l4.up
      have hn19 := o19.nb
      refine s0 (x_assign (v := .slice _ _ _) rfl) ?_
      refine c_end ?_
      refine n_then ?_
      refine wp_seq ?_
      refine wp_seq ?_
      refine c_reg ?_
      refine s0 (x_move (v := .slice _ _ _) rfl) ?_
      refine s0 (x_lensl un40F8 rfl) ?_
      refine s0 (x_move (v := .int _ _) rfl) ?_
      refine c_end ?_
      refine n_then ?_
      refine wp_block ?_
      refine c_loop (γ := Nat) (fun k => xs.length - k) (fun (k : Nat) E wl => ∃ E0 pz4 cz4 Fz4, E = upd (upd (upd (upd E0 4 (.slice pz4 (xs.length / 8) cz4)) 20 (.slice p xs.length c)) 21 (.int .i64 xs.length)) 22 (.int .i64 (k : Int)) ∧ (Exm [] w wl) ∧ (w3.heap.size ≤ wl.heap.size) ∧ (Own wl pz4 (xs.length / 8) cz4 5 1 (bc (byP xs k)) Fz4) ∧ (Fr (w1.heap.size) Fz4) ∧ (Lt Fz4 wl.heap.size) ∧ ((k : Int) ≤ xs.length)) 0 ⟨_, _, _, _, upd_self4 rfl rfl rfl rfl, L, (by omega), (by rw [byP_zero]; exact o19), (f19.mono (by omega)), (g19.mono (by omega)), (by omega)⟩ ?_
      rintro k E wl5 ⟨E0, pz4, cz4, Fz4, rfl, L, Lz, oz4, fz4, gz4, hk⟩
      have Lz0 := L.size
      have hlen := byP_length xs k
      have hb := isBits_get h8 k
      have hr := byP_range h8 k (k / 8)
      have ee1 : ((k : Int)).toNat = k := Int.toNat_natCast k
      have ee2 : (7 - (k : Int) % 8).toNat = 7 - k % 8 := by omega
      have ee3 : ((k : Int) / 8).toNat = k / 8 := by omega
      refine wp_seq ?_
      refine c_reg ?_
      refine sb (x_lss rfl rfl) (fun h23 => ?_) (fun h23 => ?_)
      · refine c_end ?_
        refine n_then ?_
        refine wp_seq ?_
        refine c_true rfl ?_
        refine c_skipn ?_
        refine n_then ?_
        refine wp_seq ?_
        refine wp_block ?_
        refine wp_seq ?_
        refine c_reg ?_
        refine s0 (x_move (v := .int _ _) rfl) ?_
        refine s0 (x_idx so40F8 rfl rfl hp (by decide) (by omega) (by omega)) ?_
        refine st (x_ldi sc3F8 rfl (hp.ext L) (by omega) (by omega)) ?_
        refine s0 (x_assign (v := .int _ _) rfl) ?_
        refine s0 (x_assign (v := .int _ _) rfl) ?_
        refine c_end ?_
        refine n_then ?_
        have hml := byP_mult xs k (by omega)
        have hp := two_pow_le (n := 7 - k % 8) (m := 7) (by omega)
        have hp0 := two_pow_pos (7 - k % 8)
        have hp1 : (2 : Int) ^ (8 - k % 8) = 2 * 2 ^ (7 - k % 8) := by rw [show 8 - k % 8 = (7 - k % 8) + 1 by omega, two_pow_succ]
        have e7 : (2 : Int) ^ 7 = 128 := rfl
        have hx : 0 ≤ xs.getD k 0 * 2 ^ (7 - k % 8) ∧ xs.getD k 0 * 2 ^ (7 - k % 8) ≤ 2 ^ (7 - k % 8) := by rcases hb with h | h <;> rw [h] <;> omega
        refine c_plan (fun wq => Exm [] wl5 wq) 13 (.cons (0, 2) (.cons (1, 2) (.cons (2, 2) (.cons (3, 2) (.cons (4, 1) (.cons (5, 2) (.cons (6, 2) (.cons (7, 2) (.cons (8, 2) (.cons (9, 2) (.cons (10, 2) (.cons (11, 2) (.cons (12, 2) (.cons (13, 0) .nil)))))))))))))) (by kernel_rfl) (by kernel_rfl) (Exm.drew _) ?_
        obtain ⟨w6, hwd⟩ : ∃ x, x = wl5.drew := ⟨_, rfl⟩
        have l7 : Ext wl5 w6 := by rw [hwd]; exact Exm.drew _
        rw [← hwd]; clear hwd
        have Lq : Exm [] wl5 w6 := l7.up
        have qoz4 := oz4
        have qL := L
        have z_l7 := l7.size
        have L := L.tr l7.up
        have oz4 := oz4.ext l7
        refine p0 rfl (x_move (v := .slice _ _ _) rfl) ?_
        refine p0 rfl (x_move (v := .int _ _) rfl) ?_
        refine p0 rfl (x_quo rfl rfl (by omega) (by omega)) ?_
        refine p0 rfl (x_idx so22F8 rfl rfl oz4.sl (by decide) (by omega) (by omega)) ?_
        refine ps rfl (fun wq hwq => x_ldb sc5F8 rfl (qoz4.ext hwq).sl (by omega) (by omega)) ?_
        refine p0 rfl (x_move (v := .int _ _) rfl) ?_
        refine p0 rfl (x_move (v := .int _ _) rfl) ?_
        refine p0 rfl (x_rem rfl rfl (by omega) (by omega)) ?_
        refine p0 rfl (x_sub rfl rfl (by omega)) ?_
        refine p0 rfl (x_shl rfl rfl (by omega) (by rw [ee1, ee2]; omega)) ?_
        refine p0 rfl (x_conv us3F8 un5F8 rfl (by rw [wrap_u8, ee1, ee2]; omega)) ?_
        refine p0 rfl (x_or8 (8 - k % 8) _ rfl rfl (by rw [ee3]; exact hml) (by rw [ee1, ee2]; omega) (by rw [ee1, ee2]; omega) (by rw [ee3]; omega) (by rw [ee3]; omega) (by rw [ee1, ee2]; omega)) ?_
        refine p0 rfl (x_idx so22F8 rfl rfl oz4.sl (by decide) (by omega) (by omega)) ?_
        refine pu rfl ?_ (by rintro ⟨_, _, h, _⟩; cases h)
        refine s_stob rfl sz5F8 rfl rfl oz4 (by omega) (by omega) ?_
        intro w8 l9 el9 oz4
        have z_l9 := l9.size
        have L := L.freshL l9 fz4 (by omega)
        have hnl9 := oz4.nb
        refine c_end ⟨rfl, fun h hS => absurd h (by decide), ?_⟩
        refine p_nil (np_normal ?_)
        refine n_block ?_
        refine n_then ?_
        refine c_reg ?_
        refine s0 (x_add rfl rfl (by omega)) ?_
        refine s0 (x_move (v := .int _ _) rfl) ?_
        refine c_end ?_
        rw [ee1, ee2, ee3] at oz4
        exact c_round (g' := k + 1) (by omega) ⟨_, _, _, _, upd_self4 (by (skip); rfl) rfl rfl (vint (by omega)), L, (by omega), (by (rw [byP_succ _ _ (by omega)]); exact oz4), (fz4.mono (by omega)), (gz4.mono (by omega)), (by omega)⟩
      · refine c_end ?_
        refine n_then ?_
        refine wp_seq ?_
        refine c_false rfl ?_
        refine wp_exit (e_then (e_then (e_here ?_)))
        refine n_then ?_
        refine wp_seq ?_
        refine c_reg ?_
        refine s0 (x_move (v := .slice _ _ _) rfl) ?_
        refine st (x_tostr un22F8 un5F8 un9F8 rfl oz4.sl (by rw [byP_end (by omega)]; exact bytesl_range h8)) ?_
        refine s0 (x_assign (v := .string _) rfl) ?_
        refine s0 (x_assign (v := .bool _) rfl) ?_
        refine c_end ?_
        refine n_then ?_
        refine wp_ret ?_
        refine f_rets2 rfl (ro_tmp rfl) (ro_tmp rfl) ?_
        exact ⟨by_yes ⟨h8, by omega⟩ (byP_end (by omega)), L⟩
  · have z_l2 := l2.size
    have L := L.tr l2.up
    refine s0 (x_not rfl) ?_
    refine s0 (x_move (v := .bool _) rfl) ?_
    refine gf rfl rfl rfl rfl ?_
    refine gf rfl rfl rfl rfl ?_
    refine gf rfl rfl rfl rfl ?_
    refine gf rfl rfl rfl rfl ?_
    refine s0 (x_pickt (v := .bool _) rfl rfl) ?_
    refine c_end ?_
    refine n_then ?_
    refine c_true rfl ?_
    refine wp_seq ?_
    refine c_reg ?_
    refine s0 (x_assign (v := .string _) rfl) ?_
    refine s0 (x_assign (v := .bool _) rfl) ?_
    refine c_end ?_
    refine n_then ?_
    refine wp_ret (r_then ?_)
    refine f_rets2 rfl (ro_tmp rfl) (ro_tmp rfl) ?_
    exact ⟨by_no (fun h => h8 h.1), L⟩

theorem div_ne {a b : Int} (h : 0 ≤ a) (hb : 0 < b) : a / b ≠ 0 ↔ b ≤ a := by
  constructor
  · intro h1
    rcases Int.lt_or_le a b with h2 | h2
    · exact absurd (Int.ediv_eq_zero_of_lt h h2) h1
    · exact h2
  · intro h1 h2
    have := Int.lt_ediv_add_one_mul_self a hb
    rw [h2] at this; omega
theorem ext_getD {α : Type} [Inhabited α] {xs ys : List α} (hl : xs.length = ys.length) (h : ∀ j : Nat, j < xs.length → xs.getD j default = ys.getD j default) : xs = ys := by
  have := map_ext (f := id) hl h
  simpa using this

/-- spec.l6Zeros -/
theorem s_l6Zeros (n : Int) (w : World) (hn : 0 ≤ n ∧ n ≤ 65534) :
    Calls Try.prog 235 [.int .i64 n].toArray w (Ret w (.int .i64 (lz n))) := by
  have hz := lz_spec hn.1
  have hz2 := lz_range hn
  have L : Exm [] w w := Exm.rfl'
  refine enter (n := 13) Try.func235 rfl rfl rfl ?_
  refine wp_seq ?_
  refine c_reg ?_
  refine s0 (x_assign (v := .int _ _) rfl) ?_
  refine c_end ?_
  refine n_then ?_
  refine wp_seq ?_
  refine c_reg ?_
  refine s0 (x_assign (v := .int _ _) rfl) ?_
  refine c_end ?_
  refine n_then ?_
  refine wp_seq ?_
  refine wp_block ?_
  refine c_loop (γ := Nat) (fun k => 16 - k) (fun (k : Nat) E wl => ∃ E0, E = upd (upd E0 0 (.int .i64 n)) 3 (.int .i64 (k : Int)) ∧ (Exm [] w wl) ∧ ((k : Int) ≤ 15) ∧ ((2 : Int) ^ k ≤ n + 1)) 0 ⟨_, upd_self2 rfl rfl, L, (by simp), (by simp; omega)⟩ ?_
  rintro k E wl1 ⟨E0, rfl, L, hk, hp⟩
  have Lz0 := L.size
  have hd : (n + 1) / 2 ^ (k + 1) ≠ 0 ↔ 2 ^ (k + 1) ≤ n + 1 := div_ne (by omega) (two_pow_pos _)
  have ee : ((k : Int) + 1).toNat = k + 1 := by omega
  have h65 : k = 15 → (2 : Int) ^ (k + 1) = 65536 := fun h => by subst h; rfl
  refine wp_seq ?_
  refine wp_seq ?_
  refine c_reg ?_
  refine s0 (x_move (v := .int _ _) rfl) ?_
  refine s0 (x_add rfl rfl (by omega)) ?_
  refine s0 (x_move (v := .int _ _) rfl) ?_
  refine s0 (x_add rfl rfl (by omega)) ?_
  refine s0 (x_shr rfl rfl (by simp only [IntKind.bits]; omega)) ?_
  refine sb (x_neq rfl rfl) (fun h9 => ?_) (fun h9 => ?_)
  · refine c_end ?_
    refine n_then ?_
    refine c_true rfl ?_
    refine c_skipn ?_
    refine n_then ?_
    refine wp_block ?_
    refine c_reg ?_
    refine s0 (x_move (v := .int _ _) rfl) ?_
    refine s0 (x_add rfl rfl (by omega)) ?_
    refine s0 (x_assign (v := .int _ _) rfl) ?_
    refine c_end ?_
    refine n_block ?_
    exact c_round (g' := k + 1) (by omega) ⟨_, upd_self2 rfl (vint (by omega)), L, (by rw [ee] at h9; have := hd.1 h9; omega), (by rw [ee] at h9; exact hd.1 h9)⟩
  · refine c_end ?_
    refine n_then ?_
    refine c_false rfl ?_
    refine wp_exit (e_then (e_then (e_here ?_)))
    refine n_then ?_
    refine wp_seq ?_
    refine c_reg ?_
    refine s0 (x_move (v := .int _ _) rfl) ?_
    refine s0 (x_assign (v := .int _ _) rfl) ?_
    refine c_end ?_
    refine n_then ?_
    refine wp_ret ?_
    refine f_ret rfl rfl ?_
    exact ⟨ret_int (lz_uniq hn.1 hp (by rw [ee] at h9; omega)).symm, L⟩

/-- spec.UeSize -/
theorem s_ueSize (n : Int) (w : World) :
    Calls Try.prog 179 [.int .i64 n].toArray w (Ret w (.int .i64 (ueSize n))) := by
  have L : Exm [] w w := Exm.rfl'
  refine enter (n := 10) Try.func179 rfl rfl rfl ?_
  refine wp_seq ?_
  refine c_reg ?_
  refine s0 (x_assign (v := .int _ _) rfl) ?_
  refine c_end ?_
  refine n_then ?_
  refine wp_seq ?_
  refine wp_seq ?_
  refine c_reg ?_
  refine s0 (x_move (v := .int _ _) rfl) ?_
  refine srb (zcall cl95F8 rfl) (s_l1In _ _ _ _) (fun h4 w1 l2 => ?_) (fun h4 w1 l2 => ?_)
  · have z_l2 := l2.size
    have L := L.tr l2.up
    refine s0 (x_not rfl) ?_
    refine c_end ?_
    refine n_then ?_
    refine c_false rfl ?_
    refine c_skipn ?_
    refine n_then ?_
    refine wp_seq ?_
    have hz2 := lz_range h4
    refine c_reg ?_
    refine s0 (x_move (v := .int _ _) rfl) ?_
    refine sr (zcall cl235F8 rfl) (s_l6Zeros _ _ (by omega)) ?_
    intro w3 l4
    have z_l4 := l4.size
    have L := L.tr l4.up
    refine s0 (x_mul rfl rfl (by omega)) ?_
    refine s0 (x_add rfl rfl (by omega)) ?_
    refine s0 (x_assign (v := .int _ _) rfl) ?_
    refine c_end ?_
    refine n_then ?_
    refine wp_ret ?_
    refine f_ret rfl rfl ?_
    exact ⟨ret_int (by unfold ueSize; rw [if_pos h4]), L⟩
  · have z_l2 := l2.size
    have L := L.tr l2.up
    refine s0 (x_not rfl) ?_
    refine c_end ?_
    refine n_then ?_
    refine c_true rfl ?_
    refine wp_seq ?_
    refine c_reg ?_
    refine s0 (x_assign (v := .int _ _) rfl) ?_
    refine c_end ?_
    refine n_then ?_
    refine wp_ret (r_then ?_)
    refine f_ret rfl rfl ?_
    exact ⟨ret_int (by unfold ueSize; rw [if_neg h4]), L⟩

end Go.Proofs.Ytnehdmcilmlchaa
