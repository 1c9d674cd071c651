/- What each function of this part returns, for every argument that meets its premises. -/
import Derived.Test.YtnehdmcilmlchaaProg
import Derived.Test.YtnehdmcilmlchaaVSxF
import Derived.Test.YtnehdmcilmlchaaVPlV
import Derived.Test.YtnehdmcilmlchaaVF5
import Derived.Test.YtnehdmcilmlchaaVF9
namespace Go.Proofs.Ytnehdmcilmlchaa
open Go.Sx Go.Pl Go.RowKit
theorem cl171FS : Callable Try.prog 171 := callable Try.func171 (by kernel_rfl) rfl
theorem cl175FS : Callable Try.prog 175 := callable Try.func175 (by kernel_rfl) rfl
theorem cl82FS : Callable Try.prog 82 := callable Try.func82 (by kernel_rfl) rfl
theorem so40FS : SliceOf Try.prog 40 3 1 8 := ⟨by kernel_rfl, by kernel_rfl⟩
theorem sz3FS : Sz Try.prog 3 1 := by unfold Sz; kernel_rfl
theorem un40FS : Try.prog.underlying 40 = some (.slice 3) := by kernel_rfl
theorem zr3FS : ZeroV Try.prog 3 [.int .i64 0] := by unfold ZeroV; kernel_rfl
/-- spec.l2Bits -/
theorem s_l2Bits (b B : Nat) (m : Int) (w : World) (hcu : Cu w b B 192) (hm : 0 ≤ m ∧ m ≤ 1000) :
    Calls Try.prog 170 [pt b 0, .int .i64 m].toArray w (RetM [b] w fun v w' => (∃ p n xs c F, v = .slice p n c ∧ Own w' p n c 3 1 (ic xs) F ∧ Fr w.heap.size F ∧ n = xs.length ∧ (n : Int) ≤ m) ∧ Cu w' b B 192) := by
  have hcb := hcu.lt
  have L : Exm [b] w w := Exm.rfl'
  refine enter (n := 38) Try.func170 rfl rfl rfl ?_
  refine wp_seq ?_
  refine c_reg ?_
  refine s0 (x_assign (v := .slice _ _ _) rfl) ?_
  refine c_end ?_
  refine n_then ?_
  refine wp_seq ?_
  refine c_reg ?_
  refine s_bs0 so40FS ?_
  intro p7 F7 w1 l2 o7 f7 g7
  have o7 : Own w1 p7 0 0 3 1 (ic []) F7 := o7
  have z_l2 := l2.size
  have L := L.tr l2.up
  have hcu := hcu.ext l2
  refine s0 (x_assign (v := .slice _ _ _) rfl) ?_
  refine c_end ?_
  refine n_then ?_
  refine wp_seq ?_
  refine wp_seq ?_
  refine c_reg ?_
  refine s0 (x_move (v := .pointer _) rfl) ?_
  refine s0 (x_move (v := .int _ _) rfl) ?_
  refine s0 (x_add rfl rfl (by omega)) ?_
  refine spm (zcall cl171FS rfl) (s_below b _ _ _ hcu) ?_
  rintro v11 w3 l4 ⟨⟨x11, rfl, hx11⟩, hcu⟩
  have z_l4 := l4.size
  have L := L.within l4 (by simp)
  have o7 := o7.ne l4 (by first | assumption | exact nin_of f7 g7 (by omega))
  refine s0 (x_assign (v := .int _ _) rfl) ?_
  refine c_end ?_
  refine n_then ?_
  refine wp_block ?_
  refine c_loop (γ := List Int × Int) (fun g => g.2.toNat) (fun (g : List Int × Int) E wl => ∃ E0 pz5 cz5 Fz5, E = upd (upd (upd E0 0 (pt b 0)) 5 (.slice pz5 ((g.1).length) cz5)) 6 (.int .i64 g.2) ∧ (Exm [b] w wl) ∧ (w3.heap.size ≤ wl.heap.size) ∧ (Cu wl b B 192) ∧ (Own wl pz5 ((g.1).length) cz5 3 1 (ic (g.1)) Fz5) ∧ (Fr (w.heap.size) Fz5) ∧ (Lt Fz5 wl.heap.size) ∧ (b ∉ Fz5) ∧ (0 ≤ g.2 ∧ (g.1.length : Int) + g.2 ≤ m)) ([], x11) ⟨_, _, _, _, upd_self3 rfl (slice_len rfl) rfl, L, (by omega), hcu, o7, (f7.mono (by omega)), (g7.mono (by omega)), (by first | assumption | exact nin_of f7 g7 (by omega)), (by show 0 ≤ x11 ∧ (0 : Int) + x11 ≤ m; omega)⟩ ?_
  rintro g E wl5 ⟨E0, pz5, cz5, Fz5, rfl, L, Lz, hcu, oz5, fz5, gz5, ab_z5, hg⟩
  have Lz0 := L.size
  refine wp_seq ?_
  refine wp_seq ?_
  refine c_reg ?_
  refine s0 (x_move (v := .int _ _) rfl) ?_
  refine sb (x_gtr rfl rfl) (fun h13 => ?_) (fun h13 => ?_)
  · refine c_end ?_
    refine n_then ?_
    refine c_true rfl ?_
    refine c_skipn ?_
    refine n_then ?_
    refine wp_seq ?_
    refine wp_block ?_
    refine c_reg ?_
    refine s0 (x_move (v := .slice _ _ _) rfl) ?_
    refine s0 (x_move (v := .pointer _) rfl) ?_
    refine spm (zcall cl171FS rfl) (s_below b _ _ _ hcu) ?_
    rintro v18 w6 l7 ⟨⟨x18, rfl, hx18⟩, hcu⟩
    have z_l7 := l7.size
    have L := L.within l7 (by simp)
    have oz5 := oz5.ne l7 (by first | assumption | exact nin_of fz5 gz5 (by omega))
    refine s_bsi (xs := [_]) so40FS zr3FS (pts_cons rfl pts_nil) rfl rfl rfl ?_
    intro p19 F19 w8 l9 o19 f19 g19
    have z_l9 := l9.size
    have L := L.tr l9.up
    have hcu := hcu.ext l9
    have oz5 := oz5.ext l9
    have hn19 := o19.n1
    refine s_appi (B := w.heap.size) so40FS zr3FS rfl rfl (xs := _) oz5 o19.sl fz5 (by omega) (by omega) (by omega) ?_
    intro p20 c20 F20 w10 l11 o20 hn20 k20 f20 g20
    have Bb_20 := hcu.exm l11 (by first | assumption | exact nin_of fz5 gz5 (by omega)) (fz5.mono (by omega))
    have ab_20 : b ∉ F20 := k20.nin (by first | assumption | exact nin_of fz5 gz5 (by omega)) (by omega)
    have hcu := Bb_20
    have z_l11 := l11.size
    have L := L.freshL l11 fz5 (by omega)
    have d19_20 : Dj F19 F20 := k20.dj (by first | assumption | exact Dj.symm (by assumption) | exact dj_of f19 g19 fz5 gz5 (by omega)) g19 (by omega)
    have o19 := o19.exm l11 (by first | assumption | exact Dj.symm (by assumption) | exact dj_of fz5 gz5 f19 g19 (by omega))
    refine s0 (x_assign (v := .slice _ _ _) rfl) ?_
    refine c_end ?_
    refine n_block ?_
    refine n_then ?_
    refine c_reg ?_
    refine s0 (x_move (v := .int _ _) rfl) ?_
    refine s0 (x_sub rfl rfl (by omega)) ?_
    refine s0 (x_assign (v := .int _ _) rfl) ?_
    refine c_end ?_
    exact c_round (g' := (g.1 ++ [x18], g.2 - 1)) (by show (g.2 - 1).toNat < g.2.toNat; omega) ⟨_, _, _, _, upd_self3 rfl (slice_len (by simp only [List.length_append, List.length_cons, List.length_nil])) rfl, L, (by omega), hcu, o20, (f20.mono (by omega)), (g20.mono (by omega)), (by first | assumption | exact nin_of f20 g20 (by omega)), (by show 0 ≤ g.2 - 1 ∧ ((g.1 ++ [x18]).length : Int) + (g.2 - 1) ≤ m; rw [List.length_append]; simp only [List.length_cons, List.length_nil]; omega)⟩
  · refine c_end ?_
    refine n_then ?_
    refine c_false rfl ?_
    refine wp_exit (e_then (e_then (e_here ?_)))
    refine n_then ?_
    refine wp_seq ?_
    refine wp_seq ?_
    refine c_reg ?_
    refine s0 (x_move (v := .slice _ _ _) rfl) ?_
    refine s0 (x_lensl un40FS rfl) ?_
    refine sb (x_gtr rfl rfl) (fun h23 => ?_) (fun h23 => ?_)
    · refine s0 (x_move (v := .bool _) rfl) ?_
      refine gt rfl rfl rfl rfl ?_
      refine s0 (x_move (v := .pointer _) rfl) ?_
      refine gt rfl rfl rfl rfl ?_
      refine spm (zcall cl82FS rfl) (s_once b _ _ _ hcu) ?_
      rintro v26 w12 l13 ⟨⟨x26, rfl⟩, hcu⟩
      have z_l13 := l13.size
      have L := L.within l13 (by simp)
      have oz5 := oz5.ne l13 (by first | assumption | exact nin_of fz5 gz5 (by omega))
      by_cases h26 : x26 = true
      · subst h26
        refine s0 (x_pickt (v := .bool _) rfl rfl) ?_
        refine c_end ?_
        refine n_then ?_
        refine c_true rfl ?_
        refine c_reg ?_
        refine s0 (x_move (v := .slice _ _ _) rfl) ?_
        refine s0 (x_move (v := .pointer _) rfl) ?_
        refine s0 (x_move (v := .slice _ _ _) rfl) ?_
        refine s0 (x_lensl un40FS rfl) ?_
        refine spm (zcall cl171FS rfl) (s_below b _ _ _ hcu) ?_
        rintro v32 w14 l15 ⟨⟨x32, rfl, hx32⟩, hcu⟩
        have z_l15 := l15.size
        have L := L.within l15 (by simp)
        have oz5 := oz5.ne l15 (by first | assumption | exact nin_of fz5 gz5 (by omega))
        refine s0 (x_move (v := .pointer _) rfl) ?_
        refine s_bsi (xs := [_, _]) so40FS zr3FS (pts_cons rfl (pts_cons rfl pts_nil)) rfl rfl rfl ?_
        intro p34 F34 w16 l17 o34 f34 g34
        have z_l17 := l17.size
        have L := L.tr l17.up
        have hcu := hcu.ext l17
        have oz5 := oz5.ext l17
        have hn34 := o34.n1
        refine spm (zcall cl175FS rfl) (s_pick b _ _ _ _ _ _ hcu _ o34 (by first | assumption | exact nin_of f34 g34 (by omega)) (by omega)) ?_
        rintro v35 w18 l19 ⟨⟨x35, rfl, hx35⟩, hcu⟩
        have z_l19 := l19.size
        have L := L.within l19 (by simp)
        have oz5 := oz5.ne l19 (by first | assumption | exact nin_of fz5 gz5 (by omega))
        have o34 := o34.ne l19 (by first | assumption | exact nin_of f34 g34 (by omega))
        refine s0 (x_idx so40FS rfl rfl oz5.sl (by decide) (by omega) (by omega)) ?_
        refine s_stoi rfl sz3FS rfl rfl oz5 (by omega) (by omega) ?_
        intro w20 l21 el21 oz5
        have z_l21 := l21.size
        have L := L.freshL l21 fz5 (by omega)
        have hcu := hcu.exm l21 (by first | assumption | exact nin_of fz5 gz5 (by omega)) (fz5.mono (by omega))
        have o34 := o34.exm l21 (by first | assumption | exact Dj.symm (by assumption) | exact dj_of fz5 gz5 f34 g34 (by omega))
        have hnl21 := oz5.n1
        refine c_end ?_
        refine n_then ?_
        refine wp_seq ?_
        refine c_reg ?_
        refine s0 (x_move (v := .slice _ _ _) rfl) ?_
        refine s0 (x_assign (v := .slice _ _ _) rfl) ?_
        refine c_end ?_
        refine n_then ?_
        refine wp_ret ?_
        refine f_ret rfl rfl ?_
        exact ⟨_, rfl, L, ⟨_, _, _, _, _, rfl, oz5, fz5.mono (by omega), oz5.n1, by omega⟩, hcu⟩
      · obtain rfl := Bool.eq_false_iff.2 h26
        refine s0 (x_pickt (v := .bool _) rfl rfl) ?_
        refine c_end ?_
        refine n_then ?_
        refine c_false rfl ?_
        refine c_skipn ?_
        refine n_then ?_
        refine wp_seq ?_
        refine c_reg ?_
        refine s0 (x_move (v := .slice _ _ _) rfl) ?_
        refine s0 (x_assign (v := .slice _ _ _) rfl) ?_
        refine c_end ?_
        refine n_then ?_
        refine wp_ret ?_
        refine f_ret rfl rfl ?_
        exact ⟨_, rfl, L, ⟨_, _, _, _, _, rfl, oz5, fz5.mono (by omega), oz5.n1, by omega⟩, hcu⟩
    · refine s0 (x_move (v := .bool _) rfl) ?_
      refine gf rfl rfl rfl rfl ?_
      refine gf rfl rfl rfl rfl ?_
      refine s0 (x_pickf (v := .bool _) rfl rfl) ?_
      refine c_end ?_
      refine n_then ?_
      refine c_false rfl ?_
      refine c_skipn ?_
      refine n_then ?_
      refine wp_seq ?_
      refine c_reg ?_
      refine s0 (x_move (v := .slice _ _ _) rfl) ?_
      refine s0 (x_assign (v := .slice _ _ _) rfl) ?_
      refine c_end ?_
      refine n_then ?_
      refine wp_ret ?_
      refine f_ret rfl rfl ?_
      exact ⟨_, rfl, L, ⟨_, _, _, _, _, rfl, oz5, fz5.mono (by omega), oz5.n1, by omega⟩, hcu⟩

end Go.Proofs.Ytnehdmcilmlchaa
