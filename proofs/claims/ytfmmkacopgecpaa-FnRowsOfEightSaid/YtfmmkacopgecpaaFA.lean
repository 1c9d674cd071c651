/- What each function of this part returns, for every argument that meets its premises. -/
import Derived.Test.YtfmmkacopgecpaaF9
namespace Go.Proofs.Ytfmmkacopgecpaa
open Go.Sx Go.Pl Go.RowKit
theorem ag124 : Ag Try.prog 124 2 := ⟨⟨_, Try.underlying124⟩, by kernel_rfl⟩
theorem cl16 : Callable Try.prog 16 := callable Try.func16 (by kernel_rfl) rfl
theorem cl17 : Callable Try.prog 17 := callable Try.func17 (by kernel_rfl) rfl
theorem cl89 : Callable Try.prog 89 := callable Try.func89 (by kernel_rfl) rfl
theorem cl90 : Callable Try.prog 90 := callable Try.func90 (by kernel_rfl) rfl
theorem cl96 : Callable Try.prog 96 := callable Try.func96 (by kernel_rfl) rfl
theorem cl97 : Callable Try.prog 97 := callable Try.func97 (by kernel_rfl) rfl
theorem cl98 : Callable Try.prog 98 := callable Try.func98 (by kernel_rfl) rfl
theorem cl99 : Callable Try.prog 99 := callable Try.func99 (by kernel_rfl) rfl
theorem fa124_0 : FieldAt Try.prog 124 0 0 := ⟨_, _, Try.underlying124, rfl, rfl, ⟨0, by unfold Sz; kernel_rfl⟩⟩
theorem fa124_1 : FieldAt Try.prog 124 1 1 := ⟨_, _, Try.underlying124, rfl, rfl, ⟨0, by unfold Sz; kernel_rfl⟩⟩
theorem so46 : SliceOf Try.prog 46 124 2 16 := ⟨by kernel_rfl, by kernel_rfl⟩
theorem un46 : Try.prog.underlying 46 = some (.slice 124) := by kernel_rfl
theorem fe79 {a0 b0 : Int} {a1 b1 : Int} : StEq Try.prog 79 [.int .i64 a0, .int .i64 a1] [.int .i64 b0, .int .i64 b1] (a0 = b0 ∧ a1 = b1 ∧ True) := ⟨_, Try.underlying79, by kernel_rfl, by kernel_rfl, (fe_int (by decide) sc3 un3 rfl rfl (fe_int (by decide) sc3 un3 rfl rfl fe_nil))⟩
/-- spec.TakeBits -/
theorem s_takeBits (s : ByteArray) (c : Ca) (n : Int) (w : World) (hs : s.size ≤ 1048576) :
    Calls Try.prog 31 [.agg [.string s, .int .i64 (c).pos, .int .i64 (c).word, .int .i64 (c).hv].toArray, .int .i64 n].toArray w (Ret w (.tuple [.agg [.string s, .int .i64 (tkC s c n).pos, .int .i64 (tkC s c n).word, .int .i64 (tkC s c n).hv].toArray, .int .i64 (tkV s c n), .bool (decide (tkOk s c n))].toArray)) := by
  have L : Exm [] w w := Exm.rfl'
  refine enter (n := 28) Try.func31 rfl rfl rfl ?_
  refine wp_seq ?_
  refine c_reg ?_
  refine s_box rfl rfl ?_
  intro b1 w2 lob1 hib1 l3 B1
  have z_l3 := l3.size
  have L := L.tr l3.up
  refine s_alloc zr31 ?_
  intro b4 w5 lob4 hib4 l6 B4
  have z_l6 := l6.size
  have L := L.tr l6.up
  have B1 := B1.ext l6
  refine s0 (x_assign (v := .int _ _) rfl) ?_
  refine s0 (x_assign (v := .bool _) rfl) ?_
  refine c_end ?_
  refine n_then ?_
  refine wp_seq ?_
  refine c_reg ?_
  refine st (x_loadAgB ag31 rfl B1 rfl) ?_
  refine s0 (x_move (v := .int _ _) rfl) ?_
  refine sr (zcall cl96 rfl) (s_peek _ c _ _ (by omega)) ?_
  intro w7 l8
  have z_l8 := l8.size
  have L := L.tr l8.up
  have B1 := B1.ext l8
  have B4 := B4.ext l8
  refine s0 (x_move (v := .tuple _) rfl) ?_
  refine s0 (x_extract rfl rfl) ?_
  refine s0 (x_extract rfl rfl) ?_
  refine s_alloc zr31 ?_
  intro b9 w10 lob9 hib9 l11 B9
  have z_l11 := l11.size
  have L := L.tr l11.up
  have B1 := B1.ext l11
  have B4 := B4.ext l11
  refine s_storeAg rfl sz31 rfl rfl B9 rfl rfl rfl ?_
  intro w12 l13 el13 B9
  have z_l13 := l13.size
  have L := L.fresh l13 (by omega)
  have B1 := B1.ne l13 (by omega)
  have B4 := B4.ne l13 (by omega)
  refine s0 (x_assign (v := .int _ _) rfl) ?_
  refine c_end ?_
  refine n_then ?_
  refine wp_seq ?_
  refine c_reg ?_
  refine st (x_loadAgB ag31 rfl B9 rfl) ?_
  refine s0 (x_move (v := .int _ _) rfl) ?_
  refine sr (zcall cl97 rfl) (s_skip _ (peekC s c n) _ _ (by omega)) ?_
  intro w14 l15
  have z_l15 := l15.size
  have L := L.tr l15.up
  have B1 := B1.ext l15
  have B4 := B4.ext l15
  have B9 := B9.ext l15
  refine s0 (x_move (v := .tuple _) rfl) ?_
  refine s0 (x_extract rfl rfl) ?_
  refine sb (x_extract rfl rfl) (fun h22 => ?_) (fun h22 => ?_)
  · refine s_alloc zr31 ?_
    intro b16 w17 lob16 hib16 l18 B16
    have z_l18 := l18.size
    have L := L.tr l18.up
    have B1 := B1.ext l18
    have B4 := B4.ext l18
    have B9 := B9.ext l18
    refine s_storeAg rfl sz31 rfl rfl B16 rfl rfl rfl ?_
    intro w19 l20 el20 B16
    have z_l20 := l20.size
    have L := L.fresh l20 (by omega)
    have B1 := B1.ne l20 (by omega)
    have B4 := B4.ne l20 (by omega)
    have B9 := B9.ne l20 (by omega)
    refine s0 (x_assign (v := .bool _) rfl) ?_
    refine c_end ?_
    refine n_then ?_
    refine wp_seq ?_
    refine wp_seq ?_
    refine c_reg ?_
    refine s0 (x_move (v := .bool _) rfl) ?_
    refine s0 (x_not rfl) ?_
    refine c_end ?_
    refine n_then ?_
    refine c_false rfl ?_
    refine c_skipn ?_
    refine n_then ?_
    refine wp_seq ?_
    refine c_reg ?_
    refine st (x_loadAgB ag31 rfl B16 rfl) ?_
    refine s0 (x_move (v := .int _ _) rfl) ?_
    refine s_storeAg rfl sz31 rfl rfl B4 rfl rfl rfl ?_
    intro w21 l22 el22 B4
    have z_l22 := l22.size
    have L := L.fresh l22 (by omega)
    have B1 := B1.ne l22 (by omega)
    have B9 := B9.ne l22 (by omega)
    have B16 := B16.ne l22 (by omega)
    refine s0 (x_assign (v := .int _ _) rfl) ?_
    refine s0 (x_assign (v := .bool _) rfl) ?_
    refine c_end ?_
    refine n_then ?_
    refine wp_ret ?_
    refine f_rets3 rfl (ro_cell rfl ag31 B4 rfl) (ro_tmp rfl) (ro_tmp rfl) ?_
    exact ⟨tk_yes' h22, L⟩
  · refine s_alloc zr31 ?_
    intro b23 w24 lob23 hib23 l25 B23
    have z_l25 := l25.size
    have L := L.tr l25.up
    have B1 := B1.ext l25
    have B4 := B4.ext l25
    have B9 := B9.ext l25
    refine s_storeAg rfl sz31 rfl rfl B23 rfl rfl rfl ?_
    intro w26 l27 el27 B23
    have z_l27 := l27.size
    have L := L.fresh l27 (by omega)
    have B1 := B1.ne l27 (by omega)
    have B4 := B4.ne l27 (by omega)
    have B9 := B9.ne l27 (by omega)
    refine s0 (x_assign (v := .bool _) rfl) ?_
    refine c_end ?_
    refine n_then ?_
    refine wp_seq ?_
    refine wp_seq ?_
    refine c_reg ?_
    refine s0 (x_move (v := .bool _) rfl) ?_
    refine s0 (x_not rfl) ?_
    refine c_end ?_
    refine n_then ?_
    refine c_true rfl ?_
    refine wp_seq ?_
    refine c_reg ?_
    refine st (x_loadAgB ag31 rfl B9 rfl) ?_
    refine s_storeAg rfl sz31 rfl rfl B4 rfl rfl rfl ?_
    intro w28 l29 el29 B4
    have z_l29 := l29.size
    have L := L.fresh l29 (by omega)
    have B1 := B1.ne l29 (by omega)
    have B9 := B9.ne l29 (by omega)
    have B23 := B23.ne l29 (by omega)
    refine s0 (x_assign (v := .int _ _) rfl) ?_
    refine s0 (x_assign (v := .bool _) rfl) ?_
    refine c_end ?_
    refine n_then ?_
    refine wp_ret (r_then ?_)
    refine f_rets3 rfl (ro_cell rfl ag31 B4 rfl) (ro_tmp rfl) (ro_tmp rfl) ?_
    exact ⟨tk_no' h22, L⟩

theorem app_byte {xs : List Int} {a : Int} (h : ∀ x ∈ xs, 0 ≤ x ∧ x ≤ 255) : ∀ x ∈ xs ++ [IntKind.u8.wrap a], 0 ≤ x ∧ x ≤ 255 := by
  intro x hx
  rcases List.mem_append.1 hx with h1 | h1
  · exact h x h1
  · simp at h1; subst h1; rw [wrap_u8]; omega

/-- spec.l1Text -/
theorem s_l1Text (b B : Nat) (most : Int) (w : World) (hcu : Cu w b B 159) (hm : 0 ≤ most ∧ most ≤ 1000) :
    Calls Try.prog 89 [pt b 0, .int .i64 most].toArray w (RetM [b] w fun v w' => (∃ s : ByteArray, v = .string s ∧ (s.size : Int) ≤ most) ∧ Cu w' b B 159) := by
  have hcb := hcu.lt
  have L : Exm [b] w w := Exm.rfl'
  refine enter (n := 38) Try.func89 rfl rfl rfl ?_
  refine wp_seq ?_
  refine c_reg ?_
  refine s0 (x_assign (v := .string _) rfl) ?_
  refine c_end ?_
  refine n_then ?_
  refine wp_seq ?_
  refine c_reg ?_
  refine s_bs0 so27 ?_
  intro p9 F9 w1 l2 o9 f9 g9
  have o9 : Own w1 p9 0 0 5 1 (bc []) F9 := o9
  have z_l2 := l2.size
  have L := L.tr l2.up
  have hcu := hcu.ext l2
  refine s0 (x_assign (v := .slice _ _ _) rfl) ?_
  refine c_end ?_
  refine n_then ?_
  refine wp_seq ?_
  refine c_reg ?_
  refine s0 (x_move (v := .pointer _) rfl) ?_
  refine spm (zcall cl146 rfl) (s_below b _ _ _ hcu) ?_
  rintro v11 w3 l4 ⟨⟨x11, rfl, hx11⟩, hcu⟩
  have z_l4 := l4.size
  have L := L.within l4 (by simp)
  have o9 := o9.ne l4 (by first | assumption | exact nin_of f9 g9 (by omega))
  refine s0 (x_assign (v := .int _ _) rfl) ?_
  refine c_end ?_
  refine n_then ?_
  refine wp_seq ?_
  refine wp_seq ?_
  refine c_reg ?_
  refine s0 (x_move (v := .pointer _) rfl) ?_
  refine s0 (x_move (v := .int _ _) rfl) ?_
  refine s0 (x_add rfl rfl (by omega)) ?_
  refine spm (zcall cl146 rfl) (s_below b _ _ _ hcu) ?_
  rintro v15 w5 l6 ⟨⟨x15, rfl, hx15⟩, hcu⟩
  have z_l6 := l6.size
  have L := L.within l6 (by simp)
  have o9 := o9.ne l6 (by first | assumption | exact nin_of f9 g9 (by omega))
  refine s0 (x_assign (v := .int _ _) rfl) ?_
  refine c_end ?_
  refine n_then ?_
  refine wp_block ?_
  refine c_loop (γ := List Int × Int) (fun g => g.2.toNat) (fun (g : List Int × Int) E wl => ∃ E0 pz5 cz5 Fz5, E = upd (upd (upd (upd E0 0 (pt b 0)) 5 (.slice pz5 ((g.1).length) cz5)) 6 (.int .i64 x11)) 7 (.int .i64 g.2) ∧ (Exm [b] w wl) ∧ (w5.heap.size ≤ wl.heap.size) ∧ (Cu wl b B 159) ∧ (Own wl pz5 ((g.1).length) cz5 5 1 (bc (g.1)) Fz5) ∧ (Fr (w.heap.size) Fz5) ∧ (Lt Fz5 wl.heap.size) ∧ (b ∉ Fz5) ∧ (∀ x ∈ g.1, 0 ≤ x ∧ x ≤ 255) ∧ (0 ≤ g.2 ∧ (g.1.length : Int) + g.2 ≤ most)) ([], x15) ⟨_, _, _, _, upd_self4 rfl rfl rfl rfl, L, (by omega), hcu, o9, (f9.mono (by omega)), (g9.mono (by omega)), (by first | assumption | exact nin_of f9 g9 (by omega)), (by intro x hx; cases hx), (by refine ⟨by omega, ?_⟩; show ((0 : Nat) : Int) + x15 ≤ most; omega)⟩ ?_
  rintro g E wl7 ⟨E0, pz5, cz5, Fz5, rfl, L, Lz, hcu, oz5, fz5, gz5, ab_z5, hg, hn⟩
  have Lz0 := L.size
  refine wp_seq ?_
  refine wp_seq ?_
  refine c_reg ?_
  refine s0 (x_move (v := .int _ _) rfl) ?_
  refine sb (x_gtr rfl rfl) (fun h17 => ?_) (fun h17 => ?_)
  · refine c_end ?_
    refine n_then ?_
    refine c_true rfl ?_
    refine c_skipn ?_
    refine n_then ?_
    refine wp_seq ?_
    refine wp_block ?_
    refine wp_seq ?_
    refine c_reg ?_
    refine s0 (x_move (v := .pointer _) rfl) ?_
    refine spm (zcall cl147 rfl) (s_byte b _ _ hcu) ?_
    rintro v21 w8 l9 ⟨⟨x21, rfl, hx21⟩, hcu⟩
    have z_l9 := l9.size
    have L := L.within l9 (by simp)
    have oz5 := oz5.ne l9 (by first | assumption | exact nin_of fz5 gz5 (by omega))
    refine s0 (x_assign (v := .int _ _) rfl) ?_
    refine c_end ?_
    refine n_then ?_
    refine wp_seq ?_
    refine wp_seq ?_
    refine c_reg ?_
    refine s0 (x_move (v := .int _ _) rfl) ?_
    refine sb (x_eql rfl rfl) (fun h23 => ?_) (fun h23 => ?_)
    · refine c_end ?_
      refine n_then ?_
      refine c_true rfl ?_
      refine c_reg ?_
      refine s0 (x_move (v := .int _ _) rfl) ?_
      refine s0 (x_rem rfl rfl (by omega) (by omega)) ?_
      refine s0 (x_assign (v := .int _ _) rfl) ?_
      refine c_end ?_
      refine n_then ?_
      refine wp_seq ?_
      refine wp_seq ?_
      refine c_reg ?_
      refine s0 (x_move (v := .int _ _) rfl) ?_
      refine sb (x_eql rfl rfl) (fun h27 => ?_) (fun h27 => ?_)
      · refine c_end ?_
        refine n_then ?_
        refine c_true rfl ?_
        refine c_reg ?_
        refine s0 (x_move (v := .int _ _) rfl) ?_
        refine s0 (x_rem rfl rfl (by omega) (by omega)) ?_
        refine s0 (x_add rfl rfl (by omega)) ?_
        refine s0 (x_assign (v := .int _ _) rfl) ?_
        refine c_end ?_
        refine n_then ?_
        refine c_reg ?_
        refine s0 (x_move (v := .slice _ _ _) rfl) ?_
        refine s0 (x_move (v := .int _ _) rfl) ?_
        refine s0 (x_convk us3 un5 rfl) ?_
        refine s_bsb (xs := [_]) so27 zr5 (pts_cons rfl pts_nil) rfl rfl rfl ?_
        intro p34 F34 w10 l11 o34 f34 g34
        have z_l11 := l11.size
        have L := L.tr l11.up
        have hcu := hcu.ext l11
        have oz5 := oz5.ext l11
        have hn34 := o34.nb
        refine s_appb (B := w.heap.size) so27 zr5 rfl rfl (xs := _) oz5 o34.sl fz5 (by omega) (by omega) (by omega) ?_
        intro p35 c35 F35 w12 l13 o35 hn35 k35 f35 g35
        have Bb_35 := hcu.exm l13 (by first | assumption | exact nin_of fz5 gz5 (by omega)) (fz5.mono (by omega))
        have ab_35 : b ∉ F35 := k35.nin (by first | assumption | exact nin_of fz5 gz5 (by omega)) (by omega)
        have hcu := Bb_35
        have z_l13 := l13.size
        have L := L.freshL l13 fz5 (by omega)
        have d34_35 : Dj F34 F35 := k35.dj (by first | assumption | exact Dj.symm (by assumption) | exact dj_of f34 g34 fz5 gz5 (by omega)) g34 (by omega)
        have o34 := o34.exm l13 (by first | assumption | exact Dj.symm (by assumption) | exact dj_of fz5 gz5 f34 g34 (by omega))
        refine s0 (x_assign (v := .slice _ _ _) rfl) ?_
        refine c_end ?_
        refine n_block ?_
        refine n_then ?_
        refine c_reg ?_
        refine s0 (x_move (v := .int _ _) rfl) ?_
        refine s0 (x_sub rfl rfl (by omega)) ?_
        refine s0 (x_assign (v := .int _ _) rfl) ?_
        refine c_end ?_
        exact c_round (g' := (_, g.2 - 1)) (by show (g.2 - 1).toNat < g.2.toNat; omega) ⟨_, _, _, _, upd_self4 rfl rfl rfl rfl, L, (by omega), hcu, o35, (f35.mono (by omega)), (g35.mono (by omega)), (by first | assumption | exact nin_of f35 g35 (by omega)), (app_byte hg), (by refine ⟨by omega, ?_⟩; rw [List.length_append]; simp only [List.length_cons, List.length_nil]; omega)⟩
      · refine c_end ?_
        refine n_then ?_
        refine c_false rfl ?_
        refine c_skipn ?_
        refine n_then ?_
        refine c_reg ?_
        refine s0 (x_move (v := .slice _ _ _) rfl) ?_
        refine s0 (x_move (v := .int _ _) rfl) ?_
        refine s0 (x_convk us3 un5 rfl) ?_
        refine s_bsb (xs := [_]) so27 zr5 (pts_cons rfl pts_nil) rfl rfl rfl ?_
        intro p34 F34 w14 l15 o34 f34 g34
        have z_l15 := l15.size
        have L := L.tr l15.up
        have hcu := hcu.ext l15
        have oz5 := oz5.ext l15
        have hn34 := o34.nb
        refine s_appb (B := w.heap.size) so27 zr5 rfl rfl (xs := _) oz5 o34.sl fz5 (by omega) (by omega) (by omega) ?_
        intro p35 c35 F35 w16 l17 o35 hn35 k35 f35 g35
        have Bb_35 := hcu.exm l17 (by first | assumption | exact nin_of fz5 gz5 (by omega)) (fz5.mono (by omega))
        have ab_35 : b ∉ F35 := k35.nin (by first | assumption | exact nin_of fz5 gz5 (by omega)) (by omega)
        have hcu := Bb_35
        have z_l17 := l17.size
        have L := L.freshL l17 fz5 (by omega)
        have d34_35 : Dj F34 F35 := k35.dj (by first | assumption | exact Dj.symm (by assumption) | exact dj_of f34 g34 fz5 gz5 (by omega)) g34 (by omega)
        have o34 := o34.exm l17 (by first | assumption | exact Dj.symm (by assumption) | exact dj_of fz5 gz5 f34 g34 (by omega))
        refine s0 (x_assign (v := .slice _ _ _) rfl) ?_
        refine c_end ?_
        refine n_block ?_
        refine n_then ?_
        refine c_reg ?_
        refine s0 (x_move (v := .int _ _) rfl) ?_
        refine s0 (x_sub rfl rfl (by omega)) ?_
        refine s0 (x_assign (v := .int _ _) rfl) ?_
        refine c_end ?_
        exact c_round (g' := (_, g.2 - 1)) (by show (g.2 - 1).toNat < g.2.toNat; omega) ⟨_, _, _, _, upd_self4 rfl rfl rfl rfl, L, (by omega), hcu, o35, (f35.mono (by omega)), (g35.mono (by omega)), (by first | assumption | exact nin_of f35 g35 (by omega)), (app_byte hg), (by refine ⟨by omega, ?_⟩; rw [List.length_append]; simp only [List.length_cons, List.length_nil]; omega)⟩
    · refine c_end ?_
      refine n_then ?_
      refine c_false rfl ?_
      refine c_skipn ?_
      refine n_then ?_
      refine wp_seq ?_
      refine wp_seq ?_
      refine c_reg ?_
      refine s0 (x_move (v := .int _ _) rfl) ?_
      refine sb (x_eql rfl rfl) (fun h27 => ?_) (fun h27 => ?_)
      · refine c_end ?_
        refine n_then ?_
        refine c_true rfl ?_
        refine c_reg ?_
        refine s0 (x_move (v := .int _ _) rfl) ?_
        refine s0 (x_rem rfl rfl (by omega) (by omega)) ?_
        refine s0 (x_add rfl rfl (by omega)) ?_
        refine s0 (x_assign (v := .int _ _) rfl) ?_
        refine c_end ?_
        refine n_then ?_
        refine c_reg ?_
        refine s0 (x_move (v := .slice _ _ _) rfl) ?_
        refine s0 (x_move (v := .int _ _) rfl) ?_
        refine s0 (x_convk us3 un5 rfl) ?_
        refine s_bsb (xs := [_]) so27 zr5 (pts_cons rfl pts_nil) rfl rfl rfl ?_
        intro p34 F34 w18 l19 o34 f34 g34
        have z_l19 := l19.size
        have L := L.tr l19.up
        have hcu := hcu.ext l19
        have oz5 := oz5.ext l19
        have hn34 := o34.nb
        refine s_appb (B := w.heap.size) so27 zr5 rfl rfl (xs := _) oz5 o34.sl fz5 (by omega) (by omega) (by omega) ?_
        intro p35 c35 F35 w20 l21 o35 hn35 k35 f35 g35
        have Bb_35 := hcu.exm l21 (by first | assumption | exact nin_of fz5 gz5 (by omega)) (fz5.mono (by omega))
        have ab_35 : b ∉ F35 := k35.nin (by first | assumption | exact nin_of fz5 gz5 (by omega)) (by omega)
        have hcu := Bb_35
        have z_l21 := l21.size
        have L := L.freshL l21 fz5 (by omega)
        have d34_35 : Dj F34 F35 := k35.dj (by first | assumption | exact Dj.symm (by assumption) | exact dj_of f34 g34 fz5 gz5 (by omega)) g34 (by omega)
        have o34 := o34.exm l21 (by first | assumption | exact Dj.symm (by assumption) | exact dj_of fz5 gz5 f34 g34 (by omega))
        refine s0 (x_assign (v := .slice _ _ _) rfl) ?_
        refine c_end ?_
        refine n_block ?_
        refine n_then ?_
        refine c_reg ?_
        refine s0 (x_move (v := .int _ _) rfl) ?_
        refine s0 (x_sub rfl rfl (by omega)) ?_
        refine s0 (x_assign (v := .int _ _) rfl) ?_
        refine c_end ?_
        exact c_round (g' := (_, g.2 - 1)) (by show (g.2 - 1).toNat < g.2.toNat; omega) ⟨_, _, _, _, upd_self4 rfl rfl rfl rfl, L, (by omega), hcu, o35, (f35.mono (by omega)), (g35.mono (by omega)), (by first | assumption | exact nin_of f35 g35 (by omega)), (app_byte hg), (by refine ⟨by omega, ?_⟩; rw [List.length_append]; simp only [List.length_cons, List.length_nil]; omega)⟩
      · refine c_end ?_
        refine n_then ?_
        refine c_false rfl ?_
        refine c_skipn ?_
        refine n_then ?_
        refine c_reg ?_
        refine s0 (x_move (v := .slice _ _ _) rfl) ?_
        refine s0 (x_move (v := .int _ _) rfl) ?_
        refine s0 (x_convk us3 un5 rfl) ?_
        refine s_bsb (xs := [_]) so27 zr5 (pts_cons rfl pts_nil) rfl rfl rfl ?_
        intro p34 F34 w22 l23 o34 f34 g34
        have z_l23 := l23.size
        have L := L.tr l23.up
        have hcu := hcu.ext l23
        have oz5 := oz5.ext l23
        have hn34 := o34.nb
        refine s_appb (B := w.heap.size) so27 zr5 rfl rfl (xs := _) oz5 o34.sl fz5 (by omega) (by omega) (by omega) ?_
        intro p35 c35 F35 w24 l25 o35 hn35 k35 f35 g35
        have Bb_35 := hcu.exm l25 (by first | assumption | exact nin_of fz5 gz5 (by omega)) (fz5.mono (by omega))
        have ab_35 : b ∉ F35 := k35.nin (by first | assumption | exact nin_of fz5 gz5 (by omega)) (by omega)
        have hcu := Bb_35
        have z_l25 := l25.size
        have L := L.freshL l25 fz5 (by omega)
        have d34_35 : Dj F34 F35 := k35.dj (by first | assumption | exact Dj.symm (by assumption) | exact dj_of f34 g34 fz5 gz5 (by omega)) g34 (by omega)
        have o34 := o34.exm l25 (by first | assumption | exact Dj.symm (by assumption) | exact dj_of fz5 gz5 f34 g34 (by omega))
        refine s0 (x_assign (v := .slice _ _ _) rfl) ?_
        refine c_end ?_
        refine n_block ?_
        refine n_then ?_
        refine c_reg ?_
        refine s0 (x_move (v := .int _ _) rfl) ?_
        refine s0 (x_sub rfl rfl (by omega)) ?_
        refine s0 (x_assign (v := .int _ _) rfl) ?_
        refine c_end ?_
        exact c_round (g' := (_, g.2 - 1)) (by show (g.2 - 1).toNat < g.2.toNat; omega) ⟨_, _, _, _, upd_self4 rfl rfl rfl rfl, L, (by omega), hcu, o35, (f35.mono (by omega)), (g35.mono (by omega)), (by first | assumption | exact nin_of f35 g35 (by omega)), (app_byte hg), (by refine ⟨by omega, ?_⟩; rw [List.length_append]; simp only [List.length_cons, List.length_nil]; omega)⟩
  · refine c_end ?_
    refine n_then ?_
    refine c_false rfl ?_
    refine wp_exit (e_then (e_then (e_here ?_)))
    refine n_then ?_
    refine wp_seq ?_
    refine c_reg ?_
    refine s0 (x_move (v := .slice _ _ _) rfl) ?_
    refine st (x_tostr un27 un5 un9 rfl oz5.sl hg) ?_
    refine s0 (x_assign (v := .string _) rfl) ?_
    refine c_end ?_
    refine n_then ?_
    refine wp_ret ?_
    refine f_ret rfl rfl ?_
    exact ⟨_, rfl, L, ⟨_, rfl, by rw [strOf_size]; omega⟩, hcu⟩

/-- spec.DrawCacheNew -/
theorem s_drawCacheNew (p : Option Addr) (xs : List Int) (c : Nat) (B : Nat) (w : World) (hp : Sl w p xs.length c 1 (bc xs)) (hr : ∀ x ∈ xs, 0 ≤ x ∧ x ≤ 255) (hpB : Bl p xs.length B) (hB : B ≤ w.heap.size) (hl : xs.length ≤ 1048576) :
    Calls Try.prog 22 [.slice p xs.length c].toArray w (RetP w fun v w' => ∃ s : ByteArray, v = .string s ∧ s.size ≤ 5) := by
  have L : Exm [] w w := Exm.rfl'
  refine enter (n := 6) Try.func22 rfl rfl rfl ?_
  refine wp_seq ?_
  refine c_reg ?_
  refine s0 (x_assign (v := .string _) rfl) ?_
  refine c_end ?_
  refine n_then ?_
  refine wp_seq ?_
  refine c_reg ?_
  refine s0 (x_move (v := .slice _ _ _) rfl) ?_
  refine sp (zcall cl90 rfl) (s_new _ _ _ B _ (hp.ext L) hr hpB (by omega) hl) ?_
  rintro v4 w1 l2 ⟨b4, rfl, ⟨lob4, hib4⟩, K4⟩
  have z_l2 := l2.size
  have L := L.tr l2.up
  refine spm (zcall cl89 rfl) (s_l1Text b4 _ _ _ K4 (by omega)) ?_
  rintro v5 w3 l4 ⟨⟨s5, rfl, hx5⟩, K4⟩
  have z_l4 := l4.size
  have L := L.fresh l4 (by omega)
  refine s0 (x_assign (v := .string _) rfl) ?_
  refine c_end ?_
  refine n_then ?_
  refine wp_ret ?_
  refine f_ret rfl rfl ?_
  exact ⟨_, rfl, L, _, rfl, by omega⟩

/-- spec.BitsOf -/
theorem s_bitsOf (s : ByteArray) (w : World) (hs : s.size ≤ 1048576) :
    Calls Try.prog 24 [.string s].toArray w (RetP w fun v w' => ∃ p c F, v = .slice p (bitsS s).length c ∧ Own w' p (bitsS s).length c 3 1 (ic (bitsS s)) F ∧ Fr w.heap.size F) := by
  have L : Exm [] w w := Exm.rfl'
  refine enter (n := 20) Try.func24 rfl rfl rfl ?_
  refine wp_seq ?_
  refine c_reg ?_
  refine s0 (x_assign (v := .slice _ _ _) rfl) ?_
  refine c_end ?_
  refine n_then ?_
  refine wp_seq ?_
  refine c_reg ?_
  refine s_bs0 so33 ?_
  intro p5 F5 w1 l2 o5 f5 g5
  have o5 : Own w1 p5 0 0 3 1 (ic []) F5 := o5
  have z_l2 := l2.size
  have L := L.tr l2.up
  refine s0 (x_assign (v := .slice _ _ _) rfl) ?_
  refine c_end ?_
  refine n_then ?_
  refine wp_seq ?_
  refine wp_seq ?_
  refine c_reg ?_
  refine s0 (x_assign (v := .int _ _) rfl) ?_
  refine c_end ?_
  refine n_then ?_
  refine wp_block ?_
  refine c_loop (γ := Nat) (fun k => 8 * s.size - k) (fun (k : Nat) E wl => ∃ E0 pz3 cz3 Fz3, E = upd (upd (upd E0 0 (.string s)) 3 (.slice pz3 (((List.range k).map (fun i : Nat => bitAt s (i : Int))).length) cz3)) 4 (.int .i64 (k : Int)) ∧ (Exm [] w wl) ∧ (w1.heap.size ≤ wl.heap.size) ∧ (Own wl pz3 (((List.range k).map (fun i : Nat => bitAt s (i : Int))).length) cz3 3 1 (ic ((List.range k).map (fun i : Nat => bitAt s (i : Int)))) Fz3) ∧ (Fr (w.heap.size) Fz3) ∧ (Lt Fz3 wl.heap.size) ∧ ((k : Int) ≤ 8 * s.size)) 0 ⟨_, _, _, _, upd_self3 rfl rfl rfl, L, (by omega), o5, (f5.mono (by omega)), (g5.mono (by omega)), (by omega)⟩ ?_
  rintro k E wl3 ⟨E0, pz3, cz3, Fz3, rfl, L, Lz, oz3, fz3, gz3, hk⟩
  have Lz0 := L.size
  have hlen : ((List.range k).map (fun i : Nat => bitAt s (i : Int))).length = k := by rw [List.length_map, List.length_range]
  refine wp_seq ?_
  refine wp_seq ?_
  refine c_reg ?_
  refine s0 (x_move (v := .int _ _) rfl) ?_
  refine s0 (x_move (v := .string _) rfl) ?_
  refine s0 (x_len un9 rfl) ?_
  refine s0 (x_mul rfl rfl (by omega)) ?_
  refine sb (x_lss rfl rfl) (fun h10 => ?_) (fun h10 => ?_)
  · refine c_end ?_
    refine n_then ?_
    refine c_true rfl ?_
    refine c_skipn ?_
    refine n_then ?_
    refine wp_seq ?_
    refine wp_block ?_
    refine c_reg ?_
    refine s0 (x_move (v := .slice _ _ _) rfl) ?_
    refine s0 (x_move (v := .string _) rfl) ?_
    refine s0 (x_move (v := .int _ _) rfl) ?_
    refine sr (zcall cl91 rfl) (s_bitAt _ _ _ (by omega)) ?_
    intro w4 l5
    have z_l5 := l5.size
    have L := L.tr l5.up
    have oz3 := oz3.ext l5
    refine s_bsi (xs := [_]) so33 zr3 (pts_cons rfl pts_nil) rfl rfl rfl ?_
    intro p17 F17 w6 l7 o17 f17 g17
    have z_l7 := l7.size
    have L := L.tr l7.up
    have oz3 := oz3.ext l7
    have hn17 := o17.n1
    refine s_appi (B := w.heap.size) so33 zr3 rfl rfl (xs := _) oz3 o17.sl fz3 (by omega) (by omega) (by omega) ?_
    intro p18 c18 F18 w8 l9 o18 hn18 k18 f18 g18
    have z_l9 := l9.size
    have L := L.freshL l9 fz3 (by omega)
    have d17_18 : Dj F17 F18 := k18.dj (by first | assumption | exact Dj.symm (by assumption) | exact dj_of f17 g17 fz3 gz3 (by omega)) g17 (by omega)
    have o17 := o17.exm l9 (by first | assumption | exact Dj.symm (by assumption) | exact dj_of fz3 gz3 f17 g17 (by omega))
    refine s0 (x_assign (v := .slice _ _ _) rfl) ?_
    refine c_end ?_
    refine n_block ?_
    refine n_then ?_
    refine c_reg ?_
    refine s0 (x_move (v := .int _ _) rfl) ?_
    refine s0 (x_add rfl rfl (by omega)) ?_
    refine s0 (x_assign (v := .int _ _) rfl) ?_
    refine c_end ?_
    exact c_round (g' := k + 1) (by omega) ⟨_, _, _, _, upd_self3 rfl (by (rw [List.range_succ, List.map_append]); rfl) (vint (by omega)), L, (by omega), (by (rw [List.range_succ, List.map_append]); exact o18), (f18.mono (by omega)), (g18.mono (by omega)), (by omega)⟩
  · refine c_end ?_
    refine n_then ?_
    refine c_false rfl ?_
    refine wp_exit (e_then (e_then (e_here ?_)))
    refine n_then ?_
    refine wp_seq ?_
    refine c_reg ?_
    refine s0 (x_move (v := .slice _ _ _) rfl) ?_
    refine s0 (x_assign (v := .slice _ _ _) rfl) ?_
    refine c_end ?_
    refine n_then ?_
    refine wp_ret ?_
    refine f_ret rfl rfl ?_
    obtain rfl : k = 8 * s.size := by omega
    exact ⟨_, rfl, L, _, _, _, rfl, oz3, fz3.mono (by omega)⟩

theorem ent_eq {k : Nat} {xs ys : List (Int × Int)} (h : ¬ ¬ ((xs.getD (k : Int).toNat default).1 = (ys.getD (k : Int).toNat default).1 ∧ (xs.getD (k : Int).toNat default).2 = (ys.getD (k : Int).toNat default).2 ∧ True)) : xs.getD k default = ys.getD k default := by
  have h := Classical.not_not.1 h
  simp only [Int.toNat_natCast] at h
  exact Prod.ext h.1 h.2.1
theorem ueTab_len {xs : List (Int × Int)} (h : xs = ueTab) : xs.length = 512 := by rw [h]; unfold ueTab; rw [List.length_map, List.length_range]

/-- laws.szEntryS -/
theorem l_szEntryS (p : Option Addr) (n c : Nat) (left : Int) (w : World) (hs : n ≤ 9223372036854775807) (hl : 0 ≤ left ∧ left ≤ 9223372036854775807) :
    Calls Try.prog 34 [.slice p n c, .int .i64 left].toArray w (Ret w (.int .i64 (szOf left n))) := by
  have L : Exm [] w w := Exm.rfl'
  refine enter (n := 12) Try.func34 rfl rfl rfl ?_
  refine wp_seq ?_
  refine c_reg ?_
  refine s0 (x_assign (v := .int _ _) rfl) ?_
  refine c_end ?_
  refine n_then ?_
  refine wp_seq ?_
  refine c_reg ?_
  refine s0 (x_move (v := .int _ _) rfl) ?_
  refine s0 (x_move (v := .slice _ _ _) rfl) ?_
  refine s0 (x_lensl un46 rfl) ?_
  refine s0 (x_sub rfl rfl (by omega)) ?_
  refine s0 (x_assign (v := .int _ _) rfl) ?_
  refine c_end ?_
  refine n_then ?_
  refine wp_seq ?_
  refine wp_seq ?_
  refine c_reg ?_
  refine s0 (x_move (v := .int _ _) rfl) ?_
  refine sb (x_lss rfl rfl) (fun h10 => ?_) (fun h10 => ?_)
  · refine c_end ?_
    refine n_then ?_
    refine c_true rfl ?_
    refine wp_seq ?_
    refine c_reg ?_
    refine s0 (x_assign (v := .int _ _) rfl) ?_
    refine c_end ?_
    refine n_then ?_
    refine wp_ret (r_then ?_)
    refine f_ret rfl rfl ?_
    exact ⟨ret_int (by unfold szOf; rw [if_pos (by omega)]), L⟩
  · refine c_end ?_
    refine n_then ?_
    refine c_false rfl ?_
    refine c_skipn ?_
    refine n_then ?_
    refine wp_seq ?_
    refine c_reg ?_
    refine s0 (x_move (v := .int _ _) rfl) ?_
    refine s0 (x_assign (v := .int _ _) rfl) ?_
    refine c_end ?_
    refine n_then ?_
    refine wp_ret ?_
    refine f_ret rfl rfl ?_
    exact ⟨ret_int (by unfold szOf; rw [if_neg (by omega)]), L⟩

/-- laws.toEntry -/
theorem l_toEntry (a b : Int) (w : World) :
    Calls Try.prog 98 [.agg [.int .i64 a, .int .i64 b].toArray].toArray w (Ret w (.agg [.int .i64 a, .int .i64 b].toArray)) := by
  have L : Exm [] w w := Exm.rfl'
  refine enter (n := 11) Try.func98 rfl rfl rfl ?_
  refine wp_seq ?_
  refine c_reg ?_
  refine s_box rfl rfl ?_
  intro b1 w2 lob1 hib1 l3 B1
  have z_l3 := l3.size
  have L := L.tr l3.up
  refine s_alloc zr79 ?_
  intro b4 w5 lob4 hib4 l6 B4
  have z_l6 := l6.size
  have L := L.tr l6.up
  have B1 := B1.ext l6
  refine c_end ?_
  refine n_then ?_
  refine wp_seq ?_
  refine c_reg ?_
  refine s_alloc zr79 ?_
  intro b7 w8 lob7 hib7 l9 B7
  have z_l9 := l9.size
  have L := L.tr l9.up
  have B1 := B1.ext l9
  have B4 := B4.ext l9
  refine c_end ?_
  refine n_then ?_
  refine wp_seq ?_
  refine c_reg ?_
  refine s0 (x_fieldAddr fa124_0 rfl) ?_
  refine st (x_loadB sc3 rfl B1 rfl) ?_
  refine s0 (x_fieldAddr fa79_0 rfl) ?_
  refine s_store (v := .int _ _) (cs' := [_, _]) rfl sz3 rfl rfl rfl rfl B7 rfl rfl ?_
  intro w10 l11 el11 B7
  have z_l11 := l11.size
  have L := L.fresh l11 (by omega)
  have B1 := B1.ne l11 (by omega)
  have B4 := B4.ne l11 (by omega)
  refine c_end ?_
  refine n_then ?_
  refine wp_seq ?_
  refine c_reg ?_
  refine s0 (x_fieldAddr fa124_1 rfl) ?_
  refine st (x_loadB sc3 rfl B1 rfl) ?_
  refine s0 (x_fieldAddr fa79_1 rfl) ?_
  refine s_store (v := .int _ _) (cs' := [_, _]) rfl sz3 rfl rfl rfl rfl B7 rfl rfl ?_
  intro w12 l13 el13 B7
  have z_l13 := l13.size
  have L := L.fresh l13 (by omega)
  have B1 := B1.ne l13 (by omega)
  have B4 := B4.ne l13 (by omega)
  refine c_end ?_
  refine n_then ?_
  refine wp_seq ?_
  refine c_reg ?_
  refine st (x_loadAgB ag79 rfl B7 rfl) ?_
  refine s_storeAg rfl sz79 rfl rfl B4 rfl rfl rfl ?_
  intro w14 l15 el15 B4
  have z_l15 := l15.size
  have L := L.fresh l15 (by omega)
  have B1 := B1.ne l15 (by omega)
  have B7 := B7.ne l15 (by omega)
  refine c_end ?_
  refine n_then ?_
  refine wp_ret ?_
  refine f_retc rfl rfl ag79 B4 rfl ?_
  exact ⟨rfl, L⟩

/-- laws.toEntryS -/
theorem l_toEntryS (p : Option Addr) (xs : List (Int × Int)) (c : Nat) (w : World) (hp : Sl w p xs.length c 2 (xs.flatMap erow)) (hl : xs.length ≤ 1099511627776) :
    Calls Try.prog 36 [.slice p xs.length c].toArray w (RetP w fun v w' => ∃ p c F, v = .slice p (xs).length c ∧ Own w' p (xs).length c 79 2 ((xs).flatMap erow) F ∧ Fr w.heap.size F) := by
  have L : Exm [] w w := Exm.rfl'
  refine enter (n := 23) Try.func36 rfl rfl rfl ?_
  refine wp_seq ?_
  refine c_reg ?_
  refine s0 (x_assign (v := .slice _ _ _) rfl) ?_
  refine c_end ?_
  refine n_then ?_
  refine wp_seq ?_
  refine c_reg ?_
  refine s0 (x_move (v := .slice _ _ _) rfl) ?_
  refine s0 (x_lensl un46 rfl) ?_
  refine s_maker (0, 0) erow_len so22 zr79 rfl rfl (by omega) (by omega) (by omega) ?_
  intro p7 F7 w1 l2 o7 f7 g7
  have z_l2 := l2.size
  have L := L.tr l2.up
  have hn7 := o7.nr erow_len (by decide)
  refine s0 (x_assign (v := .slice _ _ _) rfl) ?_
  refine c_end ?_
  refine n_then ?_
  refine wp_seq ?_
  refine wp_seq ?_
  refine c_reg ?_
  refine s0 (x_assign (v := .int _ _) rfl) ?_
  refine c_end ?_
  refine n_then ?_
  refine wp_block ?_
  refine c_loop (γ := Nat) (fun k => xs.length - k) (fun (k : Nat) E wl => ∃ E0 pz3 cz3 Fz3, E = upd (upd (upd E0 0 (.slice p xs.length c)) 3 (.slice pz3 (xs.length) cz3)) 4 (.int .i64 (k : Int)) ∧ (Exm [] w wl) ∧ (w1.heap.size ≤ wl.heap.size) ∧ (Own wl pz3 (xs.length) cz3 79 2 ((mkU xs (List.replicate xs.length (0, 0)) k).flatMap erow) Fz3) ∧ (Fr (w.heap.size) Fz3) ∧ (Lt Fz3 wl.heap.size) ∧ ((k : Int) ≤ xs.length)) 0 ⟨_, _, _, _, upd_self3 rfl rfl rfl, L, (by omega), (by rw [mkU_zero]; exact o7), (f7.mono (by omega)), (g7.mono (by omega)), (by omega)⟩ ?_
  rintro k E wl3 ⟨E0, pz3, cz3, Fz3, rfl, L, Lz, oz3, fz3, gz3, hk⟩
  have Lz0 := L.size
  have hml : (mkU xs (List.replicate xs.length (0, 0)) k).length = xs.length := by rw [mkU_length (by rw [List.length_replicate]), List.length_replicate]
  refine wp_seq ?_
  refine wp_seq ?_
  refine c_reg ?_
  refine s0 (x_move (v := .int _ _) rfl) ?_
  refine s0 (x_move (v := .slice _ _ _) rfl) ?_
  refine s0 (x_lensl un46 rfl) ?_
  refine sb (x_lss rfl rfl) (fun h11 => ?_) (fun h11 => ?_)
  · refine c_end ?_
    refine n_then ?_
    refine c_true rfl ?_
    refine c_skipn ?_
    refine n_then ?_
    refine wp_seq ?_
    refine wp_block ?_
    refine c_reg ?_
    refine s0 (x_move (v := .slice _ _ _) rfl) ?_
    refine s0 (x_move (v := .int _ _) rfl) ?_
    refine s0 (x_move (v := .slice _ _ _) rfl) ?_
    refine s0 (x_move (v := .int _ _) rfl) ?_
    refine s0 (x_idx so46 rfl rfl hp (by decide) (by omega) (by omega)) ?_
    refine st (x_ldr erow_len ag124 rfl (hp.ext L) (by omega) (by omega)) ?_
    refine sr (zcall cl98 rfl) (l_toEntry _ _ _) ?_
    intro w4 l5
    have z_l5 := l5.size
    have L := L.tr l5.up
    have oz3 := oz3.ext l5
    refine s0 (x_idx so22 rfl rfl oz3.sl (by decide) (by omega) (by omega)) ?_
    refine s_stor (v := xs.getD (k : Int).toNat default) erow_len erow_one rfl sz79 rfl rfl (by decide) oz3 (by omega) (by omega) ?_
    intro w6 l7 el7 oz3
    have z_l7 := l7.size
    have L := L.freshL l7 fz3 (by omega)
    have hnl7 := oz3.nr erow_len (by decide)
    refine c_end ?_
    refine n_block ?_
    refine n_then ?_
    refine c_reg ?_
    refine s0 (x_move (v := .int _ _) rfl) ?_
    refine s0 (x_add rfl rfl (by omega)) ?_
    refine s0 (x_assign (v := .int _ _) rfl) ?_
    refine c_end ?_
    exact c_round (g' := k + 1) (by omega) ⟨_, _, _, _, upd_self3 rfl (by (skip); rfl) (vint (by omega)), L, (by omega), (by (rw [← mkU_succ (j := k) (v := xs.getD (k : Int).toNat default) (by rw [List.length_replicate]) (by rw [List.length_replicate]; omega) (get_some (i := (k : Int)) (by omega) (by omega))]); exact oz3), (fz3.mono (by omega)), (gz3.mono (by omega)), (by omega)⟩
  · refine c_end ?_
    refine n_then ?_
    refine c_false rfl ?_
    refine wp_exit (e_then (e_then (e_here ?_)))
    refine n_then ?_
    refine wp_seq ?_
    refine c_reg ?_
    refine s0 (x_move (v := .slice _ _ _) rfl) ?_
    refine s0 (x_assign (v := .slice _ _ _) rfl) ?_
    refine c_end ?_
    refine n_then ?_
    refine wp_ret ?_
    refine f_ret rfl rfl ?_
    obtain rfl : k = xs.length := by omega
    have hend : mkU xs (List.replicate xs.length (0, 0)) xs.length = xs := by have := mkU_end (ms := xs) (xs := List.replicate xs.length (0, 0)) (by rw [List.length_replicate]); rwa [List.length_replicate] at this
    rw [hend] at oz3
    exact ⟨_, rfl, L, _, _, _, rfl, oz3, fz3.mono (by omega)⟩

/-- slices.Equal[[]impl.Entry,impl.Entry] -/
theorem g_equalE (p q : Option Addr) (xs ys : List (Int × Int)) (c d : Nat) (w : World) (hp : Sl w p xs.length c 2 (xs.flatMap erow)) (hq : Sl w q ys.length d 2 (ys.flatMap erow)) (hl : xs.length ≤ 1099511627776) :
    Calls Try.prog 99 [.slice p xs.length c, .slice q ys.length d].toArray w (Ret w (.bool (decide (xs = ys)))) := by
  have L : Exm [] w w := Exm.rfl'
  refine enter (n := 26) Try.func99 rfl rfl rfl ?_
  refine wp_seq ?_
  refine c_reg ?_
  refine s0 (x_assign (v := .bool _) rfl) ?_
  refine c_end ?_
  refine n_then ?_
  refine wp_seq ?_
  refine wp_seq ?_
  refine c_reg ?_
  refine s0 (x_move (v := .slice _ _ _) rfl) ?_
  refine s0 (x_lensl un22 rfl) ?_
  refine s0 (x_move (v := .slice _ _ _) rfl) ?_
  refine s0 (x_lensl un22 rfl) ?_
  refine sb (x_neq rfl rfl) (fun h10 => ?_) (fun h10 => ?_)
  · refine c_end ?_
    refine n_then ?_
    refine c_true rfl ?_
    refine wp_seq ?_
    refine c_reg ?_
    refine s0 (x_assign (v := .bool _) rfl) ?_
    refine c_end ?_
    refine n_then ?_
    refine wp_ret (r_then ?_)
    refine f_ret rfl rfl ?_
    exact ⟨ret_f (fun h => h10 (by rw [h])), L⟩
  · refine c_end ?_
    refine n_then ?_
    refine c_false rfl ?_
    refine c_skipn ?_
    refine n_then ?_
    refine wp_seq ?_
    refine wp_seq ?_
    refine c_reg ?_
    refine s0 (x_move (v := .slice _ _ _) rfl) ?_
    refine s0 (x_lensl un22 rfl) ?_
    refine s0 (x_move (v := .int _ _) rfl) ?_
    refine c_end ?_
    refine n_then ?_
    refine wp_block ?_
    refine c_loop (γ := Nat) (fun k => xs.length - k) (fun (k : Nat) E wl => ∃ E0, E = upd (upd (upd (upd E0 0 (.slice p xs.length c)) 1 (.slice q ys.length d)) 12 (.int .i64 xs.length)) 13 (.int .i64 (k : Int)) ∧ (Exm [] w wl) ∧ ((k : Int) ≤ xs.length) ∧ (∀ j : Nat, j < k → xs.getD j default = ys.getD j default)) 0 ⟨_, upd_self4 rfl rfl rfl rfl, L, (by omega), (by intro j hj; omega)⟩ ?_
    rintro k E wl1 ⟨E0, rfl, L, hk, heq⟩
    have Lz0 := L.size
    refine wp_seq ?_
    refine c_reg ?_
    refine sb (x_lss rfl rfl) (fun h14 => ?_) (fun h14 => ?_)
    · refine c_end ?_
      refine n_then ?_
      refine wp_seq ?_
      refine c_true rfl ?_
      refine c_skipn ?_
      refine n_then ?_
      refine wp_seq ?_
      refine wp_block ?_
      refine wp_seq ?_
      refine c_reg ?_
      refine s0 (x_move (v := .int _ _) rfl) ?_
      refine s0 (x_assign (v := .int _ _) rfl) ?_
      refine c_end ?_
      refine n_then ?_
      refine wp_seq ?_
      refine c_plan (fun wq => Exm [] wl1 wq) 9 (.cons (0, 2) (.cons (1, 2) (.cons (2, 2) (.cons (3, 1) (.cons (4, 2) (.cons (5, 2) (.cons (6, 2) (.cons (7, 1) (.cons (8, 2) .nil))))))))) (by kernel_rfl) (by kernel_rfl) (Exm.drew _) ?_
      obtain ⟨w2, hwd⟩ : ∃ x, x = wl1.drew := ⟨_, rfl⟩
      have l3 : Ext wl1 w2 := by rw [hwd]; exact Exm.drew _
      rw [← hwd]; clear hwd
      have Lq : Exm [] wl1 w2 := l3.up
      have qL := L
      have z_l3 := l3.size
      have L := L.tr l3.up
      refine p0 rfl (x_move (v := .slice _ _ _) rfl) ?_
      refine p0 rfl (x_move (v := .int _ _) rfl) ?_
      refine p0 rfl (x_idx so22 rfl rfl hp (by decide) (by omega) (by omega)) ?_
      refine ps rfl (fun wq hwq => x_ldr erow_len ag79 rfl ((hp.ext qL).ext hwq) (by omega) (by omega)) ?_
      refine p0 rfl (x_move (v := .slice _ _ _) rfl) ?_
      refine p0 rfl (x_move (v := .int _ _) rfl) ?_
      refine p0 rfl (x_idx so22 rfl rfl hq (by decide) (by omega) (by omega)) ?_
      refine ps rfl (fun wq hwq => x_ldr erow_len ag79 rfl ((hq.ext qL).ext hwq) (by omega) (by omega)) ?_
      refine pb rfl (x_neqa fe79 rfl rfl) (fun h24 => ?_) (fun h24 => ?_)
      · refine p_nil (np_normal ?_)
        refine n_then ?_
        refine c_true rfl ?_
        refine wp_seq ?_
        refine c_reg ?_
        refine s0 (x_assign (v := .bool _) rfl) ?_
        refine c_end ?_
        refine n_then ?_
        refine wp_ret (r_block (r_then (r_then (r_block (r_then ?_)))))
        refine f_ret rfl rfl ?_
        exact ⟨ret_f (fun h => h24 (by rw [h]; exact ⟨rfl, rfl, trivial⟩)), L⟩
      · refine p_nil (np_normal ?_)
        refine n_then ?_
        refine c_false rfl ?_
        refine c_skipn ?_
        refine n_block ?_
        refine n_then ?_
        refine c_reg ?_
        refine s0 (x_add rfl rfl (by omega)) ?_
        refine s0 (x_move (v := .int _ _) rfl) ?_
        refine c_end ?_
        exact c_round (g' := k + 1) (by omega) ⟨_, upd_self4 rfl rfl rfl (vint (by omega)), L, (by omega), (upto_succ' heq (ent_eq h24))⟩
    · refine c_end ?_
      refine n_then ?_
      refine wp_seq ?_
      refine c_false rfl ?_
      refine wp_exit (e_then (e_then (e_here ?_)))
      refine n_then ?_
      refine wp_seq ?_
      refine c_reg ?_
      refine s0 (x_assign (v := .bool _) rfl) ?_
      refine c_end ?_
      refine n_then ?_
      refine wp_ret ?_
      refine f_ret rfl rfl ?_
      exact ⟨ret_t (ext_getD (by omega) fun j hj => heq j (by omega)), L⟩

/-- impl.TableOk -/
theorem i_tableOk (p : Option Addr) (xs : List (Int × Int)) (c : Nat) (w : World) (hp : Sl w p xs.length c 2 (xs.flatMap erow)) (hl : xs.length ≤ 1099511627776) :
    Calls Try.prog 37 [.slice p xs.length c].toArray w (Ret w (.bool (decide (xs = ueTab)))) := by
  have L : Exm [] w w := Exm.rfl'
  refine enter (n := 6) Try.func37 rfl rfl rfl ?_
  refine wp_seq ?_
  refine c_reg ?_
  refine s0 (x_assign (v := .bool _) rfl) ?_
  refine c_end ?_
  refine n_then ?_
  refine wp_seq ?_
  refine c_reg ?_
  refine s0 (x_move (v := .slice _ _ _) rfl) ?_
  refine sp (zcall cl17 rfl) (i_ueTable _) ?_
  rintro v4 w1 l2 ⟨xs4, hx4, p4, c4, F4, rfl, o4, f4⟩
  have z_l2 := l2.size
  have L := L.tr l2.up
  have hl4 := ueTab_len hx4
  have g4 := o4.lt
  refine sr (zcall cl99 rfl) (g_equalE _ _ _ _ _ _ _ (hp.ext L) o4.sl (by omega)) ?_
  intro w3 l4
  have z_l4 := l4.size
  have L := L.tr l4.up
  have o4 := o4.ext l4
  refine s0 (x_assign (v := .bool _) rfl) ?_
  refine c_end ?_
  refine n_then ?_
  refine wp_ret ?_
  refine f_ret rfl rfl ?_
  exact ⟨ret_dec2 (by rw [hx4]), L⟩

/-- spec.TableOk -/
theorem s_tableOk (p : Option Addr) (xs : List (Int × Int)) (c : Nat) (w : World) (hp : Sl w p xs.length c 2 (xs.flatMap erow)) (hl : xs.length ≤ 1099511627776) :
    Calls Try.prog 35 [.slice p xs.length c].toArray w (Ret w (.bool (decide (xs = ueTab)))) := by
  have L : Exm [] w w := Exm.rfl'
  refine enter (n := 32) Try.func35 rfl rfl rfl ?_
  refine wp_seq ?_
  refine c_reg ?_
  refine s0 (x_assign (v := .bool _) rfl) ?_
  refine c_end ?_
  refine n_then ?_
  refine wp_seq ?_
  refine c_reg ?_
  refine sp (zcall cl16 rfl) (s_ueTable _) ?_
  rintro v5 w1 l2 ⟨xs5, hx5, p5, c5, F5, rfl, o5, f5⟩
  have z_l2 := l2.size
  have L := L.tr l2.up
  have hl5 := ueTab_len hx5
  have g5 := o5.lt
  refine s0 (x_assign (v := .slice _ _ _) rfl) ?_
  refine c_end ?_
  refine n_then ?_
  refine wp_seq ?_
  refine wp_seq ?_
  refine c_reg ?_
  refine s0 (x_assign (v := .int _ _) rfl) ?_
  refine c_end ?_
  refine n_then ?_
  refine wp_block ?_
  refine c_loop (γ := Nat) (fun k => xs.length - k) (fun (k : Nat) E wl => ∃ E0, E = upd (upd (upd E0 0 (.slice p xs.length c)) 3 (.slice p5 xs5.length c5)) 4 (.int .i64 (k : Int)) ∧ (Exm [] w wl) ∧ (w1.heap.size ≤ wl.heap.size) ∧ (Own wl p5 xs5.length c5 79 2 (xs5.flatMap erow) F5) ∧ ((k : Int) ≤ xs.length ∧ (k : Int) ≤ xs5.length) ∧ (∀ j : Nat, j < k → xs.getD j default = xs5.getD j default)) 0 ⟨_, upd_self3 rfl rfl rfl, L, (by omega), o5, (by omega), (by intro j hj; omega)⟩ ?_
  rintro k E wl3 ⟨E0, rfl, L, Lz, o5, hk, heq⟩
  have Lz0 := L.size
  refine wp_seq ?_
  refine wp_seq ?_
  refine c_reg ?_
  refine s0 (x_move (v := .int _ _) rfl) ?_
  refine s0 (x_move (v := .slice _ _ _) rfl) ?_
  refine s0 (x_lensl un22 rfl) ?_
  refine sb (x_lss rfl rfl) (fun h9 => ?_) (fun h9 => ?_)
  · refine s0 (x_move (v := .bool _) rfl) ?_
    refine gt rfl rfl rfl rfl ?_
    refine s0 (x_move (v := .int _ _) rfl) ?_
    refine gt rfl rfl rfl rfl ?_
    refine s0 (x_move (v := .slice _ _ _) rfl) ?_
    refine gt rfl rfl rfl rfl ?_
    refine s0 (x_lensl un22 rfl) ?_
    refine gt rfl rfl rfl rfl ?_
    refine sb (x_lss rfl rfl) (fun h14 => ?_) (fun h14 => ?_)
    · refine s0 (x_pickt (v := .bool _) rfl rfl) ?_
      refine c_end ?_
      refine n_then ?_
      refine c_true rfl ?_
      refine c_skipn ?_
      refine n_then ?_
      refine wp_seq ?_
      refine wp_block ?_
      refine wp_seq ?_
      refine c_plan (fun wq => Exm [] wl3 wq) 9 (.cons (0, 2) (.cons (1, 2) (.cons (2, 2) (.cons (3, 1) (.cons (4, 2) (.cons (5, 2) (.cons (6, 2) (.cons (7, 1) (.cons (8, 2) .nil))))))))) (by kernel_rfl) (by kernel_rfl) (Exm.drew _) ?_
      obtain ⟨w4, hwd⟩ : ∃ x, x = wl3.drew := ⟨_, rfl⟩
      have l5 : Ext wl3 w4 := by rw [hwd]; exact Exm.drew _
      rw [← hwd]; clear hwd
      have Lq : Exm [] wl3 w4 := l5.up
      have qo5 := o5
      have qL := L
      have z_l5 := l5.size
      have L := L.tr l5.up
      have o5 := o5.ext l5
      refine p0 rfl (x_move (v := .slice _ _ _) rfl) ?_
      refine p0 rfl (x_move (v := .int _ _) rfl) ?_
      refine p0 rfl (x_idx so22 rfl rfl hp (by decide) (by omega) (by omega)) ?_
      refine ps rfl (fun wq hwq => x_ldr erow_len ag79 rfl ((hp.ext qL).ext hwq) (by omega) (by omega)) ?_
      refine p0 rfl (x_move (v := .slice _ _ _) rfl) ?_
      refine p0 rfl (x_move (v := .int _ _) rfl) ?_
      refine p0 rfl (x_idx so22 rfl rfl o5.sl (by decide) (by omega) (by omega)) ?_
      refine ps rfl (fun wq hwq => x_ldr erow_len ag79 rfl (qo5.ext hwq).sl (by omega) (by omega)) ?_
      refine pb rfl (x_neqa fe79 rfl rfl) (fun h26 => ?_) (fun h26 => ?_)
      · refine p_nil (np_normal ?_)
        refine n_then ?_
        refine c_true rfl ?_
        refine wp_seq ?_
        refine c_reg ?_
        refine s0 (x_assign (v := .bool _) rfl) ?_
        refine c_end ?_
        refine n_then ?_
        refine wp_ret (r_block (r_then (r_then (r_block (r_then ?_)))))
        refine f_ret rfl rfl ?_
        exact ⟨ret_f (fun h => h26 (by rw [h, hx5]; exact ⟨rfl, rfl, trivial⟩)), L⟩
      · refine p_nil (np_normal ?_)
        refine n_then ?_
        refine c_false rfl ?_
        refine c_skipn ?_
        refine n_block ?_
        refine n_then ?_
        refine c_reg ?_
        refine s0 (x_move (v := .int _ _) rfl) ?_
        refine s0 (x_add rfl rfl (by omega)) ?_
        refine s0 (x_assign (v := .int _ _) rfl) ?_
        refine c_end ?_
        exact c_round (g' := k + 1) (by omega) ⟨_, upd_self3 rfl rfl (vint (by omega)), L, (by omega), o5, (by omega), (upto_succ' heq (ent_eq h26))⟩
    · refine s0 (x_pickt (v := .bool _) rfl rfl) ?_
      refine c_end ?_
      refine n_then ?_
      refine c_false rfl ?_
      refine wp_exit (e_then (e_then (e_here ?_)))
      refine n_then ?_
      refine wp_seq ?_
      refine c_reg ?_
      refine s0 (x_move (v := .slice _ _ _) rfl) ?_
      refine s0 (x_lensl un22 rfl) ?_
      refine s0 (x_move (v := .slice _ _ _) rfl) ?_
      refine s0 (x_lensl un22 rfl) ?_
      refine s0 (x_eql rfl rfl) ?_
      refine s0 (x_assign (v := .bool _) rfl) ?_
      refine c_end ?_
      refine n_then ?_
      refine wp_ret ?_
      refine f_ret rfl rfl ?_
      exact ⟨ret_dec2 ⟨fun h => (ext_getD (by omega) fun j hj => heq j (by omega)).trans hx5, fun h => by rw [h, hx5]⟩, L⟩
  · refine s0 (x_move (v := .bool _) rfl) ?_
    refine gf rfl rfl rfl rfl ?_
    refine gf rfl rfl rfl rfl ?_
    refine gf rfl rfl rfl rfl ?_
    refine gf rfl rfl rfl rfl ?_
    refine s0 (x_pickf (v := .bool _) rfl rfl) ?_
    refine c_end ?_
    refine n_then ?_
    refine c_false rfl ?_
    refine wp_exit (e_then (e_then (e_here ?_)))
    refine n_then ?_
    refine wp_seq ?_
    refine c_reg ?_
    refine s0 (x_move (v := .slice _ _ _) rfl) ?_
    refine s0 (x_lensl un22 rfl) ?_
    refine s0 (x_move (v := .slice _ _ _) rfl) ?_
    refine s0 (x_lensl un22 rfl) ?_
    refine s0 (x_eql rfl rfl) ?_
    refine s0 (x_assign (v := .bool _) rfl) ?_
    refine c_end ?_
    refine n_then ?_
    refine wp_ret ?_
    refine f_ret rfl rfl ?_
    exact ⟨ret_dec2 ⟨fun h => (ext_getD (by omega) fun j hj => heq j (by omega)).trans hx5, fun h => by rw [h, hx5]⟩, L⟩

end Go.Proofs.Ytfmmkacopgecpaa
