/- What each function of this part returns, for every argument that meets its premises. -/
import Derived.Test.YtfmmkacopgecpaaFH
import Derived.Test.YtfmmkacopgecpaaPlE
namespace Go.Proofs.Ytfmmkacopgecpaa
open Go.Sx Go.Pl Go.RowKit
theorem cl119 : Callable Try.prog 119 := callable Try.func119 (by kernel_rfl) rfl
theorem cl164 : Callable Try.prog 164 := callable Try.func164 (by kernel_rfl) rfl
theorem cl165 : Callable Try.prog 165 := callable Try.func165 (by kernel_rfl) rfl
theorem cl176 : Callable Try.prog 176 := callable Try.func176 (by kernel_rfl) rfl
theorem cl187 : Callable Try.prog 187 := callable Try.func187 (by kernel_rfl) rfl
/-- spec.FrameNew -/
theorem s_frameNew (W H : Int) (w : World) (hs : sidesOk W H) :
    Calls Try.prog 187 [.int .i64 W, .int .i64 H].toArray w (RetP w fun v w' => ∃ p' c' F', v = .agg [.int .i64 W, .int .i64 H, .slice p' (W * H).toNat c'].toArray ∧ Own w' p' (W * H).toNat c' 3 1 (ic (List.replicate (W * H).toNat 0)) F' ∧ Fr w.heap.size F') := by
  have hm := sides_mul hs
  have L : Exm [] w w := Exm.rfl'
  refine enter (n := 17) Try.func187 rfl rfl rfl ?_
  refine wp_seq ?_
  refine c_reg ?_
  refine s_alloc zr85 ?_
  intro b1 w2 lob1 hib1 l3 B1
  have z_l3 := l3.size
  have L := L.tr l3.up
  refine c_end ?_
  refine n_then ?_
  refine wp_seq ?_
  refine wp_seq ?_
  refine c_reg ?_
  refine s0 (x_move (v := .int _ _) rfl) ?_
  refine s0 (x_move (v := .int _ _) rfl) ?_
  refine srb (zcall cl128 rfl) (s_sidesOk _ _ _) (fun h7 w4 l5 => ?_) (fun h7 w4 l5 => ?_)
  · have z_l5 := l5.size
    have L := L.tr l5.up
    have B1 := B1.ext l5
    refine s0 (x_not rfl) ?_
    refine c_end ?_
    refine n_then ?_
    refine c_false rfl ?_
    refine c_skipn ?_
    refine n_then ?_
    refine wp_seq ?_
    refine c_reg ?_
    refine s0 (x_move (v := .int _ _) rfl) ?_
    refine s0 (x_move (v := .int _ _) rfl) ?_
    refine s0 (x_move (v := .int _ _) rfl) ?_
    refine s0 (x_move (v := .int _ _) rfl) ?_
    refine s0 (x_mul rfl rfl (by omega)) ?_
    refine s_makei so33 zr3 rfl rfl (by omega) (by omega) (by omega) ?_
    intro p15 F15 w6 l7 o15 f15 g15
    have z_l7 := l7.size
    have L := L.tr l7.up
    have B1 := B1.ext l7
    have hn15 := o15.n1
    refine s0 (x_build (cs := [.int _ _, .int _ _, .slice _ _ _]) bd85 (pts_cons (v := .int _ _) rfl (pts_cons (v := .int _ _) rfl (pts_cons (v := .slice _ _ _) rfl pts_nil))) rfl) ?_
    refine s_storeAg rfl sz85 rfl rfl B1 rfl rfl rfl ?_
    intro w8 l9 el9 B1
    have z_l9 := l9.size
    have L := L.fresh l9 (by omega)
    have o15 := o15.ne l9 (by first | assumption | exact nin_of f15 g15 (by omega))
    refine c_end ?_
    refine n_then ?_
    refine wp_ret ?_
    refine f_retc rfl rfl ag85 B1 rfl ?_
    exact ⟨_, rfl, L, _, _, _, rfl, o15, f15.mono (by omega)⟩
  · exact absurd hs h7

theorem pick_le {xs : List Int} {x lo hi : Int} (h : ∃ j : Nat, j < xs.length ∧ x = xs.getD j 0) (hb : ∀ y ∈ xs, lo ≤ y ∧ y ≤ hi) : lo ≤ x ∧ x ≤ hi := by
  obtain ⟨j, hj, rfl⟩ := h
  refine hb _ ?_
  rw [List.getD_eq_getElem?_getD, List.getElem?_eq_getElem hj]; exact List.getElem_mem hj
theorem mul_4 {a b : Int} (ha : -4 ≤ a ∧ a ≤ 4) (hb : 0 ≤ b ∧ b ≤ 1048576) : -4194304 ≤ a * b ∧ a * b ≤ 4194304 := by
  have h1 := Int.mul_le_mul_of_nonneg_right ha.1 hb.1
  have h2 := Int.mul_le_mul_of_nonneg_right ha.2 hb.1
  omega

/-- spec.l18Frame -/
theorem s_l18Frame (b B : Nat) (w : World) (hcu : Cu w b B 159) :
    Calls Try.prog 176 [pt b 0].toArray w (RetM [b] w fun v w' => (∃ W H p n xs c F, v = .agg [.int .i64 W, .int .i64 H, .slice p n c].toArray ∧ Own w' p n c 3 1 (ic xs) F ∧ Fr w.heap.size F ∧ n = xs.length ∧ n ≤ 1024 ∧ sidesOk W H ∧ 1 ≤ n) ∧ Cu w' b B 159) := by
  have hcb := hcu.lt
  have L : Exm [b] w w := Exm.rfl'
  refine enter (n := 63) Try.func176 rfl rfl rfl ?_
  refine wp_seq ?_
  refine c_reg ?_
  refine s_alloc zr85 ?_
  intro b1 w2 lob1 hib1 l3 B1
  have z_l3 := l3.size
  have L := L.tr l3.up
  have hcu := hcu.ext l3
  refine c_end ?_
  refine n_then ?_
  refine wp_seq ?_
  refine c_reg ?_
  refine s0 (x_move (v := .pointer _) rfl) ?_
  refine spm (zcall cl146 rfl) (s_below b _ _ _ hcu) ?_
  rintro v12 w4 l5 ⟨⟨x12, rfl, hx12⟩, hcu⟩
  have z_l5 := l5.size
  have L := L.within l5 (by simp)
  have B1 := B1.ne l5 (by omega)
  refine s0 (x_add rfl rfl (by omega)) ?_
  refine s0 (x_mul rfl rfl (by omega)) ?_
  refine s0 (x_assign (v := .int _ _) rfl) ?_
  refine c_end ?_
  refine n_then ?_
  refine wp_seq ?_
  refine c_reg ?_
  refine s0 (x_move (v := .pointer _) rfl) ?_
  refine spm (zcall cl146 rfl) (s_below b _ _ _ hcu) ?_
  rintro v16 w6 l7 ⟨⟨x16, rfl, hx16⟩, hcu⟩
  have z_l7 := l7.size
  have L := L.within l7 (by simp)
  have B1 := B1.ne l7 (by omega)
  refine s0 (x_add rfl rfl (by omega)) ?_
  refine s0 (x_mul rfl rfl (by omega)) ?_
  refine s0 (x_assign (v := .int _ _) rfl) ?_
  refine c_end ?_
  refine n_then ?_
  refine wp_seq ?_
  refine c_reg ?_
  refine s0 (x_move (v := .int _ _) rfl) ?_
  refine s0 (x_move (v := .int _ _) rfl) ?_
  refine sp (zcall cl187 rfl) (s_frameNew _ _ _ ⟨by omega, by omega, by omega, by omega⟩) ?_
  rintro v21 w8 l9 ⟨p21, c21, F21, rfl, o21, f21⟩
  have z_l9 := l9.size
  have L := L.tr l9.up
  have hcu := hcu.ext l9
  have B1 := B1.ext l9
  have g21 := o21.lt
  refine s_alloc zr85 ?_
  intro b10 w11 lob10 hib10 l12 B10
  have z_l12 := l12.size
  have L := L.tr l12.up
  have hcu := hcu.ext l12
  have B1 := B1.ext l12
  have o21 := o21.ext l12
  refine s_storeAg rfl sz85 rfl rfl B10 rfl rfl rfl ?_
  intro w13 l14 el14 B10
  have z_l14 := l14.size
  have L := L.fresh l14 (by omega)
  have hcu := hcu.ne l14 (by omega)
  have B1 := B1.ne l14 (by omega)
  have o21 := o21.ne l14 (by first | assumption | exact nin_of f21 g21 (by omega))
  refine c_end ?_
  refine n_then ?_
  refine wp_seq ?_
  refine c_reg ?_
  refine s0 (x_move (v := .pointer _) rfl) ?_
  refine spm (zcall cl146 rfl) (s_below b _ _ _ hcu) ?_
  rintro v23 w15 l16 ⟨⟨x23, rfl, hx23⟩, hcu⟩
  have z_l16 := l16.size
  have L := L.within l16 (by simp)
  have B1 := B1.ne l16 (by omega)
  have B10 := B10.ne l16 (by omega)
  have o21 := o21.ne l16 (by first | assumption | exact nin_of f21 g21 (by omega))
  refine s0 (x_assign (v := .int _ _) rfl) ?_
  refine c_end ?_
  refine n_then ?_
  refine wp_seq ?_
  refine c_reg ?_
  refine s0 (x_move (v := .pointer _) rfl) ?_
  refine spm (zcall cl146 rfl) (s_below b _ _ _ hcu) ?_
  rintro v25 w17 l18 ⟨⟨x25, rfl, hx25⟩, hcu⟩
  have z_l18 := l18.size
  have L := L.within l18 (by simp)
  have B1 := B1.ne l18 (by omega)
  have B10 := B10.ne l18 (by omega)
  have o21 := o21.ne l18 (by first | assumption | exact nin_of f21 g21 (by omega))
  refine s0 (x_sub rfl rfl (by omega)) ?_
  refine s0 (x_assign (v := .int _ _) rfl) ?_
  refine c_end ?_
  refine n_then ?_
  refine wp_seq ?_
  refine c_reg ?_
  refine s0 (x_move (v := .pointer _) rfl) ?_
  refine spm (zcall cl146 rfl) (s_below b _ _ _ hcu) ?_
  rintro v28 w19 l20 ⟨⟨x28, rfl, hx28⟩, hcu⟩
  have z_l20 := l20.size
  have L := L.within l20 (by simp)
  have B1 := B1.ne l20 (by omega)
  have B10 := B10.ne l20 (by omega)
  have o21 := o21.ne l20 (by first | assumption | exact nin_of f21 g21 (by omega))
  refine s0 (x_sub rfl rfl (by omega)) ?_
  refine s0 (x_assign (v := .int _ _) rfl) ?_
  refine c_end ?_
  refine n_then ?_
  refine wp_seq ?_
  refine c_reg ?_
  refine s0 (x_move (v := .pointer _) rfl) ?_
  refine s_bsi (xs := [_, _, _, _, _]) so33 zr3 (pts_cons rfl (pts_cons rfl (pts_cons rfl (pts_cons rfl (pts_cons rfl pts_nil))))) rfl rfl rfl ?_
  intro p31 F31 w21 l22 o31 f31 g31
  have z_l22 := l22.size
  have L := L.tr l22.up
  have hcu := hcu.ext l22
  have B1 := B1.ext l22
  have B10 := B10.ext l22
  have o21 := o21.ext l22
  have hn31 := o31.n1
  refine spm (zcall cl157 rfl) (s_pick b _ _ _ _ _ _ hcu _ o31 (by first | assumption | exact nin_of f31 g31 (by omega)) (by omega)) ?_
  rintro v32 w23 l24 ⟨⟨x32, rfl, hx32⟩, hcu⟩
  have z_l24 := l24.size
  have L := L.within l24 (by simp)
  have B1 := B1.ne l24 (by omega)
  have B10 := B10.ne l24 (by omega)
  have o21 := o21.ne l24 (by first | assumption | exact nin_of f21 g21 (by omega))
  have o31 := o31.ne l24 (by first | assumption | exact nin_of f31 g31 (by omega))
  refine s0 (x_assign (v := .int _ _) rfl) ?_
  refine c_end ?_
  refine n_then ?_
  refine wp_seq ?_
  refine wp_seq ?_
  have hno := pick_le (lo := 1) (hi := 256) hx32 (by decide)
  have hsd : sidesOk (8 * (1 + x12)) (8 * (1 + x16)) := ⟨by omega, by omega, by omega, by omega⟩
  have hsm := sides_mul hsd
  refine c_reg ?_
  refine s0 (x_assign (v := .int _ _) rfl) ?_
  refine c_end ?_
  refine n_then ?_
  refine wp_block ?_
  refine c_loop (γ := Nat × List Int) (fun g => (8 * (1 + x12) * (8 * (1 + x16))).toNat - g.1) (fun (g : Nat × List Int) E wl => ∃ E0, E = upd (upd (upd (upd (upd (upd (upd (upd (upd (upd E0 0 (pt b 0)) 2 (pt b1 0)) 3 (.int .i64 (8 * (1 + x12)))) 4 (.int .i64 (8 * (1 + x16)))) 5 (pt b10 0)) 6 (.int .i64 x23)) 7 (.int .i64 (x25 - 4))) 8 (.int .i64 (x28 - 4))) 9 (.int .i64 x32)) 10 (.int .i64 (g.1 : Int)) ∧ (Exm [b] w wl) ∧ (w23.heap.size ≤ wl.heap.size) ∧ (Cu wl b B 159) ∧ (Bx wl b1 [.int .i64 0, .int .i64 0, .slice none 0 0] 85) ∧ (Bx wl b10 [.int .i64 (8 * (1 + x12)), .int .i64 (8 * (1 + x16)), .slice p21 (8 * (1 + x12) * (8 * (1 + x16))).toNat c21] 85) ∧ (Own wl p21 (8 * (1 + x12) * (8 * (1 + x16))).toNat c21 3 1 (ic g.2) F21) ∧ ((g.1 : Int) ≤ 8 * (1 + x12) * (8 * (1 + x16)))) (0, List.replicate (8 * (1 + x12) * (8 * (1 + x16))).toNat 0) ⟨_, upd_self10 rfl rfl rfl rfl rfl rfl rfl rfl rfl rfl, L, (by omega), hcu, B1, B10, o21, (by show (0 : Int) ≤ _; omega)⟩ ?_
  rintro g E wl25 ⟨E0, rfl, L, Lz, hcu, B1, B10, o21, hk⟩
  have Lz0 := L.size
  have hnG := o21.n1
  refine wp_seq ?_
  refine wp_seq ?_
  refine c_reg ?_
  refine s0 (x_move (v := .int _ _) rfl) ?_
  refine s0 (x_move (v := .int _ _) rfl) ?_
  refine s0 (x_move (v := .int _ _) rfl) ?_
  refine s0 (x_mul rfl rfl (by omega)) ?_
  refine sb (x_lss rfl rfl) (fun h37 => ?_) (fun h37 => ?_)
  · refine c_end ?_
    refine n_then ?_
    refine c_true rfl ?_
    refine c_skipn ?_
    refine n_then ?_
    refine wp_seq ?_
    refine wp_block ?_
    have hr1 := Int.emod_nonneg (g.1 : Int) (show (8 * (1 + x12)) ≠ 0 by omega)
    have hr2 := Int.emod_lt_of_pos (g.1 : Int) (show 0 < 8 * (1 + x12) by omega)
    have hd1 := Int.ediv_nonneg (a := (g.1 : Int)) (b := 8 * (1 + x12)) (by omega) (by omega)
    have hd2 := Int.ediv_le_self (8 * (1 + x12)) (show 0 ≤ (g.1 : Int) by omega)
    have hm1 := mul_4 (a := x25 - 4) (b := (g.1 : Int) % (8 * (1 + x12))) (by omega) (by omega)
    have hm2 := mul_4 (a := x28 - 4) (b := (g.1 : Int) / (8 * (1 + x12))) (by omega) (by omega)
    refine c_plan (fun wq => Exm [b] wl25 wq) 22 (.cons (0, 2) (.cons (1, 1) (.cons (2, 2) (.cons (3, 2) (.cons (4, 2) (.cons (5, 2) (.cons (6, 2) (.cons (7, 2) (.cons (8, 2) (.cons (9, 2) (.cons (10, 2) (.cons (11, 2) (.cons (12, 2) (.cons (13, 2) (.cons (14, 2) (.cons (15, 2) (.cons (16, 2) (.cons (17, 2) (.cons (18, 0) (.cons (19, 2) (.cons (20, 0) (.cons (21, 2) (.cons (22, 0) .nil))))))))))))))))))))))) (by kernel_rfl) (by kernel_rfl) (Exm.drew _) ?_
    obtain ⟨w26, hwd⟩ : ∃ x, x = wl25.drew := ⟨_, rfl⟩
    have l27 : Ext wl25 w26 := by rw [hwd]; exact Exm.drew _
    rw [← hwd]; clear hwd
    have Lq : Exm [b] wl25 w26 := l27.up
    have qhcu := hcu
    have qB1 := B1
    have qB10 := B10
    have qo21 := o21
    have qL := L
    have z_l27 := l27.size
    have L := L.tr l27.up
    have hcu := hcu.ext l27
    have B1 := B1.ext l27
    have B10 := B10.ext l27
    have o21 := o21.ext l27
    refine p0 rfl (x_fieldAddr fa85_2 rfl) ?_
    refine ps rfl (fun wq hwq => x_loadB sc33 rfl (qB10.ne hwq (by omega)) rfl) ?_
    refine p0 rfl (x_move (v := .int _ _) rfl) ?_
    refine p0 rfl (x_move (v := .int _ _) rfl) ?_
    refine p0 rfl (x_move (v := .int _ _) rfl) ?_
    refine p0 rfl (x_move (v := .int _ _) rfl) ?_
    refine p0 rfl (x_move (v := .int _ _) rfl) ?_
    refine p0 rfl (x_rem rfl rfl (by omega) (by omega)) ?_
    refine p0 rfl (x_mul rfl rfl (by omega)) ?_
    refine p0 rfl (x_add rfl rfl (by omega)) ?_
    refine p0 rfl (x_move (v := .int _ _) rfl) ?_
    refine p0 rfl (x_move (v := .int _ _) rfl) ?_
    refine p0 rfl (x_move (v := .int _ _) rfl) ?_
    refine p0 rfl (x_quo rfl rfl (by omega) (by omega)) ?_
    refine p0 rfl (x_mul rfl rfl (by omega)) ?_
    refine p0 rfl (x_add rfl rfl (by omega)) ?_
    refine p0 rfl (x_move (v := .pointer _) rfl) ?_
    refine p0 rfl (x_move (v := .int _ _) rfl) ?_
    refine pu rfl ?_ (by rintro ⟨_, _, h, _⟩; cases h)
    refine spm (zcall cl146 rfl) (s_below b _ _ _ hcu) ?_
    rintro v58 w28 l29 ⟨⟨x58, rfl, hx58⟩, hcu⟩
    have z_l29 := l29.size
    have L := L.within l29 (by simp)
    have Lq := Lq.within l29 (by simp)
    have B1 := B1.ne l29 (by omega)
    have B10 := B10.ne l29 (by omega)
    have o21 := o21.ne l29 (by first | assumption | exact nin_of f21 g21 (by omega))
    refine c_end ⟨rfl, fun h hS => Lq, ?_⟩
    refine p0 rfl (x_add rfl rfl (by omega)) ?_
    refine pu rfl ?_ (by rintro ⟨_, _, h, _⟩; cases h)
    refine sr (zcall cl183 rfl) (s_clip _ _) ?_
    intro w30 l31
    have z_l31 := l31.size
    have L := L.tr l31.up
    have Lq := Lq.tr l31.up
    have hcu := hcu.ext l31
    have B1 := B1.ext l31
    have B10 := B10.ext l31
    have o21 := o21.ext l31
    refine c_end ⟨rfl, fun h hS => Lq, ?_⟩
    refine p0 rfl (x_idx so33 rfl rfl o21.sl (by decide) (by omega) (by omega)) ?_
    refine pu rfl ?_ (by rintro ⟨_, _, h, _⟩; cases h)
    refine s_stoi rfl sz3 rfl rfl o21 (by omega) (by omega) ?_
    intro w32 l33 el33 o21
    have z_l33 := l33.size
    have L := L.freshL l33 f21 (by omega)
    have hcu := hcu.exm l33 (by first | assumption | exact nin_of f21 g21 (by omega)) (f21.mono (by omega))
    have B1 := B1.exm l33 (by first | assumption | exact nin_of f21 g21 (by omega))
    have B10 := B10.exm l33 (by first | assumption | exact nin_of f21 g21 (by omega))
    have hnl33 := o21.n1
    refine c_end ⟨rfl, fun h hS => absurd h (by decide), ?_⟩
    refine p_nil (np_normal ?_)
    refine n_block ?_
    refine n_then ?_
    refine c_reg ?_
    refine s0 (x_move (v := .int _ _) rfl) ?_
    refine s0 (x_add rfl rfl (by omega)) ?_
    refine s0 (x_assign (v := .int _ _) rfl) ?_
    refine c_end ?_
    exact c_round (g' := (g.1 + 1, _)) (by show (8 * (1 + x12) * (8 * (1 + x16))).toNat - (g.1 + 1) < (8 * (1 + x12) * (8 * (1 + x16))).toNat - g.1; omega) ⟨_, upd_self10 rfl rfl rfl rfl rfl rfl rfl rfl rfl (vint (by show (g.1 : Int) + 1 = ((g.1 + 1 : Nat) : Int); omega)), L, (by omega), hcu, B1, B10, o21, (by show ((g.1 + 1 : Nat) : Int) ≤ _; omega)⟩
  · refine c_end ?_
    refine n_then ?_
    refine c_false rfl ?_
    refine wp_exit (e_then (e_then (e_here ?_)))
    refine n_then ?_
    refine wp_seq ?_
    refine c_reg ?_
    refine st (x_loadAgB ag85 rfl B10 rfl) ?_
    refine s_storeAg rfl sz85 rfl rfl B1 rfl rfl rfl ?_
    intro w34 l35 el35 B1
    have z_l35 := l35.size
    have L := L.fresh l35 (by omega)
    have hcu := hcu.ne l35 (by omega)
    have B10 := B10.ne l35 (by omega)
    have o21 := o21.ne l35 (by first | assumption | exact nin_of f21 g21 (by omega))
    refine c_end ?_
    refine n_then ?_
    refine wp_ret ?_
    refine f_retc rfl rfl ag85 B1 rfl ?_
    exact ⟨_, rfl, L, ⟨_, _, _, _, _, _, _, rfl, o21, f21.mono (by omega), o21.n1, by omega, hsd, by omega⟩, hcu⟩

/-- spec.l18Any -/
theorem s_l18Any (b B : Nat) (w : World) (hcu : Cu w b B 159) :
    Calls Try.prog 164 [pt b 0].toArray w (RetM [b] w fun v w' => (∃ W H p n xs c F, v = .agg [.int .i64 W, .int .i64 H, .slice p n c].toArray ∧ Rdf w' p n c 1 (ic xs) F ∧ Fr w.heap.size F ∧ n = xs.length ∧ n ≤ 1024) ∧ Cu w' b B 159) := by
  have hcb := hcu.lt
  have L : Exm [b] w w := Exm.rfl'
  refine enter (n := 37) Try.func164 rfl rfl rfl ?_
  refine wp_seq ?_
  refine c_reg ?_
  refine s_alloc zr85 ?_
  intro b1 w2 lob1 hib1 l3 B1
  have z_l3 := l3.size
  have L := L.tr l3.up
  have hcu := hcu.ext l3
  refine c_end ?_
  refine n_then ?_
  refine wp_seq ?_
  refine c_reg ?_
  refine s0 (x_move (v := .pointer _) rfl) ?_
  refine spm (zcall cl176 rfl) (s_l18Frame b _ _ hcu) ?_
  rintro v5 w4 l5 ⟨⟨W5, H5, p5, n5, xs5, c5, F5, rfl, o5, f5, rfl, hx5, hs5, hn5⟩, hcu⟩
  have z_l5 := l5.size
  have L := L.within l5 (by simp)
  have B1 := B1.ne l5 (by omega)
  have g5 := o5.lt
  refine s_alloc zr85 ?_
  intro b6 w7 lob6 hib6 l8 B6
  have z_l8 := l8.size
  have L := L.tr l8.up
  have hcu := hcu.ext l8
  have B1 := B1.ext l8
  have o5 := o5.ext l8
  refine s_storeAg rfl sz85 rfl rfl B6 rfl rfl rfl ?_
  intro w9 l10 el10 B6
  have z_l10 := l10.size
  have L := L.fresh l10 (by omega)
  have hcu := hcu.ne l10 (by omega)
  have B1 := B1.ne l10 (by omega)
  have o5 := o5.ne l10 (by first | assumption | exact nin_of f5 g5 (by omega))
  refine c_end ?_
  refine n_then ?_
  refine wp_seq ?_
  refine wp_seq ?_
  have hsg := hs5.1
  have hsg2 := hs5.2.1
  refine c_reg ?_
  refine s0 (x_move (v := .pointer _) rfl) ?_
  refine spm (zcall cl146 rfl) (s_below b _ _ _ hcu) ?_
  rintro v7 w11 l12 ⟨⟨x7, rfl, hx7⟩, hcu⟩
  have z_l12 := l12.size
  have L := L.within l12 (by simp)
  have B1 := B1.ne l12 (by omega)
  have B6 := B6.ne l12 (by omega)
  have o5 := o5.ne l12 (by first | assumption | exact nin_of f5 g5 (by omega))
  refine c_end ?_
  refine n_then ?_
  refine wp_block ?_
  refine wp_seq ?_
  refine c_reg ?_
  refine sb (x_eql rfl rfl) (fun h9 => ?_) (fun h9 => ?_)
  · refine s0 (x_assign (v := .bool _) rfl) ?_
    refine c_end ?_
    refine n_then ?_
    refine c_true rfl ?_
    refine c_plan (fun wq => Exm [b] w11 wq) 11 (.cons (0, 2) (.cons (1, 1) (.cons (2, 2) (.cons (3, 2) (.cons (4, 1) (.cons (5, 2) (.cons (7, 2) (.fork 6 8 (.cons (8, 0) (.cons (9, 0) (.cons (10, 2) (.cons (11, 0) .nil)))) (.cons (6, 0) (.cons (9, 0) (.cons (10, 2) (.cons (11, 0) .nil)))))))))))) (by kernel_rfl) (by kernel_rfl) (Exm.drew _) ?_
    obtain ⟨w13, hwd⟩ : ∃ x, x = w11.drew := ⟨_, rfl⟩
    have l14 : Ext w11 w13 := by rw [hwd]; exact Exm.drew _
    rw [← hwd]; clear hwd
    have Lq : Exm [b] w11 w13 := l14.up
    have qhcu := hcu
    have qB1 := B1
    have qB6 := B6
    have qo5 := o5
    have qL := L
    have z_l14 := l14.size
    have L := L.tr l14.up
    have hcu := hcu.ext l14
    have B1 := B1.ext l14
    have B6 := B6.ext l14
    have o5 := o5.ext l14
    refine p0 rfl (x_fieldAddr fa85_2 rfl) ?_
    refine ps rfl (fun wq hwq => x_loadB sc33 rfl (qB6.ne hwq (by omega)) rfl) ?_
    refine p0 rfl (x_move (v := .pointer _) rfl) ?_
    refine p0 rfl (x_fieldAddr fa85_2 rfl) ?_
    refine ps rfl (fun wq hwq => x_loadB sc33 rfl (qB6.ne hwq (by omega)) rfl) ?_
    refine p0 rfl (x_lensl un33 rfl) ?_
    refine p0 rfl (x_move (v := .pointer _) rfl) ?_
    refine pfork ?_ ?_
    · refine pu rfl ?_ (by rintro ⟨_, _, h, _⟩; cases h)
      refine spm (zcall cl146 rfl) (s_below b _ _ _ hcu) ?_
      rintro v16 w15 l16 ⟨⟨x16, rfl, hx16⟩, hcu⟩
      have z_l16 := l16.size
      have L := L.within l16 (by simp)
      have Lq := Lq.within l16 (by simp)
      have B1 := B1.ne l16 (by omega)
      have B6 := B6.ne l16 (by omega)
      have o5 := o5.ne l16 (by first | assumption | exact nin_of f5 g5 (by omega))
      refine c_end ⟨rfl, fun h hS => Lq, ?_⟩
      refine pu rfl ?_ (by rintro ⟨_, _, h, _⟩; cases h)
      refine s_bsi (xs := [_, _]) so33 zr3 (pts_cons rfl (pts_cons rfl pts_nil)) rfl rfl rfl ?_
      intro p18 F18 w17 l18 o18 f18 g18
      have z_l18 := l18.size
      have L := L.tr l18.up
      have Lq := Lq.tr l18.up
      have hcu := hcu.ext l18
      have B1 := B1.ext l18
      have B6 := B6.ext l18
      have o5 := o5.ext l18
      have hn18 := o18.n1
      refine c_end ⟨rfl, fun h hS => Lq, ?_⟩
      refine pu rfl ?_ (by rintro ⟨_, _, h, _⟩; cases h)
      refine spm (zcall cl157 rfl) (s_pick b _ _ _ _ _ _ hcu _ o18 (by first | assumption | exact nin_of f18 g18 (by omega)) (by omega)) ?_
      rintro v19 w19 l20 ⟨⟨x19, rfl, hx19⟩, hcu⟩
      have z_l20 := l20.size
      have L := L.within l20 (by simp)
      have Lq := Lq.within l20 (by simp)
      have B1 := B1.ne l20 (by omega)
      have B6 := B6.ne l20 (by omega)
      have o5 := o5.ne l20 (by first | assumption | exact nin_of f5 g5 (by omega))
      have o18 := o18.ne l20 (by first | assumption | exact nin_of f18 g18 (by omega))
      refine c_end ⟨rfl, fun h hS => Lq, ?_⟩
      refine p0 rfl (x_idx so33 rfl rfl o5.sl (by decide) (by omega) (by omega)) ?_
      refine pu rfl ?_ (by rintro ⟨_, _, h, _⟩; cases h)
      refine s_stoi rfl sz3 rfl rfl o5 (by omega) (by omega) ?_
      intro w21 l22 el22 o5
      have z_l22 := l22.size
      have L := L.freshL l22 f5 (by omega)
      have hcu := hcu.exm l22 (by first | assumption | exact nin_of f5 g5 (by omega)) (f5.mono (by omega))
      have B1 := B1.exm l22 (by first | assumption | exact nin_of f5 g5 (by omega))
      have B6 := B6.exm l22 (by first | assumption | exact nin_of f5 g5 (by omega))
      have o18 := o18.exm l22 (by first | assumption | exact Dj.symm (by assumption) | exact dj_of f5 g5 f18 g18 (by omega))
      have hnl22 := o5.n1
      refine c_end ⟨rfl, fun h hS => absurd h (by decide), ?_⟩
      refine p_nil (np_normal ?_)
      refine n_block ?_
      refine n_then ?_
      refine wp_seq ?_
      refine c_reg ?_
      refine st (x_loadAgB ag85 rfl B6 rfl) ?_
      refine s_storeAg rfl sz85 rfl rfl B1 rfl rfl rfl ?_
      intro w23 l24 el24 B1
      have z_l24 := l24.size
      have L := L.fresh l24 (by omega)
      have hcu := hcu.ne l24 (by omega)
      have B6 := B6.ne l24 (by omega)
      have o5 := o5.ne l24 (by first | assumption | exact nin_of f5 g5 (by omega))
      have o18 := o18.ne l24 (by first | assumption | exact nin_of f18 g18 (by omega))
      refine c_end ?_
      refine n_then ?_
      refine wp_ret ?_
      refine f_retc rfl rfl ag85 B1 rfl ?_
      exact ⟨_, rfl, L, ⟨_, _, _, _, _, _, _, rfl, o5.rdf, f5.mono (by omega), o5.n1, by omega⟩, hcu⟩
    · refine pu rfl ?_ (by rintro ⟨_, _, h, _⟩; cases h)
      refine s_bsi (xs := [_, _]) so33 zr3 (pts_cons rfl (pts_cons rfl pts_nil)) rfl rfl rfl ?_
      intro p18 F18 w25 l26 o18 f18 g18
      have z_l26 := l26.size
      have L := L.tr l26.up
      have Lq := Lq.tr l26.up
      have hcu := hcu.ext l26
      have B1 := B1.ext l26
      have B6 := B6.ext l26
      have o5 := o5.ext l26
      have hn18 := o18.n1
      refine c_end ⟨rfl, fun h hS => Lq, ?_⟩
      refine pu rfl ?_ (by rintro ⟨_, _, h, _⟩; cases h)
      refine spm (zcall cl146 rfl) (s_below b _ _ _ hcu) ?_
      rintro v16 w27 l28 ⟨⟨x16, rfl, hx16⟩, hcu⟩
      have z_l28 := l28.size
      have L := L.within l28 (by simp)
      have Lq := Lq.within l28 (by simp)
      have B1 := B1.ne l28 (by omega)
      have B6 := B6.ne l28 (by omega)
      have o5 := o5.ne l28 (by first | assumption | exact nin_of f5 g5 (by omega))
      have o18 := o18.ne l28 (by first | assumption | exact nin_of f18 g18 (by omega))
      refine c_end ⟨rfl, fun h hS => Lq, ?_⟩
      refine pu rfl ?_ (by rintro ⟨_, _, h, _⟩; cases h)
      refine spm (zcall cl157 rfl) (s_pick b _ _ _ _ _ _ hcu _ o18 (by first | assumption | exact nin_of f18 g18 (by omega)) (by omega)) ?_
      rintro v19 w29 l30 ⟨⟨x19, rfl, hx19⟩, hcu⟩
      have z_l30 := l30.size
      have L := L.within l30 (by simp)
      have Lq := Lq.within l30 (by simp)
      have B1 := B1.ne l30 (by omega)
      have B6 := B6.ne l30 (by omega)
      have o5 := o5.ne l30 (by first | assumption | exact nin_of f5 g5 (by omega))
      have o18 := o18.ne l30 (by first | assumption | exact nin_of f18 g18 (by omega))
      refine c_end ⟨rfl, fun h hS => Lq, ?_⟩
      refine p0 rfl (x_idx so33 rfl rfl o5.sl (by decide) (by omega) (by omega)) ?_
      refine pu rfl ?_ (by rintro ⟨_, _, h, _⟩; cases h)
      refine s_stoi rfl sz3 rfl rfl o5 (by omega) (by omega) ?_
      intro w31 l32 el32 o5
      have z_l32 := l32.size
      have L := L.freshL l32 f5 (by omega)
      have hcu := hcu.exm l32 (by first | assumption | exact nin_of f5 g5 (by omega)) (f5.mono (by omega))
      have B1 := B1.exm l32 (by first | assumption | exact nin_of f5 g5 (by omega))
      have B6 := B6.exm l32 (by first | assumption | exact nin_of f5 g5 (by omega))
      have o18 := o18.exm l32 (by first | assumption | exact Dj.symm (by assumption) | exact dj_of f5 g5 f18 g18 (by omega))
      have hnl32 := o5.n1
      refine c_end ⟨rfl, fun h hS => absurd h (by decide), ?_⟩
      refine p_nil (np_normal ?_)
      refine n_block ?_
      refine n_then ?_
      refine wp_seq ?_
      refine c_reg ?_
      refine st (x_loadAgB ag85 rfl B6 rfl) ?_
      refine s_storeAg rfl sz85 rfl rfl B1 rfl rfl rfl ?_
      intro w33 l34 el34 B1
      have z_l34 := l34.size
      have L := L.fresh l34 (by omega)
      have hcu := hcu.ne l34 (by omega)
      have B6 := B6.ne l34 (by omega)
      have o5 := o5.ne l34 (by first | assumption | exact nin_of f5 g5 (by omega))
      have o18 := o18.ne l34 (by first | assumption | exact nin_of f18 g18 (by omega))
      refine c_end ?_
      refine n_then ?_
      refine wp_ret ?_
      refine f_retc rfl rfl ag85 B1 rfl ?_
      exact ⟨_, rfl, L, ⟨_, _, _, _, _, _, _, rfl, o5.rdf, f5.mono (by omega), o5.n1, by omega⟩, hcu⟩
  · refine s0 (x_assign (v := .bool _) rfl) ?_
    refine c_end ?_
    refine n_then ?_
    refine c_false rfl ?_
    refine wp_seq ?_
    refine c_reg ?_
    refine sb (x_eql rfl rfl) (fun h22 => ?_) (fun h22 => ?_)
    · refine s0 (x_assign (v := .bool _) rfl) ?_
      refine c_end ?_
      refine n_then ?_
      refine c_true rfl ?_
      refine c_reg ?_
      refine s0 (x_move (v := .pointer _) rfl) ?_
      refine s0 (x_fieldAddr fa85_0 rfl) ?_
      refine st (x_loadB sc3 rfl B6 rfl) ?_
      refine s0 (x_add rfl rfl (by omega)) ?_
      refine s_bsi (xs := [_, _, _, _]) so33 zr3 (pts_cons rfl (pts_cons rfl (pts_cons rfl (pts_cons rfl pts_nil)))) rfl rfl rfl ?_
      intro p27 F27 w35 l36 o27 f27 g27
      have z_l36 := l36.size
      have L := L.tr l36.up
      have hcu := hcu.ext l36
      have B1 := B1.ext l36
      have B6 := B6.ext l36
      have o5 := o5.ext l36
      have hn27 := o27.n1
      refine spm (zcall cl157 rfl) (s_pick b _ _ _ _ _ _ hcu _ o27 (by first | assumption | exact nin_of f27 g27 (by omega)) (by omega)) ?_
      rintro v28 w37 l38 ⟨⟨x28, rfl, hx28⟩, hcu⟩
      have z_l38 := l38.size
      have L := L.within l38 (by simp)
      have B1 := B1.ne l38 (by omega)
      have B6 := B6.ne l38 (by omega)
      have o5 := o5.ne l38 (by first | assumption | exact nin_of f5 g5 (by omega))
      have o27 := o27.ne l38 (by first | assumption | exact nin_of f27 g27 (by omega))
      refine s0 (x_fieldAddr fa85_0 rfl) ?_
      refine s_store (v := .int _ _) (cs' := [_, _, _]) rfl sz3 rfl rfl rfl rfl B6 rfl rfl ?_
      intro w39 l40 el40 B6
      have z_l40 := l40.size
      have L := L.fresh l40 (by omega)
      have hcu := hcu.ne l40 (by omega)
      have B1 := B1.ne l40 (by omega)
      have o5 := o5.ne l40 (by first | assumption | exact nin_of f5 g5 (by omega))
      have o27 := o27.ne l40 (by first | assumption | exact nin_of f27 g27 (by omega))
      refine c_end ?_
      refine n_block ?_
      refine n_then ?_
      refine wp_seq ?_
      refine c_reg ?_
      refine st (x_loadAgB ag85 rfl B6 rfl) ?_
      refine s_storeAg rfl sz85 rfl rfl B1 rfl rfl rfl ?_
      intro w41 l42 el42 B1
      have z_l42 := l42.size
      have L := L.fresh l42 (by omega)
      have hcu := hcu.ne l42 (by omega)
      have B6 := B6.ne l42 (by omega)
      have o5 := o5.ne l42 (by first | assumption | exact nin_of f5 g5 (by omega))
      have o27 := o27.ne l42 (by first | assumption | exact nin_of f27 g27 (by omega))
      refine c_end ?_
      refine n_then ?_
      refine wp_ret ?_
      refine f_retc rfl rfl ag85 B1 rfl ?_
      exact ⟨_, rfl, L, ⟨_, _, _, _, _, _, _, rfl, o5.rdf, f5.mono (by omega), o5.n1, by omega⟩, hcu⟩
    · refine s0 (x_assign (v := .bool _) rfl) ?_
      refine c_end ?_
      refine n_then ?_
      refine c_false rfl ?_
      refine wp_seq ?_
      refine c_reg ?_
      refine sb (x_eql rfl rfl) (fun h31 => ?_) (fun h31 => ?_)
      · refine s0 (x_assign (v := .bool _) rfl) ?_
        refine c_end ?_
        refine n_then ?_
        refine c_true rfl ?_
        refine c_reg ?_
        refine s0 (x_fieldAddr fa85_2 rfl) ?_
        refine st (x_loadB sc33 rfl B6 rfl) ?_
        refine s0 (x_cutlr so33 o5.sl.r (by omega) rfl rfl (by omega) (by omega)) ?_
        refine s0 (x_fieldAddr fa85_2 rfl) ?_
        refine s_store (v := .slice _ _ _) (cs' := [_, _, _]) rfl sz33 rfl rfl rfl rfl B6 rfl rfl ?_
        intro w43 l44 el44 B6
        have z_l44 := l44.size
        have L := L.fresh l44 (by omega)
        have hcu := hcu.ne l44 (by omega)
        have B1 := B1.ne l44 (by omega)
        have o5 := o5.ne l44 (by first | assumption | exact nin_of f5 g5 (by omega))
        refine c_end ?_
        refine n_block ?_
        refine n_then ?_
        refine wp_seq ?_
        refine c_reg ?_
        refine st (x_loadAgB ag85 rfl B6 rfl) ?_
        refine s_storeAg rfl sz85 rfl rfl B1 rfl rfl rfl ?_
        intro w45 l46 el46 B1
        have z_l46 := l46.size
        have L := L.fresh l46 (by omega)
        have hcu := hcu.ne l46 (by omega)
        have B6 := B6.ne l46 (by omega)
        have o5 := o5.ne l46 (by first | assumption | exact nin_of f5 g5 (by omega))
        refine c_end ?_
        refine n_then ?_
        refine wp_ret ?_
        refine f_retc rfl rfl ag85 B1 rfl ?_
        exact ⟨_, rfl, L, ⟨_, _, _, _, _, _, _, rfl, o5.rdf.cuti (by omega) (by omega), f5.mono (by omega), rfl, by rw [List.length_take]; omega⟩, hcu⟩
      · refine s0 (x_assign (v := .bool _) rfl) ?_
        refine c_end ?_
        refine n_then ?_
        refine c_false rfl ?_
        refine c_skipn ?_
        refine n_block ?_
        refine n_then ?_
        refine wp_seq ?_
        refine c_reg ?_
        refine st (x_loadAgB ag85 rfl B6 rfl) ?_
        refine s_storeAg rfl sz85 rfl rfl B1 rfl rfl rfl ?_
        intro w47 l48 el48 B1
        have z_l48 := l48.size
        have L := L.fresh l48 (by omega)
        have hcu := hcu.ne l48 (by omega)
        have B6 := B6.ne l48 (by omega)
        have o5 := o5.ne l48 (by first | assumption | exact nin_of f5 g5 (by omega))
        refine c_end ?_
        refine n_then ?_
        refine wp_ret ?_
        refine f_retc rfl rfl ag85 B1 rfl ?_
        exact ⟨_, rfl, L, ⟨_, _, _, _, _, _, _, rfl, o5.rdf, f5.mono (by omega), o5.n1, by omega⟩, hcu⟩

/-- spec.l20Q -/
theorem s_l20Q (b B : Nat) (w : World) (hcu : Cu w b B 159) :
    Calls Try.prog 165 [pt b 0].toArray w (RetM [b] w fun v w' => (∃ x : Int, v = .int .i64 x ∧ True) ∧ Cu w' b B 159) := by
  have hcb := hcu.lt
  have L : Exm [b] w w := Exm.rfl'
  refine enter (n := 8) Try.func165 rfl rfl rfl ?_
  refine wp_seq ?_
  refine c_reg ?_
  refine s0 (x_assign (v := .int _ _) rfl) ?_
  refine c_end ?_
  refine n_then ?_
  refine wp_seq ?_
  refine c_reg ?_
  refine s0 (x_move (v := .pointer _) rfl) ?_
  refine s0 (x_move (v := .pointer _) rfl) ?_
  refine spm (zcall cl146 rfl) (s_below b _ _ _ hcu) ?_
  rintro v5 w1 l2 ⟨⟨x5, rfl, hx5⟩, hcu⟩
  have z_l2 := l2.size
  have L := L.within l2 (by simp)
  refine s_bsi (xs := [_, _, _, _, _, _, _, _]) so33 zr3 (pts_cons rfl (pts_cons rfl (pts_cons rfl (pts_cons rfl (pts_cons rfl (pts_cons rfl (pts_cons rfl (pts_cons rfl pts_nil)))))))) rfl rfl rfl ?_
  intro p6 F6 w3 l4 o6 f6 g6
  have z_l4 := l4.size
  have L := L.tr l4.up
  have hcu := hcu.ext l4
  have hn6 := o6.n1
  refine spm (zcall cl157 rfl) (s_pick b _ _ _ _ _ _ hcu _ o6 (by first | assumption | exact nin_of f6 g6 (by omega)) (by omega)) ?_
  rintro v7 w5 l6 ⟨⟨x7, rfl, hx7⟩, hcu⟩
  have z_l6 := l6.size
  have L := L.within l6 (by simp)
  have o6 := o6.ne l6 (by first | assumption | exact nin_of f6 g6 (by omega))
  refine s0 (x_assign (v := .int _ _) rfl) ?_
  refine c_end ?_
  refine n_then ?_
  refine wp_ret ?_
  refine f_ret rfl rfl ?_
  exact ⟨_, rfl, L, ⟨_, rfl, trivial⟩, hcu⟩

/-- spec.l21Draw -/
theorem s_l21Draw (b B : Nat) (w : World) (hcu : Cu w b B 159) :
    Calls Try.prog 119 [pt b 0].toArray w (RetM [b] w fun v w' => (∃ W H p n xs c F q r, v = .tuple [.agg [.int .i64 W, .int .i64 H, .slice p n c].toArray, .int .i64 q, .int .i64 r].toArray ∧ Rdf w' p n c 1 (ic xs) F ∧ Fr w.heap.size F ∧ n = xs.length ∧ n ≤ 1024 ∧ -1 ≤ r ∧ r ≤ 4) ∧ Cu w' b B 159) := by
  have hcb := hcu.lt
  have L : Exm [b] w w := Exm.rfl'
  refine enter (n := 14) Try.func119 rfl rfl rfl ?_
  refine wp_seq ?_
  refine c_reg ?_
  refine s_alloc zr85 ?_
  intro b1 w2 lob1 hib1 l3 B1
  have z_l3 := l3.size
  have L := L.tr l3.up
  have hcu := hcu.ext l3
  refine s0 (x_assign (v := .int _ _) rfl) ?_
  refine s0 (x_assign (v := .int _ _) rfl) ?_
  refine c_end ?_
  refine n_then ?_
  refine wp_seq ?_
  refine c_reg ?_
  refine s0 (x_move (v := .pointer _) rfl) ?_
  refine spm (zcall cl164 rfl) (s_l18Any b _ _ hcu) ?_
  rintro v7 w4 l5 ⟨⟨W7, H7, p7, n7, xs7, c7, F7, rfl, o7, f7, rfl, hx7⟩, hcu⟩
  have z_l5 := l5.size
  have L := L.within l5 (by simp)
  have B1 := B1.ne l5 (by omega)
  have g7 := o7.lt
  refine s_alloc zr85 ?_
  intro b6 w7 lob6 hib6 l8 B6
  have z_l8 := l8.size
  have L := L.tr l8.up
  have hcu := hcu.ext l8
  have B1 := B1.ext l8
  have o7 := o7.ext l8
  refine s_storeAg rfl sz85 rfl rfl B6 rfl rfl rfl ?_
  intro w9 l10 el10 B6
  have z_l10 := l10.size
  have L := L.fresh l10 (by omega)
  have hcu := hcu.ne l10 (by omega)
  have B1 := B1.ne l10 (by omega)
  have o7 := o7.ne l10 (by first | assumption | exact nin_of f7 g7 (by omega))
  refine c_end ?_
  refine n_then ?_
  refine wp_seq ?_
  refine c_plan (fun wq => Exm [b1, b] w9 wq) 9 (.cons (0, 1) (.cons (1, 2) (.cons (3, 2) (.fork 2 4 (.cons (4, 0) (.cons (5, 0) (.cons (6, 0) (.cons (7, 2) (.cons (8, 2) .nil))))) (.cons (2, 0) (.cons (5, 0) (.cons (6, 0) (.cons (7, 2) (.cons (8, 2) .nil))))))))) (by kernel_rfl) (by kernel_rfl) (Exm.drew _) ?_
  obtain ⟨w11, hwd⟩ : ∃ x, x = w9.drew := ⟨_, rfl⟩
  have l12 : Ext w9 w11 := by rw [hwd]; exact Exm.drew _
  rw [← hwd]; clear hwd
  have Lq : Exm [b1, b] w9 w11 := l12.up
  have qhcu := hcu
  have qB1 := B1
  have qB6 := B6
  have qo7 := o7
  have qL := L
  have z_l12 := l12.size
  have L := L.tr l12.up
  have hcu := hcu.ext l12
  have B1 := B1.ext l12
  have B6 := B6.ext l12
  have o7 := o7.ext l12
  refine ps rfl (fun wq hwq => x_loadAgB ag85 rfl (qB6.exm hwq (by simp; omega)) rfl) ?_
  refine p0 rfl (x_move (v := .pointer _) rfl) ?_
  refine p0 rfl (x_move (v := .pointer _) rfl) ?_
  refine pfork ?_ ?_
  · refine pu rfl ?_ (by rintro ⟨_, _, h, _⟩; cases h)
    refine spm (zcall cl165 rfl) (s_l20Q b _ _ hcu) ?_
    rintro v10 w13 l14 ⟨⟨x10, rfl, hx10⟩, hcu⟩
    have z_l14 := l14.size
    have L := L.within l14 (by simp)
    have Lq := Lq.within l14 (by simp)
    have B1 := B1.ne l14 (by omega)
    have B6 := B6.ne l14 (by omega)
    have o7 := o7.ne l14 (by first | assumption | exact nin_of f7 g7 (by omega))
    refine c_end ⟨rfl, fun h hS => Lq, ?_⟩
    refine pu rfl ?_ (by rintro ⟨_, _, h, _⟩; cases h)
    refine s_bsi (xs := [_, _, _, _, _, _, _]) so33 zr3 (pts_cons rfl (pts_cons rfl (pts_cons rfl (pts_cons rfl (pts_cons rfl (pts_cons rfl (pts_cons rfl pts_nil))))))) rfl rfl rfl ?_
    intro p12 F12 w15 l16 o12 f12 g12
    have z_l16 := l16.size
    have L := L.tr l16.up
    have Lq := Lq.tr l16.up
    have hcu := hcu.ext l16
    have B1 := B1.ext l16
    have B6 := B6.ext l16
    have o7 := o7.ext l16
    have hn12 := o12.n1
    refine c_end ⟨rfl, fun h hS => Lq, ?_⟩
    refine pu rfl ?_ (by rintro ⟨_, _, h, _⟩; cases h)
    refine spm (zcall cl157 rfl) (s_pick b _ _ _ _ _ _ hcu _ o12 (by first | assumption | exact nin_of f12 g12 (by omega)) (by omega)) ?_
    rintro v13 w17 l18 ⟨⟨x13, rfl, hx13⟩, hcu⟩
    have z_l18 := l18.size
    have L := L.within l18 (by simp)
    have Lq := Lq.within l18 (by simp)
    have B1 := B1.ne l18 (by omega)
    have B6 := B6.ne l18 (by omega)
    have o7 := o7.ne l18 (by first | assumption | exact nin_of f7 g7 (by omega))
    have o12 := o12.ne l18 (by first | assumption | exact nin_of f12 g12 (by omega))
    refine c_end ⟨rfl, fun h hS => Lq, ?_⟩
    refine pu rfl ?_ (by rintro ⟨_, _, h, _⟩; cases h)
    refine s_storeAg rfl sz85 rfl rfl B1 rfl rfl rfl ?_
    intro w19 l20 el20 B1
    have z_l20 := l20.size
    have L := L.fresh l20 (by omega)
    have Lq := Lq.within l20 (by simp)
    have hcu := hcu.ne l20 (by omega)
    have B6 := B6.ne l20 (by omega)
    have o7 := o7.ne l20 (by first | assumption | exact nin_of f7 g7 (by omega))
    have o12 := o12.ne l20 (by first | assumption | exact nin_of f12 g12 (by omega))
    refine c_end ⟨rfl, fun h hS => Lq, ?_⟩
    refine p0 rfl (x_assign (v := .int _ _) rfl) ?_
    refine p0 rfl (x_assign (v := .int _ _) rfl) ?_
    refine p_nil (np_normal ?_)
    refine n_then ?_
    refine wp_ret ?_
    refine f_rets3 rfl (ro_cell rfl ag85 B1 rfl) (ro_tmp rfl) (ro_tmp rfl) ?_
    have hno := pick_le (lo := -1) (hi := 4) hx13 (by decide)
    exact ⟨_, rfl, L, ⟨_, _, _, _, _, _, _, _, _, rfl, o7, f7.mono (by omega), rfl, hx7, hno.1, hno.2⟩, hcu⟩
  · refine pu rfl ?_ (by rintro ⟨_, _, h, _⟩; cases h)
    refine s_bsi (xs := [_, _, _, _, _, _, _]) so33 zr3 (pts_cons rfl (pts_cons rfl (pts_cons rfl (pts_cons rfl (pts_cons rfl (pts_cons rfl (pts_cons rfl pts_nil))))))) rfl rfl rfl ?_
    intro p12 F12 w21 l22 o12 f12 g12
    have z_l22 := l22.size
    have L := L.tr l22.up
    have Lq := Lq.tr l22.up
    have hcu := hcu.ext l22
    have B1 := B1.ext l22
    have B6 := B6.ext l22
    have o7 := o7.ext l22
    have hn12 := o12.n1
    refine c_end ⟨rfl, fun h hS => Lq, ?_⟩
    refine pu rfl ?_ (by rintro ⟨_, _, h, _⟩; cases h)
    refine spm (zcall cl165 rfl) (s_l20Q b _ _ hcu) ?_
    rintro v10 w23 l24 ⟨⟨x10, rfl, hx10⟩, hcu⟩
    have z_l24 := l24.size
    have L := L.within l24 (by simp)
    have Lq := Lq.within l24 (by simp)
    have B1 := B1.ne l24 (by omega)
    have B6 := B6.ne l24 (by omega)
    have o7 := o7.ne l24 (by first | assumption | exact nin_of f7 g7 (by omega))
    have o12 := o12.ne l24 (by first | assumption | exact nin_of f12 g12 (by omega))
    refine c_end ⟨rfl, fun h hS => Lq, ?_⟩
    refine pu rfl ?_ (by rintro ⟨_, _, h, _⟩; cases h)
    refine spm (zcall cl157 rfl) (s_pick b _ _ _ _ _ _ hcu _ o12 (by first | assumption | exact nin_of f12 g12 (by omega)) (by omega)) ?_
    rintro v13 w25 l26 ⟨⟨x13, rfl, hx13⟩, hcu⟩
    have z_l26 := l26.size
    have L := L.within l26 (by simp)
    have Lq := Lq.within l26 (by simp)
    have B1 := B1.ne l26 (by omega)
    have B6 := B6.ne l26 (by omega)
    have o7 := o7.ne l26 (by first | assumption | exact nin_of f7 g7 (by omega))
    have o12 := o12.ne l26 (by first | assumption | exact nin_of f12 g12 (by omega))
    refine c_end ⟨rfl, fun h hS => Lq, ?_⟩
    refine pu rfl ?_ (by rintro ⟨_, _, h, _⟩; cases h)
    refine s_storeAg rfl sz85 rfl rfl B1 rfl rfl rfl ?_
    intro w27 l28 el28 B1
    have z_l28 := l28.size
    have L := L.fresh l28 (by omega)
    have Lq := Lq.within l28 (by simp)
    have hcu := hcu.ne l28 (by omega)
    have B6 := B6.ne l28 (by omega)
    have o7 := o7.ne l28 (by first | assumption | exact nin_of f7 g7 (by omega))
    have o12 := o12.ne l28 (by first | assumption | exact nin_of f12 g12 (by omega))
    refine c_end ⟨rfl, fun h hS => Lq, ?_⟩
    refine p0 rfl (x_assign (v := .int _ _) rfl) ?_
    refine p0 rfl (x_assign (v := .int _ _) rfl) ?_
    refine p_nil (np_normal ?_)
    refine n_then ?_
    refine wp_ret ?_
    refine f_rets3 rfl (ro_cell rfl ag85 B1 rfl) (ro_tmp rfl) (ro_tmp rfl) ?_
    have hno := pick_le (lo := -1) (hi := 4) hx13 (by decide)
    exact ⟨_, rfl, L, ⟨_, _, _, _, _, _, _, _, _, rfl, o7, f7.mono (by omega), rfl, hx7, hno.1, hno.2⟩, hcu⟩

/-- spec.DrawVertRow -/
theorem s_drawVertRow (p : Option Addr) (xs : List Int) (c : Nat) (B : Nat) (w : World) (hp : Sl w p xs.length c 1 (bc xs)) (hr : ∀ x ∈ xs, 0 ≤ x ∧ x ≤ 255) (hpB : Bl p xs.length B) (hB : B ≤ w.heap.size) (hl : xs.length ≤ 1048576) :
    Calls Try.prog 67 [.slice p xs.length c].toArray w (RetP w fun v w' => (∃ W H p n xs c F q r, v = .tuple [.agg [.int .i64 W, .int .i64 H, .slice p n c].toArray, .int .i64 q, .int .i64 r].toArray ∧ Rdf w' p n c 1 (ic xs) F ∧ Fr w.heap.size F ∧ n = xs.length ∧ n ≤ 1024 ∧ -1 ≤ r ∧ r ≤ 4)) := by
  have L : Exm [] w w := Exm.rfl'
  refine enter (n := 11) Try.func67 rfl rfl rfl ?_
  refine wp_seq ?_
  refine c_reg ?_
  refine s_alloc zr85 ?_
  intro b1 w2 lob1 hib1 l3 B1
  have z_l3 := l3.size
  have L := L.tr l3.up
  refine s0 (x_assign (v := .int _ _) rfl) ?_
  refine s0 (x_assign (v := .int _ _) rfl) ?_
  refine c_end ?_
  refine n_then ?_
  refine wp_seq ?_
  refine c_reg ?_
  refine s0 (x_move (v := .slice _ _ _) rfl) ?_
  refine sp (zcall cl90 rfl) (s_new _ _ _ B _ (hp.ext L) hr hpB (by omega) hl) ?_
  rintro v6 w4 l5 ⟨b6, rfl, ⟨lob6, hib6⟩, K6⟩
  have z_l5 := l5.size
  have L := L.tr l5.up
  have B1 := B1.ext l5
  refine spm (zcall cl119 rfl) (s_l21Draw b6 _ _ K6) ?_
  rintro v7 w6 l7 ⟨⟨W7, H7, p7, n7, xs7, c7, F7, q7, r7, rfl, o7, f7, rfl, hx7, hr7, hr27⟩, K6⟩
  have z_l7 := l7.size
  have L := L.fresh l7 (by omega)
  have B1 := B1.ne l7 (by omega)
  have g7 := o7.lt
  refine s0 (x_extract rfl rfl) ?_
  refine s0 (x_extract rfl rfl) ?_
  refine s0 (x_extract rfl rfl) ?_
  refine s_storeAg rfl sz85 rfl rfl B1 rfl rfl rfl ?_
  intro w8 l9 el9 B1
  have z_l9 := l9.size
  have L := L.fresh l9 (by omega)
  have K6 := K6.ne l9 (by omega)
  have o7 := o7.ne l9 (by first | assumption | exact nin_of f7 g7 (by omega))
  refine s0 (x_assign (v := .int _ _) rfl) ?_
  refine s0 (x_assign (v := .int _ _) rfl) ?_
  refine c_end ?_
  refine n_then ?_
  refine wp_ret ?_
  refine f_rets3 rfl (ro_cell rfl ag85 B1 rfl) (ro_tmp rfl) (ro_tmp rfl) ?_
  exact ⟨_, rfl, L, _, _, _, _, _, _, _, _, _, rfl, o7, f7.mono (by omega), rfl, hx7, hr7, hr27⟩

/-- spec.SameFrame -/
theorem s_sameFrame (W H W' H' : Int) (p q : Option Addr) (n m c d : Nat) (xs ys : List Int) (w : World) (hp : Sl w p n c 1 (ic xs)) (hq : Sl w q m d 1 (ic ys)) (hl : n ≤ 1099511627776) :
    Calls Try.prog 70 [.agg [.int .i64 W, .int .i64 H, .slice p n c].toArray, .agg [.int .i64 W', .int .i64 H', .slice q m d].toArray].toArray w (Ret w (.bool (decide (W = W' ∧ H = H' ∧ xs = ys)))) := by
  have hn := hp.n
  have hm := hq.n
  have L : Exm [] w w := Exm.rfl'
  refine enter (n := 45) Try.func70 rfl rfl rfl ?_
  refine wp_seq ?_
  refine c_reg ?_
  refine s_box rfl rfl ?_
  intro b1 w2 lob1 hib1 l3 B1
  have z_l3 := l3.size
  have L := L.tr l3.up
  refine s_box rfl rfl ?_
  intro b4 w5 lob4 hib4 l6 B4
  have z_l6 := l6.size
  have L := L.tr l6.up
  have B1 := B1.ext l6
  refine s0 (x_assign (v := .bool _) rfl) ?_
  refine c_end ?_
  refine n_then ?_
  refine wp_seq ?_
  refine wp_seq ?_
  refine c_reg ?_
  refine s0 (x_fieldAddr fa85_0 rfl) ?_
  refine st (x_loadB sc3 rfl B1 rfl) ?_
  refine s0 (x_fieldAddr fa85_0 rfl) ?_
  refine st (x_loadB sc3 rfl B4 rfl) ?_
  refine sb (x_neq rfl rfl) (fun h10 => ?_) (fun h10 => ?_)
  · refine s0 (x_move (v := .bool _) rfl) ?_
    refine gf rfl rfl rfl rfl ?_
    refine gf rfl rfl rfl rfl ?_
    refine gf rfl rfl rfl rfl ?_
    refine gf rfl rfl rfl rfl ?_
    refine gf rfl rfl rfl rfl ?_
    refine s0 (x_pickt (v := .bool _) rfl rfl) ?_
    refine s0 (x_move (v := .bool _) rfl) ?_
    refine gf rfl rfl rfl rfl ?_
    refine gf rfl rfl rfl rfl ?_
    refine gf rfl rfl rfl rfl ?_
    refine gf rfl rfl rfl rfl ?_
    refine gf rfl rfl rfl rfl ?_
    refine gf rfl rfl rfl rfl ?_
    refine gf rfl rfl rfl rfl ?_
    refine s0 (x_pickt (v := .bool _) rfl rfl) ?_
    refine c_end ?_
    refine n_then ?_
    refine c_true rfl ?_
    refine wp_seq ?_
    refine c_reg ?_
    refine s0 (x_assign (v := .bool _) rfl) ?_
    refine c_end ?_
    refine n_then ?_
    refine wp_ret (r_then ?_)
    refine f_ret rfl rfl ?_
    exact ⟨ret_f (fun h => h10 h.1), L⟩
  · refine s0 (x_move (v := .bool _) rfl) ?_
    refine gt rfl rfl rfl rfl ?_
    refine s0 (x_fieldAddr fa85_1 rfl) ?_
    refine gt rfl rfl rfl rfl ?_
    refine st (x_loadB sc3 rfl B1 rfl) ?_
    refine gt rfl rfl rfl rfl ?_
    refine s0 (x_fieldAddr fa85_1 rfl) ?_
    refine gt rfl rfl rfl rfl ?_
    refine st (x_loadB sc3 rfl B4 rfl) ?_
    refine gt rfl rfl rfl rfl ?_
    refine sb (x_neq rfl rfl) (fun h16 => ?_) (fun h16 => ?_)
    · refine s0 (x_pickf (v := .bool _) rfl rfl) ?_
      refine s0 (x_move (v := .bool _) rfl) ?_
      refine gf rfl rfl rfl rfl ?_
      refine gf rfl rfl rfl rfl ?_
      refine gf rfl rfl rfl rfl ?_
      refine gf rfl rfl rfl rfl ?_
      refine gf rfl rfl rfl rfl ?_
      refine gf rfl rfl rfl rfl ?_
      refine gf rfl rfl rfl rfl ?_
      refine s0 (x_pickt (v := .bool _) rfl rfl) ?_
      refine c_end ?_
      refine n_then ?_
      refine c_true rfl ?_
      refine wp_seq ?_
      refine c_reg ?_
      refine s0 (x_assign (v := .bool _) rfl) ?_
      refine c_end ?_
      refine n_then ?_
      refine wp_ret (r_then ?_)
      refine f_ret rfl rfl ?_
      exact ⟨ret_f (fun h => h16 h.2.1), L⟩
    · refine s0 (x_pickf (v := .bool _) rfl rfl) ?_
      refine s0 (x_move (v := .bool _) rfl) ?_
      refine gt rfl rfl rfl rfl ?_
      refine s0 (x_fieldAddr fa85_2 rfl) ?_
      refine gt rfl rfl rfl rfl ?_
      refine st (x_loadB sc33 rfl B1 rfl) ?_
      refine gt rfl rfl rfl rfl ?_
      refine s0 (x_lensl un33 rfl) ?_
      refine gt rfl rfl rfl rfl ?_
      refine s0 (x_fieldAddr fa85_2 rfl) ?_
      refine gt rfl rfl rfl rfl ?_
      refine st (x_loadB sc33 rfl B4 rfl) ?_
      refine gt rfl rfl rfl rfl ?_
      refine s0 (x_lensl un33 rfl) ?_
      refine gt rfl rfl rfl rfl ?_
      refine sb (x_neq rfl rfl) (fun h25 => ?_) (fun h25 => ?_)
      · refine s0 (x_pickf (v := .bool _) rfl rfl) ?_
        refine c_end ?_
        refine n_then ?_
        refine c_true rfl ?_
        refine wp_seq ?_
        refine c_reg ?_
        refine s0 (x_assign (v := .bool _) rfl) ?_
        refine c_end ?_
        refine n_then ?_
        refine wp_ret (r_then ?_)
        refine f_ret rfl rfl ?_
        exact ⟨ret_f (fun h => h25 (by rw [hn, hm, h.2.2])), L⟩
      · refine s0 (x_pickf (v := .bool _) rfl rfl) ?_
        refine c_end ?_
        refine n_then ?_
        refine c_false rfl ?_
        refine c_skipn ?_
        refine n_then ?_
        refine wp_seq ?_
        refine wp_seq ?_
        refine c_reg ?_
        refine s0 (x_assign (v := .int _ _) rfl) ?_
        refine c_end ?_
        refine n_then ?_
        refine wp_block ?_
        refine c_loop (γ := Nat) (fun k => n - k) (fun (k : Nat) E wl => ∃ E0, E = upd (upd (upd E0 2 (pt b1 0)) 3 (pt b4 0)) 5 (.int .i64 (k : Int)) ∧ (Exm [] w wl) ∧ (w5.heap.size ≤ wl.heap.size) ∧ (Bx wl b1 [.int .i64 W, .int .i64 H, .slice p n c] 85) ∧ (Bx wl b4 [.int .i64 W', .int .i64 H', .slice q m d] 85) ∧ ((k : Int) ≤ n) ∧ (∀ j : Nat, j < k → xs.getD j 0 = ys.getD j 0)) 0 ⟨_, upd_self3 rfl rfl rfl, L, (by omega), B1, B4, (by omega), (by intro j hj; omega)⟩ ?_
        rintro k E wl7 ⟨E0, rfl, L, Lz, B1, B4, hk, heq⟩
        have Lz0 := L.size
        refine wp_seq ?_
        refine wp_seq ?_
        refine c_reg ?_
        refine s0 (x_move (v := .int _ _) rfl) ?_
        refine s0 (x_fieldAddr fa85_2 rfl) ?_
        refine st (x_loadB sc33 rfl B1 rfl) ?_
        refine s0 (x_lensl un33 rfl) ?_
        refine sb (x_lss rfl rfl) (fun h31 => ?_) (fun h31 => ?_)
        · refine c_end ?_
          refine n_then ?_
          refine c_true rfl ?_
          refine c_skipn ?_
          refine n_then ?_
          refine wp_seq ?_
          refine wp_block ?_
          refine wp_seq ?_
          refine c_plan (fun wq => Exm [] wl7 wq) 11 (.cons (0, 2) (.cons (1, 1) (.cons (2, 2) (.cons (3, 2) (.cons (4, 1) (.cons (5, 2) (.cons (6, 1) (.cons (7, 2) (.cons (8, 2) (.cons (9, 1) (.cons (10, 2) .nil))))))))))) (by kernel_rfl) (by kernel_rfl) (Exm.drew _) ?_
          obtain ⟨w8, hwd⟩ : ∃ x, x = wl7.drew := ⟨_, rfl⟩
          have l9 : Ext wl7 w8 := by rw [hwd]; exact Exm.drew _
          rw [← hwd]; clear hwd
          have Lq : Exm [] wl7 w8 := l9.up
          have qB1 := B1
          have qB4 := B4
          have qL := L
          have z_l9 := l9.size
          have L := L.tr l9.up
          have B1 := B1.ext l9
          have B4 := B4.ext l9
          refine p0 rfl (x_fieldAddr fa85_2 rfl) ?_
          refine ps rfl (fun wq hwq => x_loadB sc33 rfl (qB1.ext hwq) rfl) ?_
          refine p0 rfl (x_move (v := .int _ _) rfl) ?_
          refine p0 rfl (x_idx so33 rfl rfl hp (by decide) (by omega) (by omega)) ?_
          refine ps rfl (fun wq hwq => x_ldi sc3 rfl ((hp.ext qL).ext hwq) (by omega) (by omega)) ?_
          refine p0 rfl (x_fieldAddr fa85_2 rfl) ?_
          refine ps rfl (fun wq hwq => x_loadB sc33 rfl (qB4.ext hwq) rfl) ?_
          refine p0 rfl (x_move (v := .int _ _) rfl) ?_
          refine p0 rfl (x_idx so33 rfl rfl hq (by decide) (by omega) (by omega)) ?_
          refine ps rfl (fun wq hwq => x_ldi sc3 rfl ((hq.ext qL).ext hwq) (by omega) (by omega)) ?_
          refine pb rfl (x_neq rfl rfl) (fun h44 => ?_) (fun h44 => ?_)
          · refine p_nil (np_normal ?_)
            refine n_then ?_
            refine c_true rfl ?_
            refine wp_seq ?_
            refine c_reg ?_
            refine s0 (x_assign (v := .bool _) rfl) ?_
            refine c_end ?_
            refine n_then ?_
            refine wp_ret (r_block (r_then (r_then (r_block (r_then ?_)))))
            refine f_ret rfl rfl ?_
            exact ⟨ret_f (fun h => h44 (by rw [h.2.2])), L⟩
          · refine p_nil (np_normal ?_)
            refine n_then ?_
            refine c_false rfl ?_
            refine c_skipn ?_
            refine n_block ?_
            refine n_then ?_
            refine c_reg ?_
            refine s0 (x_move (v := .int _ _) rfl) ?_
            refine s0 (x_add rfl rfl (by omega)) ?_
            refine s0 (x_assign (v := .int _ _) rfl) ?_
            refine c_end ?_
            exact c_round (g' := k + 1) (by omega) ⟨_, upd_self3 rfl rfl (vint (by omega)), L, (by omega), B1, B4, (by omega), (upto_succ heq (by simpa using h44))⟩
        · refine c_end ?_
          refine n_then ?_
          refine c_false rfl ?_
          refine wp_exit (e_then (e_then (e_here ?_)))
          refine n_then ?_
          refine wp_seq ?_
          refine c_reg ?_
          refine s0 (x_assign (v := .bool _) rfl) ?_
          refine c_end ?_
          refine n_then ?_
          refine wp_ret ?_
          refine f_ret rfl rfl ?_
          exact ⟨ret_t ⟨Classical.not_not.1 h10, Classical.not_not.1 h16, getD_ext (by omega) fun j hj => heq j (by omega)⟩, L⟩

end Go.Proofs.Ytfmmkacopgecpaa
