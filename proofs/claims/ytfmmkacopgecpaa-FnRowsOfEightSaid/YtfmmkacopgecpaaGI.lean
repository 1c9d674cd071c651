/- What each function of this part returns, for every argument that meets its premises. -/
import Derived.Test.YtfmmkacopgecpaaFI
namespace Go.Proofs.Ytfmmkacopgecpaa
open Go.Sx Go.Pl Go.RowKit
theorem cl21 : Callable Try.prog 21 := callable Try.func21 (by kernel_rfl) rfl
theorem cl67 : Callable Try.prog 67 := callable Try.func67 (by kernel_rfl) rfl
theorem cl68 : Callable Try.prog 68 := callable Try.func68 (by kernel_rfl) rfl
theorem cl69 : Callable Try.prog 69 := callable Try.func69 (by kernel_rfl) rfl
theorem cl70 : Callable Try.prog 70 := callable Try.func70 (by kernel_rfl) rfl
/-- laws.FnRowsOfEight -/
theorem l_fnRowsOfEight (p : Option Addr) (xs : List Int) (c : Nat) (B : Nat) (w : World) (hp : Sl w p xs.length c 1 (bc xs)) (hr : ∀ x ∈ xs, 0 ≤ x ∧ x ≤ 255) (hpB : Bl p xs.length B) (hB : B ≤ w.heap.size) :
    Calls Try.prog 13 [.slice p xs.length c].toArray w (Ret w (.bool true)) := by
  have L : Exm [] w w := Exm.rfl'
  refine enter (n := 107) Try.func13 rfl rfl rfl ?_
  refine wp_seq ?_
  refine c_reg ?_
  refine s0 (x_assign (v := .bool _) rfl) ?_
  refine c_end ?_
  refine n_then ?_
  refine wp_seq ?_
  refine wp_seq ?_
  refine c_reg ?_
  refine s0 (x_move (v := .slice _ _ _) rfl) ?_
  refine srb (zcall cl21 rfl) (l_big _ _ _ _) (fun h11 w1 l2 => ?_) (fun h11 w1 l2 => ?_)
  · have z_l2 := l2.size
    have L := L.tr l2.up
    refine c_end ?_
    refine n_then ?_
    refine c_true rfl ?_
    refine wp_seq ?_
    refine c_reg ?_
    refine s0 (x_assign (v := .bool _) rfl) ?_
    refine c_end ?_
    refine n_then ?_
    refine wp_ret (r_then ?_)
    refine f_ret rfl rfl ?_
    exact ⟨rfl, L⟩
  · have z_l2 := l2.size
    have L := L.tr l2.up
    refine c_end ?_
    refine n_then ?_
    refine c_false rfl ?_
    refine c_skipn ?_
    refine n_then ?_
    refine wp_seq ?_
    have hl : xs.length ≤ 1048576 := by omega
    refine c_reg ?_
    refine s0 (x_move (v := .slice _ _ _) rfl) ?_
    refine sp (zcall cl67 rfl) (s_drawVertRow _ _ _ _ _ (hp.ext L) hr hpB (by omega) (by omega)) ?_
    rintro v14 w3 l4 ⟨W14, H14, p14, n14, xs14, c14, F14, q14, r14, rfl, o14, f14, rfl, hx14, hr14, hr214⟩
    have z_l4 := l4.size
    have L := L.tr l4.up
    have g14 := o14.lt
    refine s0 (x_move (v := .tuple _) rfl) ?_
    refine s0 (x_extract rfl rfl) ?_
    refine s0 (x_extract rfl rfl) ?_
    refine s0 (x_extract rfl rfl) ?_
    refine s_alloc zr85 ?_
    intro b5 w6 lob5 hib5 l7 B5
    have z_l7 := l7.size
    have L := L.tr l7.up
    have o14 := o14.ext l7
    refine s_storeAg rfl sz85 rfl rfl B5 rfl rfl rfl ?_
    intro w8 l9 el9 B5
    have z_l9 := l9.size
    have L := L.fresh l9 (by omega)
    have o14 := o14.ne l9 (by first | assumption | exact nin_of f14 g14 (by omega))
    refine s0 (x_assign (v := .int _ _) rfl) ?_
    refine s0 (x_assign (v := .int _ _) rfl) ?_
    refine c_end ?_
    refine n_then ?_
    refine wp_seq ?_
    refine c_reg ?_
    refine st (x_loadAgB ag85 rfl B5 rfl) ?_
    refine s0 (x_move (v := .int _ _) rfl) ?_
    refine s0 (x_move (v := .int _ _) rfl) ?_
    refine sp (zcall cl68 rfl) (i_vertRow _ _ _ _ _ _ _ _ _ o14.sl (by omega)) ?_
    rintro v21 w10 l11 ⟨p21, c21, F21, rfl, o21, f21⟩
    have z_l11 := l11.size
    have L := L.tr l11.up
    have B5 := B5.ext l11
    have o14 := o14.ext l11
    have g21 := o21.lt
    refine s_alloc zr85 ?_
    intro b12 w13 lob12 hib12 l14 B12
    have z_l14 := l14.size
    have L := L.tr l14.up
    have B5 := B5.ext l14
    have o14 := o14.ext l14
    have o21 := o21.ext l14
    refine s_storeAg rfl sz85 rfl rfl B12 rfl rfl rfl ?_
    intro w15 l16 el16 B12
    have z_l16 := l16.size
    have L := L.fresh l16 (by omega)
    have B5 := B5.ne l16 (by omega)
    have o14 := o14.ne l16 (by first | assumption | exact nin_of f14 g14 (by omega))
    have o21 := o21.ne l16 (by first | assumption | exact nin_of f21 g21 (by omega))
    refine c_end ?_
    refine n_then ?_
    refine wp_seq ?_
    refine c_reg ?_
    refine st (x_loadAgB ag85 rfl B5 rfl) ?_
    refine s0 (x_move (v := .int _ _) rfl) ?_
    refine s0 (x_move (v := .int _ _) rfl) ?_
    refine sp (zcall cl69 rfl) (i_horRow _ _ _ _ _ _ _ _ _ o14.sl (by omega)) ?_
    rintro v25 w17 l18 ⟨p25, c25, F25, rfl, o25, f25⟩
    have z_l18 := l18.size
    have L := L.tr l18.up
    have B5 := B5.ext l18
    have B12 := B12.ext l18
    have o14 := o14.ext l18
    have o21 := o21.ext l18
    have g25 := o25.lt
    refine s_alloc zr85 ?_
    intro b19 w20 lob19 hib19 l21 B19
    have z_l21 := l21.size
    have L := L.tr l21.up
    have B5 := B5.ext l21
    have B12 := B12.ext l21
    have o14 := o14.ext l21
    have o21 := o21.ext l21
    have o25 := o25.ext l21
    refine s_storeAg rfl sz85 rfl rfl B19 rfl rfl rfl ?_
    intro w22 l23 el23 B19
    have z_l23 := l23.size
    have L := L.fresh l23 (by omega)
    have B5 := B5.ne l23 (by omega)
    have B12 := B12.ne l23 (by omega)
    have o14 := o14.ne l23 (by first | assumption | exact nin_of f14 g14 (by omega))
    have o21 := o21.ne l23 (by first | assumption | exact nin_of f21 g21 (by omega))
    have o25 := o25.ne l23 (by first | assumption | exact nin_of f25 g25 (by omega))
    refine c_end ?_
    refine n_then ?_
    refine wp_seq ?_
    refine wp_seq ?_
    refine c_plan (fun wq => Exm [] w22 wq) 16 (.cons (0, 1) (.cons (1, 1) (.cons (2, 2) (.cons (3, 2) (.cons (4, 0) (.cons (5, 0) (.cons (6, 2) (.cons (7, 2) (.cons (8, 1) (.cons (9, 1) (.cons (10, 2) (.cons (11, 2) (.cons (12, 0) (.cons (13, 0) (.cons (14, 2) (.cons (15, 2) .nil)))))))))))))))) (by kernel_rfl) (by kernel_rfl) (Exm.drew _) ?_
    obtain ⟨w24, hwd⟩ : ∃ x, x = w22.drew := ⟨_, rfl⟩
    have l25 : Ext w22 w24 := by rw [hwd]; exact Exm.drew _
    rw [← hwd]; clear hwd
    have Lq : Exm [] w22 w24 := l25.up
    have qB5 := B5
    have qB12 := B12
    have qB19 := B19
    have qo14 := o14
    have qo21 := o21
    have qo25 := o25
    have qL := L
    have z_l25 := l25.size
    have L := L.tr l25.up
    have B5 := B5.ext l25
    have B12 := B12.ext l25
    have B19 := B19.ext l25
    have o14 := o14.ext l25
    have o21 := o21.ext l25
    have o25 := o25.ext l25
    refine ps rfl (fun wq hwq => x_loadAgB ag85 rfl (qB12.ext hwq) rfl) ?_
    refine ps rfl (fun wq hwq => x_loadAgB ag85 rfl (qB5.ext hwq) rfl) ?_
    refine p0 rfl (x_move (v := .int _ _) rfl) ?_
    refine p0 rfl (x_move (v := .int _ _) rfl) ?_
    refine pu rfl ?_ (by rintro ⟨_, _, h, _⟩; cases h)
    refine sp (zcall cl71 rfl) (s_vertRow _ _ _ _ _ _ _ _ _ o14.sl (by omega)) ?_
    rintro v30 w26 l27 ⟨p30, c30, F30, rfl, o30, f30⟩
    have z_l27 := l27.size
    have L := L.tr l27.up
    have Lq := Lq.tr l27.up
    have B5 := B5.ext l27
    have B12 := B12.ext l27
    have B19 := B19.ext l27
    have o14 := o14.ext l27
    have o21 := o21.ext l27
    have o25 := o25.ext l27
    have g30 := o30.lt
    refine c_end ⟨rfl, fun h hS => Lq, ?_⟩
    refine pu rfl ?_ (by rintro ⟨_, _, h, _⟩; cases h)
    refine srb (zcall cl70 rfl) (s_sameFrame _ _ _ _ _ _ _ _ _ _ _ _ _ o21.sl o30.sl (by omega)) (fun h31 w28 l29 => ?_) (fun h31 w28 l29 => ?_)
    · have z_l29 := l29.size
      have L := L.tr l29.up
      have Lq := Lq.tr l29.up
      have B5 := B5.ext l29
      have B12 := B12.ext l29
      have B19 := B19.ext l29
      have o14 := o14.ext l29
      have o21 := o21.ext l29
      have o25 := o25.ext l29
      have o30 := o30.ext l29
      refine c_end ⟨rfl, fun h hS => Lq, ?_⟩
      refine p0 rfl (x_not rfl) ?_
      refine p0 rfl (x_move (v := .bool _) rfl) ?_
      refine psg rfl rfl rfl rfl rfl (fun wq hwq => x_loadAgB ag85 rfl (qB19.ext hwq) rfl) ?_
      refine psg rfl rfl rfl rfl rfl (fun wq hwq => x_loadAgB ag85 rfl (qB5.ext hwq) rfl) ?_
      refine p0g rfl rfl rfl rfl rfl (x_move (v := .int _ _) rfl) ?_
      refine p0g rfl rfl rfl rfl rfl (x_move (v := .int _ _) rfl) ?_
      refine pu rfl ?_ (by rintro ⟨_, _, h, _⟩; cases h)
      refine gt rfl rfl rfl rfl ?_
      refine sp (zcall cl72 rfl) (s_horRow _ _ _ _ _ _ _ _ _ o14.sl (by omega)) ?_
      rintro v38 w30 l31 ⟨p38, c38, F38, rfl, o38, f38⟩
      have z_l31 := l31.size
      have L := L.tr l31.up
      have Lq := Lq.tr l31.up
      have B5 := B5.ext l31
      have B12 := B12.ext l31
      have B19 := B19.ext l31
      have o14 := o14.ext l31
      have o21 := o21.ext l31
      have o25 := o25.ext l31
      have o30 := o30.ext l31
      have g38 := o38.lt
      refine c_end ⟨rfl, fun h hS => Lq, ?_⟩
      refine pu rfl ?_ (by rintro ⟨_, _, h, _⟩; cases h)
      refine gt rfl rfl rfl rfl ?_
      refine srb (zcall cl70 rfl) (s_sameFrame _ _ _ _ _ _ _ _ _ _ _ _ _ o25.sl o38.sl (by omega)) (fun h39 w32 l33 => ?_) (fun h39 w32 l33 => ?_)
      · have z_l33 := l33.size
        have L := L.tr l33.up
        have Lq := Lq.tr l33.up
        have B5 := B5.ext l33
        have B12 := B12.ext l33
        have B19 := B19.ext l33
        have o14 := o14.ext l33
        have o21 := o21.ext l33
        have o25 := o25.ext l33
        have o30 := o30.ext l33
        have o38 := o38.ext l33
        refine c_end ⟨rfl, fun h hS => Lq, ?_⟩
        refine p0g rfl rfl rfl rfl rfl (x_not rfl) ?_
        refine p0 rfl (x_pickf (v := .bool _) rfl rfl) ?_
        refine p_nil (np_normal ?_)
        refine n_then ?_
        refine c_false rfl ?_
        refine c_skipn ?_
        refine n_then ?_
        refine wp_seq ?_
        refine wp_seq ?_
        refine c_reg ?_
        refine s0 (x_assign (v := .int _ _) rfl) ?_
        refine c_end ?_
        refine n_then ?_
        refine wp_block ?_
        refine c_loop (γ := Nat) (fun k => xs14.length - k) (fun (k : Nat) E wl => ∃ E0, E = upd (upd (upd (upd (upd (upd E0 3 (pt b5 0)) 4 (.int .i64 q14)) 5 (.int .i64 r14)) 6 (pt b12 0)) 7 (pt b19 0)) 8 (.int .i64 (k : Int)) ∧ (Exm [] w wl) ∧ (w32.heap.size ≤ wl.heap.size) ∧ (Bx wl b5 [.int .i64 W14, .int .i64 H14, .slice p14 xs14.length c14] 85) ∧ (Bx wl b12 [.int .i64 W14, .int .i64 H14, .slice p21 xs14.length c21] 85) ∧ (Bx wl b19 [.int .i64 W14, .int .i64 H14, .slice p25 xs14.length c25] 85) ∧ (Rdf wl p14 xs14.length c14 1 (ic xs14) F14) ∧ (Own wl p21 xs14.length c21 3 1 (ic (vertOf W14 H14 q14 r14 xs14)) F21) ∧ (Own wl p25 xs14.length c25 3 1 (ic (horOf W14 H14 q14 r14 xs14)) F25) ∧ ((k : Int) ≤ xs14.length)) 0 ⟨_, upd_self6 rfl rfl rfl rfl rfl rfl, L, (by omega), B5, B12, B19, o14, o21, o25, (by omega)⟩ ?_
        rintro k E wl34 ⟨E0, rfl, L, Lz, B5, B12, B19, o14, o21, o25, hk⟩
        have Lz0 := L.size
        have hvl := vertOf_length W14 H14 q14 r14 xs14
        have hhl := horOf_length W14 H14 q14 r14 xs14
        refine wp_seq ?_
        refine wp_seq ?_
        refine c_reg ?_
        refine s0 (x_move (v := .int _ _) rfl) ?_
        refine s0 (x_fieldAddr fa85_2 rfl) ?_
        refine st (x_loadB sc33 rfl B5 rfl) ?_
        refine s0 (x_lensl un33 rfl) ?_
        refine sb (x_lss rfl rfl) (fun h46 => ?_) (fun h46 => ?_)
        · refine s0 (x_move (v := .bool _) rfl) ?_
          refine gt rfl rfl rfl rfl ?_
          refine st (x_loadAgB ag85 rfl B5 rfl) ?_
          refine gt rfl rfl rfl rfl ?_
          refine srb (zcall cl73 rfl) (s_frameOk _ _ _ _ _ _ _ o14.sl (by omega)) (fun h49 w35 l36 => ?_) (fun h49 w35 l36 => ?_)
          · have z_l36 := l36.size
            have L := L.tr l36.up
            have B5 := B5.ext l36
            have B12 := B12.ext l36
            have B19 := B19.ext l36
            have o14 := o14.ext l36
            have o21 := o21.ext l36
            have o25 := o25.ext l36
            refine s0 (x_pickt (v := .bool _) rfl rfl) ?_
            refine c_end ?_
            refine n_then ?_
            refine c_true rfl ?_
            refine c_skipn ?_
            refine n_then ?_
            refine wp_seq ?_
            refine wp_block ?_
            refine wp_seq ?_
            have hg := fr_geo h49
            have hd1 := Int.ediv_nonneg (a := (k : Int)) (b := W14) (by omega) (by omega)
            have hd2 := Int.ediv_le_self W14 (show 0 ≤ (k : Int) by omega)
            refine c_reg ?_
            refine s0 (x_move (v := .int _ _) rfl) ?_
            refine s0 (x_fieldAddr fa85_0 rfl) ?_
            refine st (x_loadB sc3 rfl B5 rfl) ?_
            refine s0 (x_quo rfl rfl (by omega) (by omega)) ?_
            refine s0 (x_assign (v := .int _ _) rfl) ?_
            refine c_end ?_
            refine n_then ?_
            refine wp_seq ?_
            refine c_plan (fun wq => Exm [] w35 wq) 50 (.cons (0, 2) (.cons (1, 2) (.cons (2, 2) (.cons (3, 2) (.cons (4, 2) (.cons (5, 2) (.cons (6, 2) (.cons (7, 2) (.cons (8, 2) (.cons (9, 2) (.cons (10, 2) (.cons (11, 2) (.cons (12, 2) (.cons (13, 1) (.cons (14, 2) (.cons (15, 2) (.cons (16, 1) (.cons (17, 2) (.cons (18, 1) (.cons (19, 2) (.cons (20, 2) (.cons (21, 1) (.cons (22, 2) (.cons (23, 2) (.cons (24, 2) (.cons (25, 2) (.cons (26, 2) (.cons (27, 2) (.cons (28, 2) (.cons (29, 2) (.cons (30, 2) (.cons (31, 2) (.cons (32, 2) (.cons (33, 2) (.cons (34, 2) (.cons (35, 2) (.cons (36, 2) (.cons (37, 2) (.cons (38, 1) (.cons (39, 2) (.cons (40, 2) (.cons (41, 1) (.cons (42, 2) (.cons (43, 1) (.cons (44, 2) (.cons (45, 2) (.cons (46, 1) (.cons (47, 2) (.cons (48, 2) (.cons (49, 2) .nil)))))))))))))))))))))))))))))))))))))))))))))))))) (by kernel_rfl) (by kernel_rfl) (Exm.drew _) ?_
            obtain ⟨w37, hwd⟩ : ∃ x, x = w35.drew := ⟨_, rfl⟩
            have l38 : Ext w35 w37 := by rw [hwd]; exact Exm.drew _
            rw [← hwd]; clear hwd
            have Lq : Exm [] w35 w37 := l38.up
            have qB5 := B5
            have qB12 := B12
            have qB19 := B19
            have qo14 := o14
            have qo21 := o21
            have qo25 := o25
            have qL := L
            have z_l38 := l38.size
            have L := L.tr l38.up
            have B5 := B5.ext l38
            have B12 := B12.ext l38
            have B19 := B19.ext l38
            have o14 := o14.ext l38
            have o21 := o21.ext l38
            have o25 := o25.ext l38
            refine p0 rfl (x_move (v := .int _ _) rfl) ?_
            refine p0 rfl (x_move (v := .int _ _) rfl) ?_
            refine p0 rfl (x_mul rfl rfl (by omega)) ?_
            refine pb rfl (x_lss rfl rfl) (fun h60 => ?_) (fun h60 => ?_)
            · refine p0 rfl (x_move (v := .bool _) rfl) ?_
              refine pf rfl rfl rfl rfl rfl ?_
              refine pf rfl rfl rfl rfl rfl ?_
              refine pf rfl rfl rfl rfl rfl ?_
              refine pf rfl rfl rfl rfl rfl ?_
              refine pf rfl rfl rfl rfl rfl ?_
              refine p0 rfl (x_pickt (v := .bool _) rfl rfl) ?_
              refine p0 rfl (x_move (v := .bool _) rfl) ?_
              refine p0g rfl rfl rfl rfl rfl (x_fieldAddr fa85_2 rfl) ?_
              refine psg rfl rfl rfl rfl rfl (fun wq hwq => x_loadB sc33 rfl (qB12.ext hwq) rfl) ?_
              refine p0g rfl rfl rfl rfl rfl (x_move (v := .int _ _) rfl) ?_
              refine p0g rfl rfl rfl rfl rfl (x_idx so33 rfl rfl o21.sl (by decide) (by omega) (by omega)) ?_
              refine psg rfl rfl rfl rfl rfl (fun wq hwq => x_ldi sc3 rfl (qo21.ext hwq).sl (by omega) (by omega)) ?_
              refine p0g rfl rfl rfl rfl rfl (x_fieldAddr fa85_2 rfl) ?_
              refine psg rfl rfl rfl rfl rfl (fun wq hwq => x_loadB sc33 rfl (qB5.ext hwq) rfl) ?_
              refine p0g rfl rfl rfl rfl rfl (x_move (v := .int _ _) rfl) ?_
              refine p0g rfl rfl rfl rfl rfl (x_idx so33 rfl rfl o14.sl (by decide) (by omega) (by omega)) ?_
              refine psg rfl rfl rfl rfl rfl (fun wq hwq => x_ldi sc3 rfl (qo14.ext hwq).sl (by omega) (by omega)) ?_
              refine pbg rfl rfl rfl rfl rfl (x_neq rfl rfl) (fun h79 => ?_) (fun h79 => ?_)
              · exact absurd (by rw [Int.toNat_natCast]; exact vert_keep hg.1 (by omega)) h79
              · refine p0 rfl (x_pickt (v := .bool _) rfl rfl) ?_
                refine p0 rfl (x_move (v := .bool _) rfl) ?_
                refine p0g rfl rfl rfl rfl rfl (x_move (v := .int _ _) rfl) ?_
                refine p0g rfl rfl rfl rfl rfl (x_move (v := .int _ _) rfl) ?_
                refine p0g rfl rfl rfl rfl rfl (x_mul rfl rfl (by omega)) ?_
                refine p0g rfl rfl rfl rfl rfl (x_sub rfl rfl (by omega)) ?_
                refine pbg rfl rfl rfl rfl rfl (x_lss rfl rfl) (fun h86 => ?_) (fun h86 => ?_)
                · refine p0g rfl rfl rfl rfl rfl (x_move (v := .bool _) rfl) ?_
                  refine pf rfl rfl rfl rfl rfl ?_
                  refine pf rfl rfl rfl rfl rfl ?_
                  refine pf rfl rfl rfl rfl rfl ?_
                  refine pf rfl rfl rfl rfl rfl ?_
                  refine p0g rfl rfl rfl rfl rfl (x_pickt (v := .bool _) rfl rfl) ?_
                  refine p0g rfl rfl rfl rfl rfl (x_move (v := .bool _) rfl) ?_
                  refine p0g rfl rfl rfl rfl rfl (x_fieldAddr fa85_2 rfl) ?_
                  refine psg rfl rfl rfl rfl rfl (fun wq hwq => x_loadB sc33 rfl (qB19.ext hwq) rfl) ?_
                  refine p0g rfl rfl rfl rfl rfl (x_move (v := .int _ _) rfl) ?_
                  refine p0g rfl rfl rfl rfl rfl (x_idx so33 rfl rfl o25.sl (by decide) (by omega) (by omega)) ?_
                  refine psg rfl rfl rfl rfl rfl (fun wq hwq => x_ldi sc3 rfl (qo25.ext hwq).sl (by omega) (by omega)) ?_
                  refine p0g rfl rfl rfl rfl rfl (x_fieldAddr fa85_2 rfl) ?_
                  refine psg rfl rfl rfl rfl rfl (fun wq hwq => x_loadB sc33 rfl (qB5.ext hwq) rfl) ?_
                  refine p0g rfl rfl rfl rfl rfl (x_move (v := .int _ _) rfl) ?_
                  refine p0g rfl rfl rfl rfl rfl (x_idx so33 rfl rfl o14.sl (by decide) (by omega) (by omega)) ?_
                  refine psg rfl rfl rfl rfl rfl (fun wq hwq => x_ldi sc3 rfl (qo14.ext hwq).sl (by omega) (by omega)) ?_
                  refine pbg rfl rfl rfl rfl rfl (x_neq rfl rfl) (fun h104 => ?_) (fun h104 => ?_)
                  · exact absurd (by rw [Int.toNat_natCast]; exact hor_keep hg.1 (by omega)) h104
                  · refine p0g rfl rfl rfl rfl rfl (x_pickt (v := .bool _) rfl rfl) ?_
                    refine p0 rfl (x_pickf (v := .bool _) rfl rfl) ?_
                    refine p_nil (np_normal ?_)
                    refine n_then ?_
                    refine c_false rfl ?_
                    refine c_skipn ?_
                    refine n_block ?_
                    refine n_then ?_
                    refine c_reg ?_
                    refine s0 (x_move (v := .int _ _) rfl) ?_
                    refine s0 (x_add rfl rfl (by omega)) ?_
                    refine s0 (x_assign (v := .int _ _) rfl) ?_
                    refine c_end ?_
                    exact c_round (g' := k + 1) (by omega) ⟨_, upd_self6 rfl rfl rfl rfl rfl (vint (by omega)), L, (by omega), B5, B12, B19, o14, o21, o25, (by omega)⟩
                · refine p0g rfl rfl rfl rfl rfl (x_move (v := .bool _) rfl) ?_
                  refine p0g rfl rfl rfl rfl rfl (x_move (v := .int _ _) rfl) ?_
                  refine p0g rfl rfl rfl rfl rfl (x_move (v := .int _ _) rfl) ?_
                  refine p0g rfl rfl rfl rfl rfl (x_mul rfl rfl (by omega)) ?_
                  refine pbg rfl rfl rfl rfl rfl (x_gtr rfl rfl) (fun h91 => ?_) (fun h91 => ?_)
                  · refine p0g rfl rfl rfl rfl rfl (x_pickf (v := .bool _) rfl rfl) ?_
                    refine p0g rfl rfl rfl rfl rfl (x_move (v := .bool _) rfl) ?_
                    refine p0g rfl rfl rfl rfl rfl (x_fieldAddr fa85_2 rfl) ?_
                    refine psg rfl rfl rfl rfl rfl (fun wq hwq => x_loadB sc33 rfl (qB19.ext hwq) rfl) ?_
                    refine p0g rfl rfl rfl rfl rfl (x_move (v := .int _ _) rfl) ?_
                    refine p0g rfl rfl rfl rfl rfl (x_idx so33 rfl rfl o25.sl (by decide) (by omega) (by omega)) ?_
                    refine psg rfl rfl rfl rfl rfl (fun wq hwq => x_ldi sc3 rfl (qo25.ext hwq).sl (by omega) (by omega)) ?_
                    refine p0g rfl rfl rfl rfl rfl (x_fieldAddr fa85_2 rfl) ?_
                    refine psg rfl rfl rfl rfl rfl (fun wq hwq => x_loadB sc33 rfl (qB5.ext hwq) rfl) ?_
                    refine p0g rfl rfl rfl rfl rfl (x_move (v := .int _ _) rfl) ?_
                    refine p0g rfl rfl rfl rfl rfl (x_idx so33 rfl rfl o14.sl (by decide) (by omega) (by omega)) ?_
                    refine psg rfl rfl rfl rfl rfl (fun wq hwq => x_ldi sc3 rfl (qo14.ext hwq).sl (by omega) (by omega)) ?_
                    refine pbg rfl rfl rfl rfl rfl (x_neq rfl rfl) (fun h104 => ?_) (fun h104 => ?_)
                    · exact absurd (by rw [Int.toNat_natCast]; exact hor_keep hg.1 (by omega)) h104
                    · refine p0g rfl rfl rfl rfl rfl (x_pickt (v := .bool _) rfl rfl) ?_
                      refine p0 rfl (x_pickf (v := .bool _) rfl rfl) ?_
                      refine p_nil (np_normal ?_)
                      refine n_then ?_
                      refine c_false rfl ?_
                      refine c_skipn ?_
                      refine n_block ?_
                      refine n_then ?_
                      refine c_reg ?_
                      refine s0 (x_move (v := .int _ _) rfl) ?_
                      refine s0 (x_add rfl rfl (by omega)) ?_
                      refine s0 (x_assign (v := .int _ _) rfl) ?_
                      refine c_end ?_
                      exact c_round (g' := k + 1) (by omega) ⟨_, upd_self6 rfl rfl rfl rfl rfl (vint (by omega)), L, (by omega), B5, B12, B19, o14, o21, o25, (by omega)⟩
                  · refine p0g rfl rfl rfl rfl rfl (x_pickf (v := .bool _) rfl rfl) ?_
                    refine p0g rfl rfl rfl rfl rfl (x_move (v := .bool _) rfl) ?_
                    refine pf rfl rfl rfl rfl rfl ?_
                    refine pf1 rfl rfl rfl rfl rfl ?_
                    refine pf rfl rfl rfl rfl rfl ?_
                    refine pf rfl rfl rfl rfl rfl ?_
                    refine pf1 rfl rfl rfl rfl rfl ?_
                    refine pf rfl rfl rfl rfl rfl ?_
                    refine pf1 rfl rfl rfl rfl rfl ?_
                    refine pf rfl rfl rfl rfl rfl ?_
                    refine pf rfl rfl rfl rfl rfl ?_
                    refine pf1 rfl rfl rfl rfl rfl ?_
                    refine pf rfl rfl rfl rfl rfl ?_
                    refine p0g rfl rfl rfl rfl rfl (x_pickf (v := .bool _) rfl rfl) ?_
                    refine p0 rfl (x_pickf (v := .bool _) rfl rfl) ?_
                    refine p_nil (np_normal ?_)
                    refine n_then ?_
                    refine c_false rfl ?_
                    refine c_skipn ?_
                    refine n_block ?_
                    refine n_then ?_
                    refine c_reg ?_
                    refine s0 (x_move (v := .int _ _) rfl) ?_
                    refine s0 (x_add rfl rfl (by omega)) ?_
                    refine s0 (x_assign (v := .int _ _) rfl) ?_
                    refine c_end ?_
                    exact c_round (g' := k + 1) (by omega) ⟨_, upd_self6 rfl rfl rfl rfl rfl (vint (by omega)), L, (by omega), B5, B12, B19, o14, o21, o25, (by omega)⟩
            · refine p0 rfl (x_move (v := .bool _) rfl) ?_
              refine p0g rfl rfl rfl rfl rfl (x_move (v := .int _ _) rfl) ?_
              refine p0g rfl rfl rfl rfl rfl (x_move (v := .int _ _) rfl) ?_
              refine p0g rfl rfl rfl rfl rfl (x_mul rfl rfl (by omega)) ?_
              refine p0g rfl rfl rfl rfl rfl (x_add rfl rfl (by omega)) ?_
              refine pbg rfl rfl rfl rfl rfl (x_geq rfl rfl) (fun h66 => ?_) (fun h66 => ?_)
              · refine p0 rfl (x_pickf (v := .bool _) rfl rfl) ?_
                refine p0 rfl (x_move (v := .bool _) rfl) ?_
                refine p0g rfl rfl rfl rfl rfl (x_fieldAddr fa85_2 rfl) ?_
                refine psg rfl rfl rfl rfl rfl (fun wq hwq => x_loadB sc33 rfl (qB12.ext hwq) rfl) ?_
                refine p0g rfl rfl rfl rfl rfl (x_move (v := .int _ _) rfl) ?_
                refine p0g rfl rfl rfl rfl rfl (x_idx so33 rfl rfl o21.sl (by decide) (by omega) (by omega)) ?_
                refine psg rfl rfl rfl rfl rfl (fun wq hwq => x_ldi sc3 rfl (qo21.ext hwq).sl (by omega) (by omega)) ?_
                refine p0g rfl rfl rfl rfl rfl (x_fieldAddr fa85_2 rfl) ?_
                refine psg rfl rfl rfl rfl rfl (fun wq hwq => x_loadB sc33 rfl (qB5.ext hwq) rfl) ?_
                refine p0g rfl rfl rfl rfl rfl (x_move (v := .int _ _) rfl) ?_
                refine p0g rfl rfl rfl rfl rfl (x_idx so33 rfl rfl o14.sl (by decide) (by omega) (by omega)) ?_
                refine psg rfl rfl rfl rfl rfl (fun wq hwq => x_ldi sc3 rfl (qo14.ext hwq).sl (by omega) (by omega)) ?_
                refine pbg rfl rfl rfl rfl rfl (x_neq rfl rfl) (fun h79 => ?_) (fun h79 => ?_)
                · exact absurd (by rw [Int.toNat_natCast]; exact vert_keep hg.1 (by omega)) h79
                · refine p0 rfl (x_pickt (v := .bool _) rfl rfl) ?_
                  refine p0 rfl (x_move (v := .bool _) rfl) ?_
                  refine p0g rfl rfl rfl rfl rfl (x_move (v := .int _ _) rfl) ?_
                  refine p0g rfl rfl rfl rfl rfl (x_move (v := .int _ _) rfl) ?_
                  refine p0g rfl rfl rfl rfl rfl (x_mul rfl rfl (by omega)) ?_
                  refine p0g rfl rfl rfl rfl rfl (x_sub rfl rfl (by omega)) ?_
                  refine pbg rfl rfl rfl rfl rfl (x_lss rfl rfl) (fun h86 => ?_) (fun h86 => ?_)
                  · refine p0g rfl rfl rfl rfl rfl (x_move (v := .bool _) rfl) ?_
                    refine pf rfl rfl rfl rfl rfl ?_
                    refine pf rfl rfl rfl rfl rfl ?_
                    refine pf rfl rfl rfl rfl rfl ?_
                    refine pf rfl rfl rfl rfl rfl ?_
                    refine p0g rfl rfl rfl rfl rfl (x_pickt (v := .bool _) rfl rfl) ?_
                    refine p0g rfl rfl rfl rfl rfl (x_move (v := .bool _) rfl) ?_
                    refine p0g rfl rfl rfl rfl rfl (x_fieldAddr fa85_2 rfl) ?_
                    refine psg rfl rfl rfl rfl rfl (fun wq hwq => x_loadB sc33 rfl (qB19.ext hwq) rfl) ?_
                    refine p0g rfl rfl rfl rfl rfl (x_move (v := .int _ _) rfl) ?_
                    refine p0g rfl rfl rfl rfl rfl (x_idx so33 rfl rfl o25.sl (by decide) (by omega) (by omega)) ?_
                    refine psg rfl rfl rfl rfl rfl (fun wq hwq => x_ldi sc3 rfl (qo25.ext hwq).sl (by omega) (by omega)) ?_
                    refine p0g rfl rfl rfl rfl rfl (x_fieldAddr fa85_2 rfl) ?_
                    refine psg rfl rfl rfl rfl rfl (fun wq hwq => x_loadB sc33 rfl (qB5.ext hwq) rfl) ?_
                    refine p0g rfl rfl rfl rfl rfl (x_move (v := .int _ _) rfl) ?_
                    refine p0g rfl rfl rfl rfl rfl (x_idx so33 rfl rfl o14.sl (by decide) (by omega) (by omega)) ?_
                    refine psg rfl rfl rfl rfl rfl (fun wq hwq => x_ldi sc3 rfl (qo14.ext hwq).sl (by omega) (by omega)) ?_
                    refine pbg rfl rfl rfl rfl rfl (x_neq rfl rfl) (fun h104 => ?_) (fun h104 => ?_)
                    · exact absurd (by rw [Int.toNat_natCast]; exact hor_keep hg.1 (by omega)) h104
                    · refine p0g rfl rfl rfl rfl rfl (x_pickt (v := .bool _) rfl rfl) ?_
                      refine p0 rfl (x_pickf (v := .bool _) rfl rfl) ?_
                      refine p_nil (np_normal ?_)
                      refine n_then ?_
                      refine c_false rfl ?_
                      refine c_skipn ?_
                      refine n_block ?_
                      refine n_then ?_
                      refine c_reg ?_
                      refine s0 (x_move (v := .int _ _) rfl) ?_
                      refine s0 (x_add rfl rfl (by omega)) ?_
                      refine s0 (x_assign (v := .int _ _) rfl) ?_
                      refine c_end ?_
                      exact c_round (g' := k + 1) (by omega) ⟨_, upd_self6 rfl rfl rfl rfl rfl (vint (by omega)), L, (by omega), B5, B12, B19, o14, o21, o25, (by omega)⟩
                  · refine p0g rfl rfl rfl rfl rfl (x_move (v := .bool _) rfl) ?_
                    refine p0g rfl rfl rfl rfl rfl (x_move (v := .int _ _) rfl) ?_
                    refine p0g rfl rfl rfl rfl rfl (x_move (v := .int _ _) rfl) ?_
                    refine p0g rfl rfl rfl rfl rfl (x_mul rfl rfl (by omega)) ?_
                    refine pbg rfl rfl rfl rfl rfl (x_gtr rfl rfl) (fun h91 => ?_) (fun h91 => ?_)
                    · refine p0g rfl rfl rfl rfl rfl (x_pickf (v := .bool _) rfl rfl) ?_
                      refine p0g rfl rfl rfl rfl rfl (x_move (v := .bool _) rfl) ?_
                      refine p0g rfl rfl rfl rfl rfl (x_fieldAddr fa85_2 rfl) ?_
                      refine psg rfl rfl rfl rfl rfl (fun wq hwq => x_loadB sc33 rfl (qB19.ext hwq) rfl) ?_
                      refine p0g rfl rfl rfl rfl rfl (x_move (v := .int _ _) rfl) ?_
                      refine p0g rfl rfl rfl rfl rfl (x_idx so33 rfl rfl o25.sl (by decide) (by omega) (by omega)) ?_
                      refine psg rfl rfl rfl rfl rfl (fun wq hwq => x_ldi sc3 rfl (qo25.ext hwq).sl (by omega) (by omega)) ?_
                      refine p0g rfl rfl rfl rfl rfl (x_fieldAddr fa85_2 rfl) ?_
                      refine psg rfl rfl rfl rfl rfl (fun wq hwq => x_loadB sc33 rfl (qB5.ext hwq) rfl) ?_
                      refine p0g rfl rfl rfl rfl rfl (x_move (v := .int _ _) rfl) ?_
                      refine p0g rfl rfl rfl rfl rfl (x_idx so33 rfl rfl o14.sl (by decide) (by omega) (by omega)) ?_
                      refine psg rfl rfl rfl rfl rfl (fun wq hwq => x_ldi sc3 rfl (qo14.ext hwq).sl (by omega) (by omega)) ?_
                      refine pbg rfl rfl rfl rfl rfl (x_neq rfl rfl) (fun h104 => ?_) (fun h104 => ?_)
                      · exact absurd (by rw [Int.toNat_natCast]; exact hor_keep hg.1 (by omega)) h104
                      · refine p0g rfl rfl rfl rfl rfl (x_pickt (v := .bool _) rfl rfl) ?_
                        refine p0 rfl (x_pickf (v := .bool _) rfl rfl) ?_
                        refine p_nil (np_normal ?_)
                        refine n_then ?_
                        refine c_false rfl ?_
                        refine c_skipn ?_
                        refine n_block ?_
                        refine n_then ?_
                        refine c_reg ?_
                        refine s0 (x_move (v := .int _ _) rfl) ?_
                        refine s0 (x_add rfl rfl (by omega)) ?_
                        refine s0 (x_assign (v := .int _ _) rfl) ?_
                        refine c_end ?_
                        exact c_round (g' := k + 1) (by omega) ⟨_, upd_self6 rfl rfl rfl rfl rfl (vint (by omega)), L, (by omega), B5, B12, B19, o14, o21, o25, (by omega)⟩
                    · refine p0g rfl rfl rfl rfl rfl (x_pickf (v := .bool _) rfl rfl) ?_
                      refine p0g rfl rfl rfl rfl rfl (x_move (v := .bool _) rfl) ?_
                      refine pf rfl rfl rfl rfl rfl ?_
                      refine pf1 rfl rfl rfl rfl rfl ?_
                      refine pf rfl rfl rfl rfl rfl ?_
                      refine pf rfl rfl rfl rfl rfl ?_
                      refine pf1 rfl rfl rfl rfl rfl ?_
                      refine pf rfl rfl rfl rfl rfl ?_
                      refine pf1 rfl rfl rfl rfl rfl ?_
                      refine pf rfl rfl rfl rfl rfl ?_
                      refine pf rfl rfl rfl rfl rfl ?_
                      refine pf1 rfl rfl rfl rfl rfl ?_
                      refine pf rfl rfl rfl rfl rfl ?_
                      refine p0g rfl rfl rfl rfl rfl (x_pickf (v := .bool _) rfl rfl) ?_
                      refine p0 rfl (x_pickf (v := .bool _) rfl rfl) ?_
                      refine p_nil (np_normal ?_)
                      refine n_then ?_
                      refine c_false rfl ?_
                      refine c_skipn ?_
                      refine n_block ?_
                      refine n_then ?_
                      refine c_reg ?_
                      refine s0 (x_move (v := .int _ _) rfl) ?_
                      refine s0 (x_add rfl rfl (by omega)) ?_
                      refine s0 (x_assign (v := .int _ _) rfl) ?_
                      refine c_end ?_
                      exact c_round (g' := k + 1) (by omega) ⟨_, upd_self6 rfl rfl rfl rfl rfl (vint (by omega)), L, (by omega), B5, B12, B19, o14, o21, o25, (by omega)⟩
              · refine p0 rfl (x_pickf (v := .bool _) rfl rfl) ?_
                refine p0 rfl (x_move (v := .bool _) rfl) ?_
                refine pf rfl rfl rfl rfl rfl ?_
                refine pf1 rfl rfl rfl rfl rfl ?_
                refine pf rfl rfl rfl rfl rfl ?_
                refine pf rfl rfl rfl rfl rfl ?_
                refine pf1 rfl rfl rfl rfl rfl ?_
                refine pf rfl rfl rfl rfl rfl ?_
                refine pf1 rfl rfl rfl rfl rfl ?_
                refine pf rfl rfl rfl rfl rfl ?_
                refine pf rfl rfl rfl rfl rfl ?_
                refine pf1 rfl rfl rfl rfl rfl ?_
                refine pf rfl rfl rfl rfl rfl ?_
                refine p0 rfl (x_pickf (v := .bool _) rfl rfl) ?_
                refine p0 rfl (x_move (v := .bool _) rfl) ?_
                refine p0g rfl rfl rfl rfl rfl (x_move (v := .int _ _) rfl) ?_
                refine p0g rfl rfl rfl rfl rfl (x_move (v := .int _ _) rfl) ?_
                refine p0g rfl rfl rfl rfl rfl (x_mul rfl rfl (by omega)) ?_
                refine p0g rfl rfl rfl rfl rfl (x_sub rfl rfl (by omega)) ?_
                refine pbg rfl rfl rfl rfl rfl (x_lss rfl rfl) (fun h86 => ?_) (fun h86 => ?_)
                · refine p0g rfl rfl rfl rfl rfl (x_move (v := .bool _) rfl) ?_
                  refine pf rfl rfl rfl rfl rfl ?_
                  refine pf rfl rfl rfl rfl rfl ?_
                  refine pf rfl rfl rfl rfl rfl ?_
                  refine pf rfl rfl rfl rfl rfl ?_
                  refine p0g rfl rfl rfl rfl rfl (x_pickt (v := .bool _) rfl rfl) ?_
                  refine p0g rfl rfl rfl rfl rfl (x_move (v := .bool _) rfl) ?_
                  refine p0g rfl rfl rfl rfl rfl (x_fieldAddr fa85_2 rfl) ?_
                  refine psg rfl rfl rfl rfl rfl (fun wq hwq => x_loadB sc33 rfl (qB19.ext hwq) rfl) ?_
                  refine p0g rfl rfl rfl rfl rfl (x_move (v := .int _ _) rfl) ?_
                  refine p0g rfl rfl rfl rfl rfl (x_idx so33 rfl rfl o25.sl (by decide) (by omega) (by omega)) ?_
                  refine psg rfl rfl rfl rfl rfl (fun wq hwq => x_ldi sc3 rfl (qo25.ext hwq).sl (by omega) (by omega)) ?_
                  refine p0g rfl rfl rfl rfl rfl (x_fieldAddr fa85_2 rfl) ?_
                  refine psg rfl rfl rfl rfl rfl (fun wq hwq => x_loadB sc33 rfl (qB5.ext hwq) rfl) ?_
                  refine p0g rfl rfl rfl rfl rfl (x_move (v := .int _ _) rfl) ?_
                  refine p0g rfl rfl rfl rfl rfl (x_idx so33 rfl rfl o14.sl (by decide) (by omega) (by omega)) ?_
                  refine psg rfl rfl rfl rfl rfl (fun wq hwq => x_ldi sc3 rfl (qo14.ext hwq).sl (by omega) (by omega)) ?_
                  refine pbg rfl rfl rfl rfl rfl (x_neq rfl rfl) (fun h104 => ?_) (fun h104 => ?_)
                  · exact absurd (by rw [Int.toNat_natCast]; exact hor_keep hg.1 (by omega)) h104
                  · refine p0g rfl rfl rfl rfl rfl (x_pickt (v := .bool _) rfl rfl) ?_
                    refine p0 rfl (x_pickf (v := .bool _) rfl rfl) ?_
                    refine p_nil (np_normal ?_)
                    refine n_then ?_
                    refine c_false rfl ?_
                    refine c_skipn ?_
                    refine n_block ?_
                    refine n_then ?_
                    refine c_reg ?_
                    refine s0 (x_move (v := .int _ _) rfl) ?_
                    refine s0 (x_add rfl rfl (by omega)) ?_
                    refine s0 (x_assign (v := .int _ _) rfl) ?_
                    refine c_end ?_
                    exact c_round (g' := k + 1) (by omega) ⟨_, upd_self6 rfl rfl rfl rfl rfl (vint (by omega)), L, (by omega), B5, B12, B19, o14, o21, o25, (by omega)⟩
                · refine p0g rfl rfl rfl rfl rfl (x_move (v := .bool _) rfl) ?_
                  refine p0g rfl rfl rfl rfl rfl (x_move (v := .int _ _) rfl) ?_
                  refine p0g rfl rfl rfl rfl rfl (x_move (v := .int _ _) rfl) ?_
                  refine p0g rfl rfl rfl rfl rfl (x_mul rfl rfl (by omega)) ?_
                  refine pbg rfl rfl rfl rfl rfl (x_gtr rfl rfl) (fun h91 => ?_) (fun h91 => ?_)
                  · refine p0g rfl rfl rfl rfl rfl (x_pickf (v := .bool _) rfl rfl) ?_
                    refine p0g rfl rfl rfl rfl rfl (x_move (v := .bool _) rfl) ?_
                    refine p0g rfl rfl rfl rfl rfl (x_fieldAddr fa85_2 rfl) ?_
                    refine psg rfl rfl rfl rfl rfl (fun wq hwq => x_loadB sc33 rfl (qB19.ext hwq) rfl) ?_
                    refine p0g rfl rfl rfl rfl rfl (x_move (v := .int _ _) rfl) ?_
                    refine p0g rfl rfl rfl rfl rfl (x_idx so33 rfl rfl o25.sl (by decide) (by omega) (by omega)) ?_
                    refine psg rfl rfl rfl rfl rfl (fun wq hwq => x_ldi sc3 rfl (qo25.ext hwq).sl (by omega) (by omega)) ?_
                    refine p0g rfl rfl rfl rfl rfl (x_fieldAddr fa85_2 rfl) ?_
                    refine psg rfl rfl rfl rfl rfl (fun wq hwq => x_loadB sc33 rfl (qB5.ext hwq) rfl) ?_
                    refine p0g rfl rfl rfl rfl rfl (x_move (v := .int _ _) rfl) ?_
                    refine p0g rfl rfl rfl rfl rfl (x_idx so33 rfl rfl o14.sl (by decide) (by omega) (by omega)) ?_
                    refine psg rfl rfl rfl rfl rfl (fun wq hwq => x_ldi sc3 rfl (qo14.ext hwq).sl (by omega) (by omega)) ?_
                    refine pbg rfl rfl rfl rfl rfl (x_neq rfl rfl) (fun h104 => ?_) (fun h104 => ?_)
                    · exact absurd (by rw [Int.toNat_natCast]; exact hor_keep hg.1 (by omega)) h104
                    · refine p0g rfl rfl rfl rfl rfl (x_pickt (v := .bool _) rfl rfl) ?_
                      refine p0 rfl (x_pickf (v := .bool _) rfl rfl) ?_
                      refine p_nil (np_normal ?_)
                      refine n_then ?_
                      refine c_false rfl ?_
                      refine c_skipn ?_
                      refine n_block ?_
                      refine n_then ?_
                      refine c_reg ?_
                      refine s0 (x_move (v := .int _ _) rfl) ?_
                      refine s0 (x_add rfl rfl (by omega)) ?_
                      refine s0 (x_assign (v := .int _ _) rfl) ?_
                      refine c_end ?_
                      exact c_round (g' := k + 1) (by omega) ⟨_, upd_self6 rfl rfl rfl rfl rfl (vint (by omega)), L, (by omega), B5, B12, B19, o14, o21, o25, (by omega)⟩
                  · refine p0g rfl rfl rfl rfl rfl (x_pickf (v := .bool _) rfl rfl) ?_
                    refine p0g rfl rfl rfl rfl rfl (x_move (v := .bool _) rfl) ?_
                    refine pf rfl rfl rfl rfl rfl ?_
                    refine pf1 rfl rfl rfl rfl rfl ?_
                    refine pf rfl rfl rfl rfl rfl ?_
                    refine pf rfl rfl rfl rfl rfl ?_
                    refine pf1 rfl rfl rfl rfl rfl ?_
                    refine pf rfl rfl rfl rfl rfl ?_
                    refine pf1 rfl rfl rfl rfl rfl ?_
                    refine pf rfl rfl rfl rfl rfl ?_
                    refine pf rfl rfl rfl rfl rfl ?_
                    refine pf1 rfl rfl rfl rfl rfl ?_
                    refine pf rfl rfl rfl rfl rfl ?_
                    refine p0g rfl rfl rfl rfl rfl (x_pickf (v := .bool _) rfl rfl) ?_
                    refine p0 rfl (x_pickf (v := .bool _) rfl rfl) ?_
                    refine p_nil (np_normal ?_)
                    refine n_then ?_
                    refine c_false rfl ?_
                    refine c_skipn ?_
                    refine n_block ?_
                    refine n_then ?_
                    refine c_reg ?_
                    refine s0 (x_move (v := .int _ _) rfl) ?_
                    refine s0 (x_add rfl rfl (by omega)) ?_
                    refine s0 (x_assign (v := .int _ _) rfl) ?_
                    refine c_end ?_
                    exact c_round (g' := k + 1) (by omega) ⟨_, upd_self6 rfl rfl rfl rfl rfl (vint (by omega)), L, (by omega), B5, B12, B19, o14, o21, o25, (by omega)⟩
          · have z_l36 := l36.size
            have L := L.tr l36.up
            have B5 := B5.ext l36
            have B12 := B12.ext l36
            have B19 := B19.ext l36
            have o14 := o14.ext l36
            have o21 := o21.ext l36
            have o25 := o25.ext l36
            refine s0 (x_pickt (v := .bool _) rfl rfl) ?_
            refine c_end ?_
            refine n_then ?_
            refine c_false rfl ?_
            refine wp_exit (e_then (e_then (e_here ?_)))
            refine n_then ?_
            refine wp_seq ?_
            refine c_reg ?_
            refine s0 (x_assign (v := .bool _) rfl) ?_
            refine c_end ?_
            refine n_then ?_
            refine wp_ret ?_
            refine f_ret rfl rfl ?_
            exact ⟨rfl, L⟩
        · refine s0 (x_move (v := .bool _) rfl) ?_
          refine gf rfl rfl rfl rfl ?_
          refine gf rfl rfl rfl rfl ?_
          refine s0 (x_pickf (v := .bool _) rfl rfl) ?_
          refine c_end ?_
          refine n_then ?_
          refine c_false rfl ?_
          refine wp_exit (e_then (e_then (e_here ?_)))
          refine n_then ?_
          refine wp_seq ?_
          refine c_reg ?_
          refine s0 (x_assign (v := .bool _) rfl) ?_
          refine c_end ?_
          refine n_then ?_
          refine wp_ret ?_
          refine f_ret rfl rfl ?_
          exact ⟨rfl, L⟩
      · exact absurd ⟨rfl, rfl, rfl⟩ h39
    · exact absurd ⟨rfl, rfl, rfl⟩ h31

end Go.Proofs.Ytfmmkacopgecpaa
