/- What each function of this part returns, for every argument that meets its premises. -/
import Derived.Test.YtfmmkacopgecpaaFG
namespace Go.Proofs.Ytfmmkacopgecpaa
open Go.Sx Go.Pl Go.RowKit
theorem cl21 : Callable Try.prog 21 := callable Try.func21 (by kernel_rfl) rfl
theorem cl25 : Callable Try.prog 25 := callable Try.func25 (by kernel_rfl) rfl
theorem cl53 : Callable Try.prog 53 := callable Try.func53 (by kernel_rfl) rfl
theorem cl58 : Callable Try.prog 58 := callable Try.func58 (by kernel_rfl) rfl
theorem cl60 : Callable Try.prog 60 := callable Try.func60 (by kernel_rfl) rfl
/-- laws.FnCodes -/
theorem l_fnCodes (p : Option Addr) (xs : List Int) (c : Nat) (B : Nat) (w : World) (hp : Sl w p xs.length c 1 (bc xs)) (hr : ∀ x ∈ xs, 0 ≤ x ∧ x ≤ 255) (hpB : Bl p xs.length B) (hB : B ≤ w.heap.size) :
    Calls Try.prog 11 [.slice p xs.length c].toArray w (Ret w (.bool true)) := by
  have L : Exm [] w w := Exm.rfl'
  refine enter (n := 147) Try.func11 rfl rfl rfl ?_
  refine wp_seq ?_
  refine c_reg ?_
  refine s0 (x_assign (v := .bool _) rfl) ?_
  refine c_end ?_
  refine n_then ?_
  refine wp_seq ?_
  refine wp_seq ?_
  refine c_reg ?_
  refine s0 (x_move (v := .slice _ _ _) rfl) ?_
  refine srb (zcall cl21 rfl) (l_big _ _ _ _) (fun h15 w1 l2 => ?_) (fun h15 w1 l2 => ?_)
  · have z_l2 := l2.size
    have L := L.tr l2.up
    refine c_end ?_
    refine n_then ?_
    refine c_true rfl ?_
    refine wp_seq ?_
    refine c_reg ?_
    refine s0 (x_assign (v := .bool _) rfl) ?_
    refine c_end ?_
    refine n_then ?_
    refine wp_ret (r_then ?_)
    refine f_ret rfl rfl ?_
    exact ⟨rfl, L⟩
  · have z_l2 := l2.size
    have L := L.tr l2.up
    refine c_end ?_
    refine n_then ?_
    refine c_false rfl ?_
    refine c_skipn ?_
    refine n_then ?_
    refine wp_seq ?_
    have hl : xs.length ≤ 1048576 := by omega
    refine c_reg ?_
    refine s0 (x_move (v := .slice _ _ _) rfl) ?_
    refine sp (zcall cl60 rfl) (s_drawCodesOf _ _ _ _ _ (hp.ext L) hr hpB (by omega) (by omega)) ?_
    rintro v17 w3 l4 ⟨p17, n17, xs17, c17, F17, rfl, o17, f17, rfl, hx17⟩
    have z_l4 := l4.size
    have L := L.tr l4.up
    have g17 := o17.lt
    refine s0 (x_assign (v := .slice _ _ _) rfl) ?_
    refine c_end ?_
    refine n_then ?_
    refine wp_seq ?_
    refine c_reg ?_
    refine s0 (x_move (v := .slice _ _ _) rfl) ?_
    refine sp (zcall cl61 rfl) (i_codesOf _ _ _ _ o17.sl (by omega)) ?_
    rintro v19 w5 l6 ⟨p19, c19, F19, rfl, o19, f19, hnil19⟩
    have z_l6 := l6.size
    have L := L.tr l6.up
    have o17 := o17.ext l6
    have g19 := o19.lt
    refine s0 (x_assign (v := .slice _ _ _) rfl) ?_
    refine c_end ?_
    refine n_then ?_
    refine wp_seq ?_
    refine c_reg ?_
    refine s0 (x_move (v := .slice _ _ _) rfl) ?_
    refine sp (zcall cl58 rfl) (i_symTable _ _ _ _ o17.sl (by omega)) ?_
    rintro v21 w7 l8 ⟨p21, c21, F21, rfl, o21, f21⟩
    have z_l8 := l8.size
    have L := L.tr l8.up
    have o17 := o17.ext l8
    have o19 := o19.ext l8
    have g21 := o21.lt
    refine s0 (x_assign (v := .slice _ _ _) rfl) ?_
    refine c_end ?_
    refine n_then ?_
    refine wp_seq ?_
    refine wp_seq ?_
    refine c_reg ?_
    refine s0 (x_move (v := .slice _ _ _) rfl) ?_
    refine srb (zcall cl62 rfl) (s_codeOk _ _ _ _ o17.sl (by omega)) (fun h23 w9 l10 => ?_) (fun h23 w9 l10 => ?_)
    · have z_l10 := l10.size
      have L := L.tr l10.up
      have o17 := o17.ext l10
      have o19 := o19.ext l10
      have o21 := o21.ext l10
      refine s0 (x_not rfl) ?_
      refine c_end ?_
      refine n_then ?_
      refine c_false rfl ?_
      refine c_skipn ?_
      refine n_then ?_
      refine wp_seq ?_
      refine wp_seq ?_
      have hcl := codes_length h23
      have htl := symTab_len h23
      have hx6 := h23.2.1
      refine c_reg ?_
      refine s0 (x_move (v := .slice _ _ _) rfl) ?_
      refine s0 (x_lensl un33 rfl) ?_
      refine sb (x_neq rfl rfl) (fun h40 => ?_) (fun h40 => ?_)
      · omega
      · refine s0 (x_move (v := .bool _) rfl) ?_
        refine gt rfl rfl rfl rfl ?_
        refine s0 (x_move (v := .slice _ _ _) rfl) ?_
        refine gt rfl rfl rfl rfl ?_
        refine s0 (x_lensl un22 rfl) ?_
        refine gt rfl rfl rfl rfl ?_
        refine sb (x_neq rfl rfl) (fun h44 => ?_) (fun h44 => ?_)
        · omega
        · refine s0 (x_pickf (v := .bool _) rfl rfl) ?_
          refine c_end ?_
          refine n_then ?_
          refine c_false rfl ?_
          refine c_skipn ?_
          refine n_then ?_
          refine wp_seq ?_
          refine wp_seq ?_
          refine c_reg ?_
          refine s0 (x_assign (v := .int _ _) rfl) ?_
          refine c_end ?_
          refine n_then ?_
          refine wp_block ?_
          refine c_loop (γ := Nat) (fun k => 128 - k) (fun (k : Nat) E wl => ∃ E0, E = upd (upd (upd (upd (upd E0 0 (.slice p xs.length c)) 3 (.slice p17 xs17.length c17)) 4 (.slice p19 (codesOf xs17).length c19)) 5 (.slice p21 (symTab xs17).length c21)) 6 (.int .i64 (k : Int)) ∧ (Exm [] w wl) ∧ (w9.heap.size ≤ wl.heap.size) ∧ (Rdf wl p17 xs17.length c17 1 (ic xs17) F17) ∧ (Own wl p19 (codesOf xs17).length c19 3 1 (ic (codesOf xs17)) F19) ∧ (Own wl p21 (symTab xs17).length c21 79 2 ((symTab xs17).flatMap erow) F21) ∧ ((k : Int) ≤ 128)) 0 ⟨_, upd_self5 rfl rfl rfl rfl rfl, L, (by omega), o17, o19, o21, (by omega)⟩ ?_
          rintro k E wl11 ⟨E0, rfl, L, Lz, o17, o19, o21, hk⟩
          have Lz0 := L.size
          refine wp_seq ?_
          refine wp_seq ?_
          refine c_reg ?_
          refine s0 (x_move (v := .int _ _) rfl) ?_
          refine sb (x_lss rfl rfl) (fun h47 => ?_) (fun h47 => ?_)
          · refine c_end ?_
            refine n_then ?_
            refine c_true rfl ?_
            refine c_skipn ?_
            refine n_then ?_
            refine wp_seq ?_
            refine wp_block ?_
            refine wp_seq ?_
            have hsy := sym_hit h23 (v := k) (by omega)
            have hm0 := hsy.1
            refine c_reg ?_
            refine s0 (x_assign (v := .int _ _) rfl) ?_
            refine c_end ?_
            refine n_then ?_
            refine wp_seq ?_
            refine wp_seq ?_
            refine c_reg ?_
            refine s0 (x_assign (v := .int _ _) rfl) ?_
            refine c_end ?_
            refine n_then ?_
            refine wp_block ?_
            refine c_loop (γ := Nat) (fun m => 6 - m) (fun (m : Nat) E wl => ∃ E0, E = upd (upd (upd (upd (upd (upd (upd E0 0 (.slice p xs.length c)) 3 (.slice p17 xs17.length c17)) 4 (.slice p19 (codesOf xs17).length c19)) 5 (.slice p21 (symTab xs17).length c21)) 6 (.int .i64 (k : Int))) 7 (.int .i64 (if symOf xs17 k < m then 1 else 0))) 8 (.int .i64 (m : Int)) ∧ (Exm [] w wl) ∧ (wl11.heap.size ≤ wl.heap.size) ∧ (Rdf wl p17 xs17.length c17 1 (ic xs17) F17) ∧ (Own wl p19 (codesOf xs17).length c19 3 1 (ic (codesOf xs17)) F19) ∧ (Own wl p21 (symTab xs17).length c21 79 2 ((symTab xs17).flatMap erow) F21) ∧ ((m : Int) ≤ 6)) 0 ⟨_, upd_self7 rfl rfl rfl rfl rfl (vint (by rw [if_neg (by omega)])) rfl, L, (by omega), o17, o19, o21, (by omega)⟩ ?_
            rintro m E wl12 ⟨E0, rfl, L, Lz, o17, o19, o21, hm⟩
            have Lz0 := L.size
            refine wp_seq ?_
            refine wp_seq ?_
            refine c_reg ?_
            refine s0 (x_move (v := .int _ _) rfl) ?_
            refine sb (x_lss rfl rfl) (fun h51 => ?_) (fun h51 => ?_)
            · refine c_end ?_
              refine n_then ?_
              refine c_true rfl ?_
              refine c_skipn ?_
              refine n_then ?_
              refine wp_seq ?_
              refine wp_block ?_
              refine wp_seq ?_
              have hca := codeOk_at h23 ((m : Int)).toNat
              refine c_plan (fun wq => Exm [] wl12 wq) 19 (.cons (0, 2) (.cons (1, 2) (.cons (2, 2) (.cons (3, 1) (.cons (4, 2) (.cons (5, 2) (.cons (6, 2) (.cons (7, 2) (.cons (8, 2) (.cons (9, 2) (.cons (10, 1) (.cons (11, 2) (.cons (12, 2) (.cons (13, 2) (.cons (14, 2) (.cons (15, 2) (.cons (16, 1) (.cons (17, 2) (.cons (18, 2) .nil))))))))))))))))))) (by kernel_rfl) (by kernel_rfl) (Exm.drew _) ?_
              obtain ⟨w13, hwd⟩ : ∃ x, x = wl12.drew := ⟨_, rfl⟩
              have l14 : Ext wl12 w13 := by rw [hwd]; exact Exm.drew _
              rw [← hwd]; clear hwd
              have Lq : Exm [] wl12 w13 := l14.up
              have qo17 := o17
              have qo19 := o19
              have qo21 := o21
              have qL := L
              have z_l14 := l14.size
              have L := L.tr l14.up
              have o17 := o17.ext l14
              have o19 := o19.ext l14
              have o21 := o21.ext l14
              refine p0 rfl (x_move (v := .slice _ _ _) rfl) ?_
              refine p0 rfl (x_move (v := .int _ _) rfl) ?_
              refine p0 rfl (x_idx so33 rfl rfl o17.sl (by decide) (by omega) (by omega)) ?_
              refine ps rfl (fun wq hwq => x_ldi sc3 rfl (qo17.ext hwq).sl (by omega) (by omega)) ?_
              refine pb rfl (x_gtr rfl rfl) (fun h58 => ?_) (fun h58 => ?_)
              · refine p0 rfl (x_move (v := .bool _) rfl) ?_
                refine p0g rfl rfl rfl rfl rfl (x_move (v := .int _ _) rfl) ?_
                refine p0g rfl rfl rfl rfl rfl (x_move (v := .slice _ _ _) rfl) ?_
                refine p0g rfl rfl rfl rfl rfl (x_move (v := .int _ _) rfl) ?_
                refine p0g rfl rfl rfl rfl rfl (x_idx so33 rfl rfl o17.sl (by decide) (by omega) (by omega)) ?_
                refine psg rfl rfl rfl rfl rfl (fun wq hwq => x_ldi sc3 rfl (qo17.ext hwq).sl (by omega) (by omega)) ?_
                refine p0g rfl rfl rfl rfl rfl (x_sub rfl rfl (by omega)) ?_
                refine p0g rfl rfl rfl rfl rfl (x_shr rfl rfl (by simp only [IntKind.bits]; omega)) ?_
                refine p0g rfl rfl rfl rfl rfl (x_move (v := .slice _ _ _) rfl) ?_
                refine p0g rfl rfl rfl rfl rfl (x_move (v := .int _ _) rfl) ?_
                refine p0g rfl rfl rfl rfl rfl (x_idx so33 rfl rfl o19.sl (by decide) (by omega) (by omega)) ?_
                refine psg rfl rfl rfl rfl rfl (fun wq hwq => x_ldi sc3 rfl (qo19.ext hwq).sl (by omega) (by omega)) ?_
                refine pbg rfl rfl rfl rfl rfl (x_eql rfl rfl) (fun h71 => ?_) (fun h71 => ?_)
                · refine p0 rfl (x_pickt (v := .bool _) rfl rfl) ?_
                  refine p_nil (np_normal ?_)
                  refine n_then ?_
                  refine c_true rfl ?_
                  refine wp_seq ?_
                  have hms : symOf xs17 k = m := by rw [Int.toNat_natCast] at h58 h71; exact symOf_eq h23 (by omega) (by omega) ⟨by omega, by omega⟩ h71
                  refine c_reg ?_
                  refine s0 (x_move (v := .int _ _) rfl) ?_
                  refine s0 (x_add rfl rfl (by split <;> omega)) ?_
                  refine s0 (x_assign (v := .int _ _) rfl) ?_
                  refine c_end ?_
                  refine n_then ?_
                  refine wp_seq ?_
                  refine c_plan (fun wq => Exm [] w13 wq) 19 (.cons (0, 2) (.cons (1, 2) (.cons (2, 2) (.cons (3, 2) (.cons (4, 1) (.cons (5, 2) (.cons (6, 2) (.cons (7, 2) (.cons (8, 2) (.cons (9, 2) (.cons (10, 2) (.cons (11, 2) (.cons (12, 1) (.cons (13, 2) (.cons (14, 2) (.cons (15, 2) (.cons (16, 1) (.cons (17, 2) (.cons (18, 2) .nil))))))))))))))))))) (by kernel_rfl) (by kernel_rfl) (Exm.drew _) ?_
                  obtain ⟨w15, hwd⟩ : ∃ x, x = w13.drew := ⟨_, rfl⟩
                  have l16 : Ext w13 w15 := by rw [hwd]; exact Exm.drew _
                  rw [← hwd]; clear hwd
                  have Lq : Exm [] w13 w15 := l16.up
                  have qo17 := o17
                  have qo19 := o19
                  have qo21 := o21
                  have qL := L
                  have z_l16 := l16.size
                  have L := L.tr l16.up
                  have o17 := o17.ext l16
                  have o19 := o19.ext l16
                  have o21 := o21.ext l16
                  refine p0 rfl (x_move (v := .slice _ _ _) rfl) ?_
                  refine p0 rfl (x_move (v := .int _ _) rfl) ?_
                  refine p0 rfl (x_idx so22 rfl rfl o21.sl (by decide) (by omega) (by omega)) ?_
                  refine p0 rfl (x_fieldAddr fa79_1 rfl) ?_
                  refine ps rfl (fun wq hwq => x_ldf (u := .int _ _) erow_len sc3 rfl (qo21.ext hwq).sl (by omega) (by omega) (by decide) rfl) ?_
                  refine p0 rfl (x_move (v := .int _ _) rfl) ?_
                  refine pb rfl (x_neq rfl rfl) (fun h81 => ?_) (fun h81 => ?_)
                  · exact absurd (by rw [Int.toNat_natCast, symTab_get h23 (by omega)]; show ((symOf xs17 k : Nat) : Int) = m; omega) h81
                  · refine p0 rfl (x_move (v := .bool _) rfl) ?_
                    refine p0g rfl rfl rfl rfl rfl (x_move (v := .slice _ _ _) rfl) ?_
                    refine p0g rfl rfl rfl rfl rfl (x_move (v := .int _ _) rfl) ?_
                    refine p0g rfl rfl rfl rfl rfl (x_idx so22 rfl rfl o21.sl (by decide) (by omega) (by omega)) ?_
                    refine p0g rfl rfl rfl rfl rfl (x_fieldAddr fa79_0 rfl) ?_
                    refine psg rfl rfl rfl rfl rfl (fun wq hwq => x_ldf (u := .int _ _) erow_len sc3 rfl (qo21.ext hwq).sl (by omega) (by omega) (by decide) rfl) ?_
                    refine p0g rfl rfl rfl rfl rfl (x_move (v := .slice _ _ _) rfl) ?_
                    refine p0g rfl rfl rfl rfl rfl (x_move (v := .int _ _) rfl) ?_
                    refine p0g rfl rfl rfl rfl rfl (x_idx so33 rfl rfl o17.sl (by decide) (by omega) (by omega)) ?_
                    refine psg rfl rfl rfl rfl rfl (fun wq hwq => x_ldi sc3 rfl (qo17.ext hwq).sl (by omega) (by omega)) ?_
                    refine pbg rfl rfl rfl rfl rfl (x_neq rfl rfl) (fun h92 => ?_) (fun h92 => ?_)
                    · exact absurd (by simp only [Int.toNat_natCast]; rw [symTab_get h23 (by omega)]; show xs17.getD (symOf xs17 k) 0 = _; rw [hms]) h92
                    · refine p0 rfl (x_pickf (v := .bool _) rfl rfl) ?_
                      refine p_nil (np_normal ?_)
                      refine n_then ?_
                      refine c_false rfl ?_
                      refine c_skipn ?_
                      refine n_block ?_
                      refine n_then ?_
                      refine c_reg ?_
                      refine s0 (x_move (v := .int _ _) rfl) ?_
                      refine s0 (x_add rfl rfl (by omega)) ?_
                      refine s0 (x_assign (v := .int _ _) rfl) ?_
                      refine c_end ?_
                      exact c_round (g' := m + 1) (by omega) ⟨_, upd_self7 rfl rfl rfl rfl rfl (vint (by split <;> split <;> omega)) (vint (by omega)), L, (by omega), o17, o19, o21, (by omega)⟩
                · refine p0 rfl (x_pickt (v := .bool _) rfl rfl) ?_
                  refine p_nil (np_normal ?_)
                  refine n_then ?_
                  refine c_false rfl ?_
                  refine c_skipn ?_
                  refine n_block ?_
                  refine n_then ?_
                  have hms : ¬ symOf xs17 k = m := fun h5 => by subst h5; rw [Int.toNat_natCast] at h71; exact h71 hsy.2
                  refine c_reg ?_
                  refine s0 (x_move (v := .int _ _) rfl) ?_
                  refine s0 (x_add rfl rfl (by omega)) ?_
                  refine s0 (x_assign (v := .int _ _) rfl) ?_
                  refine c_end ?_
                  exact c_round (g' := m + 1) (by omega) ⟨_, upd_self7 rfl rfl rfl rfl rfl (vint (by split <;> split <;> omega)) (vint (by omega)), L, (by omega), o17, o19, o21, (by omega)⟩
              · refine p0 rfl (x_move (v := .bool _) rfl) ?_
                refine pf rfl rfl rfl rfl rfl ?_
                refine pf rfl rfl rfl rfl rfl ?_
                refine pf rfl rfl rfl rfl rfl ?_
                refine pf rfl rfl rfl rfl rfl ?_
                refine pf1 rfl rfl rfl rfl rfl ?_
                refine pf rfl rfl rfl rfl rfl ?_
                refine pf rfl rfl rfl rfl rfl ?_
                refine pf rfl rfl rfl rfl rfl ?_
                refine pf rfl rfl rfl rfl rfl ?_
                refine pf rfl rfl rfl rfl rfl ?_
                refine pf1 rfl rfl rfl rfl rfl ?_
                refine pf rfl rfl rfl rfl rfl ?_
                refine p0 rfl (x_pickf (v := .bool _) rfl rfl) ?_
                refine p_nil (np_normal ?_)
                refine n_then ?_
                refine c_false rfl ?_
                refine c_skipn ?_
                refine n_block ?_
                refine n_then ?_
                have hms : ¬ symOf xs17 k = m := fun h5 => by have h6 := hm0.2; rw [h5] at h6; rw [Int.toNat_natCast] at h58; omega
                refine c_reg ?_
                refine s0 (x_move (v := .int _ _) rfl) ?_
                refine s0 (x_add rfl rfl (by omega)) ?_
                refine s0 (x_assign (v := .int _ _) rfl) ?_
                refine c_end ?_
                exact c_round (g' := m + 1) (by omega) ⟨_, upd_self7 rfl rfl rfl rfl rfl (vint (by split <;> split <;> omega)) (vint (by omega)), L, (by omega), o17, o19, o21, (by omega)⟩
            · refine c_end ?_
              refine n_then ?_
              refine c_false rfl ?_
              refine wp_exit (e_then (e_then (e_here ?_)))
              refine n_then ?_
              refine wp_seq ?_
              refine c_reg ?_
              refine s0 (x_move (v := .int _ _) rfl) ?_
              refine sb (x_neq rfl rfl) (fun h95 => ?_) (fun h95 => ?_)
              · exact absurd (by rw [if_pos (by omega)]) h95
              · refine c_end ?_
                refine n_then ?_
                refine c_false rfl ?_
                refine c_skipn ?_
                refine n_block ?_
                refine n_then ?_
                refine c_reg ?_
                refine s0 (x_move (v := .int _ _) rfl) ?_
                refine s0 (x_add rfl rfl (by omega)) ?_
                refine s0 (x_assign (v := .int _ _) rfl) ?_
                refine c_end ?_
                exact c_round (g' := k + 1) (by omega) ⟨_, upd_self5 rfl rfl rfl rfl (vint (by omega)), L, (by omega), o17, o19, o21, (by omega)⟩
          · refine c_end ?_
            refine n_then ?_
            refine c_false rfl ?_
            refine wp_exit (e_then (e_then (e_here ?_)))
            refine n_then ?_
            refine wp_seq ?_
            refine c_reg ?_
            refine s0 (x_move (v := .slice _ _ _) rfl) ?_
            refine sp (zcall cl25 rfl) (l_at _ _ _ _ _ (hp.ext L) hr (by omega) (by omega)) ?_
            rintro v97 w17 l18 ⟨x97, rfl, hx97⟩
            have z_l18 := l18.size
            have L := L.tr l18.up
            have o17 := o17.ext l18
            have o19 := o19.ext l18
            have o21 := o21.ext l18
            refine s0 (x_rem rfl rfl (by omega) (by omega)) ?_
            refine s0 (x_assign (v := .int _ _) rfl) ?_
            refine c_end ?_
            refine n_then ?_
            refine wp_seq ?_
            refine c_reg ?_
            refine s0 (x_move (v := .slice _ _ _) rfl) ?_
            refine s0 (x_move (v := .int _ _) rfl) ?_
            refine sp (zcall cl64 rfl) (i_symBits _ _ _ _ _ o17.sl (by omega)) ?_
            rintro v101 w19 l20 ⟨p101, c101, F101, rfl, o101, f101⟩
            have z_l20 := l20.size
            have L := L.tr l20.up
            have o17 := o17.ext l20
            have o19 := o19.ext l20
            have o21 := o21.ext l20
            have g101 := o101.lt
            refine s0 (x_assign (v := .slice _ _ _) rfl) ?_
            refine c_end ?_
            refine n_then ?_
            refine wp_seq ?_
            have hbl := symBits_le xs17 (x97 % 6)
            have hsz := stopped_size (symBits xs17 (x97 % 6))
            refine c_reg ?_
            refine s0 (x_move (v := .slice _ _ _) rfl) ?_
            refine sr (zcall cl53 rfl) (i_stopped _ _ _ _ o101.sl (by omega)) ?_
            intro w21 l22
            have z_l22 := l22.size
            have L := L.tr l22.up
            have o17 := o17.ext l22
            have o19 := o19.ext l22
            have o21 := o21.ext l22
            have o101 := o101.ext l22
            refine s0 (x_build (cs := [.string _, .int .i64 0]) bd54 (pts_cons (v := .string _) rfl pts_nil) rfl) ?_
            refine s0 (x_move (v := .slice _ _ _) rfl) ?_
            refine sr (zcall cl42 rfl) (i_readSym _ _ _ _ _ _ o17.sl (by omega) (by omega)) ?_
            intro w23 l24
            have z_l24 := l24.size
            have L := L.tr l24.up
            have o17 := o17.ext l24
            have o19 := o19.ext l24
            have o21 := o21.ext l24
            have o101 := o101.ext l24
            refine s0 (x_move (v := .tuple _) rfl) ?_
            refine s0 (x_extract rfl rfl) ?_
            refine s0 (x_extract rfl rfl) ?_
            refine s0 (x_extract rfl rfl) ?_
            refine s_alloc zr54 ?_
            intro b25 w26 lob25 hib25 l27 B25
            have z_l27 := l27.size
            have L := L.tr l27.up
            have o17 := o17.ext l27
            have o19 := o19.ext l27
            have o21 := o21.ext l27
            have o101 := o101.ext l27
            refine s_storeAg rfl sz54 rfl rfl B25 rfl rfl rfl ?_
            intro w28 l29 el29 B25
            have z_l29 := l29.size
            have L := L.fresh l29 (by omega)
            have o17 := o17.ne l29 (by first | assumption | exact nin_of f17 g17 (by omega))
            have o19 := o19.ne l29 (by first | assumption | exact nin_of f19 g19 (by omega))
            have o21 := o21.ne l29 (by first | assumption | exact nin_of f21 g21 (by omega))
            have o101 := o101.ne l29 (by first | assumption | exact nin_of f101 g101 (by omega))
            refine s0 (x_assign (v := .int _ _) rfl) ?_
            refine s0 (x_assign (v := .int _ _) rfl) ?_
            refine c_end ?_
            refine n_then ?_
            refine wp_seq ?_
            have hpos := symBits_pos xs17 (x97 % 6)
            refine c_plan (fun wq => Exm [] w28 wq) 37 (.cons (0, 2) (.cons (1, 0) (.cons (2, 2) (.cons (3, 2) (.cons (4, 2) (.cons (5, 2) (.cons (6, 2) (.cons (7, 2) (.cons (8, 2) (.cons (9, 1) (.cons (10, 2) (.cons (11, 2) (.cons (12, 2) (.cons (13, 2) (.cons (14, 2) (.cons (15, 2) (.cons (16, 2) (.cons (17, 2) (.cons (18, 2) (.cons (19, 2) (.cons (20, 2) (.cons (21, 2) (.cons (22, 2) (.cons (23, 2) (.cons (24, 2) (.cons (25, 2) (.cons (26, 2) (.cons (27, 1) (.cons (28, 2) (.cons (29, 2) (.cons (30, 2) (.cons (31, 1) (.cons (32, 2) (.cons (33, 2) (.cons (34, 2) (.cons (35, 2) (.cons (36, 2) .nil))))))))))))))))))))))))))))))))))))) (by kernel_rfl) (by kernel_rfl) (Exm.drew _) ?_
            obtain ⟨w30, hwd⟩ : ∃ x, x = w28.drew := ⟨_, rfl⟩
            have l31 : Ext w28 w30 := by rw [hwd]; exact Exm.drew _
            rw [← hwd]; clear hwd
            have Lq : Exm [] w28 w30 := l31.up
            have qB25 := B25
            have qo17 := o17
            have qo19 := o19
            have qo21 := o21
            have qo101 := o101
            have qL := L
            have z_l31 := l31.size
            have L := L.tr l31.up
            have B25 := B25.ext l31
            have o17 := o17.ext l31
            have o19 := o19.ext l31
            have o21 := o21.ext l31
            have o101 := o101.ext l31
            refine p0 rfl (x_move (v := .slice _ _ _) rfl) ?_
            refine pu rfl ?_ (by rintro ⟨_, _, h, _⟩; cases h)
            refine srb (zcall cl63 rfl) (i_codeOk _ _ _ _ o17.sl (by omega)) (fun h112 w32 l33 => ?_) (fun h112 w32 l33 => ?_)
            · have z_l33 := l33.size
              have L := L.tr l33.up
              have Lq := Lq.tr l33.up
              have B25 := B25.ext l33
              have o17 := o17.ext l33
              have o19 := o19.ext l33
              have o21 := o21.ext l33
              have o101 := o101.ext l33
              refine c_end ⟨rfl, fun h hS => Lq, ?_⟩
              refine p0 rfl (x_move (v := .bool _) rfl) ?_
              refine p0g rfl rfl rfl rfl rfl (x_move (v := .slice _ _ _) rfl) ?_
              refine p0g rfl rfl rfl rfl rfl (x_lensl un33 rfl) ?_
              refine p0g rfl rfl rfl rfl rfl (x_eql rfl rfl) ?_
              refine p0g rfl rfl rfl rfl rfl (x_move (v := .slice _ _ _) rfl) ?_
              refine p0g rfl rfl rfl rfl rfl (x_move (v := .int _ _) rfl) ?_
              refine p0g rfl rfl rfl rfl rfl (x_idx so33 rfl rfl o17.sl (by decide) (by omega) (by omega)) ?_
              refine psg rfl rfl rfl rfl rfl (fun wq hwq => x_ldi sc3 rfl (qo17.ext hwq).sl (by omega) (by omega)) ?_
              refine p0g rfl rfl rfl rfl rfl (x_eql rfl rfl) ?_
              refine pbg rfl rfl rfl rfl rfl (x_eqlb un4 rfl rfl) (fun h122 => ?_) (fun h122 => ?_)
              · refine p0 rfl (x_pickt (v := .bool _) rfl rfl) ?_
                refine p0 rfl (x_move (v := .bool _) rfl) ?_
                refine p0g rfl rfl rfl rfl rfl (x_move (v := .slice _ _ _) rfl) ?_
                refine p0g rfl rfl rfl rfl rfl (x_lensl un33 rfl) ?_
                refine pbg rfl rfl rfl rfl rfl (x_eql rfl rfl) (fun h127 => ?_) (fun h127 => ?_)
                · refine p0g rfl rfl rfl rfl rfl (x_move (v := .bool _) rfl) ?_
                  refine pf rfl rfl rfl rfl rfl ?_
                  refine pf rfl rfl rfl rfl rfl ?_
                  refine pf rfl rfl rfl rfl rfl ?_
                  refine pu2 rfl rfl rfl rfl ?_
                  refine pu2 rfl rfl rfl rfl ?_
                  refine pu2 rfl rfl rfl rfl ?_
                  refine pf rfl rfl rfl rfl rfl ?_
                  refine pf rfl rfl rfl rfl rfl ?_
                  refine pu2 rfl rfl rfl rfl ?_
                  refine pu1 rfl rfl rfl rfl ?_
                  refine pu2 rfl rfl rfl rfl ?_
                  refine pu2 rfl rfl rfl rfl ?_
                  refine pu2 rfl rfl rfl rfl ?_
                  refine pu1 rfl rfl rfl rfl ?_
                  refine pu2 rfl rfl rfl rfl ?_
                  refine pf rfl rfl rfl rfl rfl ?_
                  refine p0g rfl rfl rfl rfl rfl (x_pickt (v := .bool _) rfl rfl) ?_
                  refine p0 rfl (x_pickt (v := .bool _) rfl rfl) ?_
                  refine p0 rfl (x_assign (v := .bool _) rfl) ?_
                  refine p_nil (np_normal ?_)
                  refine n_then ?_
                  refine wp_ret ?_
                  refine f_ret rfl rfl ?_
                  exact ⟨rfl, L⟩
                · refine p0g rfl rfl rfl rfl rfl (x_move (v := .bool _) rfl) ?_
                  refine p0g rfl rfl rfl rfl rfl (x_move (v := .int _ _) rfl) ?_
                  refine pbg rfl rfl rfl rfl rfl (x_eql rfl rfl) (fun h130 => ?_) (fun h130 => ?_)
                  · refine p0g rfl rfl rfl rfl rfl (x_move (v := .bool _) rfl) ?_
                    refine p0g rfl rfl rfl rfl rfl (x_move (v := .int _ _) rfl) ?_
                    refine p0g rfl rfl rfl rfl rfl (x_move (v := .int _ _) rfl) ?_
                    refine pbg rfl rfl rfl rfl rfl (x_eql rfl rfl) (fun h134 => ?_) (fun h134 => ?_)
                    · refine p0g rfl rfl rfl rfl rfl (x_pickt (v := .bool _) rfl rfl) ?_
                      refine p0g rfl rfl rfl rfl rfl (x_move (v := .bool _) rfl) ?_
                      refine p0g rfl rfl rfl rfl rfl (x_fieldAddr fa54_1 rfl) ?_
                      refine psg rfl rfl rfl rfl rfl (fun wq hwq => x_loadB sc3 rfl (qB25.ext hwq) rfl) ?_
                      refine p0g rfl rfl rfl rfl rfl (x_move (v := .slice _ _ _) rfl) ?_
                      refine p0g rfl rfl rfl rfl rfl (x_move (v := .int _ _) rfl) ?_
                      refine p0g rfl rfl rfl rfl rfl (x_idx so33 rfl rfl o17.sl (by decide) (by omega) (by omega)) ?_
                      refine psg rfl rfl rfl rfl rfl (fun wq hwq => x_ldi sc3 rfl (qo17.ext hwq).sl (by omega) (by omega)) ?_
                      refine p0g rfl rfl rfl rfl rfl (x_eql rfl rfl) ?_
                      refine p0g rfl rfl rfl rfl rfl (x_pickt (v := .bool _) rfl rfl) ?_
                      refine p0g rfl rfl rfl rfl rfl (x_pickf (v := .bool _) rfl rfl) ?_
                      refine p0 rfl (x_pickt (v := .bool _) rfl rfl) ?_
                      refine p0 rfl (x_assign (v := .bool _) rfl) ?_
                      refine p_nil (np_normal ?_)
                      refine n_then ?_
                      refine wp_ret ?_
                      refine f_ret rfl rfl ?_
                      exact ⟨ret_bt (sym_stopped (hpos.1 (by omega))).2.2, L⟩
                    · exact absurd (sym_stopped (hpos.1 (by omega))).2.1 h134
                  · exact absurd (sym_stopped (hpos.1 (by omega))).1 h130
              · exact absurd (decide_eq_decide.2 ⟨fun h5 => Classical.byContradiction fun h6 => by have := hpos.2 ⟨h23, by omega, h6⟩; omega, fun h5 => Classical.byContradiction fun h6 => (hpos.1 (by omega)).2.2 h5⟩) h122
            · exact absurd h23 h112
    · have z_l10 := l10.size
      have L := L.tr l10.up
      have o17 := o17.ext l10
      have o19 := o19.ext l10
      have o21 := o21.ext l10
      refine s0 (x_not rfl) ?_
      refine c_end ?_
      refine n_then ?_
      refine c_true rfl ?_
      refine wp_seq ?_
      have hc0 : (codesOf xs17).length = 0 := by unfold codesOf; rw [if_neg h23]; rfl
      have ht0 : (symTab xs17).length = 0 := by rw [symTab_no h23]; rfl
      refine c_reg ?_
      refine s0 (x_move (v := .slice _ _ _) rfl) ?_
      refine s0 (x_lensl un33 rfl) ?_
      refine sb (x_eql rfl rfl) (fun h27 => ?_) (fun h27 => ?_)
      · refine s0 (x_move (v := .bool _) rfl) ?_
        refine gt rfl rfl rfl rfl ?_
        refine s0 (x_move (v := .slice _ _ _) rfl) ?_
        refine gt rfl rfl rfl rfl ?_
        refine s0 (x_lensl un22 rfl) ?_
        refine gt rfl rfl rfl rfl ?_
        refine sb (x_eql rfl rfl) (fun h31 => ?_) (fun h31 => ?_)
        · refine s0 (x_pickt (v := .bool _) rfl rfl) ?_
          refine s0 (x_move (v := .bool _) rfl) ?_
          refine gt rfl rfl rfl rfl ?_
          refine s0 (x_move (v := .slice _ _ _) rfl) ?_
          refine gt rfl rfl rfl rfl ?_
          refine sr (zcall cl63 rfl) (i_codeOk _ _ _ _ o17.sl (by omega)) ?_
          intro w34 l35
          have z_l35 := l35.size
          have L := L.tr l35.up
          have o17 := o17.ext l35
          have o19 := o19.ext l35
          have o21 := o21.ext l35
          refine gt rfl rfl rfl rfl ?_
          refine s0 (x_not rfl) ?_
          refine s0 (x_pickt (v := .bool _) rfl rfl) ?_
          refine s0 (x_assign (v := .bool _) rfl) ?_
          refine c_end ?_
          refine n_then ?_
          refine wp_ret (r_then ?_)
          refine f_ret rfl rfl ?_
          exact ⟨ret_val (show Value.bool (!decide (codeOk xs17)) = .bool true by rw [decide_eq_false h23]; rfl), L⟩
        · omega
      · omega

end Go.Proofs.Ytfmmkacopgecpaa
