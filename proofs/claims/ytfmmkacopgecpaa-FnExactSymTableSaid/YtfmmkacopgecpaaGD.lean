/- What each function of this part returns, for every argument that meets its premises. -/
import Derived.Test.YtfmmkacopgecpaaFD
namespace Go.Proofs.Ytfmmkacopgecpaa
open Go.Sx Go.Pl Go.RowKit
theorem cl18 : Callable Try.prog 18 := callable Try.func18 (by kernel_rfl) rfl
theorem cl19 : Callable Try.prog 19 := callable Try.func19 (by kernel_rfl) rfl
theorem cl20 : Callable Try.prog 20 := callable Try.func20 (by kernel_rfl) rfl
theorem cl57 : Callable Try.prog 57 := callable Try.func57 (by kernel_rfl) rfl
theorem cl58 : Callable Try.prog 58 := callable Try.func58 (by kernel_rfl) rfl
theorem cl59 : Callable Try.prog 59 := callable Try.func59 (by kernel_rfl) rfl
/-- laws.FnExactSymTable -/
theorem l_fnSymTable (p : Option Addr) (xs : List Int) (c : Nat) (w : World) (hp : Sl w p xs.length c 1 (ic xs)) (hl : xs.length ≤ 9223372036854775807) :
    Calls Try.prog 10 [.slice p xs.length c].toArray w (Ret w (.bool true)) := by
  have L : Exm [] w w := Exm.rfl'
  refine enter (n := 66) Try.func10 rfl rfl rfl ?_
  refine wp_seq ?_
  refine c_reg ?_
  refine s0 (x_assign (v := .bool _) rfl) ?_
  refine c_end ?_
  refine n_then ?_
  refine wp_seq ?_
  refine wp_seq ?_
  refine c_reg ?_
  refine s0 (x_move (v := .slice _ _ _) rfl) ?_
  refine s0 (x_lensl un33 rfl) ?_
  refine sb (x_gtr rfl rfl) (fun h12 => ?_) (fun h12 => ?_)
  · refine c_end ?_
    refine n_then ?_
    refine c_true rfl ?_
    refine wp_seq ?_
    refine c_reg ?_
    refine s0 (x_assign (v := .bool _) rfl) ?_
    refine c_end ?_
    refine n_then ?_
    refine wp_ret (r_then ?_)
    refine f_ret rfl rfl ?_
    exact ⟨rfl, L⟩
  · refine c_end ?_
    refine n_then ?_
    refine c_false rfl ?_
    refine c_skipn ?_
    refine n_then ?_
    refine wp_seq ?_
    have hsl := symTab_le xs
    refine c_reg ?_
    refine s0 (x_move (v := .slice _ _ _) rfl) ?_
    refine sp (zcall cl41 rfl) (l_toIntS _ _ _ _ (hp.ext L) (by omega)) ?_
    rintro v14 w1 l2 ⟨p14, c14, F14, rfl, o14, f14⟩
    have z_l2 := l2.size
    have L := L.tr l2.up
    have g14 := o14.lt
    refine sp (zcall cl57 rfl) (s_symTable _ _ _ _ o14.sl (by omega)) ?_
    rintro v15 w3 l4 ⟨p15, c15, F15, rfl, o15, f15⟩
    have z_l4 := l4.size
    have L := L.tr l4.up
    have o14 := o14.ext l4
    have g15 := o15.lt
    refine s0 (x_assign (v := .slice _ _ _) rfl) ?_
    refine c_end ?_
    refine n_then ?_
    refine wp_seq ?_
    refine c_reg ?_
    refine s0 (x_move (v := .slice _ _ _) rfl) ?_
    refine sp (zcall cl41 rfl) (l_toIntS _ _ _ _ (hp.ext L) (by omega)) ?_
    rintro v17 w5 l6 ⟨p17, c17, F17, rfl, o17, f17⟩
    have z_l6 := l6.size
    have L := L.tr l6.up
    have o14 := o14.ext l6
    have o15 := o15.ext l6
    have g17 := o17.lt
    refine s0 (x_assign (v := .slice _ _ _) rfl) ?_
    refine c_end ?_
    refine n_then ?_
    refine wp_seq ?_
    refine c_reg ?_
    refine s0 (x_move (v := .slice _ _ _) rfl) ?_
    refine sp (zcall cl58 rfl) (i_symTable _ _ _ _ o17.sl (by omega)) ?_
    rintro v19 w7 l8 ⟨p19, c19, F19, rfl, o19, f19⟩
    have z_l8 := l8.size
    have L := L.tr l8.up
    have o14 := o14.ext l8
    have o15 := o15.ext l8
    have o17 := o17.ext l8
    have g19 := o19.lt
    refine s0 (x_assign (v := .slice _ _ _) rfl) ?_
    refine c_end ?_
    refine n_then ?_
    refine wp_seq ?_
    refine wp_seq ?_
    refine c_reg ?_
    refine s0 (x_move (v := .slice _ _ _) rfl) ?_
    refine s0 (x_move (v := .slice _ _ _) rfl) ?_
    refine srb (zcall cl18 rfl) (l_eqEntryS _ _ _ _ _ _ _ o19.sl o15.sl (by omega)) (fun h22 w9 l10 => ?_) (fun h22 w9 l10 => ?_)
    · have z_l10 := l10.size
      have L := L.tr l10.up
      have o14 := o14.ext l10
      have o15 := o15.ext l10
      have o17 := o17.ext l10
      have o19 := o19.ext l10
      refine s0 (x_not rfl) ?_
      refine c_end ?_
      refine n_then ?_
      refine c_false rfl ?_
      refine c_skipn ?_
      refine n_then ?_
      refine wp_seq ?_
      refine wp_seq ?_
      refine c_reg ?_
      refine s0 (x_move (v := .slice _ _ _) rfl) ?_
      refine s0 (x_move (v := .slice _ _ _) rfl) ?_
      refine sp (zcall cl41 rfl) (l_toIntS _ _ _ _ (hp.ext L) (by omega)) ?_
      rintro v26 w11 l12 ⟨p26, c26, F26, rfl, o26, f26⟩
      have z_l12 := l12.size
      have L := L.tr l12.up
      have o14 := o14.ext l12
      have o15 := o15.ext l12
      have o17 := o17.ext l12
      have o19 := o19.ext l12
      have g26 := o26.lt
      refine srb (zcall cl44 rfl) (l_eqIntS _ _ _ _ _ _ _ o17.sl o26.sl (by omega)) (fun h27 w13 l14 => ?_) (fun h27 w13 l14 => ?_)
      · have z_l14 := l14.size
        have L := L.tr l14.up
        have o14 := o14.ext l14
        have o15 := o15.ext l14
        have o17 := o17.ext l14
        have o19 := o19.ext l14
        have o26 := o26.ext l14
        refine s0 (x_not rfl) ?_
        refine c_end ?_
        refine n_then ?_
        refine c_false rfl ?_
        refine c_skipn ?_
        refine n_then ?_
        refine wp_seq ?_
        refine c_reg ?_
        refine s0 (x_assign (v := .int _ _) rfl) ?_
        refine c_end ?_
        refine n_then ?_
        refine wp_seq ?_
        refine c_reg ?_
        refine s0 (x_move (v := .slice _ _ _) rfl) ?_
        refine s0 (x_move (v := .int _ _) rfl) ?_
        refine spm (zcall cl59 rfl) (l_markIntS _ _ _ _ _ _ o17 (by omega) (by omega)) ?_
        rintro v31 w15 l16 ⟨rfl, o17⟩
        have z_l16 := l16.size
        have L := L.freshL l16 f17 (by omega)
        have o14 := o14.exm l16 (by first | assumption | exact Dj.symm (by assumption) | exact dj_of f17 g17 f14 g14 (by omega))
        have o15 := o15.exm l16 (by first | assumption | exact Dj.symm (by assumption) | exact dj_of f17 g17 f15 g15 (by omega))
        have o19 := o19.exm l16 (by first | assumption | exact Dj.symm (by assumption) | exact dj_of f17 g17 f19 g19 (by omega))
        have o26 := o26.exm l16 (by first | assumption | exact Dj.symm (by assumption) | exact dj_of f17 g17 f26 g26 (by omega))
        refine s0 (x_assign (v := .int _ _) rfl) ?_
        refine c_end ?_
        refine n_then ?_
        refine wp_seq ?_
        refine wp_seq ?_
        refine c_reg ?_
        refine s0 (x_move (v := .int _ _) rfl) ?_
        refine sb (x_lss rfl rfl) (fun h33 => ?_) (fun h33 => ?_)
        · omega
        · refine s0 (x_move (v := .bool _) rfl) ?_
          refine gt rfl rfl rfl rfl ?_
          refine s0 (x_move (v := .slice _ _ _) rfl) ?_
          refine gt rfl rfl rfl rfl ?_
          refine s0 (x_move (v := .slice _ _ _) rfl) ?_
          refine gt rfl rfl rfl rfl ?_
          refine srb (zcall cl18 rfl) (l_eqEntryS _ _ _ _ _ _ _ o19.sl o15.sl (by omega)) (fun h37 w17 l18 => ?_) (fun h37 w17 l18 => ?_)
          · have z_l18 := l18.size
            have L := L.tr l18.up
            have o14 := o14.ext l18
            have o15 := o15.ext l18
            have o17 := o17.ext l18
            have o19 := o19.ext l18
            have o26 := o26.ext l18
            refine gt rfl rfl rfl rfl ?_
            refine s0 (x_not rfl) ?_
            refine s0 (x_pickf (v := .bool _) rfl rfl) ?_
            refine c_end ?_
            refine n_then ?_
            refine c_false rfl ?_
            refine c_skipn ?_
            refine n_then ?_
            refine wp_seq ?_
            refine c_reg ?_
            refine s0 (x_assign (v := .int _ _) rfl) ?_
            refine c_end ?_
            refine n_then ?_
            refine wp_seq ?_
            refine c_reg ?_
            refine s0 (x_move (v := .slice _ _ _) rfl) ?_
            refine s0 (x_move (v := .int _ _) rfl) ?_
            refine spm (zcall cl19 rfl) (l_markEntryS _ _ _ _ _ _ o19 (by omega) (by omega)) ?_
            rintro v42 w19 l20 ⟨rfl, o19⟩
            have z_l20 := l20.size
            have L := L.freshL l20 f19 (by omega)
            have o14 := o14.exm l20 (by first | assumption | exact Dj.symm (by assumption) | exact dj_of f19 g19 f14 g14 (by omega))
            have o15 := o15.exm l20 (by first | assumption | exact Dj.symm (by assumption) | exact dj_of f19 g19 f15 g15 (by omega))
            have o17 := o17.exm l20 (by first | assumption | exact Dj.symm (by assumption) | exact dj_of f19 g19 f17 g17 (by omega))
            have o26 := o26.exm l20 (by first | assumption | exact Dj.symm (by assumption) | exact dj_of f19 g19 f26 g26 (by omega))
            refine s0 (x_assign (v := .int _ _) rfl) ?_
            refine c_end ?_
            refine n_then ?_
            refine wp_seq ?_
            refine c_reg ?_
            refine s0 (x_assign (v := .int _ _) rfl) ?_
            refine c_end ?_
            refine n_then ?_
            refine wp_seq ?_
            refine c_reg ?_
            refine s0 (x_move (v := .slice _ _ _) rfl) ?_
            refine s0 (x_move (v := .int _ _) rfl) ?_
            refine sr (zcall cl20 rfl) (l_heldEntryS _ _ _ _ _ o19.sl (by omega) (by omega)) ?_
            intro w21 l22
            have z_l22 := l22.size
            have L := L.tr l22.up
            have o14 := o14.ext l22
            have o15 := o15.ext l22
            have o17 := o17.ext l22
            have o19 := o19.ext l22
            have o26 := o26.ext l22
            refine s0 (x_assign (v := .int _ _) rfl) ?_
            refine c_end ?_
            refine n_then ?_
            refine wp_seq ?_
            refine wp_seq ?_
            refine c_reg ?_
            refine s0 (x_move (v := .int _ _) rfl) ?_
            refine sb (x_lss rfl rfl) (fun h47 => ?_) (fun h47 => ?_)
            · omega
            · refine c_end ?_
              refine n_then ?_
              refine c_false rfl ?_
              refine c_skipn ?_
              refine n_then ?_
              refine wp_seq ?_
              refine wp_seq ?_
              refine c_reg ?_
              refine s0 (x_move (v := .int _ _) rfl) ?_
              refine s0 (x_move (v := .int _ _) rfl) ?_
              refine sb (x_neq rfl rfl) (fun h50 => ?_) (fun h50 => ?_)
              · exact absurd rfl h50
              · refine c_end ?_
                refine n_then ?_
                refine c_false rfl ?_
                refine c_skipn ?_
                refine n_then ?_
                refine wp_seq ?_
                refine c_reg ?_
                refine s0 (x_move (v := .slice _ _ _) rfl) ?_
                refine sp (zcall cl41 rfl) (l_toIntS _ _ _ _ (hp.ext L) (by omega)) ?_
                rintro v52 w23 l24 ⟨p52, c52, F52, rfl, o52, f52⟩
                have z_l24 := l24.size
                have L := L.tr l24.up
                have o14 := o14.ext l24
                have o15 := o15.ext l24
                have o17 := o17.ext l24
                have o19 := o19.ext l24
                have o26 := o26.ext l24
                have g52 := o52.lt
                refine sp (zcall cl58 rfl) (i_symTable _ _ _ _ o52.sl (by omega)) ?_
                rintro v53 w25 l26 ⟨p53, c53, F53, rfl, o53, f53⟩
                have z_l26 := l26.size
                have L := L.tr l26.up
                have o14 := o14.ext l26
                have o15 := o15.ext l26
                have o17 := o17.ext l26
                have o19 := o19.ext l26
                have o26 := o26.ext l26
                have o52 := o52.ext l26
                have g53 := o53.lt
                refine s0 (x_assign (v := .slice _ _ _) rfl) ?_
                refine c_end ?_
                refine n_then ?_
                refine wp_seq ?_
                refine wp_seq ?_
                refine c_reg ?_
                refine s0 (x_move (v := .slice _ _ _) rfl) ?_
                refine s0 (x_move (v := .slice _ _ _) rfl) ?_
                refine srb (zcall cl18 rfl) (l_eqEntryS _ _ _ _ _ _ _ o53.sl o15.sl (by omega)) (fun h56 w27 l28 => ?_) (fun h56 w27 l28 => ?_)
                · have z_l28 := l28.size
                  have L := L.tr l28.up
                  have o14 := o14.ext l28
                  have o15 := o15.ext l28
                  have o17 := o17.ext l28
                  have o19 := o19.ext l28
                  have o26 := o26.ext l28
                  have o52 := o52.ext l28
                  have o53 := o53.ext l28
                  refine s0 (x_not rfl) ?_
                  refine c_end ?_
                  refine n_then ?_
                  refine c_false rfl ?_
                  refine c_skipn ?_
                  refine n_then ?_
                  refine wp_seq ?_
                  refine c_reg ?_
                  refine s0 (x_assign (v := .int _ _) rfl) ?_
                  refine c_end ?_
                  refine n_then ?_
                  refine wp_seq ?_
                  refine c_reg ?_
                  refine s0 (x_move (v := .slice _ _ _) rfl) ?_
                  refine s0 (x_move (v := .int _ _) rfl) ?_
                  refine sr (zcall cl20 rfl) (l_heldEntryS _ _ _ _ _ o19.sl (by omega) (by omega)) ?_
                  intro w29 l30
                  have z_l30 := l30.size
                  have L := L.tr l30.up
                  have o14 := o14.ext l30
                  have o15 := o15.ext l30
                  have o17 := o17.ext l30
                  have o19 := o19.ext l30
                  have o26 := o26.ext l30
                  have o52 := o52.ext l30
                  have o53 := o53.ext l30
                  refine s0 (x_assign (v := .int _ _) rfl) ?_
                  refine c_end ?_
                  refine n_then ?_
                  refine wp_seq ?_
                  refine wp_seq ?_
                  refine c_reg ?_
                  refine s0 (x_move (v := .int _ _) rfl) ?_
                  refine sb (x_lss rfl rfl) (fun h62 => ?_) (fun h62 => ?_)
                  · omega
                  · refine c_end ?_
                    refine n_then ?_
                    refine c_false rfl ?_
                    refine c_skipn ?_
                    refine n_then ?_
                    refine wp_seq ?_
                    refine wp_seq ?_
                    refine c_reg ?_
                    refine s0 (x_move (v := .int _ _) rfl) ?_
                    refine s0 (x_move (v := .int _ _) rfl) ?_
                    refine sb (x_neq rfl rfl) (fun h65 => ?_) (fun h65 => ?_)
                    · exact absurd rfl h65
                    · refine c_end ?_
                      refine n_then ?_
                      refine c_false rfl ?_
                      refine c_skipn ?_
                      refine n_then ?_
                      refine wp_seq ?_
                      refine c_reg ?_
                      refine s0 (x_assign (v := .bool _) rfl) ?_
                      refine c_end ?_
                      refine n_then ?_
                      refine wp_ret ?_
                      refine f_ret rfl rfl ?_
                      exact ⟨rfl, L⟩
                · exact absurd rfl h56
          · exact absurd rfl h37
      · exact absurd rfl h27
    · exact absurd rfl h22

end Go.Proofs.Ytfmmkacopgecpaa
