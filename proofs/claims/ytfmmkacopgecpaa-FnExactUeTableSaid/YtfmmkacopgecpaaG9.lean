/- What each function of this part returns, for every argument that meets its premises. -/
import Derived.Test.YtfmmkacopgecpaaFA
namespace Go.Proofs.Ytfmmkacopgecpaa
open Go.Sx Go.Pl Go.RowKit
theorem cl18 : Callable Try.prog 18 := callable Try.func18 (by kernel_rfl) rfl
theorem cl19 : Callable Try.prog 19 := callable Try.func19 (by kernel_rfl) rfl
theorem cl20 : Callable Try.prog 20 := callable Try.func20 (by kernel_rfl) rfl
theorem ueTab_length : ueTab.length = 512 := by unfold ueTab; rw [List.length_map, List.length_range]

/-- laws.FnExactUeTable -/
theorem l_fnUeTable (w : World) :
    Calls Try.prog 3 [].toArray w (Ret w (.bool true)) := by
  have L : Exm [] w w := Exm.rfl'
  refine enter (n := 36) Try.func3 rfl rfl rfl ?_
  refine wp_seq ?_
  refine c_reg ?_
  refine s0 (x_assign (v := .bool _) rfl) ?_
  refine c_end ?_
  refine n_then ?_
  refine wp_seq ?_
  refine c_reg ?_
  refine sp (zcall cl16 rfl) (s_ueTable _) ?_
  rintro v6 w1 l2 ⟨xs6, hx6, p6, c6, F6, rfl, o6, f6⟩
  have z_l2 := l2.size
  have L := L.tr l2.up
  have hl6 := ueTab_len hx6
  have g6 := o6.lt
  refine s0 (x_assign (v := .slice _ _ _) rfl) ?_
  refine c_end ?_
  refine n_then ?_
  refine wp_seq ?_
  refine c_reg ?_
  refine sp (zcall cl17 rfl) (i_ueTable _) ?_
  rintro v7 w3 l4 ⟨xs7, hx7, p7, c7, F7, rfl, o7, f7⟩
  have z_l4 := l4.size
  have L := L.tr l4.up
  have o6 := o6.ext l4
  have hl7 := ueTab_len hx7
  have g7 := o7.lt
  refine s0 (x_assign (v := .slice _ _ _) rfl) ?_
  refine c_end ?_
  refine n_then ?_
  refine wp_seq ?_
  refine wp_seq ?_
  have hl7 : xs7.length = 512 := by rw [hx7]; exact ueTab_length
  refine c_reg ?_
  refine s0 (x_move (v := .slice _ _ _) rfl) ?_
  refine s0 (x_move (v := .slice _ _ _) rfl) ?_
  refine srb (zcall cl18 rfl) (l_eqEntryS _ _ _ _ _ _ _ o7.sl o6.sl (by omega)) (fun h10 w5 l6 => ?_) (fun h10 w5 l6 => ?_)
  · have z_l6 := l6.size
    have L := L.tr l6.up
    have o6 := o6.ext l6
    have o7 := o7.ext l6
    refine s0 (x_not rfl) ?_
    refine c_end ?_
    refine n_then ?_
    refine c_false rfl ?_
    refine c_skipn ?_
    refine n_then ?_
    refine wp_seq ?_
    refine c_reg ?_
    refine s0 (x_assign (v := .int _ _) rfl) ?_
    refine c_end ?_
    refine n_then ?_
    refine wp_seq ?_
    refine c_reg ?_
    refine s0 (x_move (v := .slice _ _ _) rfl) ?_
    refine s0 (x_move (v := .int _ _) rfl) ?_
    refine spm (zcall cl19 rfl) (l_markEntryS _ _ _ _ _ _ o7 (by omega) (by omega)) ?_
    rintro v14 w7 l8 ⟨rfl, o7⟩
    have z_l8 := l8.size
    have L := L.freshL l8 f7 (by omega)
    have o6 := o6.exm l8 (by first | assumption | exact Dj.symm (by assumption) | exact dj_of f7 g7 f6 g6 (by omega))
    refine s0 (x_assign (v := .int _ _) rfl) ?_
    refine c_end ?_
    refine n_then ?_
    refine wp_seq ?_
    refine c_reg ?_
    refine s0 (x_assign (v := .int _ _) rfl) ?_
    refine c_end ?_
    refine n_then ?_
    refine wp_seq ?_
    refine c_reg ?_
    refine s0 (x_move (v := .slice _ _ _) rfl) ?_
    refine s0 (x_move (v := .int _ _) rfl) ?_
    refine sr (zcall cl20 rfl) (l_heldEntryS _ _ _ _ _ o7.sl (by omega) (by omega)) ?_
    intro w9 l10
    have z_l10 := l10.size
    have L := L.tr l10.up
    have o6 := o6.ext l10
    have o7 := o7.ext l10
    refine s0 (x_assign (v := .int _ _) rfl) ?_
    refine c_end ?_
    refine n_then ?_
    refine wp_seq ?_
    refine wp_seq ?_
    refine c_reg ?_
    refine s0 (x_move (v := .int _ _) rfl) ?_
    refine sb (x_lss rfl rfl) (fun h19 => ?_) (fun h19 => ?_)
    · omega
    · refine c_end ?_
      refine n_then ?_
      refine c_false rfl ?_
      refine c_skipn ?_
      refine n_then ?_
      refine wp_seq ?_
      refine wp_seq ?_
      refine c_reg ?_
      refine s0 (x_move (v := .int _ _) rfl) ?_
      refine s0 (x_move (v := .int _ _) rfl) ?_
      refine sb (x_neq rfl rfl) (fun h22 => ?_) (fun h22 => ?_)
      · exact absurd rfl h22
      · refine c_end ?_
        refine n_then ?_
        refine c_false rfl ?_
        refine c_skipn ?_
        refine n_then ?_
        refine wp_seq ?_
        refine c_reg ?_
        refine sp (zcall cl17 rfl) (i_ueTable _) ?_
        rintro v23 w11 l12 ⟨xs23, hx23, p23, c23, F23, rfl, o23, f23⟩
        have z_l12 := l12.size
        have L := L.tr l12.up
        have o6 := o6.ext l12
        have o7 := o7.ext l12
        have hl23 := ueTab_len hx23
        have g23 := o23.lt
        refine s0 (x_assign (v := .slice _ _ _) rfl) ?_
        refine c_end ?_
        refine n_then ?_
        refine wp_seq ?_
        refine wp_seq ?_
        have hl23 : xs23.length = 512 := by rw [hx23]; exact ueTab_length
        refine c_reg ?_
        refine s0 (x_move (v := .slice _ _ _) rfl) ?_
        refine s0 (x_move (v := .slice _ _ _) rfl) ?_
        refine srb (zcall cl18 rfl) (l_eqEntryS _ _ _ _ _ _ _ o23.sl o6.sl (by omega)) (fun h26 w13 l14 => ?_) (fun h26 w13 l14 => ?_)
        · have z_l14 := l14.size
          have L := L.tr l14.up
          have o6 := o6.ext l14
          have o7 := o7.ext l14
          have o23 := o23.ext l14
          refine s0 (x_not rfl) ?_
          refine c_end ?_
          refine n_then ?_
          refine c_false rfl ?_
          refine c_skipn ?_
          refine n_then ?_
          refine wp_seq ?_
          refine c_reg ?_
          refine s0 (x_assign (v := .int _ _) rfl) ?_
          refine c_end ?_
          refine n_then ?_
          refine wp_seq ?_
          refine c_reg ?_
          refine s0 (x_move (v := .slice _ _ _) rfl) ?_
          refine s0 (x_move (v := .int _ _) rfl) ?_
          refine sr (zcall cl20 rfl) (l_heldEntryS _ _ _ _ _ o7.sl (by omega) (by omega)) ?_
          intro w15 l16
          have z_l16 := l16.size
          have L := L.tr l16.up
          have o6 := o6.ext l16
          have o7 := o7.ext l16
          have o23 := o23.ext l16
          refine s0 (x_assign (v := .int _ _) rfl) ?_
          refine c_end ?_
          refine n_then ?_
          refine wp_seq ?_
          refine wp_seq ?_
          refine c_reg ?_
          refine s0 (x_move (v := .int _ _) rfl) ?_
          refine sb (x_lss rfl rfl) (fun h32 => ?_) (fun h32 => ?_)
          · omega
          · refine c_end ?_
            refine n_then ?_
            refine c_false rfl ?_
            refine c_skipn ?_
            refine n_then ?_
            refine wp_seq ?_
            refine wp_seq ?_
            refine c_reg ?_
            refine s0 (x_move (v := .int _ _) rfl) ?_
            refine s0 (x_move (v := .int _ _) rfl) ?_
            refine sb (x_neq rfl rfl) (fun h35 => ?_) (fun h35 => ?_)
            · exact absurd rfl h35
            · refine c_end ?_
              refine n_then ?_
              refine c_false rfl ?_
              refine c_skipn ?_
              refine n_then ?_
              refine wp_seq ?_
              refine c_reg ?_
              refine s0 (x_assign (v := .bool _) rfl) ?_
              refine c_end ?_
              refine n_then ?_
              refine wp_ret ?_
              refine f_ret rfl rfl ?_
              exact ⟨rfl, L⟩
        · exact absurd (hx23.trans hx6.symm) h26
  · exact absurd (hx7.trans hx6.symm) h10

end Go.Proofs.Ytfmmkacopgecpaa
