/- What each function of this part returns, for every argument that meets its premises. -/
import Derived.Test.YtdnckakaoageoaaFL
namespace Go.Proofs.Ytdnckakaoageoaa
open Go.Sx Go.Pl Go.RowKit
theorem ag73 : Ag Try.prog 73 2 := ⟨⟨_, Try.underlying73⟩, by kernel_rfl⟩
theorem cl21 : Callable Try.prog 21 := callable Try.func21 (by kernel_rfl) rfl
theorem cl49 : Callable Try.prog 49 := callable Try.func49 (by kernel_rfl) rfl
theorem cl50 : Callable Try.prog 50 := callable Try.func50 (by kernel_rfl) rfl
theorem cl51 : Callable Try.prog 51 := callable Try.func51 (by kernel_rfl) rfl
theorem cl52 : Callable Try.prog 52 := callable Try.func52 (by kernel_rfl) rfl
theorem cl53 : Callable Try.prog 53 := callable Try.func53 (by kernel_rfl) rfl
theorem cl54 : Callable Try.prog 54 := callable Try.func54 (by kernel_rfl) rfl
/-- laws.FnExactReadHeader -/
theorem l_fnReadHeader (s : ByteArray) (a : Int) (w : World) (hs : s.size ≤ 9223372036854775807) :
    Calls Try.prog 7 [.agg [.string s, .int .i64 a].toArray].toArray w (Ret w (.bool true)) := by
  have L : Exm [] w w := Exm.rfl'
  refine enter (n := 90) Try.func7 rfl rfl rfl ?_
  refine wp_seq ?_
  refine c_reg ?_
  refine s_box rfl rfl ?_
  intro b1 w2 lob1 hib1 l3 B1
  have z_l3 := l3.size
  have L := L.tr l3.up
  refine s0 (x_assign (v := .bool _) rfl) ?_
  refine c_end ?_
  refine n_then ?_
  refine wp_seq ?_
  refine c_reg ?_
  refine s0 (x_assign (v := .int _ _) rfl) ?_
  refine c_end ?_
  refine n_then ?_
  refine wp_seq ?_
  refine c_reg ?_
  refine st (x_loadAgB ag73 rfl B1 rfl) ?_
  refine s0 (x_move (v := .int _ _) rfl) ?_
  refine sr (zcall cl49 rfl) (l_szReader _ _ _ _ (by omega) (by omega)) ?_
  intro w4 l5
  have z_l5 := l5.size
  have L := L.tr l5.up
  have B1 := B1.ext l5
  refine s0 (x_assign (v := .int _ _) rfl) ?_
  refine c_end ?_
  refine n_then ?_
  refine wp_seq ?_
  refine wp_seq ?_
  refine c_reg ?_
  refine s0 (x_move (v := .int _ _) rfl) ?_
  refine sb (x_lss rfl rfl) (fun h19 => ?_) (fun h19 => ?_)
  · refine c_end ?_
    refine n_then ?_
    refine c_true rfl ?_
    refine wp_seq ?_
    refine c_reg ?_
    refine s0 (x_assign (v := .bool _) rfl) ?_
    refine c_end ?_
    refine n_then ?_
    refine wp_ret (r_then ?_)
    refine f_ret rfl rfl ?_
    exact ⟨rfl, L⟩
  · refine c_end ?_
    refine n_then ?_
    refine c_false rfl ?_
    refine c_skipn ?_
    refine n_then ?_
    refine wp_seq ?_
    have hs1 := sz_in h19
    have hll : (hdL s a).length ≤ 6 := by unfold hdL; split <;> simp [lens6_length]
    refine c_reg ?_
    refine st (x_loadAgB ag73 rfl B1 rfl) ?_
    refine sr (zcall cl51 rfl) (l_toReader _ _ _) ?_
    intro w6 l7
    have z_l7 := l7.size
    have L := L.tr l7.up
    have B1 := B1.ext l7
    refine sp (zcall cl50 rfl) (s_readHeader _ _ _ (by omega)) ?_
    rintro v23 w8 l9 ⟨p23, c23, F23, rfl, o23, f23⟩
    have z_l9 := l9.size
    have L := L.tr l9.up
    have B1 := B1.ext l9
    have g23 := o23.lt
    refine s0 (x_move (v := .tuple _) rfl) ?_
    refine s0 (x_extract rfl rfl) ?_
    refine s0 (x_extract rfl rfl) ?_
    refine s0 (x_extract rfl rfl) ?_
    refine s_alloc zr42 ?_
    intro b10 w11 lob10 hib10 l12 B10
    have z_l12 := l12.size
    have L := L.tr l12.up
    have B1 := B1.ext l12
    have o23 := o23.ext l12
    refine s_alloc zr27 ?_
    intro b13 w14 lob13 hib13 l15 B13
    have z_l15 := l15.size
    have L := L.tr l15.up
    have B1 := B1.ext l15
    have B10 := B10.ext l15
    have o23 := o23.ext l15
    refine s_storeAg rfl sz42 rfl rfl B10 rfl rfl rfl ?_
    intro w16 l17 el17 B10
    have z_l17 := l17.size
    have L := L.fresh l17 (by omega)
    have B1 := B1.ne l17 (by omega)
    have B13 := B13.ne l17 (by omega)
    have o23 := o23.ne l17 (by first | assumption | exact nin_of f23 g23 (by omega))
    refine s_storeAg rfl sz27 rfl rfl B13 rfl rfl rfl ?_
    intro w18 l19 el19 B13
    have z_l19 := l19.size
    have L := L.fresh l19 (by omega)
    have B1 := B1.ne l19 (by omega)
    have B10 := B10.ne l19 (by omega)
    have o23 := o23.ne l19 (by first | assumption | exact nin_of f23 g23 (by omega))
    refine s0 (x_assign (v := .int _ _) rfl) ?_
    refine c_end ?_
    refine n_then ?_
    refine wp_seq ?_
    refine c_reg ?_
    refine st (x_loadAgB ag73 rfl B1 rfl) ?_
    refine sr (zcall cl51 rfl) (l_toReader _ _ _) ?_
    intro w20 l21
    have z_l21 := l21.size
    have L := L.tr l21.up
    have B1 := B1.ext l21
    have B10 := B10.ext l21
    have B13 := B13.ext l21
    have o23 := o23.ext l21
    refine sp (zcall cl52 rfl) (i_readHeader _ _ _ (by omega)) ?_
    rintro v30 w22 l23 ⟨p30, c30, F30, rfl, o30, f30⟩
    have z_l23 := l23.size
    have L := L.tr l23.up
    have B1 := B1.ext l23
    have B10 := B10.ext l23
    have B13 := B13.ext l23
    have o23 := o23.ext l23
    have g30 := o30.lt
    refine s0 (x_move (v := .tuple _) rfl) ?_
    refine s0 (x_extract rfl rfl) ?_
    refine s0 (x_extract rfl rfl) ?_
    refine s0 (x_extract rfl rfl) ?_
    refine s_alloc zr42 ?_
    intro b24 w25 lob24 hib24 l26 B24
    have z_l26 := l26.size
    have L := L.tr l26.up
    have B1 := B1.ext l26
    have B10 := B10.ext l26
    have B13 := B13.ext l26
    have o23 := o23.ext l26
    have o30 := o30.ext l26
    refine s_alloc zr27 ?_
    intro b27 w28 lob27 hib27 l29 B27
    have z_l29 := l29.size
    have L := L.tr l29.up
    have B1 := B1.ext l29
    have B10 := B10.ext l29
    have B13 := B13.ext l29
    have B24 := B24.ext l29
    have o23 := o23.ext l29
    have o30 := o30.ext l29
    refine s_storeAg rfl sz42 rfl rfl B24 rfl rfl rfl ?_
    intro w30 l31 el31 B24
    have z_l31 := l31.size
    have L := L.fresh l31 (by omega)
    have B1 := B1.ne l31 (by omega)
    have B10 := B10.ne l31 (by omega)
    have B13 := B13.ne l31 (by omega)
    have B27 := B27.ne l31 (by omega)
    have o23 := o23.ne l31 (by first | assumption | exact nin_of f23 g23 (by omega))
    have o30 := o30.ne l31 (by first | assumption | exact nin_of f30 g30 (by omega))
    refine s_storeAg rfl sz27 rfl rfl B27 rfl rfl rfl ?_
    intro w32 l33 el33 B27
    have z_l33 := l33.size
    have L := L.fresh l33 (by omega)
    have B1 := B1.ne l33 (by omega)
    have B10 := B10.ne l33 (by omega)
    have B13 := B13.ne l33 (by omega)
    have B24 := B24.ne l33 (by omega)
    have o23 := o23.ne l33 (by first | assumption | exact nin_of f23 g23 (by omega))
    have o30 := o30.ne l33 (by first | assumption | exact nin_of f30 g30 (by omega))
    refine s0 (x_assign (v := .int _ _) rfl) ?_
    refine c_end ?_
    refine n_then ?_
    refine wp_seq ?_
    refine wp_seq ?_
    refine c_reg ?_
    refine st (x_loadAgB ag42 rfl B24 rfl) ?_
    refine st (x_loadAgB ag42 rfl B10 rfl) ?_
    refine srb (zcall cl53 rfl) (l_eqReader _ _ _ _ _) (fun h36 w34 l35 => ?_) (fun h36 w34 l35 => ?_)
    · have z_l35 := l35.size
      have L := L.tr l35.up
      have B1 := B1.ext l35
      have B10 := B10.ext l35
      have B13 := B13.ext l35
      have B24 := B24.ext l35
      have B27 := B27.ext l35
      have o23 := o23.ext l35
      have o30 := o30.ext l35
      refine s0 (x_not rfl) ?_
      refine s0 (x_move (v := .bool _) rfl) ?_
      refine gt rfl rfl rfl rfl ?_
      refine st (x_loadAgB ag27 rfl B27 rfl) ?_
      refine gt rfl rfl rfl rfl ?_
      refine st (x_loadAgB ag27 rfl B13 rfl) ?_
      refine gt rfl rfl rfl rfl ?_
      refine srb (zcall cl20 rfl) (l_eqHeader _ _ _ _ _ _ _ _ _ _ _ _ _ _ _ _ _ o30.sl o23.sl (by omega)) (fun h41 w36 l37 => ?_) (fun h41 w36 l37 => ?_)
      · have z_l37 := l37.size
        have L := L.tr l37.up
        have B1 := B1.ext l37
        have B10 := B10.ext l37
        have B13 := B13.ext l37
        have B24 := B24.ext l37
        have B27 := B27.ext l37
        have o23 := o23.ext l37
        have o30 := o30.ext l37
        refine gt rfl rfl rfl rfl ?_
        refine s0 (x_not rfl) ?_
        refine s0 (x_pickf (v := .bool _) rfl rfl) ?_
        refine s0 (x_move (v := .bool _) rfl) ?_
        refine gt rfl rfl rfl rfl ?_
        refine s0 (x_move (v := .int _ _) rfl) ?_
        refine gt rfl rfl rfl rfl ?_
        refine s0 (x_move (v := .int _ _) rfl) ?_
        refine gt rfl rfl rfl rfl ?_
        refine sb (x_neq rfl rfl) (fun h47 => ?_) (fun h47 => ?_)
        · exact absurd rfl h47
        · refine s0 (x_pickf (v := .bool _) rfl rfl) ?_
          refine c_end ?_
          refine n_then ?_
          refine c_false rfl ?_
          refine c_skipn ?_
          refine n_then ?_
          refine wp_seq ?_
          refine c_reg ?_
          refine s0 (x_assign (v := .int _ _) rfl) ?_
          refine c_end ?_
          refine n_then ?_
          refine wp_seq ?_
          refine c_reg ?_
          refine st (x_loadAgB ag27 rfl B27 rfl) ?_
          refine s0 (x_move (v := .int _ _) rfl) ?_
          refine spm (zcall cl21 rfl) (l_markHeader _ _ _ _ _ _ _ _ _ _ _ _ o30 (by omega) (by omega)) ?_
          rintro v51 w38 l39 ⟨rfl, o30⟩
          have z_l39 := l39.size
          have L := L.freshL l39 f30 (by omega)
          have B1 := B1.exm l39 (by first | assumption | exact nin_of f30 g30 (by omega))
          have B10 := B10.exm l39 (by first | assumption | exact nin_of f30 g30 (by omega))
          have B13 := B13.exm l39 (by first | assumption | exact nin_of f30 g30 (by omega))
          have B24 := B24.exm l39 (by first | assumption | exact nin_of f30 g30 (by omega))
          have B27 := B27.exm l39 (by first | assumption | exact nin_of f30 g30 (by omega))
          have o23 := o23.exm l39 (by first | assumption | exact Dj.symm (by assumption) | exact dj_of f30 g30 f23 g23 (by omega))
          refine s0 (x_assign (v := .int _ _) rfl) ?_
          refine c_end ?_
          refine n_then ?_
          refine wp_seq ?_
          refine c_reg ?_
          refine s0 (x_assign (v := .int _ _) rfl) ?_
          refine c_end ?_
          refine n_then ?_
          refine wp_seq ?_
          refine c_reg ?_
          refine st (x_loadAgB ag27 rfl B27 rfl) ?_
          refine s0 (x_move (v := .int _ _) rfl) ?_
          refine sr (zcall cl54 rfl) (l_heldHeader _ _ _ _ _ _ _ _ _ _ o30.sl (by omega) (by omega)) ?_
          intro w40 l41
          have z_l41 := l41.size
          have L := L.tr l41.up
          have B1 := B1.ext l41
          have B10 := B10.ext l41
          have B13 := B13.ext l41
          have B24 := B24.ext l41
          have B27 := B27.ext l41
          have o23 := o23.ext l41
          have o30 := o30.ext l41
          refine s0 (x_assign (v := .int _ _) rfl) ?_
          refine c_end ?_
          refine n_then ?_
          refine wp_seq ?_
          refine wp_seq ?_
          refine c_reg ?_
          refine s0 (x_move (v := .int _ _) rfl) ?_
          refine sb (x_lss rfl rfl) (fun h56 => ?_) (fun h56 => ?_)
          · omega
          · refine c_end ?_
            refine n_then ?_
            refine c_false rfl ?_
            refine c_skipn ?_
            refine n_then ?_
            refine wp_seq ?_
            refine wp_seq ?_
            refine c_reg ?_
            refine s0 (x_move (v := .int _ _) rfl) ?_
            refine s0 (x_move (v := .int _ _) rfl) ?_
            refine sb (x_neq rfl rfl) (fun h59 => ?_) (fun h59 => ?_)
            · exact absurd rfl h59
            · refine c_end ?_
              refine n_then ?_
              refine c_false rfl ?_
              refine c_skipn ?_
              refine n_then ?_
              refine wp_seq ?_
              refine c_reg ?_
              refine st (x_loadAgB ag73 rfl B1 rfl) ?_
              refine sr (zcall cl51 rfl) (l_toReader _ _ _) ?_
              intro w42 l43
              have z_l43 := l43.size
              have L := L.tr l43.up
              have B1 := B1.ext l43
              have B10 := B10.ext l43
              have B13 := B13.ext l43
              have B24 := B24.ext l43
              have B27 := B27.ext l43
              have o23 := o23.ext l43
              have o30 := o30.ext l43
              refine sp (zcall cl52 rfl) (i_readHeader _ _ _ (by omega)) ?_
              rintro v63 w44 l45 ⟨p63, c63, F63, rfl, o63, f63⟩
              have z_l45 := l45.size
              have L := L.tr l45.up
              have B1 := B1.ext l45
              have B10 := B10.ext l45
              have B13 := B13.ext l45
              have B24 := B24.ext l45
              have B27 := B27.ext l45
              have o23 := o23.ext l45
              have o30 := o30.ext l45
              have g63 := o63.lt
              refine s0 (x_move (v := .tuple _) rfl) ?_
              refine s0 (x_extract rfl rfl) ?_
              refine s0 (x_extract rfl rfl) ?_
              refine s0 (x_extract rfl rfl) ?_
              refine s_alloc zr42 ?_
              intro b46 w47 lob46 hib46 l48 B46
              have z_l48 := l48.size
              have L := L.tr l48.up
              have B1 := B1.ext l48
              have B10 := B10.ext l48
              have B13 := B13.ext l48
              have B24 := B24.ext l48
              have B27 := B27.ext l48
              have o23 := o23.ext l48
              have o30 := o30.ext l48
              have o63 := o63.ext l48
              refine s_alloc zr27 ?_
              intro b49 w50 lob49 hib49 l51 B49
              have z_l51 := l51.size
              have L := L.tr l51.up
              have B1 := B1.ext l51
              have B10 := B10.ext l51
              have B13 := B13.ext l51
              have B24 := B24.ext l51
              have B27 := B27.ext l51
              have B46 := B46.ext l51
              have o23 := o23.ext l51
              have o30 := o30.ext l51
              have o63 := o63.ext l51
              refine s_storeAg rfl sz42 rfl rfl B46 rfl rfl rfl ?_
              intro w52 l53 el53 B46
              have z_l53 := l53.size
              have L := L.fresh l53 (by omega)
              have B1 := B1.ne l53 (by omega)
              have B10 := B10.ne l53 (by omega)
              have B13 := B13.ne l53 (by omega)
              have B24 := B24.ne l53 (by omega)
              have B27 := B27.ne l53 (by omega)
              have B49 := B49.ne l53 (by omega)
              have o23 := o23.ne l53 (by first | assumption | exact nin_of f23 g23 (by omega))
              have o30 := o30.ne l53 (by first | assumption | exact nin_of f30 g30 (by omega))
              have o63 := o63.ne l53 (by first | assumption | exact nin_of f63 g63 (by omega))
              refine s_storeAg rfl sz27 rfl rfl B49 rfl rfl rfl ?_
              intro w54 l55 el55 B49
              have z_l55 := l55.size
              have L := L.fresh l55 (by omega)
              have B1 := B1.ne l55 (by omega)
              have B10 := B10.ne l55 (by omega)
              have B13 := B13.ne l55 (by omega)
              have B24 := B24.ne l55 (by omega)
              have B27 := B27.ne l55 (by omega)
              have B46 := B46.ne l55 (by omega)
              have o23 := o23.ne l55 (by first | assumption | exact nin_of f23 g23 (by omega))
              have o30 := o30.ne l55 (by first | assumption | exact nin_of f30 g30 (by omega))
              have o63 := o63.ne l55 (by first | assumption | exact nin_of f63 g63 (by omega))
              refine s0 (x_assign (v := .int _ _) rfl) ?_
              refine c_end ?_
              refine n_then ?_
              refine wp_seq ?_
              refine wp_seq ?_
              refine c_reg ?_
              refine st (x_loadAgB ag42 rfl B46 rfl) ?_
              refine st (x_loadAgB ag42 rfl B10 rfl) ?_
              refine srb (zcall cl53 rfl) (l_eqReader _ _ _ _ _) (fun h69 w56 l57 => ?_) (fun h69 w56 l57 => ?_)
              · have z_l57 := l57.size
                have L := L.tr l57.up
                have B1 := B1.ext l57
                have B10 := B10.ext l57
                have B13 := B13.ext l57
                have B24 := B24.ext l57
                have B27 := B27.ext l57
                have B46 := B46.ext l57
                have B49 := B49.ext l57
                have o23 := o23.ext l57
                have o30 := o30.ext l57
                have o63 := o63.ext l57
                refine s0 (x_not rfl) ?_
                refine s0 (x_move (v := .bool _) rfl) ?_
                refine gt rfl rfl rfl rfl ?_
                refine st (x_loadAgB ag27 rfl B49 rfl) ?_
                refine gt rfl rfl rfl rfl ?_
                refine st (x_loadAgB ag27 rfl B13 rfl) ?_
                refine gt rfl rfl rfl rfl ?_
                refine srb (zcall cl20 rfl) (l_eqHeader _ _ _ _ _ _ _ _ _ _ _ _ _ _ _ _ _ o63.sl o23.sl (by omega)) (fun h74 w58 l59 => ?_) (fun h74 w58 l59 => ?_)
                · have z_l59 := l59.size
                  have L := L.tr l59.up
                  have B1 := B1.ext l59
                  have B10 := B10.ext l59
                  have B13 := B13.ext l59
                  have B24 := B24.ext l59
                  have B27 := B27.ext l59
                  have B46 := B46.ext l59
                  have B49 := B49.ext l59
                  have o23 := o23.ext l59
                  have o30 := o30.ext l59
                  have o63 := o63.ext l59
                  refine gt rfl rfl rfl rfl ?_
                  refine s0 (x_not rfl) ?_
                  refine s0 (x_pickf (v := .bool _) rfl rfl) ?_
                  refine s0 (x_move (v := .bool _) rfl) ?_
                  refine gt rfl rfl rfl rfl ?_
                  refine s0 (x_move (v := .int _ _) rfl) ?_
                  refine gt rfl rfl rfl rfl ?_
                  refine s0 (x_move (v := .int _ _) rfl) ?_
                  refine gt rfl rfl rfl rfl ?_
                  refine sb (x_neq rfl rfl) (fun h80 => ?_) (fun h80 => ?_)
                  · exact absurd rfl h80
                  · refine s0 (x_pickf (v := .bool _) rfl rfl) ?_
                    refine c_end ?_
                    refine n_then ?_
                    refine c_false rfl ?_
                    refine c_skipn ?_
                    refine n_then ?_
                    refine wp_seq ?_
                    refine c_reg ?_
                    refine s0 (x_assign (v := .int _ _) rfl) ?_
                    refine c_end ?_
                    refine n_then ?_
                    refine wp_seq ?_
                    refine c_reg ?_
                    refine st (x_loadAgB ag27 rfl B27 rfl) ?_
                    refine s0 (x_move (v := .int _ _) rfl) ?_
                    refine sr (zcall cl54 rfl) (l_heldHeader _ _ _ _ _ _ _ _ _ _ o30.sl (by omega) (by omega)) ?_
                    intro w60 l61
                    have z_l61 := l61.size
                    have L := L.tr l61.up
                    have B1 := B1.ext l61
                    have B10 := B10.ext l61
                    have B13 := B13.ext l61
                    have B24 := B24.ext l61
                    have B27 := B27.ext l61
                    have B46 := B46.ext l61
                    have B49 := B49.ext l61
                    have o23 := o23.ext l61
                    have o30 := o30.ext l61
                    have o63 := o63.ext l61
                    refine s0 (x_assign (v := .int _ _) rfl) ?_
                    refine c_end ?_
                    refine n_then ?_
                    refine wp_seq ?_
                    refine wp_seq ?_
                    refine c_reg ?_
                    refine s0 (x_move (v := .int _ _) rfl) ?_
                    refine sb (x_lss rfl rfl) (fun h86 => ?_) (fun h86 => ?_)
                    · omega
                    · refine c_end ?_
                      refine n_then ?_
                      refine c_false rfl ?_
                      refine c_skipn ?_
                      refine n_then ?_
                      refine wp_seq ?_
                      refine wp_seq ?_
                      refine c_reg ?_
                      refine s0 (x_move (v := .int _ _) rfl) ?_
                      refine s0 (x_move (v := .int _ _) rfl) ?_
                      refine sb (x_neq rfl rfl) (fun h89 => ?_) (fun h89 => ?_)
                      · exact absurd rfl h89
                      · refine c_end ?_
                        refine n_then ?_
                        refine c_false rfl ?_
                        refine c_skipn ?_
                        refine n_then ?_
                        refine wp_seq ?_
                        refine c_reg ?_
                        refine s0 (x_assign (v := .bool _) rfl) ?_
                        refine c_end ?_
                        refine n_then ?_
                        refine wp_ret ?_
                        refine f_ret rfl rfl ?_
                        exact ⟨rfl, L⟩
                · exact (h74 (by simp)).elim
              · exact (h69 (by simp)).elim
      · exact (h41 (by simp)).elim
    · exact (h36 (by simp)).elim

end Go.Proofs.Ytdnckakaoageoaa
