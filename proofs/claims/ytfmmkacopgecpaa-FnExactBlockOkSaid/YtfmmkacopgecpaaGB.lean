/- What each function of this part returns, for every argument that meets its premises. -/
import Derived.Test.YtfmmkacopgecpaaFB
namespace Go.Proofs.Ytfmmkacopgecpaa
open Go.Sx Go.Pl Go.RowKit
theorem ag52 : Ag Try.prog 52 2 := ⟨⟨_, Try.underlying52⟩, by kernel_rfl⟩
theorem cl38 : Callable Try.prog 38 := callable Try.func38 (by kernel_rfl) rfl
theorem cl39 : Callable Try.prog 39 := callable Try.func39 (by kernel_rfl) rfl
theorem cl40 : Callable Try.prog 40 := callable Try.func40 (by kernel_rfl) rfl
theorem cl42 : Callable Try.prog 42 := callable Try.func42 (by kernel_rfl) rfl
theorem cl43 : Callable Try.prog 43 := callable Try.func43 (by kernel_rfl) rfl
theorem cl46 : Callable Try.prog 46 := callable Try.func46 (by kernel_rfl) rfl
theorem cl48 : Callable Try.prog 48 := callable Try.func48 (by kernel_rfl) rfl
/-- laws.FnExactReadSym -/
theorem l_fnReadSym (s : ByteArray) (a : Int) (p : Option Addr) (xs : List Int) (c : Nat) (w : World) (hp : Sl w p xs.length c 1 (ic xs)) (hl : xs.length ≤ 9223372036854775807) (hs : s.size ≤ 9223372036854775807) :
    Calls Try.prog 7 [.agg [.string s, .int .i64 a].toArray, .slice p xs.length c].toArray w (Ret w (.bool true)) := by
  have L : Exm [] w w := Exm.rfl'
  refine enter (n := 59) Try.func7 rfl rfl rfl ?_
  refine wp_seq ?_
  refine c_reg ?_
  refine s_box rfl rfl ?_
  intro b1 w2 lob1 hib1 l3 B1
  have z_l3 := l3.size
  have L := L.tr l3.up
  refine s0 (x_assign (v := .bool _) rfl) ?_
  refine c_end ?_
  refine n_then ?_
  refine wp_seq ?_
  refine wp_seq ?_
  refine c_reg ?_
  refine s0 (x_move (v := .slice _ _ _) rfl) ?_
  refine s0 (x_lensl un33 rfl) ?_
  refine sb (x_gtr rfl rfl) (fun h15 => ?_) (fun h15 => ?_)
  · refine c_end ?_
    refine n_then ?_
    refine c_true rfl ?_
    refine wp_seq ?_
    refine c_reg ?_
    refine s0 (x_assign (v := .bool _) rfl) ?_
    refine c_end ?_
    refine n_then ?_
    refine wp_ret (r_then ?_)
    refine f_ret rfl rfl ?_
    exact ⟨rfl, L⟩
  · refine c_end ?_
    refine n_then ?_
    refine c_false rfl ?_
    refine c_skipn ?_
    refine n_then ?_
    refine wp_seq ?_
    refine c_reg ?_
    refine s0 (x_assign (v := .int _ _) rfl) ?_
    refine c_end ?_
    refine n_then ?_
    refine wp_seq ?_
    refine c_reg ?_
    refine st (x_loadAgB ag52 rfl B1 rfl) ?_
    refine s0 (x_move (v := .int _ _) rfl) ?_
    refine sr (zcall cl38 rfl) (l_szReader _ _ _ _ (by omega) (by omega)) ?_
    intro w4 l5
    have z_l5 := l5.size
    have L := L.tr l5.up
    have B1 := B1.ext l5
    refine s0 (x_assign (v := .int _ _) rfl) ?_
    refine c_end ?_
    refine n_then ?_
    refine wp_seq ?_
    refine wp_seq ?_
    refine c_reg ?_
    refine s0 (x_move (v := .int _ _) rfl) ?_
    refine sb (x_lss rfl rfl) (fun h20 => ?_) (fun h20 => ?_)
    · refine c_end ?_
      refine n_then ?_
      refine c_true rfl ?_
      refine wp_seq ?_
      refine c_reg ?_
      refine s0 (x_assign (v := .bool _) rfl) ?_
      refine c_end ?_
      refine n_then ?_
      refine wp_ret (r_then ?_)
      refine f_ret rfl rfl ?_
      exact ⟨rfl, L⟩
    · refine c_end ?_
      refine n_then ?_
      refine c_false rfl ?_
      refine c_skipn ?_
      refine n_then ?_
      refine wp_seq ?_
      have hs1 := sz_in h20
      have hs2 : s.size ≤ 1048576 := by omega
      refine c_reg ?_
      refine st (x_loadAgB ag52 rfl B1 rfl) ?_
      refine sr (zcall cl40 rfl) (l_toReader _ _ _) ?_
      intro w6 l7
      have z_l7 := l7.size
      have L := L.tr l7.up
      have B1 := B1.ext l7
      refine s0 (x_move (v := .slice _ _ _) rfl) ?_
      refine sp (zcall cl41 rfl) (l_toIntS _ _ _ _ (hp.ext L) (by omega)) ?_
      rintro v25 w8 l9 ⟨p25, c25, F25, rfl, o25, f25⟩
      have z_l9 := l9.size
      have L := L.tr l9.up
      have B1 := B1.ext l9
      have g25 := o25.lt
      refine sr (zcall cl39 rfl) (s_readSym _ _ _ _ _ _ o25.sl (by omega) (by omega)) ?_
      intro w10 l11
      have z_l11 := l11.size
      have L := L.tr l11.up
      have B1 := B1.ext l11
      have o25 := o25.ext l11
      refine s0 (x_move (v := .tuple _) rfl) ?_
      refine s0 (x_extract rfl rfl) ?_
      refine s0 (x_extract rfl rfl) ?_
      refine s0 (x_extract rfl rfl) ?_
      refine s_alloc zr54 ?_
      intro b12 w13 lob12 hib12 l14 B12
      have z_l14 := l14.size
      have L := L.tr l14.up
      have B1 := B1.ext l14
      have o25 := o25.ext l14
      refine s_storeAg rfl sz54 rfl rfl B12 rfl rfl rfl ?_
      intro w15 l16 el16 B12
      have z_l16 := l16.size
      have L := L.fresh l16 (by omega)
      have B1 := B1.ne l16 (by omega)
      have o25 := o25.ne l16 (by first | assumption | exact nin_of f25 g25 (by omega))
      refine s0 (x_assign (v := .int _ _) rfl) ?_
      refine s0 (x_assign (v := .int _ _) rfl) ?_
      refine c_end ?_
      refine n_then ?_
      refine wp_seq ?_
      refine c_reg ?_
      refine s0 (x_move (v := .slice _ _ _) rfl) ?_
      refine sp (zcall cl41 rfl) (l_toIntS _ _ _ _ (hp.ext L) (by omega)) ?_
      rintro v31 w17 l18 ⟨p31, c31, F31, rfl, o31, f31⟩
      have z_l18 := l18.size
      have L := L.tr l18.up
      have B1 := B1.ext l18
      have B12 := B12.ext l18
      have o25 := o25.ext l18
      have g31 := o31.lt
      refine s0 (x_assign (v := .slice _ _ _) rfl) ?_
      refine c_end ?_
      refine n_then ?_
      refine wp_seq ?_
      refine c_reg ?_
      refine st (x_loadAgB ag52 rfl B1 rfl) ?_
      refine sr (zcall cl40 rfl) (l_toReader _ _ _) ?_
      intro w19 l20
      have z_l20 := l20.size
      have L := L.tr l20.up
      have B1 := B1.ext l20
      have B12 := B12.ext l20
      have o25 := o25.ext l20
      have o31 := o31.ext l20
      refine s0 (x_move (v := .slice _ _ _) rfl) ?_
      refine sr (zcall cl42 rfl) (i_readSym _ _ _ _ _ _ o31.sl (by omega) (by omega)) ?_
      intro w21 l22
      have z_l22 := l22.size
      have L := L.tr l22.up
      have B1 := B1.ext l22
      have B12 := B12.ext l22
      have o25 := o25.ext l22
      have o31 := o31.ext l22
      refine s0 (x_move (v := .tuple _) rfl) ?_
      refine s0 (x_extract rfl rfl) ?_
      refine s0 (x_extract rfl rfl) ?_
      refine s0 (x_extract rfl rfl) ?_
      refine s_alloc zr54 ?_
      intro b23 w24 lob23 hib23 l25 B23
      have z_l25 := l25.size
      have L := L.tr l25.up
      have B1 := B1.ext l25
      have B12 := B12.ext l25
      have o25 := o25.ext l25
      have o31 := o31.ext l25
      refine s_storeAg rfl sz54 rfl rfl B23 rfl rfl rfl ?_
      intro w26 l27 el27 B23
      have z_l27 := l27.size
      have L := L.fresh l27 (by omega)
      have B1 := B1.ne l27 (by omega)
      have B12 := B12.ne l27 (by omega)
      have o25 := o25.ne l27 (by first | assumption | exact nin_of f25 g25 (by omega))
      have o31 := o31.ne l27 (by first | assumption | exact nin_of f31 g31 (by omega))
      refine s0 (x_assign (v := .int _ _) rfl) ?_
      refine s0 (x_assign (v := .int _ _) rfl) ?_
      refine c_end ?_
      refine n_then ?_
      refine wp_seq ?_
      refine wp_seq ?_
      refine c_reg ?_
      refine st (x_loadAgB ag54 rfl B23 rfl) ?_
      refine st (x_loadAgB ag54 rfl B12 rfl) ?_
      refine srb (zcall cl43 rfl) (l_eqReader _ _ _ _ _) (fun h42 w28 l29 => ?_) (fun h42 w28 l29 => ?_)
      · have z_l29 := l29.size
        have L := L.tr l29.up
        have B1 := B1.ext l29
        have B12 := B12.ext l29
        have B23 := B23.ext l29
        have o25 := o25.ext l29
        have o31 := o31.ext l29
        refine s0 (x_not rfl) ?_
        refine s0 (x_move (v := .bool _) rfl) ?_
        refine gt rfl rfl rfl rfl ?_
        refine s0 (x_move (v := .int _ _) rfl) ?_
        refine gt rfl rfl rfl rfl ?_
        refine s0 (x_move (v := .int _ _) rfl) ?_
        refine gt rfl rfl rfl rfl ?_
        refine sb (x_neq rfl rfl) (fun h47 => ?_) (fun h47 => ?_)
        · exact absurd rfl h47
        · refine s0 (x_pickf (v := .bool _) rfl rfl) ?_
          refine s0 (x_move (v := .bool _) rfl) ?_
          refine gt rfl rfl rfl rfl ?_
          refine s0 (x_move (v := .int _ _) rfl) ?_
          refine gt rfl rfl rfl rfl ?_
          refine s0 (x_move (v := .int _ _) rfl) ?_
          refine gt rfl rfl rfl rfl ?_
          refine sb (x_neq rfl rfl) (fun h52 => ?_) (fun h52 => ?_)
          · exact absurd rfl h52
          · refine s0 (x_pickf (v := .bool _) rfl rfl) ?_
            refine c_end ?_
            refine n_then ?_
            refine c_false rfl ?_
            refine c_skipn ?_
            refine n_then ?_
            refine wp_seq ?_
            refine wp_seq ?_
            refine c_reg ?_
            refine s0 (x_move (v := .slice _ _ _) rfl) ?_
            refine s0 (x_move (v := .slice _ _ _) rfl) ?_
            refine sp (zcall cl41 rfl) (l_toIntS _ _ _ _ (hp.ext L) (by omega)) ?_
            rintro v56 w30 l31 ⟨p56, c56, F56, rfl, o56, f56⟩
            have z_l31 := l31.size
            have L := L.tr l31.up
            have B1 := B1.ext l31
            have B12 := B12.ext l31
            have B23 := B23.ext l31
            have o25 := o25.ext l31
            have o31 := o31.ext l31
            have g56 := o56.lt
            refine srb (zcall cl44 rfl) (l_eqIntS _ _ _ _ _ _ _ o31.sl o56.sl (by omega)) (fun h57 w32 l33 => ?_) (fun h57 w32 l33 => ?_)
            · have z_l33 := l33.size
              have L := L.tr l33.up
              have B1 := B1.ext l33
              have B12 := B12.ext l33
              have B23 := B23.ext l33
              have o25 := o25.ext l33
              have o31 := o31.ext l33
              have o56 := o56.ext l33
              refine s0 (x_not rfl) ?_
              refine c_end ?_
              refine n_then ?_
              refine c_false rfl ?_
              refine c_skipn ?_
              refine n_then ?_
              refine wp_seq ?_
              refine c_reg ?_
              refine s0 (x_assign (v := .bool _) rfl) ?_
              refine c_end ?_
              refine n_then ?_
              refine wp_ret ?_
              refine f_ret rfl rfl ?_
              exact ⟨rfl, L⟩
            · exact absurd rfl h57
      · exact absurd ⟨rfl, rfl⟩ h42

/-- laws.FnExactBlockOk -/
theorem l_fnBlockOk (m : Int) (q : Option Addr) (ys : List Int) (d : Nat) (n : Int) (p : Option Addr) (xs : List Int) (c : Nat) (w : World) (hp : Sl w p xs.length c 1 (ic xs)) (hl : xs.length ≤ 9223372036854775807) (hq : Sl w q ys.length d 1 (ic ys)) (hl2 : ys.length ≤ 9223372036854775807) :
    Calls Try.prog 8 [.agg [.int .i64 m, .slice q ys.length d].toArray, .slice p xs.length c, .int .i64 n].toArray w (Ret w (.bool true)) := by
  have L : Exm [] w w := Exm.rfl'
  refine enter (n := 47) Try.func8 rfl rfl rfl ?_
  refine wp_seq ?_
  refine c_reg ?_
  refine s_box rfl rfl ?_
  intro b1 w2 lob1 hib1 l3 B1
  have z_l3 := l3.size
  have L := L.tr l3.up
  refine s0 (x_assign (v := .bool _) rfl) ?_
  refine c_end ?_
  refine n_then ?_
  refine wp_seq ?_
  refine wp_seq ?_
  refine c_reg ?_
  refine s0 (x_move (v := .slice _ _ _) rfl) ?_
  refine s0 (x_lensl un33 rfl) ?_
  refine sb (x_gtr rfl rfl) (fun h14 => ?_) (fun h14 => ?_)
  · refine c_end ?_
    refine n_then ?_
    refine c_true rfl ?_
    refine wp_seq ?_
    refine c_reg ?_
    refine s0 (x_assign (v := .bool _) rfl) ?_
    refine c_end ?_
    refine n_then ?_
    refine wp_ret (r_then ?_)
    refine f_ret rfl rfl ?_
    exact ⟨rfl, L⟩
  · refine c_end ?_
    refine n_then ?_
    refine c_false rfl ?_
    refine c_skipn ?_
    refine n_then ?_
    refine wp_seq ?_
    refine c_reg ?_
    refine s0 (x_assign (v := .int _ _) rfl) ?_
    refine c_end ?_
    refine n_then ?_
    refine wp_seq ?_
    refine c_reg ?_
    refine st (x_loadAgB ag62 rfl B1 rfl) ?_
    refine s0 (x_move (v := .int _ _) rfl) ?_
    refine sr (zcall cl45 rfl) (l_szBlock _ _ _ _ _ _ (by omega) (by omega)) ?_
    intro w4 l5
    have z_l5 := l5.size
    have L := L.tr l5.up
    have B1 := B1.ext l5
    refine s0 (x_assign (v := .int _ _) rfl) ?_
    refine c_end ?_
    refine n_then ?_
    refine wp_seq ?_
    refine wp_seq ?_
    refine c_reg ?_
    refine s0 (x_move (v := .int _ _) rfl) ?_
    refine sb (x_lss rfl rfl) (fun h19 => ?_) (fun h19 => ?_)
    · refine c_end ?_
      refine n_then ?_
      refine c_true rfl ?_
      refine wp_seq ?_
      refine c_reg ?_
      refine s0 (x_assign (v := .bool _) rfl) ?_
      refine c_end ?_
      refine n_then ?_
      refine wp_ret (r_then ?_)
      refine f_ret rfl rfl ?_
      exact ⟨rfl, L⟩
    · refine c_end ?_
      refine n_then ?_
      refine c_false rfl ?_
      refine c_skipn ?_
      refine n_then ?_
      refine wp_seq ?_
      have hs1 := sz_in h19
      have hs2 : ys.length ≤ 1048576 := by omega
      refine c_reg ?_
      refine st (x_loadAgB ag62 rfl B1 rfl) ?_
      refine sp (zcall cl47 rfl) (l_toBlock _ _ _ _ _ (hq.ext L) (by omega)) ?_
      rintro v21 w6 l7 ⟨p21, c21, F21, rfl, o21, f21⟩
      have z_l7 := l7.size
      have L := L.tr l7.up
      have B1 := B1.ext l7
      have g21 := o21.lt
      refine s0 (x_move (v := .slice _ _ _) rfl) ?_
      refine sp (zcall cl41 rfl) (l_toIntS _ _ _ _ (hp.ext L) (by omega)) ?_
      rintro v23 w8 l9 ⟨p23, c23, F23, rfl, o23, f23⟩
      have z_l9 := l9.size
      have L := L.tr l9.up
      have B1 := B1.ext l9
      have o21 := o21.ext l9
      have g23 := o23.lt
      refine s0 (x_move (v := .int _ _) rfl) ?_
      refine sr (zcall cl46 rfl) (s_blockOk _ _ _ _ _ _ _ _ _ o23.sl (by omega) o21.sl (by omega)) ?_
      intro w10 l11
      have z_l11 := l11.size
      have L := L.tr l11.up
      have B1 := B1.ext l11
      have o21 := o21.ext l11
      have o23 := o23.ext l11
      refine s0 (x_assign (v := .bool _) rfl) ?_
      refine c_end ?_
      refine n_then ?_
      refine wp_seq ?_
      refine c_reg ?_
      refine st (x_loadAgB ag62 rfl B1 rfl) ?_
      refine sp (zcall cl47 rfl) (l_toBlock _ _ _ _ _ (hq.ext L) (by omega)) ?_
      rintro v27 w12 l13 ⟨p27, c27, F27, rfl, o27, f27⟩
      have z_l13 := l13.size
      have L := L.tr l13.up
      have B1 := B1.ext l13
      have o21 := o21.ext l13
      have o23 := o23.ext l13
      have g27 := o27.lt
      refine s_alloc zr65 ?_
      intro b14 w15 lob14 hib14 l16 B14
      have z_l16 := l16.size
      have L := L.tr l16.up
      have B1 := B1.ext l16
      have o21 := o21.ext l16
      have o23 := o23.ext l16
      have o27 := o27.ext l16
      refine s_storeAg rfl sz65 rfl rfl B14 rfl rfl rfl ?_
      intro w17 l18 el18 B14
      have z_l18 := l18.size
      have L := L.fresh l18 (by omega)
      have B1 := B1.ne l18 (by omega)
      have o21 := o21.ne l18 (by first | assumption | exact nin_of f21 g21 (by omega))
      have o23 := o23.ne l18 (by first | assumption | exact nin_of f23 g23 (by omega))
      have o27 := o27.ne l18 (by first | assumption | exact nin_of f27 g27 (by omega))
      refine c_end ?_
      refine n_then ?_
      refine wp_seq ?_
      refine c_reg ?_
      refine s0 (x_move (v := .slice _ _ _) rfl) ?_
      refine sp (zcall cl41 rfl) (l_toIntS _ _ _ _ (hp.ext L) (by omega)) ?_
      rintro v29 w19 l20 ⟨p29, c29, F29, rfl, o29, f29⟩
      have z_l20 := l20.size
      have L := L.tr l20.up
      have B1 := B1.ext l20
      have B14 := B14.ext l20
      have o21 := o21.ext l20
      have o23 := o23.ext l20
      have o27 := o27.ext l20
      have g29 := o29.lt
      refine s0 (x_assign (v := .slice _ _ _) rfl) ?_
      refine c_end ?_
      refine n_then ?_
      refine wp_seq ?_
      refine c_reg ?_
      refine st (x_loadAgB ag65 rfl B14 rfl) ?_
      refine s0 (x_move (v := .slice _ _ _) rfl) ?_
      refine s0 (x_move (v := .int _ _) rfl) ?_
      refine sr (zcall cl48 rfl) (i_blockOk _ _ _ _ _ _ _ _ _ o29.sl (by omega) o27.sl (by omega)) ?_
      intro w21 l22
      have z_l22 := l22.size
      have L := L.tr l22.up
      have B1 := B1.ext l22
      have B14 := B14.ext l22
      have o21 := o21.ext l22
      have o23 := o23.ext l22
      have o27 := o27.ext l22
      have o29 := o29.ext l22
      refine s0 (x_assign (v := .bool _) rfl) ?_
      refine c_end ?_
      refine n_then ?_
      refine wp_seq ?_
      refine wp_seq ?_
      refine c_reg ?_
      refine s0 (x_move (v := .bool _) rfl) ?_
      refine s0 (x_move (v := .bool _) rfl) ?_
      refine sb (x_neqb un4 rfl rfl) (fun h36 => ?_) (fun h36 => ?_)
      · exact absurd rfl h36
      · refine c_end ?_
        refine n_then ?_
        refine c_false rfl ?_
        refine c_skipn ?_
        refine n_then ?_
        refine wp_seq ?_
        refine wp_seq ?_
        refine c_plan (fun wq => Exm [] w21 wq) 5 [(0, 1), (1, 1), (2, 0), (3, 0), (4, 2)] (by kernel_rfl) (by kernel_rfl) (Exm.drew _) ?_
        obtain ⟨w23, hwd⟩ : ∃ x, x = w21.drew := ⟨_, rfl⟩
        have l24 : Ext w21 w23 := by rw [hwd]; exact Exm.drew _
        rw [← hwd]; clear hwd
        have Lq : Exm [] w21 w23 := l24.up
        have qB1 := B1
        have qB14 := B14
        have qo21 := o21
        have qo23 := o23
        have qo27 := o27
        have qo29 := o29
        have qL := L
        have z_l24 := l24.size
        have L := L.tr l24.up
        have B1 := B1.ext l24
        have B14 := B14.ext l24
        have o21 := o21.ext l24
        have o23 := o23.ext l24
        have o27 := o27.ext l24
        have o29 := o29.ext l24
        refine ps rfl (fun wq hwq => x_loadAgB ag65 rfl (qB14.ext hwq) rfl) ?_
        refine ps rfl (fun wq hwq => x_loadAgB ag62 rfl (qB1.ext hwq) rfl) ?_
        refine pu rfl ?_ (by rintro ⟨_, _, h, _⟩; cases h)
        refine sp (zcall cl47 rfl) (l_toBlock _ _ _ _ _ (hq.ext L) (by omega)) ?_
        rintro v39 w25 l26 ⟨p39, c39, F39, rfl, o39, f39⟩
        have z_l26 := l26.size
        have L := L.tr l26.up
        have Lq := Lq.tr l26.up
        have B1 := B1.ext l26
        have B14 := B14.ext l26
        have o21 := o21.ext l26
        have o23 := o23.ext l26
        have o27 := o27.ext l26
        have o29 := o29.ext l26
        have g39 := o39.lt
        refine c_end ⟨rfl, fun h => Lq, ?_⟩
        refine pu rfl ?_ (by rintro ⟨_, _, h, _⟩; cases h)
        refine srb (zcall cl49 rfl) (l_eqBlock _ _ _ _ _ _ _ _ _ o27.sl o39.sl (by omega)) (fun h40 w27 l28 => ?_) (fun h40 w27 l28 => ?_)
        · have z_l28 := l28.size
          have L := L.tr l28.up
          have Lq := Lq.tr l28.up
          have B1 := B1.ext l28
          have B14 := B14.ext l28
          have o21 := o21.ext l28
          have o23 := o23.ext l28
          have o27 := o27.ext l28
          have o29 := o29.ext l28
          have o39 := o39.ext l28
          refine c_end ⟨rfl, fun h => Lq, ?_⟩
          refine p0 rfl (x_not rfl) ?_
          refine p_nil (np_normal ?_)
          refine n_then ?_
          refine c_false rfl ?_
          refine c_skipn ?_
          refine n_then ?_
          refine wp_seq ?_
          refine wp_seq ?_
          refine c_reg ?_
          refine s0 (x_move (v := .slice _ _ _) rfl) ?_
          refine s0 (x_move (v := .slice _ _ _) rfl) ?_
          refine sp (zcall cl41 rfl) (l_toIntS _ _ _ _ (hp.ext L) (by omega)) ?_
          rintro v44 w29 l30 ⟨p44, c44, F44, rfl, o44, f44⟩
          have z_l30 := l30.size
          have L := L.tr l30.up
          have B1 := B1.ext l30
          have B14 := B14.ext l30
          have o21 := o21.ext l30
          have o23 := o23.ext l30
          have o27 := o27.ext l30
          have o29 := o29.ext l30
          have o39 := o39.ext l30
          have g44 := o44.lt
          refine srb (zcall cl44 rfl) (l_eqIntS _ _ _ _ _ _ _ o29.sl o44.sl (by omega)) (fun h45 w31 l32 => ?_) (fun h45 w31 l32 => ?_)
          · have z_l32 := l32.size
            have L := L.tr l32.up
            have B1 := B1.ext l32
            have B14 := B14.ext l32
            have o21 := o21.ext l32
            have o23 := o23.ext l32
            have o27 := o27.ext l32
            have o29 := o29.ext l32
            have o39 := o39.ext l32
            have o44 := o44.ext l32
            refine s0 (x_not rfl) ?_
            refine c_end ?_
            refine n_then ?_
            refine c_false rfl ?_
            refine c_skipn ?_
            refine n_then ?_
            refine wp_seq ?_
            refine c_reg ?_
            refine s0 (x_assign (v := .bool _) rfl) ?_
            refine c_end ?_
            refine n_then ?_
            refine wp_ret ?_
            refine f_ret rfl rfl ?_
            exact ⟨rfl, L⟩
          · exact absurd rfl h45
        · exact absurd ⟨rfl, rfl⟩ h40

end Go.Proofs.Ytfmmkacopgecpaa
