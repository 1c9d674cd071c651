/- What each function of this part returns, for every argument that meets its premises. -/
import Derived.Test.YtdnckakaoageoaaFK
namespace Go.Proofs.Ytdnckakaoageoaa
open Go.Sx Go.Pl Go.RowKit
theorem cl16 : Callable Try.prog 16 := callable Try.func16 (by kernel_rfl) rfl
theorem cl18 : Callable Try.prog 18 := callable Try.func18 (by kernel_rfl) rfl
theorem cl21 : Callable Try.prog 21 := callable Try.func21 (by kernel_rfl) rfl
theorem cl36 : Callable Try.prog 36 := callable Try.func36 (by kernel_rfl) rfl
theorem cl39 : Callable Try.prog 39 := callable Try.func39 (by kernel_rfl) rfl
/-- laws.FnExactHeaderBits -/
theorem l_fnHeaderBits (a b q : Int) (y z : Bool) (p : Option Addr) (xs : List Int) (c : Nat) (w : World) (hp : Sl w p xs.length c 1 (ic xs)) (hl : xs.length ≤ 9223372036854775807) :
    Calls Try.prog 3 [.agg [.int .i64 a, .int .i64 b, .int .i64 q, .bool y, .bool z, .slice p xs.length c].toArray].toArray w (Ret w (.bool true)) := by
  have L : Exm [] w w := Exm.rfl'
  refine enter (n := 69) Try.func3 rfl rfl rfl ?_
  refine wp_seq ?_
  refine c_reg ?_
  refine s_box rfl rfl ?_
  intro b1 w2 lob1 hib1 l3 B1
  have z_l3 := l3.size
  have L := L.tr l3.up
  refine s0 (x_assign (v := .bool _) rfl) ?_
  refine c_end ?_
  refine n_then ?_
  refine wp_seq ?_
  refine c_reg ?_
  refine s0 (x_assign (v := .int _ _) rfl) ?_
  refine c_end ?_
  refine n_then ?_
  refine wp_seq ?_
  refine c_reg ?_
  refine st (x_loadAgB ag24 rfl B1 rfl) ?_
  refine s0 (x_move (v := .int _ _) rfl) ?_
  refine sr (zcall cl15 rfl) (l_szHeader _ _ _ _ _ _ _ _ _ _ (by omega) (by omega)) ?_
  intro w4 l5
  have z_l5 := l5.size
  have L := L.tr l5.up
  have B1 := B1.ext l5
  refine s0 (x_assign (v := .int _ _) rfl) ?_
  refine c_end ?_
  refine n_then ?_
  refine wp_seq ?_
  refine wp_seq ?_
  refine c_reg ?_
  refine s0 (x_move (v := .int _ _) rfl) ?_
  refine sb (x_lss rfl rfl) (fun h15 => ?_) (fun h15 => ?_)
  · refine c_end ?_
    refine n_then ?_
    refine c_true rfl ?_
    refine wp_seq ?_
    refine c_reg ?_
    refine s0 (x_assign (v := .bool _) rfl) ?_
    refine c_end ?_
    refine n_then ?_
    refine wp_ret (r_then ?_)
    refine f_ret rfl rfl ?_
    exact ⟨rfl, L⟩
  · refine c_end ?_
    refine n_then ?_
    refine c_false rfl ?_
    refine c_skipn ?_
    refine n_then ?_
    refine wp_seq ?_
    have hs1 := sz_in h15
    have hbl := headBits_len a b q y z xs
    refine c_reg ?_
    refine st (x_loadAgB ag24 rfl B1 rfl) ?_
    refine sp (zcall cl17 rfl) (l_toHeader _ _ _ _ _ _ _ _ _ (hp.ext L) (by omega)) ?_
    rintro v17 w6 l7 ⟨p17, c17, F17, rfl, o17, f17⟩
    have z_l7 := l7.size
    have L := L.tr l7.up
    have B1 := B1.ext l7
    have g17 := o17.lt
    refine sp (zcall cl16 rfl) (s_headerBits _ _ _ _ _ _ _ _ _ o17.sl (by omega)) ?_
    rintro v18 w8 l9 ⟨p18, c18, F18, rfl, o18, f18⟩
    have z_l9 := l9.size
    have L := L.tr l9.up
    have B1 := B1.ext l9
    have o17 := o17.ext l9
    have g18 := o18.lt
    refine s0 (x_assign (v := .slice _ _ _) rfl) ?_
    refine c_end ?_
    refine n_then ?_
    refine wp_seq ?_
    refine c_reg ?_
    refine st (x_loadAgB ag24 rfl B1 rfl) ?_
    refine sp (zcall cl17 rfl) (l_toHeader _ _ _ _ _ _ _ _ _ (hp.ext L) (by omega)) ?_
    rintro v20 w10 l11 ⟨p20, c20, F20, rfl, o20, f20⟩
    have z_l11 := l11.size
    have L := L.tr l11.up
    have B1 := B1.ext l11
    have o17 := o17.ext l11
    have o18 := o18.ext l11
    have g20 := o20.lt
    refine s_alloc zr27 ?_
    intro b12 w13 lob12 hib12 l14 B12
    have z_l14 := l14.size
    have L := L.tr l14.up
    have B1 := B1.ext l14
    have o17 := o17.ext l14
    have o18 := o18.ext l14
    have o20 := o20.ext l14
    refine s_storeAg rfl sz27 rfl rfl B12 rfl rfl rfl ?_
    intro w15 l16 el16 B12
    have z_l16 := l16.size
    have L := L.fresh l16 (by omega)
    have B1 := B1.ne l16 (by omega)
    have o17 := o17.ne l16 (by first | assumption | exact nin_of f17 g17 (by omega))
    have o18 := o18.ne l16 (by first | assumption | exact nin_of f18 g18 (by omega))
    have o20 := o20.ne l16 (by first | assumption | exact nin_of f20 g20 (by omega))
    refine c_end ?_
    refine n_then ?_
    refine wp_seq ?_
    refine c_reg ?_
    refine st (x_loadAgB ag27 rfl B12 rfl) ?_
    refine sp (zcall cl18 rfl) (i_headerBits _ _ _ _ _ _ _ _ _ o20.sl (by omega)) ?_
    rintro v22 w17 l18 ⟨p22, c22, F22, rfl, o22, f22⟩
    have z_l18 := l18.size
    have L := L.tr l18.up
    have B1 := B1.ext l18
    have B12 := B12.ext l18
    have o17 := o17.ext l18
    have o18 := o18.ext l18
    have o20 := o20.ext l18
    have g22 := o22.lt
    refine s0 (x_assign (v := .slice _ _ _) rfl) ?_
    refine c_end ?_
    refine n_then ?_
    refine wp_seq ?_
    refine wp_seq ?_
    refine c_reg ?_
    refine s0 (x_move (v := .slice _ _ _) rfl) ?_
    refine s0 (x_move (v := .slice _ _ _) rfl) ?_
    refine srb (zcall cl19 rfl) (l_eqIntS _ _ _ _ _ _ _ o22.sl o18.sl (by omega)) (fun h25 w19 l20 => ?_) (fun h25 w19 l20 => ?_)
    · have z_l20 := l20.size
      have L := L.tr l20.up
      have B1 := B1.ext l20
      have B12 := B12.ext l20
      have o17 := o17.ext l20
      have o18 := o18.ext l20
      have o20 := o20.ext l20
      have o22 := o22.ext l20
      refine s0 (x_not rfl) ?_
      refine c_end ?_
      refine n_then ?_
      refine c_false rfl ?_
      refine c_skipn ?_
      refine n_then ?_
      refine wp_seq ?_
      refine wp_seq ?_
      refine c_plan (fun wq => Exm [] w19 wq) 5 (.cons (0, 1) (.cons (1, 1) (.cons (2, 0) (.cons (3, 0) (.cons (4, 2) .nil))))) (by kernel_rfl) (by kernel_rfl) (Exm.drew _) ?_
      obtain ⟨w21, hwd⟩ : ∃ x, x = w19.drew := ⟨_, rfl⟩
      have l22 : Ext w19 w21 := by rw [hwd]; exact Exm.drew _
      rw [← hwd]; clear hwd
      have Lq : Exm [] w19 w21 := l22.up
      have qB1 := B1
      have qB12 := B12
      have qo17 := o17
      have qo18 := o18
      have qo20 := o20
      have qo22 := o22
      have qL := L
      have z_l22 := l22.size
      have L := L.tr l22.up
      have B1 := B1.ext l22
      have B12 := B12.ext l22
      have o17 := o17.ext l22
      have o18 := o18.ext l22
      have o20 := o20.ext l22
      have o22 := o22.ext l22
      refine ps rfl (fun wq hwq => x_loadAgB ag27 rfl (qB12.ext hwq) rfl) ?_
      refine ps rfl (fun wq hwq => x_loadAgB ag24 rfl (qB1.ext hwq) rfl) ?_
      refine pu rfl ?_ (by rintro ⟨_, _, h, _⟩; cases h)
      refine sp (zcall cl17 rfl) (l_toHeader _ _ _ _ _ _ _ _ _ (hp.ext L) (by omega)) ?_
      rintro v29 w23 l24 ⟨p29, c29, F29, rfl, o29, f29⟩
      have z_l24 := l24.size
      have L := L.tr l24.up
      have Lq := Lq.tr l24.up
      have B1 := B1.ext l24
      have B12 := B12.ext l24
      have o17 := o17.ext l24
      have o18 := o18.ext l24
      have o20 := o20.ext l24
      have o22 := o22.ext l24
      have g29 := o29.lt
      refine c_end ⟨rfl, fun h hS => Lq, ?_⟩
      refine pu rfl ?_ (by rintro ⟨_, _, h, _⟩; cases h)
      refine srb (zcall cl20 rfl) (l_eqHeader _ _ _ _ _ _ _ _ _ _ _ _ _ _ _ _ _ o20.sl o29.sl (by omega)) (fun h30 w25 l26 => ?_) (fun h30 w25 l26 => ?_)
      · have z_l26 := l26.size
        have L := L.tr l26.up
        have Lq := Lq.tr l26.up
        have B1 := B1.ext l26
        have B12 := B12.ext l26
        have o17 := o17.ext l26
        have o18 := o18.ext l26
        have o20 := o20.ext l26
        have o22 := o22.ext l26
        have o29 := o29.ext l26
        refine c_end ⟨rfl, fun h hS => Lq, ?_⟩
        refine p0 rfl (x_not rfl) ?_
        refine p_nil (np_normal ?_)
        refine n_then ?_
        refine c_false rfl ?_
        refine c_skipn ?_
        refine n_then ?_
        refine wp_seq ?_
        refine c_reg ?_
        refine s0 (x_assign (v := .int _ _) rfl) ?_
        refine c_end ?_
        refine n_then ?_
        refine wp_seq ?_
        refine c_reg ?_
        refine st (x_loadAgB ag27 rfl B12 rfl) ?_
        refine s0 (x_move (v := .int _ _) rfl) ?_
        refine spm (zcall cl21 rfl) (l_markHeader _ _ _ _ _ _ _ _ _ _ _ _ o20 (by omega) (by omega)) ?_
        rintro v34 w27 l28 ⟨rfl, o20⟩
        have z_l28 := l28.size
        have L := L.freshL l28 f20 (by omega)
        have B1 := B1.exm l28 (by first | assumption | exact nin_of f20 g20 (by omega))
        have B12 := B12.exm l28 (by first | assumption | exact nin_of f20 g20 (by omega))
        have o17 := o17.exm l28 (by first | assumption | exact Dj.symm (by assumption) | exact dj_of f20 g20 f17 g17 (by omega))
        have o18 := o18.exm l28 (by first | assumption | exact Dj.symm (by assumption) | exact dj_of f20 g20 f18 g18 (by omega))
        have o22 := o22.exm l28 (by first | assumption | exact Dj.symm (by assumption) | exact dj_of f20 g20 f22 g22 (by omega))
        have o29 := o29.exm l28 (by first | assumption | exact Dj.symm (by assumption) | exact dj_of f20 g20 f29 g29 (by omega))
        refine s0 (x_assign (v := .int _ _) rfl) ?_
        refine c_end ?_
        refine n_then ?_
        refine wp_seq ?_
        refine wp_seq ?_
        refine c_reg ?_
        refine s0 (x_move (v := .int _ _) rfl) ?_
        refine sb (x_lss rfl rfl) (fun h36 => ?_) (fun h36 => ?_)
        · omega
        · refine s0 (x_move (v := .bool _) rfl) ?_
          refine gt rfl rfl rfl rfl ?_
          refine s0 (x_move (v := .slice _ _ _) rfl) ?_
          refine gt rfl rfl rfl rfl ?_
          refine s0 (x_move (v := .slice _ _ _) rfl) ?_
          refine gt rfl rfl rfl rfl ?_
          refine srb (zcall cl19 rfl) (l_eqIntS _ _ _ _ _ _ _ o22.sl o18.sl (by omega)) (fun h40 w29 l30 => ?_) (fun h40 w29 l30 => ?_)
          · have z_l30 := l30.size
            have L := L.tr l30.up
            have B1 := B1.ext l30
            have B12 := B12.ext l30
            have o17 := o17.ext l30
            have o18 := o18.ext l30
            have o20 := o20.ext l30
            have o22 := o22.ext l30
            have o29 := o29.ext l30
            refine gt rfl rfl rfl rfl ?_
            refine s0 (x_not rfl) ?_
            refine s0 (x_pickf (v := .bool _) rfl rfl) ?_
            refine c_end ?_
            refine n_then ?_
            refine c_false rfl ?_
            refine c_skipn ?_
            refine n_then ?_
            refine wp_seq ?_
            refine c_reg ?_
            refine s0 (x_assign (v := .int _ _) rfl) ?_
            refine c_end ?_
            refine n_then ?_
            refine wp_seq ?_
            refine c_reg ?_
            refine s0 (x_move (v := .slice _ _ _) rfl) ?_
            refine s0 (x_move (v := .int _ _) rfl) ?_
            refine spm (zcall cl22 rfl) (l_markIntS _ _ _ _ _ _ o22 (by omega) (by omega)) ?_
            rintro v45 w31 l32 ⟨rfl, o22⟩
            have z_l32 := l32.size
            have L := L.freshL l32 f22 (by omega)
            have B1 := B1.exm l32 (by first | assumption | exact nin_of f22 g22 (by omega))
            have B12 := B12.exm l32 (by first | assumption | exact nin_of f22 g22 (by omega))
            have o17 := o17.exm l32 (by first | assumption | exact Dj.symm (by assumption) | exact dj_of f22 g22 f17 g17 (by omega))
            have o18 := o18.exm l32 (by first | assumption | exact Dj.symm (by assumption) | exact dj_of f22 g22 f18 g18 (by omega))
            have o20 := o20.exm l32 (by first | assumption | exact Dj.symm (by assumption) | exact dj_of f22 g22 f20 g20 (by omega))
            have o29 := o29.exm l32 (by first | assumption | exact Dj.symm (by assumption) | exact dj_of f22 g22 f29 g29 (by omega))
            refine s0 (x_assign (v := .int _ _) rfl) ?_
            refine c_end ?_
            refine n_then ?_
            refine wp_seq ?_
            refine c_reg ?_
            refine s0 (x_assign (v := .int _ _) rfl) ?_
            refine c_end ?_
            refine n_then ?_
            refine wp_seq ?_
            refine c_reg ?_
            refine s0 (x_move (v := .slice _ _ _) rfl) ?_
            refine s0 (x_move (v := .int _ _) rfl) ?_
            refine sr (zcall cl23 rfl) (l_heldIntS _ _ _ _ _ o22.sl (by omega) (by omega)) ?_
            intro w33 l34
            have z_l34 := l34.size
            have L := L.tr l34.up
            have B1 := B1.ext l34
            have B12 := B12.ext l34
            have o17 := o17.ext l34
            have o18 := o18.ext l34
            have o20 := o20.ext l34
            have o22 := o22.ext l34
            have o29 := o29.ext l34
            refine s0 (x_assign (v := .int _ _) rfl) ?_
            refine c_end ?_
            refine n_then ?_
            refine wp_seq ?_
            refine wp_seq ?_
            refine c_reg ?_
            refine s0 (x_move (v := .int _ _) rfl) ?_
            refine sb (x_lss rfl rfl) (fun h50 => ?_) (fun h50 => ?_)
            · omega
            · refine c_end ?_
              refine n_then ?_
              refine c_false rfl ?_
              refine c_skipn ?_
              refine n_then ?_
              refine wp_seq ?_
              refine wp_seq ?_
              refine c_reg ?_
              refine s0 (x_move (v := .int _ _) rfl) ?_
              refine s0 (x_move (v := .int _ _) rfl) ?_
              refine sb (x_neq rfl rfl) (fun h53 => ?_) (fun h53 => ?_)
              · exact absurd rfl h53
              · refine c_end ?_
                refine n_then ?_
                refine c_false rfl ?_
                refine c_skipn ?_
                refine n_then ?_
                refine wp_seq ?_
                refine c_reg ?_
                refine st (x_loadAgB ag24 rfl B1 rfl) ?_
                refine sp (zcall cl17 rfl) (l_toHeader _ _ _ _ _ _ _ _ _ (hp.ext L) (by omega)) ?_
                rintro v55 w35 l36 ⟨p55, c55, F55, rfl, o55, f55⟩
                have z_l36 := l36.size
                have L := L.tr l36.up
                have B1 := B1.ext l36
                have B12 := B12.ext l36
                have o17 := o17.ext l36
                have o18 := o18.ext l36
                have o20 := o20.ext l36
                have o22 := o22.ext l36
                have o29 := o29.ext l36
                have g55 := o55.lt
                refine sp (zcall cl18 rfl) (i_headerBits _ _ _ _ _ _ _ _ _ o55.sl (by omega)) ?_
                rintro v56 w37 l38 ⟨p56, c56, F56, rfl, o56, f56⟩
                have z_l38 := l38.size
                have L := L.tr l38.up
                have B1 := B1.ext l38
                have B12 := B12.ext l38
                have o17 := o17.ext l38
                have o18 := o18.ext l38
                have o20 := o20.ext l38
                have o22 := o22.ext l38
                have o29 := o29.ext l38
                have o55 := o55.ext l38
                have g56 := o56.lt
                refine s0 (x_assign (v := .slice _ _ _) rfl) ?_
                refine c_end ?_
                refine n_then ?_
                refine wp_seq ?_
                refine wp_seq ?_
                refine c_reg ?_
                refine s0 (x_move (v := .slice _ _ _) rfl) ?_
                refine s0 (x_move (v := .slice _ _ _) rfl) ?_
                refine srb (zcall cl19 rfl) (l_eqIntS _ _ _ _ _ _ _ o56.sl o18.sl (by omega)) (fun h59 w39 l40 => ?_) (fun h59 w39 l40 => ?_)
                · have z_l40 := l40.size
                  have L := L.tr l40.up
                  have B1 := B1.ext l40
                  have B12 := B12.ext l40
                  have o17 := o17.ext l40
                  have o18 := o18.ext l40
                  have o20 := o20.ext l40
                  have o22 := o22.ext l40
                  have o29 := o29.ext l40
                  have o55 := o55.ext l40
                  have o56 := o56.ext l40
                  refine s0 (x_not rfl) ?_
                  refine c_end ?_
                  refine n_then ?_
                  refine c_false rfl ?_
                  refine c_skipn ?_
                  refine n_then ?_
                  refine wp_seq ?_
                  refine c_reg ?_
                  refine s0 (x_assign (v := .int _ _) rfl) ?_
                  refine c_end ?_
                  refine n_then ?_
                  refine wp_seq ?_
                  refine c_reg ?_
                  refine s0 (x_move (v := .slice _ _ _) rfl) ?_
                  refine s0 (x_move (v := .int _ _) rfl) ?_
                  refine sr (zcall cl23 rfl) (l_heldIntS _ _ _ _ _ o22.sl (by omega) (by omega)) ?_
                  intro w41 l42
                  have z_l42 := l42.size
                  have L := L.tr l42.up
                  have B1 := B1.ext l42
                  have B12 := B12.ext l42
                  have o17 := o17.ext l42
                  have o18 := o18.ext l42
                  have o20 := o20.ext l42
                  have o22 := o22.ext l42
                  have o29 := o29.ext l42
                  have o55 := o55.ext l42
                  have o56 := o56.ext l42
                  refine s0 (x_assign (v := .int _ _) rfl) ?_
                  refine c_end ?_
                  refine n_then ?_
                  refine wp_seq ?_
                  refine wp_seq ?_
                  refine c_reg ?_
                  refine s0 (x_move (v := .int _ _) rfl) ?_
                  refine sb (x_lss rfl rfl) (fun h65 => ?_) (fun h65 => ?_)
                  · omega
                  · refine c_end ?_
                    refine n_then ?_
                    refine c_false rfl ?_
                    refine c_skipn ?_
                    refine n_then ?_
                    refine wp_seq ?_
                    refine wp_seq ?_
                    refine c_reg ?_
                    refine s0 (x_move (v := .int _ _) rfl) ?_
                    refine s0 (x_move (v := .int _ _) rfl) ?_
                    refine sb (x_neq rfl rfl) (fun h68 => ?_) (fun h68 => ?_)
                    · exact absurd rfl h68
                    · refine c_end ?_
                      refine n_then ?_
                      refine c_false rfl ?_
                      refine c_skipn ?_
                      refine n_then ?_
                      refine wp_seq ?_
                      refine c_reg ?_
                      refine s0 (x_assign (v := .bool _) rfl) ?_
                      refine c_end ?_
                      refine n_then ?_
                      refine wp_ret ?_
                      refine f_ret rfl rfl ?_
                      exact ⟨rfl, L⟩
                · exact (h59 (by simp)).elim
          · exact (h40 (by simp)).elim
      · exact (h30 (by simp)).elim
    · exact (h25 (by simp)).elim

/-- laws.FnExactMbOk -/
theorem l_fnMbOk (e : Bool) (p : Option Addr) (bs : List Bk) (c : Nat) (r : Option Addr) (xs : List Int) (d : Nat) (w : World) (hp : RdBs w p bs c) (hx : Sl w r xs.length d 1 (ic xs)) (hl : bs.length ≤ 9223372036854775807) (hb : ∀ b ∈ bs, b.lv.length ≤ 9223372036854775807) (hl2 : xs.length ≤ 9223372036854775807) :
    Calls Try.prog 5 [.agg [.bool e, .slice p bs.length c].toArray, .slice r xs.length d].toArray w (Ret w (.bool true)) := by
  have L : Exm [] w w := Exm.rfl'
  refine enter (n := 43) Try.func5 rfl rfl rfl ?_
  refine wp_seq ?_
  refine c_reg ?_
  refine s_box rfl rfl ?_
  intro b1 w2 lob1 hib1 l3 B1
  have z_l3 := l3.size
  have L := L.tr l3.up
  refine s0 (x_assign (v := .bool _) rfl) ?_
  refine c_end ?_
  refine n_then ?_
  refine wp_seq ?_
  refine wp_seq ?_
  refine c_reg ?_
  refine s0 (x_move (v := .slice _ _ _) rfl) ?_
  refine s0 (x_lensl un22 rfl) ?_
  refine sb (x_gtr rfl rfl) (fun h12 => ?_) (fun h12 => ?_)
  · refine c_end ?_
    refine n_then ?_
    refine c_true rfl ?_
    refine wp_seq ?_
    refine c_reg ?_
    refine s0 (x_assign (v := .bool _) rfl) ?_
    refine c_end ?_
    refine n_then ?_
    refine wp_ret (r_then ?_)
    refine f_ret rfl rfl ?_
    exact ⟨rfl, L⟩
  · refine c_end ?_
    refine n_then ?_
    refine c_false rfl ?_
    refine c_skipn ?_
    refine n_then ?_
    refine wp_seq ?_
    refine c_reg ?_
    refine s0 (x_assign (v := .int _ _) rfl) ?_
    refine c_end ?_
    refine n_then ?_
    refine wp_seq ?_
    refine c_reg ?_
    refine st (x_loadAgB ag49 rfl B1 rfl) ?_
    refine s0 (x_move (v := .int _ _) rfl) ?_
    refine sp (zcall cl35 rfl) (l_szMb _ _ _ _ _ _ (hp.ext L) (by omega) hb (by omega)) ?_
    rintro v15 w4 l5 ⟨r15, rfl, hr15⟩
    have z_l5 := l5.size
    have L := L.tr l5.up
    have B1 := B1.ext l5
    refine s0 (x_assign (v := .int _ _) rfl) ?_
    refine c_end ?_
    refine n_then ?_
    refine wp_seq ?_
    refine wp_seq ?_
    refine c_reg ?_
    refine s0 (x_move (v := .int _ _) rfl) ?_
    refine sb (x_lss rfl rfl) (fun h17 => ?_) (fun h17 => ?_)
    · refine c_end ?_
      refine n_then ?_
      refine c_true rfl ?_
      refine wp_seq ?_
      refine c_reg ?_
      refine s0 (x_assign (v := .bool _) rfl) ?_
      refine c_end ?_
      refine n_then ?_
      refine wp_ret (r_then ?_)
      refine f_ret rfl rfl ?_
      exact ⟨rfl, L⟩
    · refine c_end ?_
      refine n_then ?_
      refine c_false rfl ?_
      refine c_skipn ?_
      refine n_then ?_
      refine wp_seq ?_
      have hA := hr15.resolve_left (by omega)
      have hbA : ∀ b ∈ bs, b.lv.length ≤ 1099511627776 := fun b h => by have := hA.2.2.2 b h; omega
      refine c_reg ?_
      refine st (x_loadAgB ag49 rfl B1 rfl) ?_
      refine sp (zcall cl37 rfl) (l_toMb _ _ _ _ _ (hp.ext L) (by omega) hbA) ?_
      rintro v19 w6 l7 ⟨p19, bs19, c19, F19, rfl, o19, f19, hm19⟩
      have z_l7 := l7.size
      have L := L.tr l7.up
      have B1 := B1.ext l7
      have hb19 := pl_bound hm19 hbA
      have hn19 := map_len hm19
      have g19 := o19.lt
      refine s0 (x_move (v := .slice _ _ _) rfl) ?_
      refine sp (zcall cl38 rfl) (l_toIntS _ _ _ _ (hx.ext L) (by omega)) ?_
      rintro v21 w8 l9 ⟨p21, c21, F21, rfl, o21, f21⟩
      have z_l9 := l9.size
      have L := L.tr l9.up
      have B1 := B1.ext l9
      have o19 := o19.ext l9
      have g21 := o21.lt
      refine sr (zcall cl36 rfl) (s_mbOk _ _ _ _ _ _ _ _ o19.rd o21.sl (by omega) hb19 (by omega)) ?_
      intro w10 l11
      have z_l11 := l11.size
      have L := L.tr l11.up
      have B1 := B1.ext l11
      have o19 := o19.ext l11
      have o21 := o21.ext l11
      refine s0 (x_assign (v := .bool _) rfl) ?_
      refine c_end ?_
      refine n_then ?_
      refine wp_seq ?_
      refine c_reg ?_
      refine st (x_loadAgB ag49 rfl B1 rfl) ?_
      refine sp (zcall cl37 rfl) (l_toMb _ _ _ _ _ (hp.ext L) (by omega) hbA) ?_
      rintro v24 w12 l13 ⟨p24, bs24, c24, F24, rfl, o24, f24, hm24⟩
      have z_l13 := l13.size
      have L := L.tr l13.up
      have B1 := B1.ext l13
      have o19 := o19.ext l13
      have o21 := o21.ext l13
      have hb24 := pl_bound hm24 hbA
      have hn24 := map_len hm24
      have g24 := o24.lt
      refine s_alloc zr54 ?_
      intro b14 w15 lob14 hib14 l16 B14
      have z_l16 := l16.size
      have L := L.tr l16.up
      have B1 := B1.ext l16
      have o19 := o19.ext l16
      have o21 := o21.ext l16
      have o24 := o24.ext l16
      refine s_storeAg rfl sz54 rfl rfl B14 rfl rfl rfl ?_
      intro w17 l18 el18 B14
      have z_l18 := l18.size
      have L := L.fresh l18 (by omega)
      have B1 := B1.ne l18 (by omega)
      have o19 := o19.ne l18 (by first | assumption | exact nin_of f19 g19 (by omega))
      have o21 := o21.ne l18 (by first | assumption | exact nin_of f21 g21 (by omega))
      have o24 := o24.ne l18 (by first | assumption | exact nin_of f24 g24 (by omega))
      refine c_end ?_
      refine n_then ?_
      refine wp_seq ?_
      refine c_reg ?_
      refine s0 (x_move (v := .slice _ _ _) rfl) ?_
      refine sp (zcall cl38 rfl) (l_toIntS _ _ _ _ (hx.ext L) (by omega)) ?_
      rintro v26 w19 l20 ⟨p26, c26, F26, rfl, o26, f26⟩
      have z_l20 := l20.size
      have L := L.tr l20.up
      have B1 := B1.ext l20
      have B14 := B14.ext l20
      have o19 := o19.ext l20
      have o21 := o21.ext l20
      have o24 := o24.ext l20
      have g26 := o26.lt
      refine s0 (x_assign (v := .slice _ _ _) rfl) ?_
      refine c_end ?_
      refine n_then ?_
      refine wp_seq ?_
      refine c_reg ?_
      refine st (x_loadAgB ag54 rfl B14 rfl) ?_
      refine s0 (x_move (v := .slice _ _ _) rfl) ?_
      refine sr (zcall cl39 rfl) (i_mbOk _ _ _ _ _ _ _ _ o24.rd o26.sl (by omega) hb24 (by omega)) ?_
      intro w21 l22
      have z_l22 := l22.size
      have L := L.tr l22.up
      have B1 := B1.ext l22
      have B14 := B14.ext l22
      have o19 := o19.ext l22
      have o21 := o21.ext l22
      have o24 := o24.ext l22
      have o26 := o26.ext l22
      refine s0 (x_assign (v := .bool _) rfl) ?_
      refine c_end ?_
      refine n_then ?_
      refine wp_seq ?_
      refine wp_seq ?_
      refine c_reg ?_
      refine s0 (x_move (v := .bool _) rfl) ?_
      refine s0 (x_move (v := .bool _) rfl) ?_
      refine sb (x_neqb un4 rfl rfl) (fun h32 => ?_) (fun h32 => ?_)
      · exact (h32 (by simp only [hm24, hm19])).elim
      · refine c_end ?_
        refine n_then ?_
        refine c_false rfl ?_
        refine c_skipn ?_
        refine n_then ?_
        refine wp_seq ?_
        refine wp_seq ?_
        refine c_plan (fun wq => Exm [] w21 wq) 5 (.cons (0, 1) (.cons (1, 1) (.cons (2, 0) (.cons (3, 0) (.cons (4, 2) .nil))))) (by kernel_rfl) (by kernel_rfl) (Exm.drew _) ?_
        obtain ⟨w23, hwd⟩ : ∃ x, x = w21.drew := ⟨_, rfl⟩
        have l24 : Ext w21 w23 := by rw [hwd]; exact Exm.drew _
        rw [← hwd]; clear hwd
        have Lq : Exm [] w21 w23 := l24.up
        have qB1 := B1
        have qB14 := B14
        have qo19 := o19
        have qo21 := o21
        have qo24 := o24
        have qo26 := o26
        have qL := L
        have z_l24 := l24.size
        have L := L.tr l24.up
        have B1 := B1.ext l24
        have B14 := B14.ext l24
        have o19 := o19.ext l24
        have o21 := o21.ext l24
        have o24 := o24.ext l24
        have o26 := o26.ext l24
        refine ps rfl (fun wq hwq => x_loadAgB ag54 rfl (qB14.ext hwq) rfl) ?_
        refine ps rfl (fun wq hwq => x_loadAgB ag49 rfl (qB1.ext hwq) rfl) ?_
        refine pu rfl ?_ (by rintro ⟨_, _, h, _⟩; cases h)
        refine sp (zcall cl37 rfl) (l_toMb _ _ _ _ _ (hp.ext L) (by omega) hbA) ?_
        rintro v35 w25 l26 ⟨p35, bs35, c35, F35, rfl, o35, f35, hm35⟩
        have z_l26 := l26.size
        have L := L.tr l26.up
        have Lq := Lq.tr l26.up
        have B1 := B1.ext l26
        have B14 := B14.ext l26
        have o19 := o19.ext l26
        have o21 := o21.ext l26
        have o24 := o24.ext l26
        have o26 := o26.ext l26
        have hb35 := pl_bound hm35 hbA
        have hn35 := map_len hm35
        have g35 := o35.lt
        refine c_end ⟨rfl, fun h hS => Lq, ?_⟩
        refine pu rfl ?_ (by rintro ⟨_, _, h, _⟩; cases h)
        refine srb (zcall cl40 rfl) (l_eqMb _ _ _ _ _ _ _ _ _ o24.rd o35.rd (by omega) hb24) (fun h36 w27 l28 => ?_) (fun h36 w27 l28 => ?_)
        · have z_l28 := l28.size
          have L := L.tr l28.up
          have Lq := Lq.tr l28.up
          have B1 := B1.ext l28
          have B14 := B14.ext l28
          have o19 := o19.ext l28
          have o21 := o21.ext l28
          have o24 := o24.ext l28
          have o26 := o26.ext l28
          have o35 := o35.ext l28
          refine c_end ⟨rfl, fun h hS => Lq, ?_⟩
          refine p0 rfl (x_not rfl) ?_
          refine p_nil (np_normal ?_)
          refine n_then ?_
          refine c_false rfl ?_
          refine c_skipn ?_
          refine n_then ?_
          refine wp_seq ?_
          refine wp_seq ?_
          refine c_reg ?_
          refine s0 (x_move (v := .slice _ _ _) rfl) ?_
          refine s0 (x_move (v := .slice _ _ _) rfl) ?_
          refine sp (zcall cl38 rfl) (l_toIntS _ _ _ _ (hx.ext L) (by omega)) ?_
          rintro v40 w29 l30 ⟨p40, c40, F40, rfl, o40, f40⟩
          have z_l30 := l30.size
          have L := L.tr l30.up
          have B1 := B1.ext l30
          have B14 := B14.ext l30
          have o19 := o19.ext l30
          have o21 := o21.ext l30
          have o24 := o24.ext l30
          have o26 := o26.ext l30
          have o35 := o35.ext l30
          have g40 := o40.lt
          refine srb (zcall cl19 rfl) (l_eqIntS _ _ _ _ _ _ _ o26.sl o40.sl (by omega)) (fun h41 w31 l32 => ?_) (fun h41 w31 l32 => ?_)
          · have z_l32 := l32.size
            have L := L.tr l32.up
            have B1 := B1.ext l32
            have B14 := B14.ext l32
            have o19 := o19.ext l32
            have o21 := o21.ext l32
            have o24 := o24.ext l32
            have o26 := o26.ext l32
            have o35 := o35.ext l32
            have o40 := o40.ext l32
            refine s0 (x_not rfl) ?_
            refine c_end ?_
            refine n_then ?_
            refine c_false rfl ?_
            refine c_skipn ?_
            refine n_then ?_
            refine wp_seq ?_
            refine c_reg ?_
            refine s0 (x_assign (v := .bool _) rfl) ?_
            refine c_end ?_
            refine n_then ?_
            refine wp_ret ?_
            refine f_ret rfl rfl ?_
            exact ⟨rfl, L⟩
          · exact (h41 (by simp)).elim
        · exact (h36 ⟨rfl, hm24.trans hm35.symm⟩).elim

end Go.Proofs.Ytdnckakaoageoaa
