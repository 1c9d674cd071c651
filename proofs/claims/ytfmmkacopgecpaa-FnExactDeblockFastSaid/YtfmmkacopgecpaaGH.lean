/- What each function of this part returns, for every argument that meets its premises. -/
import Derived.Test.YtfmmkacopgecpaaFH
namespace Go.Proofs.Ytfmmkacopgecpaa
open Go.Sx Go.Pl Go.RowKit
theorem ag91 : Ag Try.prog 91 3 := ⟨⟨_, Try.underlying91⟩, by kernel_rfl⟩
theorem cl74 : Callable Try.prog 74 := callable Try.func74 (by kernel_rfl) rfl
theorem cl75 : Callable Try.prog 75 := callable Try.func75 (by kernel_rfl) rfl
theorem cl76 : Callable Try.prog 76 := callable Try.func76 (by kernel_rfl) rfl
theorem cl77 : Callable Try.prog 77 := callable Try.func77 (by kernel_rfl) rfl
theorem cl78 : Callable Try.prog 78 := callable Try.func78 (by kernel_rfl) rfl
theorem cl79 : Callable Try.prog 79 := callable Try.func79 (by kernel_rfl) rfl
theorem cl80 : Callable Try.prog 80 := callable Try.func80 (by kernel_rfl) rfl
/-- laws.FnExactDeblockFast -/
theorem l_fnDeblockFast (W H q : Int) (p : Option Addr) (n c : Nat) (xs : List Int) (w : World) (hp : Sl w p n c 1 (ic xs)) (hl : n ≤ 9223372036854775807) :
    Calls Try.prog 14 [.agg [.int .i64 W, .int .i64 H, .slice p n c].toArray, .int .i64 q].toArray w (Ret w (.bool true)) := by
  have L : Exm [] w w := Exm.rfl'
  refine enter (n := 74) Try.func14 rfl rfl rfl ?_
  refine wp_seq ?_
  refine c_reg ?_
  refine s_box rfl rfl ?_
  intro b1 w2 lob1 hib1 l3 B1
  have z_l3 := l3.size
  have L := L.tr l3.up
  refine s0 (x_assign (v := .bool _) rfl) ?_
  refine c_end ?_
  refine n_then ?_
  refine wp_seq ?_
  refine c_reg ?_
  refine s0 (x_assign (v := .int _ _) rfl) ?_
  refine c_end ?_
  refine n_then ?_
  refine wp_seq ?_
  refine c_reg ?_
  refine st (x_loadAgB ag91 rfl B1 rfl) ?_
  refine s0 (x_move (v := .int _ _) rfl) ?_
  refine sr (zcall cl74 rfl) (l_szFrame _ _ _ _ _ _ _ (by omega) (by omega)) ?_
  intro w4 l5
  have z_l5 := l5.size
  have L := L.tr l5.up
  have B1 := B1.ext l5
  refine s0 (x_assign (v := .int _ _) rfl) ?_
  refine c_end ?_
  refine n_then ?_
  refine wp_seq ?_
  refine wp_seq ?_
  refine c_reg ?_
  refine s0 (x_move (v := .int _ _) rfl) ?_
  refine sb (x_lss rfl rfl) (fun h17 => ?_) (fun h17 => ?_)
  · refine c_end ?_
    refine n_then ?_
    refine c_true rfl ?_
    refine wp_seq ?_
    refine c_reg ?_
    refine s0 (x_assign (v := .bool _) rfl) ?_
    refine c_end ?_
    refine n_then ?_
    refine wp_ret (r_then ?_)
    refine f_ret rfl rfl ?_
    exact ⟨rfl, L⟩
  · refine c_end ?_
    refine n_then ?_
    refine c_false rfl ?_
    refine c_skipn ?_
    refine n_then ?_
    refine wp_seq ?_
    have hs1 := sz_in h17
    refine c_reg ?_
    refine st (x_loadAgB ag91 rfl B1 rfl) ?_
    refine sp (zcall cl76 rfl) (l_toFrame _ _ _ _ _ _ _ (hp.ext L) (by omega)) ?_
    rintro v19 w6 l7 ⟨p19, c19, F19, rfl, o19, f19⟩
    have z_l7 := l7.size
    have L := L.tr l7.up
    have B1 := B1.ext l7
    have g19 := o19.lt
    refine s0 (x_move (v := .int _ _) rfl) ?_
    refine sp (zcall cl75 rfl) (s_deblockFast _ _ _ _ _ _ _ _ o19.sl (by omega)) ?_
    rintro v21 w8 l9 ⟨p21, c21, F21, rfl, o21, f21⟩
    have z_l9 := l9.size
    have L := L.tr l9.up
    have B1 := B1.ext l9
    have o19 := o19.ext l9
    have g21 := o21.lt
    refine s_alloc zr85 ?_
    intro b10 w11 lob10 hib10 l12 B10
    have z_l12 := l12.size
    have L := L.tr l12.up
    have B1 := B1.ext l12
    have o19 := o19.ext l12
    have o21 := o21.ext l12
    refine s_storeAg rfl sz85 rfl rfl B10 rfl rfl rfl ?_
    intro w13 l14 el14 B10
    have z_l14 := l14.size
    have L := L.fresh l14 (by omega)
    have B1 := B1.ne l14 (by omega)
    have o19 := o19.ne l14 (by first | assumption | exact nin_of f19 g19 (by omega))
    have o21 := o21.ne l14 (by first | assumption | exact nin_of f21 g21 (by omega))
    refine c_end ?_
    refine n_then ?_
    refine wp_seq ?_
    refine c_reg ?_
    refine st (x_loadAgB ag91 rfl B1 rfl) ?_
    refine sp (zcall cl76 rfl) (l_toFrame _ _ _ _ _ _ _ (hp.ext L) (by omega)) ?_
    rintro v23 w15 l16 ⟨p23, c23, F23, rfl, o23, f23⟩
    have z_l16 := l16.size
    have L := L.tr l16.up
    have B1 := B1.ext l16
    have B10 := B10.ext l16
    have o19 := o19.ext l16
    have o21 := o21.ext l16
    have g23 := o23.lt
    refine s_alloc zr85 ?_
    intro b17 w18 lob17 hib17 l19 B17
    have z_l19 := l19.size
    have L := L.tr l19.up
    have B1 := B1.ext l19
    have B10 := B10.ext l19
    have o19 := o19.ext l19
    have o21 := o21.ext l19
    have o23 := o23.ext l19
    refine s_storeAg rfl sz85 rfl rfl B17 rfl rfl rfl ?_
    intro w20 l21 el21 B17
    have z_l21 := l21.size
    have L := L.fresh l21 (by omega)
    have B1 := B1.ne l21 (by omega)
    have B10 := B10.ne l21 (by omega)
    have o19 := o19.ne l21 (by first | assumption | exact nin_of f19 g19 (by omega))
    have o21 := o21.ne l21 (by first | assumption | exact nin_of f21 g21 (by omega))
    have o23 := o23.ne l21 (by first | assumption | exact nin_of f23 g23 (by omega))
    refine c_end ?_
    refine n_then ?_
    refine wp_seq ?_
    refine c_reg ?_
    refine st (x_loadAgB ag85 rfl B17 rfl) ?_
    refine s0 (x_move (v := .int _ _) rfl) ?_
    refine sp (zcall cl77 rfl) (i_deblockFast _ _ _ _ _ _ _ _ o23.sl (by omega)) ?_
    rintro v26 w22 l23 ⟨p26, c26, F26, rfl, o26, f26⟩
    have z_l23 := l23.size
    have L := L.tr l23.up
    have B1 := B1.ext l23
    have B10 := B10.ext l23
    have B17 := B17.ext l23
    have o19 := o19.ext l23
    have o21 := o21.ext l23
    have o23 := o23.ext l23
    have g26 := o26.lt
    refine s_alloc zr85 ?_
    intro b24 w25 lob24 hib24 l26 B24
    have z_l26 := l26.size
    have L := L.tr l26.up
    have B1 := B1.ext l26
    have B10 := B10.ext l26
    have B17 := B17.ext l26
    have o19 := o19.ext l26
    have o21 := o21.ext l26
    have o23 := o23.ext l26
    have o26 := o26.ext l26
    refine s_storeAg rfl sz85 rfl rfl B24 rfl rfl rfl ?_
    intro w27 l28 el28 B24
    have z_l28 := l28.size
    have L := L.fresh l28 (by omega)
    have B1 := B1.ne l28 (by omega)
    have B10 := B10.ne l28 (by omega)
    have B17 := B17.ne l28 (by omega)
    have o19 := o19.ne l28 (by first | assumption | exact nin_of f19 g19 (by omega))
    have o21 := o21.ne l28 (by first | assumption | exact nin_of f21 g21 (by omega))
    have o23 := o23.ne l28 (by first | assumption | exact nin_of f23 g23 (by omega))
    have o26 := o26.ne l28 (by first | assumption | exact nin_of f26 g26 (by omega))
    refine c_end ?_
    refine n_then ?_
    refine wp_seq ?_
    refine wp_seq ?_
    refine c_reg ?_
    refine st (x_loadAgB ag85 rfl B24 rfl) ?_
    refine st (x_loadAgB ag85 rfl B10 rfl) ?_
    refine srb (zcall cl78 rfl) (l_eqFrame _ _ _ _ _ _ _ _ _ _ _ _ _ o26.sl o21.sl (by omega)) (fun h29 w29 l30 => ?_) (fun h29 w29 l30 => ?_)
    · have z_l30 := l30.size
      have L := L.tr l30.up
      have B1 := B1.ext l30
      have B10 := B10.ext l30
      have B17 := B17.ext l30
      have B24 := B24.ext l30
      have o19 := o19.ext l30
      have o21 := o21.ext l30
      have o23 := o23.ext l30
      have o26 := o26.ext l30
      refine s0 (x_not rfl) ?_
      refine c_end ?_
      refine n_then ?_
      refine c_false rfl ?_
      refine c_skipn ?_
      refine n_then ?_
      refine wp_seq ?_
      refine wp_seq ?_
      refine c_plan (fun wq => Exm [] w29 wq) 5 (.cons (0, 1) (.cons (1, 1) (.cons (2, 0) (.cons (3, 0) (.cons (4, 2) .nil))))) (by kernel_rfl) (by kernel_rfl) (Exm.drew _) ?_
      obtain ⟨w31, hwd⟩ : ∃ x, x = w29.drew := ⟨_, rfl⟩
      have l32 : Ext w29 w31 := by rw [hwd]; exact Exm.drew _
      rw [← hwd]; clear hwd
      have Lq : Exm [] w29 w31 := l32.up
      have qB1 := B1
      have qB10 := B10
      have qB17 := B17
      have qB24 := B24
      have qo19 := o19
      have qo21 := o21
      have qo23 := o23
      have qo26 := o26
      have qL := L
      have z_l32 := l32.size
      have L := L.tr l32.up
      have B1 := B1.ext l32
      have B10 := B10.ext l32
      have B17 := B17.ext l32
      have B24 := B24.ext l32
      have o19 := o19.ext l32
      have o21 := o21.ext l32
      have o23 := o23.ext l32
      have o26 := o26.ext l32
      refine ps rfl (fun wq hwq => x_loadAgB ag85 rfl (qB17.ext hwq) rfl) ?_
      refine ps rfl (fun wq hwq => x_loadAgB ag91 rfl (qB1.ext hwq) rfl) ?_
      refine pu rfl ?_ (by rintro ⟨_, _, h, _⟩; cases h)
      refine sp (zcall cl76 rfl) (l_toFrame _ _ _ _ _ _ _ (hp.ext L) (by omega)) ?_
      rintro v33 w33 l34 ⟨p33, c33, F33, rfl, o33, f33⟩
      have z_l34 := l34.size
      have L := L.tr l34.up
      have Lq := Lq.tr l34.up
      have B1 := B1.ext l34
      have B10 := B10.ext l34
      have B17 := B17.ext l34
      have B24 := B24.ext l34
      have o19 := o19.ext l34
      have o21 := o21.ext l34
      have o23 := o23.ext l34
      have o26 := o26.ext l34
      have g33 := o33.lt
      refine c_end ⟨rfl, fun h hS => Lq, ?_⟩
      refine pu rfl ?_ (by rintro ⟨_, _, h, _⟩; cases h)
      refine srb (zcall cl78 rfl) (l_eqFrame _ _ _ _ _ _ _ _ _ _ _ _ _ o23.sl o33.sl (by omega)) (fun h34 w35 l36 => ?_) (fun h34 w35 l36 => ?_)
      · have z_l36 := l36.size
        have L := L.tr l36.up
        have Lq := Lq.tr l36.up
        have B1 := B1.ext l36
        have B10 := B10.ext l36
        have B17 := B17.ext l36
        have B24 := B24.ext l36
        have o19 := o19.ext l36
        have o21 := o21.ext l36
        have o23 := o23.ext l36
        have o26 := o26.ext l36
        have o33 := o33.ext l36
        refine c_end ⟨rfl, fun h hS => Lq, ?_⟩
        refine p0 rfl (x_not rfl) ?_
        refine p_nil (np_normal ?_)
        refine n_then ?_
        refine c_false rfl ?_
        refine c_skipn ?_
        refine n_then ?_
        refine wp_seq ?_
        refine c_reg ?_
        refine s0 (x_assign (v := .int _ _) rfl) ?_
        refine c_end ?_
        refine n_then ?_
        refine wp_seq ?_
        refine c_reg ?_
        refine st (x_loadAgB ag85 rfl B17 rfl) ?_
        refine s0 (x_move (v := .int _ _) rfl) ?_
        refine spm (zcall cl79 rfl) (l_markFrame _ _ _ _ _ _ _ _ _ o23 (by omega) (by omega)) ?_
        rintro v38 w37 l38 ⟨rfl, o23⟩
        have z_l38 := l38.size
        have L := L.freshL l38 f23 (by omega)
        have B1 := B1.exm l38 (by first | assumption | exact nin_of f23 g23 (by omega))
        have B10 := B10.exm l38 (by first | assumption | exact nin_of f23 g23 (by omega))
        have B17 := B17.exm l38 (by first | assumption | exact nin_of f23 g23 (by omega))
        have B24 := B24.exm l38 (by first | assumption | exact nin_of f23 g23 (by omega))
        have o19 := o19.exm l38 (by first | assumption | exact Dj.symm (by assumption) | exact dj_of f23 g23 f19 g19 (by omega))
        have o21 := o21.exm l38 (by first | assumption | exact Dj.symm (by assumption) | exact dj_of f23 g23 f21 g21 (by omega))
        have o26 := o26.exm l38 (by first | assumption | exact Dj.symm (by assumption) | exact dj_of f23 g23 f26 g26 (by omega))
        have o33 := o33.exm l38 (by first | assumption | exact Dj.symm (by assumption) | exact dj_of f23 g23 f33 g33 (by omega))
        refine s0 (x_assign (v := .int _ _) rfl) ?_
        refine c_end ?_
        refine n_then ?_
        refine wp_seq ?_
        refine wp_seq ?_
        refine c_reg ?_
        refine s0 (x_move (v := .int _ _) rfl) ?_
        refine sb (x_lss rfl rfl) (fun h40 => ?_) (fun h40 => ?_)
        · omega
        · refine s0 (x_move (v := .bool _) rfl) ?_
          refine gt rfl rfl rfl rfl ?_
          refine st (x_loadAgB ag85 rfl B24 rfl) ?_
          refine gt rfl rfl rfl rfl ?_
          refine st (x_loadAgB ag85 rfl B10 rfl) ?_
          refine gt rfl rfl rfl rfl ?_
          refine srb (zcall cl78 rfl) (l_eqFrame _ _ _ _ _ _ _ _ _ _ _ _ _ o26.sl o21.sl (by omega)) (fun h44 w39 l40 => ?_) (fun h44 w39 l40 => ?_)
          · have z_l40 := l40.size
            have L := L.tr l40.up
            have B1 := B1.ext l40
            have B10 := B10.ext l40
            have B17 := B17.ext l40
            have B24 := B24.ext l40
            have o19 := o19.ext l40
            have o21 := o21.ext l40
            have o23 := o23.ext l40
            have o26 := o26.ext l40
            have o33 := o33.ext l40
            refine gt rfl rfl rfl rfl ?_
            refine s0 (x_not rfl) ?_
            refine s0 (x_pickf (v := .bool _) rfl rfl) ?_
            refine c_end ?_
            refine n_then ?_
            refine c_false rfl ?_
            refine c_skipn ?_
            refine n_then ?_
            refine wp_seq ?_
            refine c_reg ?_
            refine s0 (x_assign (v := .int _ _) rfl) ?_
            refine c_end ?_
            refine n_then ?_
            refine wp_seq ?_
            refine c_reg ?_
            refine st (x_loadAgB ag85 rfl B24 rfl) ?_
            refine s0 (x_move (v := .int _ _) rfl) ?_
            refine spm (zcall cl79 rfl) (l_markFrame _ _ _ _ _ _ _ _ _ o26 (by omega) (by omega)) ?_
            rintro v49 w41 l42 ⟨rfl, o26⟩
            have z_l42 := l42.size
            have L := L.freshL l42 f26 (by omega)
            have B1 := B1.exm l42 (by first | assumption | exact nin_of f26 g26 (by omega))
            have B10 := B10.exm l42 (by first | assumption | exact nin_of f26 g26 (by omega))
            have B17 := B17.exm l42 (by first | assumption | exact nin_of f26 g26 (by omega))
            have B24 := B24.exm l42 (by first | assumption | exact nin_of f26 g26 (by omega))
            have o19 := o19.exm l42 (by first | assumption | exact Dj.symm (by assumption) | exact dj_of f26 g26 f19 g19 (by omega))
            have o21 := o21.exm l42 (by first | assumption | exact Dj.symm (by assumption) | exact dj_of f26 g26 f21 g21 (by omega))
            have o23 := o23.exm l42 (by first | assumption | exact Dj.symm (by assumption) | exact dj_of f26 g26 f23 g23 (by omega))
            have o33 := o33.exm l42 (by first | assumption | exact Dj.symm (by assumption) | exact dj_of f26 g26 f33 g33 (by omega))
            refine s0 (x_assign (v := .int _ _) rfl) ?_
            refine c_end ?_
            refine n_then ?_
            refine wp_seq ?_
            refine c_reg ?_
            refine s0 (x_assign (v := .int _ _) rfl) ?_
            refine c_end ?_
            refine n_then ?_
            refine wp_seq ?_
            refine c_reg ?_
            refine st (x_loadAgB ag85 rfl B24 rfl) ?_
            refine s0 (x_move (v := .int _ _) rfl) ?_
            refine sr (zcall cl80 rfl) (l_heldFrame _ _ _ _ _ _ _ o26.sl (by omega) (by omega)) ?_
            intro w43 l44
            have z_l44 := l44.size
            have L := L.tr l44.up
            have B1 := B1.ext l44
            have B10 := B10.ext l44
            have B17 := B17.ext l44
            have B24 := B24.ext l44
            have o19 := o19.ext l44
            have o21 := o21.ext l44
            have o23 := o23.ext l44
            have o26 := o26.ext l44
            have o33 := o33.ext l44
            refine s0 (x_assign (v := .int _ _) rfl) ?_
            refine c_end ?_
            refine n_then ?_
            refine wp_seq ?_
            refine wp_seq ?_
            refine c_reg ?_
            refine s0 (x_move (v := .int _ _) rfl) ?_
            refine sb (x_lss rfl rfl) (fun h54 => ?_) (fun h54 => ?_)
            · omega
            · refine c_end ?_
              refine n_then ?_
              refine c_false rfl ?_
              refine c_skipn ?_
              refine n_then ?_
              refine wp_seq ?_
              refine wp_seq ?_
              refine c_reg ?_
              refine s0 (x_move (v := .int _ _) rfl) ?_
              refine s0 (x_move (v := .int _ _) rfl) ?_
              refine sb (x_neq rfl rfl) (fun h57 => ?_) (fun h57 => ?_)
              · exact absurd rfl h57
              · refine c_end ?_
                refine n_then ?_
                refine c_false rfl ?_
                refine c_skipn ?_
                refine n_then ?_
                refine wp_seq ?_
                refine c_reg ?_
                refine st (x_loadAgB ag91 rfl B1 rfl) ?_
                refine sp (zcall cl76 rfl) (l_toFrame _ _ _ _ _ _ _ (hp.ext L) (by omega)) ?_
                rintro v59 w45 l46 ⟨p59, c59, F59, rfl, o59, f59⟩
                have z_l46 := l46.size
                have L := L.tr l46.up
                have B1 := B1.ext l46
                have B10 := B10.ext l46
                have B17 := B17.ext l46
                have B24 := B24.ext l46
                have o19 := o19.ext l46
                have o21 := o21.ext l46
                have o23 := o23.ext l46
                have o26 := o26.ext l46
                have o33 := o33.ext l46
                have g59 := o59.lt
                refine s0 (x_move (v := .int _ _) rfl) ?_
                refine sp (zcall cl77 rfl) (i_deblockFast _ _ _ _ _ _ _ _ o59.sl (by omega)) ?_
                rintro v61 w47 l48 ⟨p61, c61, F61, rfl, o61, f61⟩
                have z_l48 := l48.size
                have L := L.tr l48.up
                have B1 := B1.ext l48
                have B10 := B10.ext l48
                have B17 := B17.ext l48
                have B24 := B24.ext l48
                have o19 := o19.ext l48
                have o21 := o21.ext l48
                have o23 := o23.ext l48
                have o26 := o26.ext l48
                have o33 := o33.ext l48
                have o59 := o59.ext l48
                have g61 := o61.lt
                refine s_alloc zr85 ?_
                intro b49 w50 lob49 hib49 l51 B49
                have z_l51 := l51.size
                have L := L.tr l51.up
                have B1 := B1.ext l51
                have B10 := B10.ext l51
                have B17 := B17.ext l51
                have B24 := B24.ext l51
                have o19 := o19.ext l51
                have o21 := o21.ext l51
                have o23 := o23.ext l51
                have o26 := o26.ext l51
                have o33 := o33.ext l51
                have o59 := o59.ext l51
                have o61 := o61.ext l51
                refine s_storeAg rfl sz85 rfl rfl B49 rfl rfl rfl ?_
                intro w52 l53 el53 B49
                have z_l53 := l53.size
                have L := L.fresh l53 (by omega)
                have B1 := B1.ne l53 (by omega)
                have B10 := B10.ne l53 (by omega)
                have B17 := B17.ne l53 (by omega)
                have B24 := B24.ne l53 (by omega)
                have o19 := o19.ne l53 (by first | assumption | exact nin_of f19 g19 (by omega))
                have o21 := o21.ne l53 (by first | assumption | exact nin_of f21 g21 (by omega))
                have o23 := o23.ne l53 (by first | assumption | exact nin_of f23 g23 (by omega))
                have o26 := o26.ne l53 (by first | assumption | exact nin_of f26 g26 (by omega))
                have o33 := o33.ne l53 (by first | assumption | exact nin_of f33 g33 (by omega))
                have o59 := o59.ne l53 (by first | assumption | exact nin_of f59 g59 (by omega))
                have o61 := o61.ne l53 (by first | assumption | exact nin_of f61 g61 (by omega))
                refine c_end ?_
                refine n_then ?_
                refine wp_seq ?_
                refine wp_seq ?_
                refine c_reg ?_
                refine st (x_loadAgB ag85 rfl B49 rfl) ?_
                refine st (x_loadAgB ag85 rfl B10 rfl) ?_
                refine srb (zcall cl78 rfl) (l_eqFrame _ _ _ _ _ _ _ _ _ _ _ _ _ o61.sl o21.sl (by omega)) (fun h64 w54 l55 => ?_) (fun h64 w54 l55 => ?_)
                · have z_l55 := l55.size
                  have L := L.tr l55.up
                  have B1 := B1.ext l55
                  have B10 := B10.ext l55
                  have B17 := B17.ext l55
                  have B24 := B24.ext l55
                  have B49 := B49.ext l55
                  have o19 := o19.ext l55
                  have o21 := o21.ext l55
                  have o23 := o23.ext l55
                  have o26 := o26.ext l55
                  have o33 := o33.ext l55
                  have o59 := o59.ext l55
                  have o61 := o61.ext l55
                  refine s0 (x_not rfl) ?_
                  refine c_end ?_
                  refine n_then ?_
                  refine c_false rfl ?_
                  refine c_skipn ?_
                  refine n_then ?_
                  refine wp_seq ?_
                  refine c_reg ?_
                  refine s0 (x_assign (v := .int _ _) rfl) ?_
                  refine c_end ?_
                  refine n_then ?_
                  refine wp_seq ?_
                  refine c_reg ?_
                  refine st (x_loadAgB ag85 rfl B24 rfl) ?_
                  refine s0 (x_move (v := .int _ _) rfl) ?_
                  refine sr (zcall cl80 rfl) (l_heldFrame _ _ _ _ _ _ _ o26.sl (by omega) (by omega)) ?_
                  intro w56 l57
                  have z_l57 := l57.size
                  have L := L.tr l57.up
                  have B1 := B1.ext l57
                  have B10 := B10.ext l57
                  have B17 := B17.ext l57
                  have B24 := B24.ext l57
                  have B49 := B49.ext l57
                  have o19 := o19.ext l57
                  have o21 := o21.ext l57
                  have o23 := o23.ext l57
                  have o26 := o26.ext l57
                  have o33 := o33.ext l57
                  have o59 := o59.ext l57
                  have o61 := o61.ext l57
                  refine s0 (x_assign (v := .int _ _) rfl) ?_
                  refine c_end ?_
                  refine n_then ?_
                  refine wp_seq ?_
                  refine wp_seq ?_
                  refine c_reg ?_
                  refine s0 (x_move (v := .int _ _) rfl) ?_
                  refine sb (x_lss rfl rfl) (fun h70 => ?_) (fun h70 => ?_)
                  · omega
                  · refine c_end ?_
                    refine n_then ?_
                    refine c_false rfl ?_
                    refine c_skipn ?_
                    refine n_then ?_
                    refine wp_seq ?_
                    refine wp_seq ?_
                    refine c_reg ?_
                    refine s0 (x_move (v := .int _ _) rfl) ?_
                    refine s0 (x_move (v := .int _ _) rfl) ?_
                    refine sb (x_neq rfl rfl) (fun h73 => ?_) (fun h73 => ?_)
                    · exact absurd rfl h73
                    · refine c_end ?_
                      refine n_then ?_
                      refine c_false rfl ?_
                      refine c_skipn ?_
                      refine n_then ?_
                      refine wp_seq ?_
                      refine c_reg ?_
                      refine s0 (x_assign (v := .bool _) rfl) ?_
                      refine c_end ?_
                      refine n_then ?_
                      refine wp_ret ?_
                      refine f_ret rfl rfl ?_
                      exact ⟨rfl, L⟩
                · exact absurd ⟨rfl, rfl, rfl⟩ h64
          · exact absurd ⟨rfl, rfl, rfl⟩ h44
      · exact absurd ⟨rfl, rfl, rfl⟩ h34
    · exact absurd ⟨rfl, rfl, rfl⟩ h29

end Go.Proofs.Ytfmmkacopgecpaa
