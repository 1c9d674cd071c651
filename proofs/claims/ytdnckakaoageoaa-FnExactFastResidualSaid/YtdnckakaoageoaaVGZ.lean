/- What each function of this part returns, for every argument that meets its premises. -/
import Derived.Test.YtdnckakaoageoaaProg
import Derived.Test.YtdnckakaoageoaaVSxF
import Derived.Test.YtdnckakaoageoaaVPlU
import Derived.Test.YtdnckakaoageoaaVF4
import Derived.Test.YtdnckakaoageoaaVFD
import Derived.Test.YtdnckakaoageoaaVFJ
import Derived.Test.YtdnckakaoageoaaVHD
namespace Go.Proofs.Ytdnckakaoageoaa
open Go.Sx Go.Pl Go.RowKit
theorem ag24GZ : Ag Try.prog 24 6 := ⟨⟨_, Try.underlying24⟩, by kernel_rfl⟩
theorem ag27GZ : Ag Try.prog 27 6 := ⟨⟨_, Try.underlying27⟩, by kernel_rfl⟩
theorem cl15GZ : Callable Try.prog 15 := callable Try.func15 (by kernel_rfl) rfl
theorem cl17GZ : Callable Try.prog 17 := callable Try.func17 (by kernel_rfl) rfl
theorem cl19GZ : Callable Try.prog 19 := callable Try.func19 (by kernel_rfl) rfl
theorem cl20GZ : Callable Try.prog 20 := callable Try.func20 (by kernel_rfl) rfl
theorem cl21GZ : Callable Try.prog 21 := callable Try.func21 (by kernel_rfl) rfl
theorem cl22GZ : Callable Try.prog 22 := callable Try.func22 (by kernel_rfl) rfl
theorem cl23GZ : Callable Try.prog 23 := callable Try.func23 (by kernel_rfl) rfl
theorem cl38GZ : Callable Try.prog 38 := callable Try.func38 (by kernel_rfl) rfl
theorem cl87GZ : Callable Try.prog 87 := callable Try.func87 (by kernel_rfl) rfl
theorem cl88GZ : Callable Try.prog 88 := callable Try.func88 (by kernel_rfl) rfl
theorem sz27GZ : Sz Try.prog 27 6 := by unfold Sz; kernel_rfl
theorem un22GZ : Try.prog.underlying 22 = some (.slice 3) := by kernel_rfl
theorem zr27GZ : ZeroV Try.prog 27 [.int .i64 0, .int .i64 0, .int .i64 0, .bool false, .bool false, .slice none 0 0] := by unfold ZeroV; kernel_rfl
/-- laws.FnExactFastResidual -/
theorem l_fnFastResidual (a b q : Int) (y z : Bool) (pA : Option Addr) (zs : List Int) (cA : Nat) (p : Option Addr) (xs : List Int) (c : Nat) (w : World) (hz : Sl w pA zs.length cA 1 (ic zs)) (hp : Sl w p xs.length c 1 (ic xs)) (hlz : zs.length ≤ 9223372036854775807) (hl : xs.length ≤ 9223372036854775807) :
    Calls Try.prog 14 [.agg [.int .i64 a, .int .i64 b, .int .i64 q, .bool y, .bool z, .slice pA zs.length cA].toArray, .slice p xs.length c].toArray w (Ret w (.bool true)) := by
  have L : Exm [] w w := Exm.rfl'
  refine enter (n := 90) Try.func14 rfl rfl rfl ?_
  refine wp_seq ?_
  refine c_reg ?_
  refine s_box rfl rfl ?_
  intro b1 w2 lob1 hib1 l3 B1
  have z_l3 := l3.size
  have L := L.tr l3.up
  refine s0 (x_assign (v := .bool _) rfl) ?_
  refine c_end ?_
  refine n_then ?_
  refine wp_seq ?_
  refine wp_seq ?_
  refine c_reg ?_
  refine s0 (x_move (v := .slice _ _ _) rfl) ?_
  refine s0 (x_lensl un22GZ rfl) ?_
  refine sb (x_gtr rfl rfl) (fun h16 => ?_) (fun h16 => ?_)
  · refine c_end ?_
    refine n_then ?_
    refine c_true rfl ?_
    refine wp_seq ?_
    refine c_reg ?_
    refine s0 (x_assign (v := .bool _) rfl) ?_
    refine c_end ?_
    refine n_then ?_
    refine wp_ret (r_then ?_)
    refine f_ret rfl rfl ?_
    exact ⟨rfl, L⟩
  · refine c_end ?_
    refine n_then ?_
    refine c_false rfl ?_
    refine c_skipn ?_
    refine n_then ?_
    refine wp_seq ?_
    refine c_reg ?_
    refine s0 (x_assign (v := .int _ _) rfl) ?_
    refine c_end ?_
    refine n_then ?_
    refine wp_seq ?_
    refine c_reg ?_
    refine st (x_loadAgB ag24GZ rfl B1 rfl) ?_
    refine s0 (x_move (v := .int _ _) rfl) ?_
    refine sr (zcall cl15GZ rfl) (l_szHeader _ _ _ _ _ _ _ _ _ _ (by omega) (by omega)) ?_
    intro w4 l5
    have z_l5 := l5.size
    have L := L.tr l5.up
    have B1 := B1.ext l5
    refine s0 (x_assign (v := .int _ _) rfl) ?_
    refine c_end ?_
    refine n_then ?_
    refine wp_seq ?_
    refine wp_seq ?_
    refine c_reg ?_
    refine s0 (x_move (v := .int _ _) rfl) ?_
    refine sb (x_lss rfl rfl) (fun h21 => ?_) (fun h21 => ?_)
    · refine c_end ?_
      refine n_then ?_
      refine c_true rfl ?_
      refine wp_seq ?_
      refine c_reg ?_
      refine s0 (x_assign (v := .bool _) rfl) ?_
      refine c_end ?_
      refine n_then ?_
      refine wp_ret (r_then ?_)
      refine f_ret rfl rfl ?_
      exact ⟨rfl, L⟩
    · refine c_end ?_
      refine n_then ?_
      refine c_false rfl ?_
      refine c_skipn ?_
      refine n_then ?_
      refine wp_seq ?_
      have hs1 := sz_in h21
      have hrl := residual_le q y xs
      refine c_reg ?_
      refine st (x_loadAgB ag24GZ rfl B1 rfl) ?_
      refine sp (zcall cl17GZ rfl) (l_toHeader _ _ _ _ _ _ _ _ _ (hz.ext L) (by omega)) ?_
      rintro v23 w6 l7 ⟨p23, c23, F23, rfl, o23, f23⟩
      have z_l7 := l7.size
      have L := L.tr l7.up
      have B1 := B1.ext l7
      have g23 := o23.lt
      refine s0 (x_move (v := .slice _ _ _) rfl) ?_
      refine sp (zcall cl38GZ rfl) (l_toIntS _ _ _ _ (hp.ext L) (by omega)) ?_
      rintro v25 w8 l9 ⟨p25, c25, F25, rfl, o25, f25⟩
      have z_l9 := l9.size
      have L := L.tr l9.up
      have B1 := B1.ext l9
      have o23 := o23.ext l9
      have g25 := o25.lt
      refine sp (zcall cl87GZ rfl) (s_fastResidual _ _ _ _ _ _ _ _ _ _ _ _ o25.sl (by omega)) ?_
      rintro v26 w10 l11 ⟨p26, c26, F26, rfl, o26, f26⟩
      have z_l11 := l11.size
      have L := L.tr l11.up
      have B1 := B1.ext l11
      have o23 := o23.ext l11
      have o25 := o25.ext l11
      have g26 := o26.lt
      refine s0 (x_assign (v := .slice _ _ _) rfl) ?_
      refine c_end ?_
      refine n_then ?_
      refine wp_seq ?_
      refine c_reg ?_
      refine st (x_loadAgB ag24GZ rfl B1 rfl) ?_
      refine sp (zcall cl17GZ rfl) (l_toHeader _ _ _ _ _ _ _ _ _ (hz.ext L) (by omega)) ?_
      rintro v28 w12 l13 ⟨p28, c28, F28, rfl, o28, f28⟩
      have z_l13 := l13.size
      have L := L.tr l13.up
      have B1 := B1.ext l13
      have o23 := o23.ext l13
      have o25 := o25.ext l13
      have o26 := o26.ext l13
      have g28 := o28.lt
      refine s_alloc zr27GZ ?_
      intro b14 w15 lob14 hib14 l16 B14
      have z_l16 := l16.size
      have L := L.tr l16.up
      have B1 := B1.ext l16
      have o23 := o23.ext l16
      have o25 := o25.ext l16
      have o26 := o26.ext l16
      have o28 := o28.ext l16
      refine s_storeAg rfl sz27GZ rfl rfl B14 rfl rfl rfl ?_
      intro w17 l18 el18 B14
      have z_l18 := l18.size
      have L := L.fresh l18 (by omega)
      have B1 := B1.ne l18 (by omega)
      have o23 := o23.ne l18 (by first | assumption | exact nin_of f23 g23 (by omega))
      have o25 := o25.ne l18 (by first | assumption | exact nin_of f25 g25 (by omega))
      have o26 := o26.ne l18 (by first | assumption | exact nin_of f26 g26 (by omega))
      have o28 := o28.ne l18 (by first | assumption | exact nin_of f28 g28 (by omega))
      refine c_end ?_
      refine n_then ?_
      refine wp_seq ?_
      refine c_reg ?_
      refine s0 (x_move (v := .slice _ _ _) rfl) ?_
      refine sp (zcall cl38GZ rfl) (l_toIntS _ _ _ _ (hp.ext L) (by omega)) ?_
      rintro v30 w19 l20 ⟨p30, c30, F30, rfl, o30, f30⟩
      have z_l20 := l20.size
      have L := L.tr l20.up
      have B1 := B1.ext l20
      have B14 := B14.ext l20
      have o23 := o23.ext l20
      have o25 := o25.ext l20
      have o26 := o26.ext l20
      have o28 := o28.ext l20
      have g30 := o30.lt
      refine s0 (x_assign (v := .slice _ _ _) rfl) ?_
      refine c_end ?_
      refine n_then ?_
      refine wp_seq ?_
      refine c_reg ?_
      refine st (x_loadAgB ag27GZ rfl B14 rfl) ?_
      refine s0 (x_move (v := .slice _ _ _) rfl) ?_
      refine sp (zcall cl88GZ rfl) (i_fastResidual _ _ _ _ _ _ _ _ _ _ _ _ o30.sl (by omega)) ?_
      rintro v33 w21 l22 ⟨p33, c33, F33, rfl, o33, f33⟩
      have z_l22 := l22.size
      have L := L.tr l22.up
      have B1 := B1.ext l22
      have B14 := B14.ext l22
      have o23 := o23.ext l22
      have o25 := o25.ext l22
      have o26 := o26.ext l22
      have o28 := o28.ext l22
      have o30 := o30.ext l22
      have g33 := o33.lt
      refine s0 (x_assign (v := .slice _ _ _) rfl) ?_
      refine c_end ?_
      refine n_then ?_
      refine wp_seq ?_
      refine wp_seq ?_
      refine c_reg ?_
      refine s0 (x_move (v := .slice _ _ _) rfl) ?_
      refine s0 (x_move (v := .slice _ _ _) rfl) ?_
      refine srb (zcall cl19GZ rfl) (l_eqIntS _ _ _ _ _ _ _ o33.sl o26.sl (by omega)) (fun h36 w23 l24 => ?_) (fun h36 w23 l24 => ?_)
      · have z_l24 := l24.size
        have L := L.tr l24.up
        have B1 := B1.ext l24
        have B14 := B14.ext l24
        have o23 := o23.ext l24
        have o25 := o25.ext l24
        have o26 := o26.ext l24
        have o28 := o28.ext l24
        have o30 := o30.ext l24
        have o33 := o33.ext l24
        refine s0 (x_not rfl) ?_
        refine c_end ?_
        refine n_then ?_
        refine c_false rfl ?_
        refine c_skipn ?_
        refine n_then ?_
        refine wp_seq ?_
        refine wp_seq ?_
        refine c_plan (fun wq => Exm [] w23 wq) 5 (.cons (0, 1) (.cons (1, 1) (.cons (2, 0) (.cons (3, 0) (.cons (4, 2) .nil))))) (by kernel_rfl) (by kernel_rfl) (Exm.drew _) ?_
        obtain ⟨w25, hwd⟩ : ∃ x, x = w23.drew := ⟨_, rfl⟩
        have l26 : Ext w23 w25 := by rw [hwd]; exact Exm.drew _
        rw [← hwd]; clear hwd
        have Lq : Exm [] w23 w25 := l26.up
        have qB1 := B1
        have qB14 := B14
        have qo23 := o23
        have qo25 := o25
        have qo26 := o26
        have qo28 := o28
        have qo30 := o30
        have qo33 := o33
        have qL := L
        have z_l26 := l26.size
        have L := L.tr l26.up
        have B1 := B1.ext l26
        have B14 := B14.ext l26
        have o23 := o23.ext l26
        have o25 := o25.ext l26
        have o26 := o26.ext l26
        have o28 := o28.ext l26
        have o30 := o30.ext l26
        have o33 := o33.ext l26
        refine ps rfl (fun wq hwq => x_loadAgB ag27GZ rfl (qB14.ext hwq) rfl) ?_
        refine ps rfl (fun wq hwq => x_loadAgB ag24GZ rfl (qB1.ext hwq) rfl) ?_
        refine pu rfl ?_ (by rintro ⟨_, _, h, _⟩; cases h)
        refine sp (zcall cl17GZ rfl) (l_toHeader _ _ _ _ _ _ _ _ _ (hz.ext L) (by omega)) ?_
        rintro v40 w27 l28 ⟨p40, c40, F40, rfl, o40, f40⟩
        have z_l28 := l28.size
        have L := L.tr l28.up
        have Lq := Lq.tr l28.up
        have B1 := B1.ext l28
        have B14 := B14.ext l28
        have o23 := o23.ext l28
        have o25 := o25.ext l28
        have o26 := o26.ext l28
        have o28 := o28.ext l28
        have o30 := o30.ext l28
        have o33 := o33.ext l28
        have g40 := o40.lt
        refine c_end ⟨rfl, fun h hS => Lq, ?_⟩
        refine pu rfl ?_ (by rintro ⟨_, _, h, _⟩; cases h)
        refine srb (zcall cl20GZ rfl) (l_eqHeader _ _ _ _ _ _ _ _ _ _ _ _ _ _ _ _ _ o28.sl o40.sl (by omega)) (fun h41 w29 l30 => ?_) (fun h41 w29 l30 => ?_)
        · have z_l30 := l30.size
          have L := L.tr l30.up
          have Lq := Lq.tr l30.up
          have B1 := B1.ext l30
          have B14 := B14.ext l30
          have o23 := o23.ext l30
          have o25 := o25.ext l30
          have o26 := o26.ext l30
          have o28 := o28.ext l30
          have o30 := o30.ext l30
          have o33 := o33.ext l30
          have o40 := o40.ext l30
          refine c_end ⟨rfl, fun h hS => Lq, ?_⟩
          refine p0 rfl (x_not rfl) ?_
          refine p_nil (np_normal ?_)
          refine n_then ?_
          refine c_false rfl ?_
          refine c_skipn ?_
          refine n_then ?_
          refine wp_seq ?_
          refine wp_seq ?_
          refine c_reg ?_
          refine s0 (x_move (v := .slice _ _ _) rfl) ?_
          refine s0 (x_move (v := .slice _ _ _) rfl) ?_
          refine sp (zcall cl38GZ rfl) (l_toIntS _ _ _ _ (hp.ext L) (by omega)) ?_
          rintro v45 w31 l32 ⟨p45, c45, F45, rfl, o45, f45⟩
          have z_l32 := l32.size
          have L := L.tr l32.up
          have B1 := B1.ext l32
          have B14 := B14.ext l32
          have o23 := o23.ext l32
          have o25 := o25.ext l32
          have o26 := o26.ext l32
          have o28 := o28.ext l32
          have o30 := o30.ext l32
          have o33 := o33.ext l32
          have o40 := o40.ext l32
          have g45 := o45.lt
          refine srb (zcall cl19GZ rfl) (l_eqIntS _ _ _ _ _ _ _ o30.sl o45.sl (by omega)) (fun h46 w33 l34 => ?_) (fun h46 w33 l34 => ?_)
          · have z_l34 := l34.size
            have L := L.tr l34.up
            have B1 := B1.ext l34
            have B14 := B14.ext l34
            have o23 := o23.ext l34
            have o25 := o25.ext l34
            have o26 := o26.ext l34
            have o28 := o28.ext l34
            have o30 := o30.ext l34
            have o33 := o33.ext l34
            have o40 := o40.ext l34
            have o45 := o45.ext l34
            refine s0 (x_not rfl) ?_
            refine c_end ?_
            refine n_then ?_
            refine c_false rfl ?_
            refine c_skipn ?_
            refine n_then ?_
            refine wp_seq ?_
            refine c_reg ?_
            refine s0 (x_assign (v := .int _ _) rfl) ?_
            refine c_end ?_
            refine n_then ?_
            refine wp_seq ?_
            refine c_reg ?_
            refine st (x_loadAgB ag27GZ rfl B14 rfl) ?_
            refine s0 (x_move (v := .int _ _) rfl) ?_
            refine spm (zcall cl21GZ rfl) (l_markHeader _ _ _ _ _ _ _ _ _ _ _ _ o28 (by omega) (by omega)) ?_
            rintro v50 w35 l36 ⟨rfl, o28⟩
            have z_l36 := l36.size
            have L := L.freshL l36 f28 (by omega)
            have B1 := B1.exm l36 (by first | assumption | exact nin_of f28 g28 (by omega))
            have B14 := B14.exm l36 (by first | assumption | exact nin_of f28 g28 (by omega))
            have o23 := o23.exm l36 (by first | assumption | exact Dj.symm (by assumption) | exact dj_of f28 g28 f23 g23 (by omega))
            have o25 := o25.exm l36 (by first | assumption | exact Dj.symm (by assumption) | exact dj_of f28 g28 f25 g25 (by omega))
            have o26 := o26.exm l36 (by first | assumption | exact Dj.symm (by assumption) | exact dj_of f28 g28 f26 g26 (by omega))
            have o30 := o30.exm l36 (by first | assumption | exact Dj.symm (by assumption) | exact dj_of f28 g28 f30 g30 (by omega))
            have o33 := o33.exm l36 (by first | assumption | exact Dj.symm (by assumption) | exact dj_of f28 g28 f33 g33 (by omega))
            have o40 := o40.exm l36 (by first | assumption | exact Dj.symm (by assumption) | exact dj_of f28 g28 f40 g40 (by omega))
            have o45 := o45.exm l36 (by first | assumption | exact Dj.symm (by assumption) | exact dj_of f28 g28 f45 g45 (by omega))
            refine s0 (x_assign (v := .int _ _) rfl) ?_
            refine c_end ?_
            refine n_then ?_
            refine wp_seq ?_
            refine c_reg ?_
            refine s0 (x_move (v := .slice _ _ _) rfl) ?_
            refine s0 (x_move (v := .int _ _) rfl) ?_
            refine spm (zcall cl22GZ rfl) (l_markIntS _ _ _ _ _ _ o30 (by omega) (by omega)) ?_
            rintro v53 w37 l38 ⟨rfl, o30⟩
            have z_l38 := l38.size
            have L := L.freshL l38 f30 (by omega)
            have B1 := B1.exm l38 (by first | assumption | exact nin_of f30 g30 (by omega))
            have B14 := B14.exm l38 (by first | assumption | exact nin_of f30 g30 (by omega))
            have o23 := o23.exm l38 (by first | assumption | exact Dj.symm (by assumption) | exact dj_of f30 g30 f23 g23 (by omega))
            have o25 := o25.exm l38 (by first | assumption | exact Dj.symm (by assumption) | exact dj_of f30 g30 f25 g25 (by omega))
            have o26 := o26.exm l38 (by first | assumption | exact Dj.symm (by assumption) | exact dj_of f30 g30 f26 g26 (by omega))
            have o28 := o28.exm l38 (by first | assumption | exact Dj.symm (by assumption) | exact dj_of f30 g30 f28 g28 (by omega))
            have o33 := o33.exm l38 (by first | assumption | exact Dj.symm (by assumption) | exact dj_of f30 g30 f33 g33 (by omega))
            have o40 := o40.exm l38 (by first | assumption | exact Dj.symm (by assumption) | exact dj_of f30 g30 f40 g40 (by omega))
            have o45 := o45.exm l38 (by first | assumption | exact Dj.symm (by assumption) | exact dj_of f30 g30 f45 g45 (by omega))
            refine s0 (x_assign (v := .int _ _) rfl) ?_
            refine c_end ?_
            refine n_then ?_
            refine wp_seq ?_
            refine wp_seq ?_
            refine c_reg ?_
            refine s0 (x_move (v := .int _ _) rfl) ?_
            refine sb (x_lss rfl rfl) (fun h55 => ?_) (fun h55 => ?_)
            · omega
            · refine s0 (x_move (v := .bool _) rfl) ?_
              refine gt rfl rfl rfl rfl ?_
              refine s0 (x_move (v := .slice _ _ _) rfl) ?_
              refine gt rfl rfl rfl rfl ?_
              refine s0 (x_move (v := .slice _ _ _) rfl) ?_
              refine gt rfl rfl rfl rfl ?_
              refine srb (zcall cl19GZ rfl) (l_eqIntS _ _ _ _ _ _ _ o33.sl o26.sl (by omega)) (fun h59 w39 l40 => ?_) (fun h59 w39 l40 => ?_)
              · have z_l40 := l40.size
                have L := L.tr l40.up
                have B1 := B1.ext l40
                have B14 := B14.ext l40
                have o23 := o23.ext l40
                have o25 := o25.ext l40
                have o26 := o26.ext l40
                have o28 := o28.ext l40
                have o30 := o30.ext l40
                have o33 := o33.ext l40
                have o40 := o40.ext l40
                have o45 := o45.ext l40
                refine gt rfl rfl rfl rfl ?_
                refine s0 (x_not rfl) ?_
                refine s0 (x_pickf (v := .bool _) rfl rfl) ?_
                refine c_end ?_
                refine n_then ?_
                refine c_false rfl ?_
                refine c_skipn ?_
                refine n_then ?_
                refine wp_seq ?_
                refine c_reg ?_
                refine s0 (x_assign (v := .int _ _) rfl) ?_
                refine c_end ?_
                refine n_then ?_
                refine wp_seq ?_
                refine c_reg ?_
                refine s0 (x_move (v := .slice _ _ _) rfl) ?_
                refine s0 (x_move (v := .int _ _) rfl) ?_
                refine spm (zcall cl22GZ rfl) (l_markIntS _ _ _ _ _ _ o33 (by omega) (by omega)) ?_
                rintro v64 w41 l42 ⟨rfl, o33⟩
                have z_l42 := l42.size
                have L := L.freshL l42 f33 (by omega)
                have B1 := B1.exm l42 (by first | assumption | exact nin_of f33 g33 (by omega))
                have B14 := B14.exm l42 (by first | assumption | exact nin_of f33 g33 (by omega))
                have o23 := o23.exm l42 (by first | assumption | exact Dj.symm (by assumption) | exact dj_of f33 g33 f23 g23 (by omega))
                have o25 := o25.exm l42 (by first | assumption | exact Dj.symm (by assumption) | exact dj_of f33 g33 f25 g25 (by omega))
                have o26 := o26.exm l42 (by first | assumption | exact Dj.symm (by assumption) | exact dj_of f33 g33 f26 g26 (by omega))
                have o28 := o28.exm l42 (by first | assumption | exact Dj.symm (by assumption) | exact dj_of f33 g33 f28 g28 (by omega))
                have o30 := o30.exm l42 (by first | assumption | exact Dj.symm (by assumption) | exact dj_of f33 g33 f30 g30 (by omega))
                have o40 := o40.exm l42 (by first | assumption | exact Dj.symm (by assumption) | exact dj_of f33 g33 f40 g40 (by omega))
                have o45 := o45.exm l42 (by first | assumption | exact Dj.symm (by assumption) | exact dj_of f33 g33 f45 g45 (by omega))
                refine s0 (x_assign (v := .int _ _) rfl) ?_
                refine c_end ?_
                refine n_then ?_
                refine wp_seq ?_
                refine c_reg ?_
                refine s0 (x_assign (v := .int _ _) rfl) ?_
                refine c_end ?_
                refine n_then ?_
                refine wp_seq ?_
                refine c_reg ?_
                refine s0 (x_move (v := .slice _ _ _) rfl) ?_
                refine s0 (x_move (v := .int _ _) rfl) ?_
                refine sr (zcall cl23GZ rfl) (l_heldIntS _ _ _ _ _ o33.sl (by omega) (by omega)) ?_
                intro w43 l44
                have z_l44 := l44.size
                have L := L.tr l44.up
                have B1 := B1.ext l44
                have B14 := B14.ext l44
                have o23 := o23.ext l44
                have o25 := o25.ext l44
                have o26 := o26.ext l44
                have o28 := o28.ext l44
                have o30 := o30.ext l44
                have o33 := o33.ext l44
                have o40 := o40.ext l44
                have o45 := o45.ext l44
                refine s0 (x_assign (v := .int _ _) rfl) ?_
                refine c_end ?_
                refine n_then ?_
                refine wp_seq ?_
                refine wp_seq ?_
                refine c_reg ?_
                refine s0 (x_move (v := .int _ _) rfl) ?_
                refine sb (x_lss rfl rfl) (fun h69 => ?_) (fun h69 => ?_)
                · omega
                · refine c_end ?_
                  refine n_then ?_
                  refine c_false rfl ?_
                  refine c_skipn ?_
                  refine n_then ?_
                  refine wp_seq ?_
                  refine wp_seq ?_
                  refine c_reg ?_
                  refine s0 (x_move (v := .int _ _) rfl) ?_
                  refine s0 (x_move (v := .int _ _) rfl) ?_
                  refine sb (x_neq rfl rfl) (fun h72 => ?_) (fun h72 => ?_)
                  · exact absurd rfl h72
                  · refine c_end ?_
                    refine n_then ?_
                    refine c_false rfl ?_
                    refine c_skipn ?_
                    refine n_then ?_
                    refine wp_seq ?_
                    refine c_reg ?_
                    refine st (x_loadAgB ag24GZ rfl B1 rfl) ?_
                    refine sp (zcall cl17GZ rfl) (l_toHeader _ _ _ _ _ _ _ _ _ (hz.ext L) (by omega)) ?_
                    rintro v74 w45 l46 ⟨p74, c74, F74, rfl, o74, f74⟩
                    have z_l46 := l46.size
                    have L := L.tr l46.up
                    have B1 := B1.ext l46
                    have B14 := B14.ext l46
                    have o23 := o23.ext l46
                    have o25 := o25.ext l46
                    have o26 := o26.ext l46
                    have o28 := o28.ext l46
                    have o30 := o30.ext l46
                    have o33 := o33.ext l46
                    have o40 := o40.ext l46
                    have o45 := o45.ext l46
                    have g74 := o74.lt
                    refine s0 (x_move (v := .slice _ _ _) rfl) ?_
                    refine sp (zcall cl38GZ rfl) (l_toIntS _ _ _ _ (hp.ext L) (by omega)) ?_
                    rintro v76 w47 l48 ⟨p76, c76, F76, rfl, o76, f76⟩
                    have z_l48 := l48.size
                    have L := L.tr l48.up
                    have B1 := B1.ext l48
                    have B14 := B14.ext l48
                    have o23 := o23.ext l48
                    have o25 := o25.ext l48
                    have o26 := o26.ext l48
                    have o28 := o28.ext l48
                    have o30 := o30.ext l48
                    have o33 := o33.ext l48
                    have o40 := o40.ext l48
                    have o45 := o45.ext l48
                    have o74 := o74.ext l48
                    have g76 := o76.lt
                    refine sp (zcall cl88GZ rfl) (i_fastResidual _ _ _ _ _ _ _ _ _ _ _ _ o76.sl (by omega)) ?_
                    rintro v77 w49 l50 ⟨p77, c77, F77, rfl, o77, f77⟩
                    have z_l50 := l50.size
                    have L := L.tr l50.up
                    have B1 := B1.ext l50
                    have B14 := B14.ext l50
                    have o23 := o23.ext l50
                    have o25 := o25.ext l50
                    have o26 := o26.ext l50
                    have o28 := o28.ext l50
                    have o30 := o30.ext l50
                    have o33 := o33.ext l50
                    have o40 := o40.ext l50
                    have o45 := o45.ext l50
                    have o74 := o74.ext l50
                    have o76 := o76.ext l50
                    have g77 := o77.lt
                    refine s0 (x_assign (v := .slice _ _ _) rfl) ?_
                    refine c_end ?_
                    refine n_then ?_
                    refine wp_seq ?_
                    refine wp_seq ?_
                    refine c_reg ?_
                    refine s0 (x_move (v := .slice _ _ _) rfl) ?_
                    refine s0 (x_move (v := .slice _ _ _) rfl) ?_
                    refine srb (zcall cl19GZ rfl) (l_eqIntS _ _ _ _ _ _ _ o77.sl o26.sl (by omega)) (fun h80 w51 l52 => ?_) (fun h80 w51 l52 => ?_)
                    · have z_l52 := l52.size
                      have L := L.tr l52.up
                      have B1 := B1.ext l52
                      have B14 := B14.ext l52
                      have o23 := o23.ext l52
                      have o25 := o25.ext l52
                      have o26 := o26.ext l52
                      have o28 := o28.ext l52
                      have o30 := o30.ext l52
                      have o33 := o33.ext l52
                      have o40 := o40.ext l52
                      have o45 := o45.ext l52
                      have o74 := o74.ext l52
                      have o76 := o76.ext l52
                      have o77 := o77.ext l52
                      refine s0 (x_not rfl) ?_
                      refine c_end ?_
                      refine n_then ?_
                      refine c_false rfl ?_
                      refine c_skipn ?_
                      refine n_then ?_
                      refine wp_seq ?_
                      refine c_reg ?_
                      refine s0 (x_assign (v := .int _ _) rfl) ?_
                      refine c_end ?_
                      refine n_then ?_
                      refine wp_seq ?_
                      refine c_reg ?_
                      refine s0 (x_move (v := .slice _ _ _) rfl) ?_
                      refine s0 (x_move (v := .int _ _) rfl) ?_
                      refine sr (zcall cl23GZ rfl) (l_heldIntS _ _ _ _ _ o33.sl (by omega) (by omega)) ?_
                      intro w53 l54
                      have z_l54 := l54.size
                      have L := L.tr l54.up
                      have B1 := B1.ext l54
                      have B14 := B14.ext l54
                      have o23 := o23.ext l54
                      have o25 := o25.ext l54
                      have o26 := o26.ext l54
                      have o28 := o28.ext l54
                      have o30 := o30.ext l54
                      have o33 := o33.ext l54
                      have o40 := o40.ext l54
                      have o45 := o45.ext l54
                      have o74 := o74.ext l54
                      have o76 := o76.ext l54
                      have o77 := o77.ext l54
                      refine s0 (x_assign (v := .int _ _) rfl) ?_
                      refine c_end ?_
                      refine n_then ?_
                      refine wp_seq ?_
                      refine wp_seq ?_
                      refine c_reg ?_
                      refine s0 (x_move (v := .int _ _) rfl) ?_
                      refine sb (x_lss rfl rfl) (fun h86 => ?_) (fun h86 => ?_)
                      · omega
                      · refine c_end ?_
                        refine n_then ?_
                        refine c_false rfl ?_
                        refine c_skipn ?_
                        refine n_then ?_
                        refine wp_seq ?_
                        refine wp_seq ?_
                        refine c_reg ?_
                        refine s0 (x_move (v := .int _ _) rfl) ?_
                        refine s0 (x_move (v := .int _ _) rfl) ?_
                        refine sb (x_neq rfl rfl) (fun h89 => ?_) (fun h89 => ?_)
                        · exact absurd rfl h89
                        · refine c_end ?_
                          refine n_then ?_
                          refine c_false rfl ?_
                          refine c_skipn ?_
                          refine n_then ?_
                          refine wp_seq ?_
                          refine c_reg ?_
                          refine s0 (x_assign (v := .bool _) rfl) ?_
                          refine c_end ?_
                          refine n_then ?_
                          refine wp_ret ?_
                          refine f_ret rfl rfl ?_
                          exact ⟨rfl, L⟩
                    · exact (h80 (by simp)).elim
              · exact (h59 (by simp)).elim
          · exact (h46 (by simp)).elim
        · exact (h41 (by simp)).elim
      · exact (h36 (by simp)).elim

end Go.Proofs.Ytdnckakaoageoaa
