/- What each function of this part returns, for every argument that meets its premises. -/
import Derived.Test.YtdnckakaoageoaaFK
namespace Go.Proofs.Ytdnckakaoageoaa
open Go.Sx Go.Pl Go.RowKit
theorem ag60 : Ag Try.prog 60 4 := ⟨⟨_, Try.underlying60⟩, by kernel_rfl⟩
theorem cl41 : Callable Try.prog 41 := callable Try.func41 (by kernel_rfl) rfl
theorem cl42 : Callable Try.prog 42 := callable Try.func42 (by kernel_rfl) rfl
theorem cl43 : Callable Try.prog 43 := callable Try.func43 (by kernel_rfl) rfl
theorem cl44 : Callable Try.prog 44 := callable Try.func44 (by kernel_rfl) rfl
theorem cl45 : Callable Try.prog 45 := callable Try.func45 (by kernel_rfl) rfl
theorem cl46 : Callable Try.prog 46 := callable Try.func46 (by kernel_rfl) rfl
theorem cl47 : Callable Try.prog 47 := callable Try.func47 (by kernel_rfl) rfl
theorem cl48 : Callable Try.prog 48 := callable Try.func48 (by kernel_rfl) rfl
theorem cl56 : Callable Try.prog 56 := callable Try.func56 (by kernel_rfl) rfl
theorem cl73 : Callable Try.prog 73 := callable Try.func73 (by kernel_rfl) rfl
theorem cl76 : Callable Try.prog 76 := callable Try.func76 (by kernel_rfl) rfl
/-- laws.FnExactBlockBits -/
theorem l_fnBlockBits (m : Int) (q : Option Addr) (ys : List Int) (d : Nat) (n : Int) (p : Option Addr) (xs : List Int) (c : Nat) (w : World) (hp : Sl w p xs.length c 1 (ic xs)) (hl : xs.length ≤ 9223372036854775807) (hq : Sl w q ys.length d 1 (ic ys)) (hl2 : ys.length ≤ 9223372036854775807) :
    Calls Try.prog 10 [.agg [.int .i64 m, .slice q ys.length d].toArray, .slice p xs.length c, .int .i64 n].toArray w (Ret w (.bool true)) := by
  have L : Exm [] w w := Exm.rfl'
  refine enter (n := 95) Try.func10 rfl rfl rfl ?_
  refine wp_seq ?_
  refine c_reg ?_
  refine s_box rfl rfl ?_
  intro b1 w2 lob1 hib1 l3 B1
  have z_l3 := l3.size
  have L := L.tr l3.up
  refine s0 (x_assign (v := .bool _) rfl) ?_
  refine c_end ?_
  refine n_then ?_
  refine wp_seq ?_
  refine wp_seq ?_
  refine c_reg ?_
  refine s0 (x_move (v := .slice _ _ _) rfl) ?_
  refine s0 (x_lensl un22 rfl) ?_
  refine sb (x_gtr rfl rfl) (fun h18 => ?_) (fun h18 => ?_)
  · refine c_end ?_
    refine n_then ?_
    refine c_true rfl ?_
    refine wp_seq ?_
    refine c_reg ?_
    refine s0 (x_assign (v := .bool _) rfl) ?_
    refine c_end ?_
    refine n_then ?_
    refine wp_ret (r_then ?_)
    refine f_ret rfl rfl ?_
    exact ⟨rfl, L⟩
  · refine c_end ?_
    refine n_then ?_
    refine c_false rfl ?_
    refine c_skipn ?_
    refine n_then ?_
    refine wp_seq ?_
    refine c_reg ?_
    refine s0 (x_assign (v := .int _ _) rfl) ?_
    refine c_end ?_
    refine n_then ?_
    refine wp_seq ?_
    refine c_reg ?_
    refine st (x_loadAgB ag102 rfl B1 rfl) ?_
    refine s0 (x_move (v := .int _ _) rfl) ?_
    refine sr (zcall cl72 rfl) (l_szBlock _ _ _ _ _ _ (by omega) (by omega)) ?_
    intro w4 l5
    have z_l5 := l5.size
    have L := L.tr l5.up
    have B1 := B1.ext l5
    refine s0 (x_assign (v := .int _ _) rfl) ?_
    refine c_end ?_
    refine n_then ?_
    refine wp_seq ?_
    refine wp_seq ?_
    refine c_reg ?_
    refine s0 (x_move (v := .int _ _) rfl) ?_
    refine sb (x_lss rfl rfl) (fun h23 => ?_) (fun h23 => ?_)
    · refine c_end ?_
      refine n_then ?_
      refine c_true rfl ?_
      refine wp_seq ?_
      refine c_reg ?_
      refine s0 (x_assign (v := .bool _) rfl) ?_
      refine c_end ?_
      refine n_then ?_
      refine wp_ret (r_then ?_)
      refine f_ret rfl rfl ?_
      exact ⟨rfl, L⟩
    · refine c_end ?_
      refine n_then ?_
      refine c_false rfl ?_
      refine c_skipn ?_
      refine n_then ?_
      refine wp_seq ?_
      have hs1 := sz_in h23
      have hbl := blockBits_le m ys xs n
      refine c_reg ?_
      refine st (x_loadAgB ag102 rfl B1 rfl) ?_
      refine sp (zcall cl74 rfl) (l_toBlock _ _ _ _ _ (hq.ext L) (by omega)) ?_
      rintro v25 w6 l7 ⟨p25, c25, F25, rfl, o25, f25⟩
      have z_l7 := l7.size
      have L := L.tr l7.up
      have B1 := B1.ext l7
      have g25 := o25.lt
      refine s0 (x_move (v := .slice _ _ _) rfl) ?_
      refine sp (zcall cl38 rfl) (l_toIntS _ _ _ _ (hp.ext L) (by omega)) ?_
      rintro v27 w8 l9 ⟨p27, c27, F27, rfl, o27, f27⟩
      have z_l9 := l9.size
      have L := L.tr l9.up
      have B1 := B1.ext l9
      have o25 := o25.ext l9
      have g27 := o27.lt
      refine s0 (x_move (v := .int _ _) rfl) ?_
      refine sp (zcall cl73 rfl) (s_blockBits _ _ _ _ _ _ _ _ _ o27.sl (by omega) o25.sl (by omega)) ?_
      rintro v29 w10 l11 ⟨p29, c29, F29, rfl, o29, f29⟩
      have z_l11 := l11.size
      have L := L.tr l11.up
      have B1 := B1.ext l11
      have o25 := o25.ext l11
      have o27 := o27.ext l11
      have g29 := o29.lt
      refine s0 (x_assign (v := .slice _ _ _) rfl) ?_
      refine c_end ?_
      refine n_then ?_
      refine wp_seq ?_
      refine c_reg ?_
      refine st (x_loadAgB ag102 rfl B1 rfl) ?_
      refine sp (zcall cl74 rfl) (l_toBlock _ _ _ _ _ (hq.ext L) (by omega)) ?_
      rintro v31 w12 l13 ⟨p31, c31, F31, rfl, o31, f31⟩
      have z_l13 := l13.size
      have L := L.tr l13.up
      have B1 := B1.ext l13
      have o25 := o25.ext l13
      have o27 := o27.ext l13
      have o29 := o29.ext l13
      have g31 := o31.lt
      refine s_alloc zr81 ?_
      intro b14 w15 lob14 hib14 l16 B14
      have z_l16 := l16.size
      have L := L.tr l16.up
      have B1 := B1.ext l16
      have o25 := o25.ext l16
      have o27 := o27.ext l16
      have o29 := o29.ext l16
      have o31 := o31.ext l16
      refine s_storeAg rfl sz81 rfl rfl B14 rfl rfl rfl ?_
      intro w17 l18 el18 B14
      have z_l18 := l18.size
      have L := L.fresh l18 (by omega)
      have B1 := B1.ne l18 (by omega)
      have o25 := o25.ne l18 (by first | assumption | exact nin_of f25 g25 (by omega))
      have o27 := o27.ne l18 (by first | assumption | exact nin_of f27 g27 (by omega))
      have o29 := o29.ne l18 (by first | assumption | exact nin_of f29 g29 (by omega))
      have o31 := o31.ne l18 (by first | assumption | exact nin_of f31 g31 (by omega))
      refine c_end ?_
      refine n_then ?_
      refine wp_seq ?_
      refine c_reg ?_
      refine s0 (x_move (v := .slice _ _ _) rfl) ?_
      refine sp (zcall cl38 rfl) (l_toIntS _ _ _ _ (hp.ext L) (by omega)) ?_
      rintro v33 w19 l20 ⟨p33, c33, F33, rfl, o33, f33⟩
      have z_l20 := l20.size
      have L := L.tr l20.up
      have B1 := B1.ext l20
      have B14 := B14.ext l20
      have o25 := o25.ext l20
      have o27 := o27.ext l20
      have o29 := o29.ext l20
      have o31 := o31.ext l20
      have g33 := o33.lt
      refine s0 (x_assign (v := .slice _ _ _) rfl) ?_
      refine c_end ?_
      refine n_then ?_
      refine wp_seq ?_
      refine c_reg ?_
      refine st (x_loadAgB ag81 rfl B14 rfl) ?_
      refine s0 (x_move (v := .slice _ _ _) rfl) ?_
      refine s0 (x_move (v := .int _ _) rfl) ?_
      refine sp (zcall cl56 rfl) (i_blockBits _ _ _ _ _ _ _ _ _ o33.sl (by omega) o31.sl (by omega)) ?_
      rintro v37 w21 l22 ⟨p37, c37, F37, rfl, o37, f37⟩
      have z_l22 := l22.size
      have L := L.tr l22.up
      have B1 := B1.ext l22
      have B14 := B14.ext l22
      have o25 := o25.ext l22
      have o27 := o27.ext l22
      have o29 := o29.ext l22
      have o31 := o31.ext l22
      have o33 := o33.ext l22
      have g37 := o37.lt
      refine s0 (x_assign (v := .slice _ _ _) rfl) ?_
      refine c_end ?_
      refine n_then ?_
      refine wp_seq ?_
      refine wp_seq ?_
      refine c_reg ?_
      refine s0 (x_move (v := .slice _ _ _) rfl) ?_
      refine s0 (x_move (v := .slice _ _ _) rfl) ?_
      refine srb (zcall cl19 rfl) (l_eqIntS _ _ _ _ _ _ _ o37.sl o29.sl (by omega)) (fun h40 w23 l24 => ?_) (fun h40 w23 l24 => ?_)
      · have z_l24 := l24.size
        have L := L.tr l24.up
        have B1 := B1.ext l24
        have B14 := B14.ext l24
        have o25 := o25.ext l24
        have o27 := o27.ext l24
        have o29 := o29.ext l24
        have o31 := o31.ext l24
        have o33 := o33.ext l24
        have o37 := o37.ext l24
        refine s0 (x_not rfl) ?_
        refine c_end ?_
        refine n_then ?_
        refine c_false rfl ?_
        refine c_skipn ?_
        refine n_then ?_
        refine wp_seq ?_
        refine wp_seq ?_
        refine c_plan (fun wq => Exm [] w23 wq) 5 (.cons (0, 1) (.cons (1, 1) (.cons (2, 0) (.cons (3, 0) (.cons (4, 2) .nil))))) (by kernel_rfl) (by kernel_rfl) (Exm.drew _) ?_
        obtain ⟨w25, hwd⟩ : ∃ x, x = w23.drew := ⟨_, rfl⟩
        have l26 : Ext w23 w25 := by rw [hwd]; exact Exm.drew _
        rw [← hwd]; clear hwd
        have Lq : Exm [] w23 w25 := l26.up
        have qB1 := B1
        have qB14 := B14
        have qo25 := o25
        have qo27 := o27
        have qo29 := o29
        have qo31 := o31
        have qo33 := o33
        have qo37 := o37
        have qL := L
        have z_l26 := l26.size
        have L := L.tr l26.up
        have B1 := B1.ext l26
        have B14 := B14.ext l26
        have o25 := o25.ext l26
        have o27 := o27.ext l26
        have o29 := o29.ext l26
        have o31 := o31.ext l26
        have o33 := o33.ext l26
        have o37 := o37.ext l26
        refine ps rfl (fun wq hwq => x_loadAgB ag81 rfl (qB14.ext hwq) rfl) ?_
        refine ps rfl (fun wq hwq => x_loadAgB ag102 rfl (qB1.ext hwq) rfl) ?_
        refine pu rfl ?_ (by rintro ⟨_, _, h, _⟩; cases h)
        refine sp (zcall cl74 rfl) (l_toBlock _ _ _ _ _ (hq.ext L) (by omega)) ?_
        rintro v44 w27 l28 ⟨p44, c44, F44, rfl, o44, f44⟩
        have z_l28 := l28.size
        have L := L.tr l28.up
        have Lq := Lq.tr l28.up
        have B1 := B1.ext l28
        have B14 := B14.ext l28
        have o25 := o25.ext l28
        have o27 := o27.ext l28
        have o29 := o29.ext l28
        have o31 := o31.ext l28
        have o33 := o33.ext l28
        have o37 := o37.ext l28
        have g44 := o44.lt
        refine c_end ⟨rfl, fun h hS => Lq, ?_⟩
        refine pu rfl ?_ (by rintro ⟨_, _, h, _⟩; cases h)
        refine srb (zcall cl75 rfl) (l_eqBlock _ _ _ _ _ _ _ _ _ o31.sl o44.sl (by omega)) (fun h45 w29 l30 => ?_) (fun h45 w29 l30 => ?_)
        · have z_l30 := l30.size
          have L := L.tr l30.up
          have Lq := Lq.tr l30.up
          have B1 := B1.ext l30
          have B14 := B14.ext l30
          have o25 := o25.ext l30
          have o27 := o27.ext l30
          have o29 := o29.ext l30
          have o31 := o31.ext l30
          have o33 := o33.ext l30
          have o37 := o37.ext l30
          have o44 := o44.ext l30
          refine c_end ⟨rfl, fun h hS => Lq, ?_⟩
          refine p0 rfl (x_not rfl) ?_
          refine p_nil (np_normal ?_)
          refine n_then ?_
          refine c_false rfl ?_
          refine c_skipn ?_
          refine n_then ?_
          refine wp_seq ?_
          refine wp_seq ?_
          refine c_reg ?_
          refine s0 (x_move (v := .slice _ _ _) rfl) ?_
          refine s0 (x_move (v := .slice _ _ _) rfl) ?_
          refine sp (zcall cl38 rfl) (l_toIntS _ _ _ _ (hp.ext L) (by omega)) ?_
          rintro v49 w31 l32 ⟨p49, c49, F49, rfl, o49, f49⟩
          have z_l32 := l32.size
          have L := L.tr l32.up
          have B1 := B1.ext l32
          have B14 := B14.ext l32
          have o25 := o25.ext l32
          have o27 := o27.ext l32
          have o29 := o29.ext l32
          have o31 := o31.ext l32
          have o33 := o33.ext l32
          have o37 := o37.ext l32
          have o44 := o44.ext l32
          have g49 := o49.lt
          refine srb (zcall cl19 rfl) (l_eqIntS _ _ _ _ _ _ _ o33.sl o49.sl (by omega)) (fun h50 w33 l34 => ?_) (fun h50 w33 l34 => ?_)
          · have z_l34 := l34.size
            have L := L.tr l34.up
            have B1 := B1.ext l34
            have B14 := B14.ext l34
            have o25 := o25.ext l34
            have o27 := o27.ext l34
            have o29 := o29.ext l34
            have o31 := o31.ext l34
            have o33 := o33.ext l34
            have o37 := o37.ext l34
            have o44 := o44.ext l34
            have o49 := o49.ext l34
            refine s0 (x_not rfl) ?_
            refine c_end ?_
            refine n_then ?_
            refine c_false rfl ?_
            refine c_skipn ?_
            refine n_then ?_
            refine wp_seq ?_
            refine c_reg ?_
            refine s0 (x_assign (v := .int _ _) rfl) ?_
            refine c_end ?_
            refine n_then ?_
            refine wp_seq ?_
            refine c_reg ?_
            refine st (x_loadAgB ag81 rfl B14 rfl) ?_
            refine s0 (x_move (v := .int _ _) rfl) ?_
            refine spm (zcall cl76 rfl) (l_markBlock _ _ _ _ _ _ _ _ o31 (by omega) (by omega)) ?_
            rintro v54 w35 l36 ⟨rfl, o31⟩
            have z_l36 := l36.size
            have L := L.freshL l36 f31 (by omega)
            have B1 := B1.exm l36 (by first | assumption | exact nin_of f31 g31 (by omega))
            have B14 := B14.exm l36 (by first | assumption | exact nin_of f31 g31 (by omega))
            have o25 := o25.exm l36 (by first | assumption | exact Dj.symm (by assumption) | exact dj_of f31 g31 f25 g25 (by omega))
            have o27 := o27.exm l36 (by first | assumption | exact Dj.symm (by assumption) | exact dj_of f31 g31 f27 g27 (by omega))
            have o29 := o29.exm l36 (by first | assumption | exact Dj.symm (by assumption) | exact dj_of f31 g31 f29 g29 (by omega))
            have o33 := o33.exm l36 (by first | assumption | exact Dj.symm (by assumption) | exact dj_of f31 g31 f33 g33 (by omega))
            have o37 := o37.exm l36 (by first | assumption | exact Dj.symm (by assumption) | exact dj_of f31 g31 f37 g37 (by omega))
            have o44 := o44.exm l36 (by first | assumption | exact Dj.symm (by assumption) | exact dj_of f31 g31 f44 g44 (by omega))
            have o49 := o49.exm l36 (by first | assumption | exact Dj.symm (by assumption) | exact dj_of f31 g31 f49 g49 (by omega))
            refine s0 (x_assign (v := .int _ _) rfl) ?_
            refine c_end ?_
            refine n_then ?_
            refine wp_seq ?_
            refine c_reg ?_
            refine s0 (x_move (v := .slice _ _ _) rfl) ?_
            refine s0 (x_move (v := .int _ _) rfl) ?_
            refine spm (zcall cl22 rfl) (l_markIntS _ _ _ _ _ _ o33 (by omega) (by omega)) ?_
            rintro v57 w37 l38 ⟨rfl, o33⟩
            have z_l38 := l38.size
            have L := L.freshL l38 f33 (by omega)
            have B1 := B1.exm l38 (by first | assumption | exact nin_of f33 g33 (by omega))
            have B14 := B14.exm l38 (by first | assumption | exact nin_of f33 g33 (by omega))
            have o25 := o25.exm l38 (by first | assumption | exact Dj.symm (by assumption) | exact dj_of f33 g33 f25 g25 (by omega))
            have o27 := o27.exm l38 (by first | assumption | exact Dj.symm (by assumption) | exact dj_of f33 g33 f27 g27 (by omega))
            have o29 := o29.exm l38 (by first | assumption | exact Dj.symm (by assumption) | exact dj_of f33 g33 f29 g29 (by omega))
            have o31 := o31.exm l38 (by first | assumption | exact Dj.symm (by assumption) | exact dj_of f33 g33 f31 g31 (by omega))
            have o37 := o37.exm l38 (by first | assumption | exact Dj.symm (by assumption) | exact dj_of f33 g33 f37 g37 (by omega))
            have o44 := o44.exm l38 (by first | assumption | exact Dj.symm (by assumption) | exact dj_of f33 g33 f44 g44 (by omega))
            have o49 := o49.exm l38 (by first | assumption | exact Dj.symm (by assumption) | exact dj_of f33 g33 f49 g49 (by omega))
            refine s0 (x_assign (v := .int _ _) rfl) ?_
            refine c_end ?_
            refine n_then ?_
            refine wp_seq ?_
            refine wp_seq ?_
            refine c_reg ?_
            refine s0 (x_move (v := .int _ _) rfl) ?_
            refine sb (x_lss rfl rfl) (fun h59 => ?_) (fun h59 => ?_)
            · omega
            · refine s0 (x_move (v := .bool _) rfl) ?_
              refine gt rfl rfl rfl rfl ?_
              refine s0 (x_move (v := .slice _ _ _) rfl) ?_
              refine gt rfl rfl rfl rfl ?_
              refine s0 (x_move (v := .slice _ _ _) rfl) ?_
              refine gt rfl rfl rfl rfl ?_
              refine srb (zcall cl19 rfl) (l_eqIntS _ _ _ _ _ _ _ o37.sl o29.sl (by omega)) (fun h63 w39 l40 => ?_) (fun h63 w39 l40 => ?_)
              · have z_l40 := l40.size
                have L := L.tr l40.up
                have B1 := B1.ext l40
                have B14 := B14.ext l40
                have o25 := o25.ext l40
                have o27 := o27.ext l40
                have o29 := o29.ext l40
                have o31 := o31.ext l40
                have o33 := o33.ext l40
                have o37 := o37.ext l40
                have o44 := o44.ext l40
                have o49 := o49.ext l40
                refine gt rfl rfl rfl rfl ?_
                refine s0 (x_not rfl) ?_
                refine s0 (x_pickf (v := .bool _) rfl rfl) ?_
                refine c_end ?_
                refine n_then ?_
                refine c_false rfl ?_
                refine c_skipn ?_
                refine n_then ?_
                refine wp_seq ?_
                refine c_reg ?_
                refine s0 (x_assign (v := .int _ _) rfl) ?_
                refine c_end ?_
                refine n_then ?_
                refine wp_seq ?_
                refine c_reg ?_
                refine s0 (x_move (v := .slice _ _ _) rfl) ?_
                refine s0 (x_move (v := .int _ _) rfl) ?_
                refine spm (zcall cl22 rfl) (l_markIntS _ _ _ _ _ _ o37 (by omega) (by omega)) ?_
                rintro v68 w41 l42 ⟨rfl, o37⟩
                have z_l42 := l42.size
                have L := L.freshL l42 f37 (by omega)
                have B1 := B1.exm l42 (by first | assumption | exact nin_of f37 g37 (by omega))
                have B14 := B14.exm l42 (by first | assumption | exact nin_of f37 g37 (by omega))
                have o25 := o25.exm l42 (by first | assumption | exact Dj.symm (by assumption) | exact dj_of f37 g37 f25 g25 (by omega))
                have o27 := o27.exm l42 (by first | assumption | exact Dj.symm (by assumption) | exact dj_of f37 g37 f27 g27 (by omega))
                have o29 := o29.exm l42 (by first | assumption | exact Dj.symm (by assumption) | exact dj_of f37 g37 f29 g29 (by omega))
                have o31 := o31.exm l42 (by first | assumption | exact Dj.symm (by assumption) | exact dj_of f37 g37 f31 g31 (by omega))
                have o33 := o33.exm l42 (by first | assumption | exact Dj.symm (by assumption) | exact dj_of f37 g37 f33 g33 (by omega))
                have o44 := o44.exm l42 (by first | assumption | exact Dj.symm (by assumption) | exact dj_of f37 g37 f44 g44 (by omega))
                have o49 := o49.exm l42 (by first | assumption | exact Dj.symm (by assumption) | exact dj_of f37 g37 f49 g49 (by omega))
                refine s0 (x_assign (v := .int _ _) rfl) ?_
                refine c_end ?_
                refine n_then ?_
                refine wp_seq ?_
                refine c_reg ?_
                refine s0 (x_assign (v := .int _ _) rfl) ?_
                refine c_end ?_
                refine n_then ?_
                refine wp_seq ?_
                refine c_reg ?_
                refine s0 (x_move (v := .slice _ _ _) rfl) ?_
                refine s0 (x_move (v := .int _ _) rfl) ?_
                refine sr (zcall cl23 rfl) (l_heldIntS _ _ _ _ _ o37.sl (by omega) (by omega)) ?_
                intro w43 l44
                have z_l44 := l44.size
                have L := L.tr l44.up
                have B1 := B1.ext l44
                have B14 := B14.ext l44
                have o25 := o25.ext l44
                have o27 := o27.ext l44
                have o29 := o29.ext l44
                have o31 := o31.ext l44
                have o33 := o33.ext l44
                have o37 := o37.ext l44
                have o44 := o44.ext l44
                have o49 := o49.ext l44
                refine s0 (x_assign (v := .int _ _) rfl) ?_
                refine c_end ?_
                refine n_then ?_
                refine wp_seq ?_
                refine wp_seq ?_
                refine c_reg ?_
                refine s0 (x_move (v := .int _ _) rfl) ?_
                refine sb (x_lss rfl rfl) (fun h73 => ?_) (fun h73 => ?_)
                · omega
                · refine c_end ?_
                  refine n_then ?_
                  refine c_false rfl ?_
                  refine c_skipn ?_
                  refine n_then ?_
                  refine wp_seq ?_
                  refine wp_seq ?_
                  refine c_reg ?_
                  refine s0 (x_move (v := .int _ _) rfl) ?_
                  refine s0 (x_move (v := .int _ _) rfl) ?_
                  refine sb (x_neq rfl rfl) (fun h76 => ?_) (fun h76 => ?_)
                  · exact absurd rfl h76
                  · refine c_end ?_
                    refine n_then ?_
                    refine c_false rfl ?_
                    refine c_skipn ?_
                    refine n_then ?_
                    refine wp_seq ?_
                    refine c_reg ?_
                    refine st (x_loadAgB ag102 rfl B1 rfl) ?_
                    refine sp (zcall cl74 rfl) (l_toBlock _ _ _ _ _ (hq.ext L) (by omega)) ?_
                    rintro v78 w45 l46 ⟨p78, c78, F78, rfl, o78, f78⟩
                    have z_l46 := l46.size
                    have L := L.tr l46.up
                    have B1 := B1.ext l46
                    have B14 := B14.ext l46
                    have o25 := o25.ext l46
                    have o27 := o27.ext l46
                    have o29 := o29.ext l46
                    have o31 := o31.ext l46
                    have o33 := o33.ext l46
                    have o37 := o37.ext l46
                    have o44 := o44.ext l46
                    have o49 := o49.ext l46
                    have g78 := o78.lt
                    refine s0 (x_move (v := .slice _ _ _) rfl) ?_
                    refine sp (zcall cl38 rfl) (l_toIntS _ _ _ _ (hp.ext L) (by omega)) ?_
                    rintro v80 w47 l48 ⟨p80, c80, F80, rfl, o80, f80⟩
                    have z_l48 := l48.size
                    have L := L.tr l48.up
                    have B1 := B1.ext l48
                    have B14 := B14.ext l48
                    have o25 := o25.ext l48
                    have o27 := o27.ext l48
                    have o29 := o29.ext l48
                    have o31 := o31.ext l48
                    have o33 := o33.ext l48
                    have o37 := o37.ext l48
                    have o44 := o44.ext l48
                    have o49 := o49.ext l48
                    have o78 := o78.ext l48
                    have g80 := o80.lt
                    refine s0 (x_move (v := .int _ _) rfl) ?_
                    refine sp (zcall cl56 rfl) (i_blockBits _ _ _ _ _ _ _ _ _ o80.sl (by omega) o78.sl (by omega)) ?_
                    rintro v82 w49 l50 ⟨p82, c82, F82, rfl, o82, f82⟩
                    have z_l50 := l50.size
                    have L := L.tr l50.up
                    have B1 := B1.ext l50
                    have B14 := B14.ext l50
                    have o25 := o25.ext l50
                    have o27 := o27.ext l50
                    have o29 := o29.ext l50
                    have o31 := o31.ext l50
                    have o33 := o33.ext l50
                    have o37 := o37.ext l50
                    have o44 := o44.ext l50
                    have o49 := o49.ext l50
                    have o78 := o78.ext l50
                    have o80 := o80.ext l50
                    have g82 := o82.lt
                    refine s0 (x_assign (v := .slice _ _ _) rfl) ?_
                    refine c_end ?_
                    refine n_then ?_
                    refine wp_seq ?_
                    refine wp_seq ?_
                    refine c_reg ?_
                    refine s0 (x_move (v := .slice _ _ _) rfl) ?_
                    refine s0 (x_move (v := .slice _ _ _) rfl) ?_
                    refine srb (zcall cl19 rfl) (l_eqIntS _ _ _ _ _ _ _ o82.sl o29.sl (by omega)) (fun h85 w51 l52 => ?_) (fun h85 w51 l52 => ?_)
                    · have z_l52 := l52.size
                      have L := L.tr l52.up
                      have B1 := B1.ext l52
                      have B14 := B14.ext l52
                      have o25 := o25.ext l52
                      have o27 := o27.ext l52
                      have o29 := o29.ext l52
                      have o31 := o31.ext l52
                      have o33 := o33.ext l52
                      have o37 := o37.ext l52
                      have o44 := o44.ext l52
                      have o49 := o49.ext l52
                      have o78 := o78.ext l52
                      have o80 := o80.ext l52
                      have o82 := o82.ext l52
                      refine s0 (x_not rfl) ?_
                      refine c_end ?_
                      refine n_then ?_
                      refine c_false rfl ?_
                      refine c_skipn ?_
                      refine n_then ?_
                      refine wp_seq ?_
                      refine c_reg ?_
                      refine s0 (x_assign (v := .int _ _) rfl) ?_
                      refine c_end ?_
                      refine n_then ?_
                      refine wp_seq ?_
                      refine c_reg ?_
                      refine s0 (x_move (v := .slice _ _ _) rfl) ?_
                      refine s0 (x_move (v := .int _ _) rfl) ?_
                      refine sr (zcall cl23 rfl) (l_heldIntS _ _ _ _ _ o37.sl (by omega) (by omega)) ?_
                      intro w53 l54
                      have z_l54 := l54.size
                      have L := L.tr l54.up
                      have B1 := B1.ext l54
                      have B14 := B14.ext l54
                      have o25 := o25.ext l54
                      have o27 := o27.ext l54
                      have o29 := o29.ext l54
                      have o31 := o31.ext l54
                      have o33 := o33.ext l54
                      have o37 := o37.ext l54
                      have o44 := o44.ext l54
                      have o49 := o49.ext l54
                      have o78 := o78.ext l54
                      have o80 := o80.ext l54
                      have o82 := o82.ext l54
                      refine s0 (x_assign (v := .int _ _) rfl) ?_
                      refine c_end ?_
                      refine n_then ?_
                      refine wp_seq ?_
                      refine wp_seq ?_
                      refine c_reg ?_
                      refine s0 (x_move (v := .int _ _) rfl) ?_
                      refine sb (x_lss rfl rfl) (fun h91 => ?_) (fun h91 => ?_)
                      · omega
                      · refine c_end ?_
                        refine n_then ?_
                        refine c_false rfl ?_
                        refine c_skipn ?_
                        refine n_then ?_
                        refine wp_seq ?_
                        refine wp_seq ?_
                        refine c_reg ?_
                        refine s0 (x_move (v := .int _ _) rfl) ?_
                        refine s0 (x_move (v := .int _ _) rfl) ?_
                        refine sb (x_neq rfl rfl) (fun h94 => ?_) (fun h94 => ?_)
                        · exact absurd rfl h94
                        · refine c_end ?_
                          refine n_then ?_
                          refine c_false rfl ?_
                          refine c_skipn ?_
                          refine n_then ?_
                          refine wp_seq ?_
                          refine c_reg ?_
                          refine s0 (x_assign (v := .bool _) rfl) ?_
                          refine c_end ?_
                          refine n_then ?_
                          refine wp_ret ?_
                          refine f_ret rfl rfl ?_
                          exact ⟨rfl, L⟩
                    · exact (h85 (by simp)).elim
              · exact (h63 (by simp)).elim
          · exact (h50 (by simp)).elim
        · exact (h45 (by simp)).elim
      · exact (h40 (by simp)).elim

/-- laws.FnExactFastUe -/
theorem l_fnFastUe (s : ByteArray) (ca : Ca) (p : Option Addr) (t : List (Int × Int)) (c : Nat) (w : World) (hs : s.size ≤ 9223372036854775807) (hp : Sl w p t.length c 2 (t.flatMap erow)) (hl : t.length ≤ 9223372036854775807) :
    Calls Try.prog 6 [.agg [.string s, .int .i64 (ca).pos, .int .i64 (ca).word, .int .i64 (ca).hv].toArray, .slice p t.length c].toArray w (Ret w (.bool true)) := by
  have L : Exm [] w w := Exm.rfl'
  refine enter (n := 61) Try.func6 rfl rfl rfl ?_
  refine wp_seq ?_
  refine c_reg ?_
  refine s_box rfl rfl ?_
  intro b1 w2 lob1 hib1 l3 B1
  have z_l3 := l3.size
  have L := L.tr l3.up
  refine s0 (x_assign (v := .bool _) rfl) ?_
  refine c_end ?_
  refine n_then ?_
  refine wp_seq ?_
  refine c_reg ?_
  refine s0 (x_assign (v := .int _ _) rfl) ?_
  refine c_end ?_
  refine n_then ?_
  refine wp_seq ?_
  refine c_reg ?_
  refine st (x_loadAgB ag60 rfl B1 rfl) ?_
  refine s0 (x_move (v := .int _ _) rfl) ?_
  refine sr (zcall cl41 rfl) (l_szCache _ _ _ _ _ _ (by omega) (by omega)) ?_
  intro w4 l5
  have z_l5 := l5.size
  have L := L.tr l5.up
  have B1 := B1.ext l5
  refine s0 (x_assign (v := .int _ _) rfl) ?_
  refine c_end ?_
  refine n_then ?_
  refine wp_seq ?_
  refine wp_seq ?_
  refine c_reg ?_
  refine s0 (x_move (v := .int _ _) rfl) ?_
  refine sb (x_lss rfl rfl) (fun h17 => ?_) (fun h17 => ?_)
  · refine c_end ?_
    refine n_then ?_
    refine c_true rfl ?_
    refine wp_seq ?_
    refine c_reg ?_
    refine s0 (x_assign (v := .bool _) rfl) ?_
    refine c_end ?_
    refine n_then ?_
    refine wp_ret (r_then ?_)
    refine f_ret rfl rfl ?_
    exact ⟨rfl, L⟩
  · refine c_end ?_
    refine n_then ?_
    refine c_false rfl ?_
    refine c_skipn ?_
    refine n_then ?_
    refine wp_seq ?_
    have hs1 := sz_in h17
    refine c_reg ?_
    refine s0 (x_move (v := .slice _ _ _) rfl) ?_
    refine s0 (x_move (v := .int _ _) rfl) ?_
    refine sr (zcall cl42 rfl) (l_szEntryS _ _ _ _ _ (by omega) (by omega)) ?_
    intro w6 l7
    have z_l7 := l7.size
    have L := L.tr l7.up
    have B1 := B1.ext l7
    refine s0 (x_assign (v := .int _ _) rfl) ?_
    refine c_end ?_
    refine n_then ?_
    refine wp_seq ?_
    refine wp_seq ?_
    refine c_reg ?_
    refine s0 (x_move (v := .int _ _) rfl) ?_
    refine sb (x_lss rfl rfl) (fun h22 => ?_) (fun h22 => ?_)
    · refine c_end ?_
      refine n_then ?_
      refine c_true rfl ?_
      refine wp_seq ?_
      refine c_reg ?_
      refine s0 (x_assign (v := .bool _) rfl) ?_
      refine c_end ?_
      refine n_then ?_
      refine wp_ret (r_then ?_)
      refine f_ret rfl rfl ?_
      exact ⟨rfl, L⟩
    · refine c_end ?_
      refine n_then ?_
      refine c_false rfl ?_
      refine c_skipn ?_
      refine n_then ?_
      refine wp_seq ?_
      have hs2 := sz_in h22
      have hs3 : s.size ≤ 1048576 := by omega
      have hl3 : t.length ≤ 1099511627776 := by omega
      refine c_reg ?_
      refine st (x_loadAgB ag60 rfl B1 rfl) ?_
      refine sr (zcall cl44 rfl) (l_toCache _ _ _ _ _) ?_
      intro w8 l9
      have z_l9 := l9.size
      have L := L.tr l9.up
      have B1 := B1.ext l9
      refine s0 (x_move (v := .slice _ _ _) rfl) ?_
      refine sp (zcall cl45 rfl) (l_toEntryS _ _ _ _ (hp.ext L) (by omega)) ?_
      rintro v27 w10 l11 ⟨p27, c27, F27, rfl, o27, f27⟩
      have z_l11 := l11.size
      have L := L.tr l11.up
      have B1 := B1.ext l11
      have g27 := o27.lt
      refine sr (zcall cl43 rfl) (s_fastUe _ _ _ _ _ _ (by omega) o27.sl (by omega)) ?_
      intro w12 l13
      have z_l13 := l13.size
      have L := L.tr l13.up
      have B1 := B1.ext l13
      have o27 := o27.ext l13
      refine s0 (x_move (v := .tuple _) rfl) ?_
      refine s0 (x_extract rfl rfl) ?_
      refine s0 (x_extract rfl rfl) ?_
      refine s0 (x_extract rfl rfl) ?_
      refine s_alloc zr64 ?_
      intro b14 w15 lob14 hib14 l16 B14
      have z_l16 := l16.size
      have L := L.tr l16.up
      have B1 := B1.ext l16
      have o27 := o27.ext l16
      refine s_storeAg rfl sz64 rfl rfl B14 rfl rfl rfl ?_
      intro w17 l18 el18 B14
      have z_l18 := l18.size
      have L := L.fresh l18 (by omega)
      have B1 := B1.ne l18 (by omega)
      have o27 := o27.ne l18 (by first | assumption | exact nin_of f27 g27 (by omega))
      refine s0 (x_assign (v := .int _ _) rfl) ?_
      refine s0 (x_assign (v := .int _ _) rfl) ?_
      refine c_end ?_
      refine n_then ?_
      refine wp_seq ?_
      refine c_reg ?_
      refine s0 (x_move (v := .slice _ _ _) rfl) ?_
      refine sp (zcall cl45 rfl) (l_toEntryS _ _ _ _ (hp.ext L) (by omega)) ?_
      rintro v33 w19 l20 ⟨p33, c33, F33, rfl, o33, f33⟩
      have z_l20 := l20.size
      have L := L.tr l20.up
      have B1 := B1.ext l20
      have B14 := B14.ext l20
      have o27 := o27.ext l20
      have g33 := o33.lt
      refine s0 (x_assign (v := .slice _ _ _) rfl) ?_
      refine c_end ?_
      refine n_then ?_
      refine wp_seq ?_
      refine c_reg ?_
      refine st (x_loadAgB ag60 rfl B1 rfl) ?_
      refine sr (zcall cl44 rfl) (l_toCache _ _ _ _ _) ?_
      intro w21 l22
      have z_l22 := l22.size
      have L := L.tr l22.up
      have B1 := B1.ext l22
      have B14 := B14.ext l22
      have o27 := o27.ext l22
      have o33 := o33.ext l22
      refine s0 (x_move (v := .slice _ _ _) rfl) ?_
      refine sr (zcall cl46 rfl) (i_fastUe _ _ _ _ _ _ (by omega) o33.sl (by omega)) ?_
      intro w23 l24
      have z_l24 := l24.size
      have L := L.tr l24.up
      have B1 := B1.ext l24
      have B14 := B14.ext l24
      have o27 := o27.ext l24
      have o33 := o33.ext l24
      refine s0 (x_move (v := .tuple _) rfl) ?_
      refine s0 (x_extract rfl rfl) ?_
      refine s0 (x_extract rfl rfl) ?_
      refine s0 (x_extract rfl rfl) ?_
      refine s_alloc zr64 ?_
      intro b25 w26 lob25 hib25 l27 B25
      have z_l27 := l27.size
      have L := L.tr l27.up
      have B1 := B1.ext l27
      have B14 := B14.ext l27
      have o27 := o27.ext l27
      have o33 := o33.ext l27
      refine s_storeAg rfl sz64 rfl rfl B25 rfl rfl rfl ?_
      intro w28 l29 el29 B25
      have z_l29 := l29.size
      have L := L.fresh l29 (by omega)
      have B1 := B1.ne l29 (by omega)
      have B14 := B14.ne l29 (by omega)
      have o27 := o27.ne l29 (by first | assumption | exact nin_of f27 g27 (by omega))
      have o33 := o33.ne l29 (by first | assumption | exact nin_of f33 g33 (by omega))
      refine s0 (x_assign (v := .int _ _) rfl) ?_
      refine s0 (x_assign (v := .int _ _) rfl) ?_
      refine c_end ?_
      refine n_then ?_
      refine wp_seq ?_
      refine wp_seq ?_
      refine c_reg ?_
      refine st (x_loadAgB ag64 rfl B25 rfl) ?_
      refine st (x_loadAgB ag64 rfl B14 rfl) ?_
      refine srb (zcall cl47 rfl) (l_eqCache _ _ _ _ _) (fun h44 w30 l31 => ?_) (fun h44 w30 l31 => ?_)
      · have z_l31 := l31.size
        have L := L.tr l31.up
        have B1 := B1.ext l31
        have B14 := B14.ext l31
        have B25 := B25.ext l31
        have o27 := o27.ext l31
        have o33 := o33.ext l31
        refine s0 (x_not rfl) ?_
        refine s0 (x_move (v := .bool _) rfl) ?_
        refine gt rfl rfl rfl rfl ?_
        refine s0 (x_move (v := .int _ _) rfl) ?_
        refine gt rfl rfl rfl rfl ?_
        refine s0 (x_move (v := .int _ _) rfl) ?_
        refine gt rfl rfl rfl rfl ?_
        refine sb (x_neq rfl rfl) (fun h49 => ?_) (fun h49 => ?_)
        · exact absurd rfl h49
        · refine s0 (x_pickf (v := .bool _) rfl rfl) ?_
          refine s0 (x_move (v := .bool _) rfl) ?_
          refine gt rfl rfl rfl rfl ?_
          refine s0 (x_move (v := .int _ _) rfl) ?_
          refine gt rfl rfl rfl rfl ?_
          refine s0 (x_move (v := .int _ _) rfl) ?_
          refine gt rfl rfl rfl rfl ?_
          refine sb (x_neq rfl rfl) (fun h54 => ?_) (fun h54 => ?_)
          · exact absurd rfl h54
          · refine s0 (x_pickf (v := .bool _) rfl rfl) ?_
            refine c_end ?_
            refine n_then ?_
            refine c_false rfl ?_
            refine c_skipn ?_
            refine n_then ?_
            refine wp_seq ?_
            refine wp_seq ?_
            refine c_reg ?_
            refine s0 (x_move (v := .slice _ _ _) rfl) ?_
            refine s0 (x_move (v := .slice _ _ _) rfl) ?_
            refine sp (zcall cl45 rfl) (l_toEntryS _ _ _ _ (hp.ext L) (by omega)) ?_
            rintro v58 w32 l33 ⟨p58, c58, F58, rfl, o58, f58⟩
            have z_l33 := l33.size
            have L := L.tr l33.up
            have B1 := B1.ext l33
            have B14 := B14.ext l33
            have B25 := B25.ext l33
            have o27 := o27.ext l33
            have o33 := o33.ext l33
            have g58 := o58.lt
            refine srb (zcall cl48 rfl) (l_eqEntryS _ _ _ _ _ _ _ o33.sl o58.sl (by omega)) (fun h59 w34 l35 => ?_) (fun h59 w34 l35 => ?_)
            · have z_l35 := l35.size
              have L := L.tr l35.up
              have B1 := B1.ext l35
              have B14 := B14.ext l35
              have B25 := B25.ext l35
              have o27 := o27.ext l35
              have o33 := o33.ext l35
              have o58 := o58.ext l35
              refine s0 (x_not rfl) ?_
              refine c_end ?_
              refine n_then ?_
              refine c_false rfl ?_
              refine c_skipn ?_
              refine n_then ?_
              refine wp_seq ?_
              refine c_reg ?_
              refine s0 (x_assign (v := .bool _) rfl) ?_
              refine c_end ?_
              refine n_then ?_
              refine wp_ret ?_
              refine f_ret rfl rfl ?_
              exact ⟨rfl, L⟩
            · exact absurd rfl h59
      · exact absurd ⟨rfl, rfl, rfl, rfl⟩ h44

end Go.Proofs.Ytdnckakaoageoaa
