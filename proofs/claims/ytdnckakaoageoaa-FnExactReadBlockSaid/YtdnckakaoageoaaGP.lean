/- What each function of this part returns, for every argument that meets its premises. -/
import Derived.Test.YtdnckakaoageoaaFP
namespace Go.Proofs.Ytdnckakaoageoaa
open Go.Sx Go.Pl Go.RowKit
theorem ag73 : Ag Try.prog 73 2 := ⟨⟨_, Try.underlying73⟩, by kernel_rfl⟩
theorem cl49 : Callable Try.prog 49 := callable Try.func49 (by kernel_rfl) rfl
theorem cl51 : Callable Try.prog 51 := callable Try.func51 (by kernel_rfl) rfl
theorem cl53 : Callable Try.prog 53 := callable Try.func53 (by kernel_rfl) rfl
theorem cl76 : Callable Try.prog 76 := callable Try.func76 (by kernel_rfl) rfl
theorem cl82 : Callable Try.prog 82 := callable Try.func82 (by kernel_rfl) rfl
theorem cl83 : Callable Try.prog 83 := callable Try.func83 (by kernel_rfl) rfl
theorem cl84 : Callable Try.prog 84 := callable Try.func84 (by kernel_rfl) rfl
/-- laws.FnExactReadBlock -/
theorem l_fnReadBlock (s : ByteArray) (a : Int) (p : Option Addr) (xs : List Int) (c : Nat) (n : Int) (w : World) (hs : s.size ≤ 9223372036854775807) (hp : Sl w p xs.length c 1 (ic xs)) (hl : xs.length ≤ 9223372036854775807) :
    Calls Try.prog 12 [.agg [.string s, .int .i64 a].toArray, .slice p xs.length c, .int .i64 n].toArray w (Ret w (.bool true)) := by
  have L : Exm [] w w := Exm.rfl'
  refine enter (n := 136) Try.func12 rfl rfl rfl ?_
  refine wp_seq ?_
  refine c_reg ?_
  refine s_box rfl rfl ?_
  intro b1 w2 lob1 hib1 l3 B1
  have z_l3 := l3.size
  have L := L.tr l3.up
  refine s0 (x_assign (v := .bool _) rfl) ?_
  refine c_end ?_
  refine n_then ?_
  refine wp_seq ?_
  refine wp_seq ?_
  refine c_reg ?_
  refine s0 (x_move (v := .slice _ _ _) rfl) ?_
  refine s0 (x_lensl un22 rfl) ?_
  refine sb (x_gtr rfl rfl) (fun h23 => ?_) (fun h23 => ?_)
  · refine c_end ?_
    refine n_then ?_
    refine c_true rfl ?_
    refine wp_seq ?_
    refine c_reg ?_
    refine s0 (x_assign (v := .bool _) rfl) ?_
    refine c_end ?_
    refine n_then ?_
    refine wp_ret (r_then ?_)
    refine f_ret rfl rfl ?_
    exact ⟨rfl, L⟩
  · refine c_end ?_
    refine n_then ?_
    refine c_false rfl ?_
    refine c_skipn ?_
    refine n_then ?_
    refine wp_seq ?_
    refine c_reg ?_
    refine s0 (x_assign (v := .int _ _) rfl) ?_
    refine c_end ?_
    refine n_then ?_
    refine wp_seq ?_
    refine c_reg ?_
    refine st (x_loadAgB ag73 rfl B1 rfl) ?_
    refine s0 (x_move (v := .int _ _) rfl) ?_
    refine sr (zcall cl49 rfl) (l_szReader _ _ _ _ (by omega) (by omega)) ?_
    intro w4 l5
    have z_l5 := l5.size
    have L := L.tr l5.up
    have B1 := B1.ext l5
    refine s0 (x_assign (v := .int _ _) rfl) ?_
    refine c_end ?_
    refine n_then ?_
    refine wp_seq ?_
    refine wp_seq ?_
    refine c_reg ?_
    refine s0 (x_move (v := .int _ _) rfl) ?_
    refine sb (x_lss rfl rfl) (fun h28 => ?_) (fun h28 => ?_)
    · refine c_end ?_
      refine n_then ?_
      refine c_true rfl ?_
      refine wp_seq ?_
      refine c_reg ?_
      refine s0 (x_assign (v := .bool _) rfl) ?_
      refine c_end ?_
      refine n_then ?_
      refine wp_ret (r_then ?_)
      refine f_ret rfl rfl ?_
      exact ⟨rfl, L⟩
    · refine c_end ?_
      refine n_then ?_
      refine c_false rfl ?_
      refine c_skipn ?_
      refine n_then ?_
      refine wp_seq ?_
      have hs1 := sz_in h28
      have hs2 : s.size ≤ 1048576 := by omega
      have hl2 : xs.length ≤ 1099511627776 := by omega
      have hbl := rbkL_len (s := s) (a := a) (xs := xs) (n := n) (.inr trivial)
      refine c_reg ?_
      refine st (x_loadAgB ag73 rfl B1 rfl) ?_
      refine sr (zcall cl51 rfl) (l_toReader _ _ _) ?_
      intro w6 l7
      have z_l7 := l7.size
      have L := L.tr l7.up
      have B1 := B1.ext l7
      refine s0 (x_move (v := .slice _ _ _) rfl) ?_
      refine sp (zcall cl38 rfl) (l_toIntS _ _ _ _ (hp.ext L) (by omega)) ?_
      rintro v33 w8 l9 ⟨p33, c33, F33, rfl, o33, f33⟩
      have z_l9 := l9.size
      have L := L.tr l9.up
      have B1 := B1.ext l9
      have g33 := o33.lt
      refine s0 (x_move (v := .int _ _) rfl) ?_
      refine sp (zcall cl82 rfl) (s_readBlock _ _ _ _ _ _ _ (by omega) o33.sl (by omega)) ?_
      rintro v35 w10 l11 ⟨p35, c35, F35, rfl, o35, f35⟩
      have z_l11 := l11.size
      have L := L.tr l11.up
      have B1 := B1.ext l11
      have o33 := o33.ext l11
      have g35 := o35.lt
      refine s0 (x_move (v := .tuple _) rfl) ?_
      refine s0 (x_extract rfl rfl) ?_
      refine s0 (x_extract rfl rfl) ?_
      refine s0 (x_extract rfl rfl) ?_
      refine s_alloc zr42 ?_
      intro b12 w13 lob12 hib12 l14 B12
      have z_l14 := l14.size
      have L := L.tr l14.up
      have B1 := B1.ext l14
      have o33 := o33.ext l14
      have o35 := o35.ext l14
      refine s_alloc zr81 ?_
      intro b15 w16 lob15 hib15 l17 B15
      have z_l17 := l17.size
      have L := L.tr l17.up
      have B1 := B1.ext l17
      have B12 := B12.ext l17
      have o33 := o33.ext l17
      have o35 := o35.ext l17
      refine s_storeAg rfl sz42 rfl rfl B12 rfl rfl rfl ?_
      intro w18 l19 el19 B12
      have z_l19 := l19.size
      have L := L.fresh l19 (by omega)
      have B1 := B1.ne l19 (by omega)
      have B15 := B15.ne l19 (by omega)
      have o33 := o33.ne l19 (by first | assumption | exact nin_of f33 g33 (by omega))
      have o35 := o35.ne l19 (by first | assumption | exact nin_of f35 g35 (by omega))
      refine s_storeAg rfl sz81 rfl rfl B15 rfl rfl rfl ?_
      intro w20 l21 el21 B15
      have z_l21 := l21.size
      have L := L.fresh l21 (by omega)
      have B1 := B1.ne l21 (by omega)
      have B12 := B12.ne l21 (by omega)
      have o33 := o33.ne l21 (by first | assumption | exact nin_of f33 g33 (by omega))
      have o35 := o35.ne l21 (by first | assumption | exact nin_of f35 g35 (by omega))
      refine s0 (x_assign (v := .int _ _) rfl) ?_
      refine c_end ?_
      refine n_then ?_
      refine wp_seq ?_
      refine c_reg ?_
      refine s0 (x_move (v := .slice _ _ _) rfl) ?_
      refine sp (zcall cl38 rfl) (l_toIntS _ _ _ _ (hp.ext L) (by omega)) ?_
      rintro v40 w22 l23 ⟨p40, c40, F40, rfl, o40, f40⟩
      have z_l23 := l23.size
      have L := L.tr l23.up
      have B1 := B1.ext l23
      have B12 := B12.ext l23
      have B15 := B15.ext l23
      have o33 := o33.ext l23
      have o35 := o35.ext l23
      have g40 := o40.lt
      refine s0 (x_assign (v := .slice _ _ _) rfl) ?_
      refine c_end ?_
      refine n_then ?_
      refine wp_seq ?_
      refine c_reg ?_
      refine st (x_loadAgB ag73 rfl B1 rfl) ?_
      refine sr (zcall cl51 rfl) (l_toReader _ _ _) ?_
      intro w24 l25
      have z_l25 := l25.size
      have L := L.tr l25.up
      have B1 := B1.ext l25
      have B12 := B12.ext l25
      have B15 := B15.ext l25
      have o33 := o33.ext l25
      have o35 := o35.ext l25
      have o40 := o40.ext l25
      refine s0 (x_move (v := .slice _ _ _) rfl) ?_
      refine s0 (x_move (v := .int _ _) rfl) ?_
      refine sp (zcall cl83 rfl) (i_readBlock _ _ _ _ _ _ _ (by omega) o40.sl (by omega)) ?_
      rintro v46 w26 l27 ⟨p46, c46, F46, rfl, o46, f46⟩
      have z_l27 := l27.size
      have L := L.tr l27.up
      have B1 := B1.ext l27
      have B12 := B12.ext l27
      have B15 := B15.ext l27
      have o33 := o33.ext l27
      have o35 := o35.ext l27
      have o40 := o40.ext l27
      have g46 := o46.lt
      refine s0 (x_move (v := .tuple _) rfl) ?_
      refine s0 (x_extract rfl rfl) ?_
      refine s0 (x_extract rfl rfl) ?_
      refine s0 (x_extract rfl rfl) ?_
      refine s_alloc zr42 ?_
      intro b28 w29 lob28 hib28 l30 B28
      have z_l30 := l30.size
      have L := L.tr l30.up
      have B1 := B1.ext l30
      have B12 := B12.ext l30
      have B15 := B15.ext l30
      have o33 := o33.ext l30
      have o35 := o35.ext l30
      have o40 := o40.ext l30
      have o46 := o46.ext l30
      refine s_alloc zr81 ?_
      intro b31 w32 lob31 hib31 l33 B31
      have z_l33 := l33.size
      have L := L.tr l33.up
      have B1 := B1.ext l33
      have B12 := B12.ext l33
      have B15 := B15.ext l33
      have B28 := B28.ext l33
      have o33 := o33.ext l33
      have o35 := o35.ext l33
      have o40 := o40.ext l33
      have o46 := o46.ext l33
      refine s_storeAg rfl sz42 rfl rfl B28 rfl rfl rfl ?_
      intro w34 l35 el35 B28
      have z_l35 := l35.size
      have L := L.fresh l35 (by omega)
      have B1 := B1.ne l35 (by omega)
      have B12 := B12.ne l35 (by omega)
      have B15 := B15.ne l35 (by omega)
      have B31 := B31.ne l35 (by omega)
      have o33 := o33.ne l35 (by first | assumption | exact nin_of f33 g33 (by omega))
      have o35 := o35.ne l35 (by first | assumption | exact nin_of f35 g35 (by omega))
      have o40 := o40.ne l35 (by first | assumption | exact nin_of f40 g40 (by omega))
      have o46 := o46.ne l35 (by first | assumption | exact nin_of f46 g46 (by omega))
      refine s_storeAg rfl sz81 rfl rfl B31 rfl rfl rfl ?_
      intro w36 l37 el37 B31
      have z_l37 := l37.size
      have L := L.fresh l37 (by omega)
      have B1 := B1.ne l37 (by omega)
      have B12 := B12.ne l37 (by omega)
      have B15 := B15.ne l37 (by omega)
      have B28 := B28.ne l37 (by omega)
      have o33 := o33.ne l37 (by first | assumption | exact nin_of f33 g33 (by omega))
      have o35 := o35.ne l37 (by first | assumption | exact nin_of f35 g35 (by omega))
      have o40 := o40.ne l37 (by first | assumption | exact nin_of f40 g40 (by omega))
      have o46 := o46.ne l37 (by first | assumption | exact nin_of f46 g46 (by omega))
      refine s0 (x_assign (v := .int _ _) rfl) ?_
      refine c_end ?_
      refine n_then ?_
      refine wp_seq ?_
      refine wp_seq ?_
      refine c_reg ?_
      refine st (x_loadAgB ag42 rfl B28 rfl) ?_
      refine st (x_loadAgB ag42 rfl B12 rfl) ?_
      refine srb (zcall cl53 rfl) (l_eqReader _ _ _ _ _) (fun h52 w38 l39 => ?_) (fun h52 w38 l39 => ?_)
      · have z_l39 := l39.size
        have L := L.tr l39.up
        have B1 := B1.ext l39
        have B12 := B12.ext l39
        have B15 := B15.ext l39
        have B28 := B28.ext l39
        have B31 := B31.ext l39
        have o33 := o33.ext l39
        have o35 := o35.ext l39
        have o40 := o40.ext l39
        have o46 := o46.ext l39
        refine s0 (x_not rfl) ?_
        refine s0 (x_move (v := .bool _) rfl) ?_
        refine gt rfl rfl rfl rfl ?_
        refine st (x_loadAgB ag81 rfl B31 rfl) ?_
        refine gt rfl rfl rfl rfl ?_
        refine st (x_loadAgB ag81 rfl B15 rfl) ?_
        refine gt rfl rfl rfl rfl ?_
        refine srb (zcall cl75 rfl) (l_eqBlock _ _ _ _ _ _ _ _ _ o46.sl o35.sl (by omega)) (fun h57 w40 l41 => ?_) (fun h57 w40 l41 => ?_)
        · have z_l41 := l41.size
          have L := L.tr l41.up
          have B1 := B1.ext l41
          have B12 := B12.ext l41
          have B15 := B15.ext l41
          have B28 := B28.ext l41
          have B31 := B31.ext l41
          have o33 := o33.ext l41
          have o35 := o35.ext l41
          have o40 := o40.ext l41
          have o46 := o46.ext l41
          refine gt rfl rfl rfl rfl ?_
          refine s0 (x_not rfl) ?_
          refine s0 (x_pickf (v := .bool _) rfl rfl) ?_
          refine s0 (x_move (v := .bool _) rfl) ?_
          refine gt rfl rfl rfl rfl ?_
          refine s0 (x_move (v := .int _ _) rfl) ?_
          refine gt rfl rfl rfl rfl ?_
          refine s0 (x_move (v := .int _ _) rfl) ?_
          refine gt rfl rfl rfl rfl ?_
          refine sb (x_neq rfl rfl) (fun h63 => ?_) (fun h63 => ?_)
          · exact absurd rfl h63
          · refine s0 (x_pickf (v := .bool _) rfl rfl) ?_
            refine c_end ?_
            refine n_then ?_
            refine c_false rfl ?_
            refine c_skipn ?_
            refine n_then ?_
            refine wp_seq ?_
            refine wp_seq ?_
            refine c_reg ?_
            refine s0 (x_move (v := .slice _ _ _) rfl) ?_
            refine s0 (x_move (v := .slice _ _ _) rfl) ?_
            refine sp (zcall cl38 rfl) (l_toIntS _ _ _ _ (hp.ext L) (by omega)) ?_
            rintro v67 w42 l43 ⟨p67, c67, F67, rfl, o67, f67⟩
            have z_l43 := l43.size
            have L := L.tr l43.up
            have B1 := B1.ext l43
            have B12 := B12.ext l43
            have B15 := B15.ext l43
            have B28 := B28.ext l43
            have B31 := B31.ext l43
            have o33 := o33.ext l43
            have o35 := o35.ext l43
            have o40 := o40.ext l43
            have o46 := o46.ext l43
            have g67 := o67.lt
            refine srb (zcall cl19 rfl) (l_eqIntS _ _ _ _ _ _ _ o40.sl o67.sl (by omega)) (fun h68 w44 l45 => ?_) (fun h68 w44 l45 => ?_)
            · have z_l45 := l45.size
              have L := L.tr l45.up
              have B1 := B1.ext l45
              have B12 := B12.ext l45
              have B15 := B15.ext l45
              have B28 := B28.ext l45
              have B31 := B31.ext l45
              have o33 := o33.ext l45
              have o35 := o35.ext l45
              have o40 := o40.ext l45
              have o46 := o46.ext l45
              have o67 := o67.ext l45
              refine s0 (x_not rfl) ?_
              refine c_end ?_
              refine n_then ?_
              refine c_false rfl ?_
              refine c_skipn ?_
              refine n_then ?_
              refine wp_seq ?_
              refine c_reg ?_
              refine s0 (x_assign (v := .int _ _) rfl) ?_
              refine c_end ?_
              refine n_then ?_
              refine wp_seq ?_
              refine c_reg ?_
              refine s0 (x_move (v := .slice _ _ _) rfl) ?_
              refine s0 (x_move (v := .int _ _) rfl) ?_
              refine spm (zcall cl22 rfl) (l_markIntS _ _ _ _ _ _ o40 (by omega) (by omega)) ?_
              rintro v72 w46 l47 ⟨rfl, o40⟩
              have z_l47 := l47.size
              have L := L.freshL l47 f40 (by omega)
              have B1 := B1.exm l47 (by first | assumption | exact nin_of f40 g40 (by omega))
              have B12 := B12.exm l47 (by first | assumption | exact nin_of f40 g40 (by omega))
              have B15 := B15.exm l47 (by first | assumption | exact nin_of f40 g40 (by omega))
              have B28 := B28.exm l47 (by first | assumption | exact nin_of f40 g40 (by omega))
              have B31 := B31.exm l47 (by first | assumption | exact nin_of f40 g40 (by omega))
              have o33 := o33.exm l47 (by first | assumption | exact Dj.symm (by assumption) | exact dj_of f40 g40 f33 g33 (by omega))
              have o35 := o35.exm l47 (by first | assumption | exact Dj.symm (by assumption) | exact dj_of f40 g40 f35 g35 (by omega))
              have o46 := o46.exm l47 (by first | assumption | exact Dj.symm (by assumption) | exact dj_of f40 g40 f46 g46 (by omega))
              have o67 := o67.exm l47 (by first | assumption | exact Dj.symm (by assumption) | exact dj_of f40 g40 f67 g67 (by omega))
              refine s0 (x_assign (v := .int _ _) rfl) ?_
              refine c_end ?_
              refine n_then ?_
              refine wp_seq ?_
              refine wp_seq ?_
              refine c_reg ?_
              refine s0 (x_move (v := .int _ _) rfl) ?_
              refine sb (x_lss rfl rfl) (fun h74 => ?_) (fun h74 => ?_)
              · omega
              · refine s0 (x_move (v := .bool _) rfl) ?_
                refine gt rfl rfl rfl rfl ?_
                refine st (x_loadAgB ag42 rfl B28 rfl) ?_
                refine gt rfl rfl rfl rfl ?_
                refine st (x_loadAgB ag42 rfl B12 rfl) ?_
                refine gt rfl rfl rfl rfl ?_
                refine srb (zcall cl53 rfl) (l_eqReader _ _ _ _ _) (fun h78 w48 l49 => ?_) (fun h78 w48 l49 => ?_)
                · have z_l49 := l49.size
                  have L := L.tr l49.up
                  have B1 := B1.ext l49
                  have B12 := B12.ext l49
                  have B15 := B15.ext l49
                  have B28 := B28.ext l49
                  have B31 := B31.ext l49
                  have o33 := o33.ext l49
                  have o35 := o35.ext l49
                  have o40 := o40.ext l49
                  have o46 := o46.ext l49
                  have o67 := o67.ext l49
                  refine gt rfl rfl rfl rfl ?_
                  refine s0 (x_not rfl) ?_
                  refine s0 (x_pickf (v := .bool _) rfl rfl) ?_
                  refine s0 (x_move (v := .bool _) rfl) ?_
                  refine gt rfl rfl rfl rfl ?_
                  refine st (x_loadAgB ag81 rfl B31 rfl) ?_
                  refine gt rfl rfl rfl rfl ?_
                  refine st (x_loadAgB ag81 rfl B15 rfl) ?_
                  refine gt rfl rfl rfl rfl ?_
                  refine srb (zcall cl75 rfl) (l_eqBlock _ _ _ _ _ _ _ _ _ o46.sl o35.sl (by omega)) (fun h84 w50 l51 => ?_) (fun h84 w50 l51 => ?_)
                  · have z_l51 := l51.size
                    have L := L.tr l51.up
                    have B1 := B1.ext l51
                    have B12 := B12.ext l51
                    have B15 := B15.ext l51
                    have B28 := B28.ext l51
                    have B31 := B31.ext l51
                    have o33 := o33.ext l51
                    have o35 := o35.ext l51
                    have o40 := o40.ext l51
                    have o46 := o46.ext l51
                    have o67 := o67.ext l51
                    refine gt rfl rfl rfl rfl ?_
                    refine s0 (x_not rfl) ?_
                    refine s0 (x_pickf (v := .bool _) rfl rfl) ?_
                    refine s0 (x_move (v := .bool _) rfl) ?_
                    refine gt rfl rfl rfl rfl ?_
                    refine s0 (x_move (v := .int _ _) rfl) ?_
                    refine gt rfl rfl rfl rfl ?_
                    refine s0 (x_move (v := .int _ _) rfl) ?_
                    refine gt rfl rfl rfl rfl ?_
                    refine sb (x_neq rfl rfl) (fun h90 => ?_) (fun h90 => ?_)
                    · exact absurd rfl h90
                    · refine s0 (x_pickf (v := .bool _) rfl rfl) ?_
                      refine c_end ?_
                      refine n_then ?_
                      refine c_false rfl ?_
                      refine c_skipn ?_
                      refine n_then ?_
                      refine wp_seq ?_
                      refine c_reg ?_
                      refine s0 (x_assign (v := .int _ _) rfl) ?_
                      refine c_end ?_
                      refine n_then ?_
                      refine wp_seq ?_
                      refine c_reg ?_
                      refine st (x_loadAgB ag81 rfl B31 rfl) ?_
                      refine s0 (x_move (v := .int _ _) rfl) ?_
                      refine spm (zcall cl76 rfl) (l_markBlock _ _ _ _ _ _ _ _ o46 (by omega) (by omega)) ?_
                      rintro v94 w52 l53 ⟨rfl, o46⟩
                      have z_l53 := l53.size
                      have L := L.freshL l53 f46 (by omega)
                      have B1 := B1.exm l53 (by first | assumption | exact nin_of f46 g46 (by omega))
                      have B12 := B12.exm l53 (by first | assumption | exact nin_of f46 g46 (by omega))
                      have B15 := B15.exm l53 (by first | assumption | exact nin_of f46 g46 (by omega))
                      have B28 := B28.exm l53 (by first | assumption | exact nin_of f46 g46 (by omega))
                      have B31 := B31.exm l53 (by first | assumption | exact nin_of f46 g46 (by omega))
                      have o33 := o33.exm l53 (by first | assumption | exact Dj.symm (by assumption) | exact dj_of f46 g46 f33 g33 (by omega))
                      have o35 := o35.exm l53 (by first | assumption | exact Dj.symm (by assumption) | exact dj_of f46 g46 f35 g35 (by omega))
                      have o40 := o40.exm l53 (by first | assumption | exact Dj.symm (by assumption) | exact dj_of f46 g46 f40 g40 (by omega))
                      have o67 := o67.exm l53 (by first | assumption | exact Dj.symm (by assumption) | exact dj_of f46 g46 f67 g67 (by omega))
                      refine s0 (x_assign (v := .int _ _) rfl) ?_
                      refine c_end ?_
                      refine n_then ?_
                      refine wp_seq ?_
                      refine c_reg ?_
                      refine s0 (x_assign (v := .int _ _) rfl) ?_
                      refine c_end ?_
                      refine n_then ?_
                      refine wp_seq ?_
                      refine c_reg ?_
                      refine st (x_loadAgB ag81 rfl B31 rfl) ?_
                      refine s0 (x_move (v := .int _ _) rfl) ?_
                      refine sr (zcall cl84 rfl) (l_heldBlock _ _ _ _ _ _ o46.sl (by omega) (by omega)) ?_
                      intro w54 l55
                      have z_l55 := l55.size
                      have L := L.tr l55.up
                      have B1 := B1.ext l55
                      have B12 := B12.ext l55
                      have B15 := B15.ext l55
                      have B28 := B28.ext l55
                      have B31 := B31.ext l55
                      have o33 := o33.ext l55
                      have o35 := o35.ext l55
                      have o40 := o40.ext l55
                      have o46 := o46.ext l55
                      have o67 := o67.ext l55
                      refine s0 (x_assign (v := .int _ _) rfl) ?_
                      refine c_end ?_
                      refine n_then ?_
                      refine wp_seq ?_
                      refine wp_seq ?_
                      refine c_reg ?_
                      refine s0 (x_move (v := .int _ _) rfl) ?_
                      refine sb (x_lss rfl rfl) (fun h99 => ?_) (fun h99 => ?_)
                      · omega
                      · refine c_end ?_
                        refine n_then ?_
                        refine c_false rfl ?_
                        refine c_skipn ?_
                        refine n_then ?_
                        refine wp_seq ?_
                        refine wp_seq ?_
                        refine c_reg ?_
                        refine s0 (x_move (v := .int _ _) rfl) ?_
                        refine s0 (x_move (v := .int _ _) rfl) ?_
                        refine sb (x_neq rfl rfl) (fun h102 => ?_) (fun h102 => ?_)
                        · exact absurd rfl h102
                        · refine c_end ?_
                          refine n_then ?_
                          refine c_false rfl ?_
                          refine c_skipn ?_
                          refine n_then ?_
                          refine wp_seq ?_
                          refine c_reg ?_
                          refine st (x_loadAgB ag73 rfl B1 rfl) ?_
                          refine sr (zcall cl51 rfl) (l_toReader _ _ _) ?_
                          intro w56 l57
                          have z_l57 := l57.size
                          have L := L.tr l57.up
                          have B1 := B1.ext l57
                          have B12 := B12.ext l57
                          have B15 := B15.ext l57
                          have B28 := B28.ext l57
                          have B31 := B31.ext l57
                          have o33 := o33.ext l57
                          have o35 := o35.ext l57
                          have o40 := o40.ext l57
                          have o46 := o46.ext l57
                          have o67 := o67.ext l57
                          refine s0 (x_move (v := .slice _ _ _) rfl) ?_
                          refine sp (zcall cl38 rfl) (l_toIntS _ _ _ _ (hp.ext L) (by omega)) ?_
                          rintro v107 w58 l59 ⟨p107, c107, F107, rfl, o107, f107⟩
                          have z_l59 := l59.size
                          have L := L.tr l59.up
                          have B1 := B1.ext l59
                          have B12 := B12.ext l59
                          have B15 := B15.ext l59
                          have B28 := B28.ext l59
                          have B31 := B31.ext l59
                          have o33 := o33.ext l59
                          have o35 := o35.ext l59
                          have o40 := o40.ext l59
                          have o46 := o46.ext l59
                          have o67 := o67.ext l59
                          have g107 := o107.lt
                          refine s0 (x_move (v := .int _ _) rfl) ?_
                          refine sp (zcall cl83 rfl) (i_readBlock _ _ _ _ _ _ _ (by omega) o107.sl (by omega)) ?_
                          rintro v109 w60 l61 ⟨p109, c109, F109, rfl, o109, f109⟩
                          have z_l61 := l61.size
                          have L := L.tr l61.up
                          have B1 := B1.ext l61
                          have B12 := B12.ext l61
                          have B15 := B15.ext l61
                          have B28 := B28.ext l61
                          have B31 := B31.ext l61
                          have o33 := o33.ext l61
                          have o35 := o35.ext l61
                          have o40 := o40.ext l61
                          have o46 := o46.ext l61
                          have o67 := o67.ext l61
                          have o107 := o107.ext l61
                          have g109 := o109.lt
                          refine s0 (x_move (v := .tuple _) rfl) ?_
                          refine s0 (x_extract rfl rfl) ?_
                          refine s0 (x_extract rfl rfl) ?_
                          refine s0 (x_extract rfl rfl) ?_
                          refine s_alloc zr42 ?_
                          intro b62 w63 lob62 hib62 l64 B62
                          have z_l64 := l64.size
                          have L := L.tr l64.up
                          have B1 := B1.ext l64
                          have B12 := B12.ext l64
                          have B15 := B15.ext l64
                          have B28 := B28.ext l64
                          have B31 := B31.ext l64
                          have o33 := o33.ext l64
                          have o35 := o35.ext l64
                          have o40 := o40.ext l64
                          have o46 := o46.ext l64
                          have o67 := o67.ext l64
                          have o107 := o107.ext l64
                          have o109 := o109.ext l64
                          refine s_alloc zr81 ?_
                          intro b65 w66 lob65 hib65 l67 B65
                          have z_l67 := l67.size
                          have L := L.tr l67.up
                          have B1 := B1.ext l67
                          have B12 := B12.ext l67
                          have B15 := B15.ext l67
                          have B28 := B28.ext l67
                          have B31 := B31.ext l67
                          have B62 := B62.ext l67
                          have o33 := o33.ext l67
                          have o35 := o35.ext l67
                          have o40 := o40.ext l67
                          have o46 := o46.ext l67
                          have o67 := o67.ext l67
                          have o107 := o107.ext l67
                          have o109 := o109.ext l67
                          refine s_storeAg rfl sz42 rfl rfl B62 rfl rfl rfl ?_
                          intro w68 l69 el69 B62
                          have z_l69 := l69.size
                          have L := L.fresh l69 (by omega)
                          have B1 := B1.ne l69 (by omega)
                          have B12 := B12.ne l69 (by omega)
                          have B15 := B15.ne l69 (by omega)
                          have B28 := B28.ne l69 (by omega)
                          have B31 := B31.ne l69 (by omega)
                          have B65 := B65.ne l69 (by omega)
                          have o33 := o33.ne l69 (by first | assumption | exact nin_of f33 g33 (by omega))
                          have o35 := o35.ne l69 (by first | assumption | exact nin_of f35 g35 (by omega))
                          have o40 := o40.ne l69 (by first | assumption | exact nin_of f40 g40 (by omega))
                          have o46 := o46.ne l69 (by first | assumption | exact nin_of f46 g46 (by omega))
                          have o67 := o67.ne l69 (by first | assumption | exact nin_of f67 g67 (by omega))
                          have o107 := o107.ne l69 (by first | assumption | exact nin_of f107 g107 (by omega))
                          have o109 := o109.ne l69 (by first | assumption | exact nin_of f109 g109 (by omega))
                          refine s_storeAg rfl sz81 rfl rfl B65 rfl rfl rfl ?_
                          intro w70 l71 el71 B65
                          have z_l71 := l71.size
                          have L := L.fresh l71 (by omega)
                          have B1 := B1.ne l71 (by omega)
                          have B12 := B12.ne l71 (by omega)
                          have B15 := B15.ne l71 (by omega)
                          have B28 := B28.ne l71 (by omega)
                          have B31 := B31.ne l71 (by omega)
                          have B62 := B62.ne l71 (by omega)
                          have o33 := o33.ne l71 (by first | assumption | exact nin_of f33 g33 (by omega))
                          have o35 := o35.ne l71 (by first | assumption | exact nin_of f35 g35 (by omega))
                          have o40 := o40.ne l71 (by first | assumption | exact nin_of f40 g40 (by omega))
                          have o46 := o46.ne l71 (by first | assumption | exact nin_of f46 g46 (by omega))
                          have o67 := o67.ne l71 (by first | assumption | exact nin_of f67 g67 (by omega))
                          have o107 := o107.ne l71 (by first | assumption | exact nin_of f107 g107 (by omega))
                          have o109 := o109.ne l71 (by first | assumption | exact nin_of f109 g109 (by omega))
                          refine s0 (x_assign (v := .int _ _) rfl) ?_
                          refine c_end ?_
                          refine n_then ?_
                          refine wp_seq ?_
                          refine wp_seq ?_
                          refine c_reg ?_
                          refine st (x_loadAgB ag42 rfl B62 rfl) ?_
                          refine st (x_loadAgB ag42 rfl B12 rfl) ?_
                          refine srb (zcall cl53 rfl) (l_eqReader _ _ _ _ _) (fun h115 w72 l73 => ?_) (fun h115 w72 l73 => ?_)
                          · have z_l73 := l73.size
                            have L := L.tr l73.up
                            have B1 := B1.ext l73
                            have B12 := B12.ext l73
                            have B15 := B15.ext l73
                            have B28 := B28.ext l73
                            have B31 := B31.ext l73
                            have B62 := B62.ext l73
                            have B65 := B65.ext l73
                            have o33 := o33.ext l73
                            have o35 := o35.ext l73
                            have o40 := o40.ext l73
                            have o46 := o46.ext l73
                            have o67 := o67.ext l73
                            have o107 := o107.ext l73
                            have o109 := o109.ext l73
                            refine s0 (x_not rfl) ?_
                            refine s0 (x_move (v := .bool _) rfl) ?_
                            refine gt rfl rfl rfl rfl ?_
                            refine st (x_loadAgB ag81 rfl B65 rfl) ?_
                            refine gt rfl rfl rfl rfl ?_
                            refine st (x_loadAgB ag81 rfl B15 rfl) ?_
                            refine gt rfl rfl rfl rfl ?_
                            refine srb (zcall cl75 rfl) (l_eqBlock _ _ _ _ _ _ _ _ _ o109.sl o35.sl (by omega)) (fun h120 w74 l75 => ?_) (fun h120 w74 l75 => ?_)
                            · have z_l75 := l75.size
                              have L := L.tr l75.up
                              have B1 := B1.ext l75
                              have B12 := B12.ext l75
                              have B15 := B15.ext l75
                              have B28 := B28.ext l75
                              have B31 := B31.ext l75
                              have B62 := B62.ext l75
                              have B65 := B65.ext l75
                              have o33 := o33.ext l75
                              have o35 := o35.ext l75
                              have o40 := o40.ext l75
                              have o46 := o46.ext l75
                              have o67 := o67.ext l75
                              have o107 := o107.ext l75
                              have o109 := o109.ext l75
                              refine gt rfl rfl rfl rfl ?_
                              refine s0 (x_not rfl) ?_
                              refine s0 (x_pickf (v := .bool _) rfl rfl) ?_
                              refine s0 (x_move (v := .bool _) rfl) ?_
                              refine gt rfl rfl rfl rfl ?_
                              refine s0 (x_move (v := .int _ _) rfl) ?_
                              refine gt rfl rfl rfl rfl ?_
                              refine s0 (x_move (v := .int _ _) rfl) ?_
                              refine gt rfl rfl rfl rfl ?_
                              refine sb (x_neq rfl rfl) (fun h126 => ?_) (fun h126 => ?_)
                              · exact absurd rfl h126
                              · refine s0 (x_pickf (v := .bool _) rfl rfl) ?_
                                refine c_end ?_
                                refine n_then ?_
                                refine c_false rfl ?_
                                refine c_skipn ?_
                                refine n_then ?_
                                refine wp_seq ?_
                                refine c_reg ?_
                                refine s0 (x_assign (v := .int _ _) rfl) ?_
                                refine c_end ?_
                                refine n_then ?_
                                refine wp_seq ?_
                                refine c_reg ?_
                                refine st (x_loadAgB ag81 rfl B31 rfl) ?_
                                refine s0 (x_move (v := .int _ _) rfl) ?_
                                refine sr (zcall cl84 rfl) (l_heldBlock _ _ _ _ _ _ o46.sl (by omega) (by omega)) ?_
                                intro w76 l77
                                have z_l77 := l77.size
                                have L := L.tr l77.up
                                have B1 := B1.ext l77
                                have B12 := B12.ext l77
                                have B15 := B15.ext l77
                                have B28 := B28.ext l77
                                have B31 := B31.ext l77
                                have B62 := B62.ext l77
                                have B65 := B65.ext l77
                                have o33 := o33.ext l77
                                have o35 := o35.ext l77
                                have o40 := o40.ext l77
                                have o46 := o46.ext l77
                                have o67 := o67.ext l77
                                have o107 := o107.ext l77
                                have o109 := o109.ext l77
                                refine s0 (x_assign (v := .int _ _) rfl) ?_
                                refine c_end ?_
                                refine n_then ?_
                                refine wp_seq ?_
                                refine wp_seq ?_
                                refine c_reg ?_
                                refine s0 (x_move (v := .int _ _) rfl) ?_
                                refine sb (x_lss rfl rfl) (fun h132 => ?_) (fun h132 => ?_)
                                · omega
                                · refine c_end ?_
                                  refine n_then ?_
                                  refine c_false rfl ?_
                                  refine c_skipn ?_
                                  refine n_then ?_
                                  refine wp_seq ?_
                                  refine wp_seq ?_
                                  refine c_reg ?_
                                  refine s0 (x_move (v := .int _ _) rfl) ?_
                                  refine s0 (x_move (v := .int _ _) rfl) ?_
                                  refine sb (x_neq rfl rfl) (fun h135 => ?_) (fun h135 => ?_)
                                  · exact absurd rfl h135
                                  · refine c_end ?_
                                    refine n_then ?_
                                    refine c_false rfl ?_
                                    refine c_skipn ?_
                                    refine n_then ?_
                                    refine wp_seq ?_
                                    refine c_reg ?_
                                    refine s0 (x_assign (v := .bool _) rfl) ?_
                                    refine c_end ?_
                                    refine n_then ?_
                                    refine wp_ret ?_
                                    refine f_ret rfl rfl ?_
                                    exact ⟨rfl, L⟩
                            · exact (h120 (by simp)).elim
                          · exact (h115 (by simp)).elim
                  · exact (h84 (by simp)).elim
                · exact (h78 (by simp)).elim
            · exact (h68 (by simp)).elim
        · exact (h57 (by simp)).elim
      · exact (h52 (by simp)).elim

end Go.Proofs.Ytdnckakaoageoaa
