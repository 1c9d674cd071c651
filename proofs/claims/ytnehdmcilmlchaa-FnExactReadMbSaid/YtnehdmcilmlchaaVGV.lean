/- What each function of this part returns, for every argument that meets its premises. -/
import Derived.Test.YtnehdmcilmlchaaProg
import Derived.Test.YtnehdmcilmlchaaVSxF
import Derived.Test.YtnehdmcilmlchaaVPlX
import Derived.Test.YtnehdmcilmlchaaVF2
import Derived.Test.YtnehdmcilmlchaaVF4
import Derived.Test.YtnehdmcilmlchaaVF7
import Derived.Test.YtnehdmcilmlchaaVFD
import Derived.Test.YtnehdmcilmlchaaVFU
import Derived.Test.YtnehdmcilmlchaaVFV
namespace Go.Proofs.Ytnehdmcilmlchaa
open Go.Sx Go.Pl Go.RowKit
theorem ag35GV : Ag Try.prog 35 2 := ⟨⟨_, Try.underlying35⟩, by kernel_rfl⟩
theorem ag50GV : Ag Try.prog 50 2 := ⟨⟨_, Try.underlying50⟩, by kernel_rfl⟩
theorem ag54GV : Ag Try.prog 54 2 := ⟨⟨_, Try.underlying54⟩, by kernel_rfl⟩
theorem cl29GV : Callable Try.prog 29 := callable Try.func29 (by kernel_rfl) rfl
theorem cl30GV : Callable Try.prog 30 := callable Try.func30 (by kernel_rfl) rfl
theorem cl31GV : Callable Try.prog 31 := callable Try.func31 (by kernel_rfl) rfl
theorem cl32GV : Callable Try.prog 32 := callable Try.func32 (by kernel_rfl) rfl
theorem cl33GV : Callable Try.prog 33 := callable Try.func33 (by kernel_rfl) rfl
theorem cl34GV : Callable Try.prog 34 := callable Try.func34 (by kernel_rfl) rfl
theorem cl35GV : Callable Try.prog 35 := callable Try.func35 (by kernel_rfl) rfl
theorem cl36GV : Callable Try.prog 36 := callable Try.func36 (by kernel_rfl) rfl
theorem cl37GV : Callable Try.prog 37 := callable Try.func37 (by kernel_rfl) rfl
theorem cl38GV : Callable Try.prog 38 := callable Try.func38 (by kernel_rfl) rfl
theorem cl39GV : Callable Try.prog 39 := callable Try.func39 (by kernel_rfl) rfl
theorem sz35GV : Sz Try.prog 35 2 := by unfold Sz; kernel_rfl
theorem sz54GV : Sz Try.prog 54 2 := by unfold Sz; kernel_rfl
theorem un40GV : Try.prog.underlying 40 = some (.slice 3) := by kernel_rfl
theorem zr35GV : ZeroV Try.prog 35 [.string .empty, .int .i64 0] := by unfold ZeroV; kernel_rfl
theorem zr54GV : ZeroV Try.prog 54 [.bool false, .slice none 0 0] := by unfold ZeroV; kernel_rfl
/-- laws.FnExactReadMb -/
theorem l_fnReadMb (s : ByteArray) (a : Int) (p : Option Addr) (xs : List Int) (c : Nat) (w : World) (hs : s.size ≤ 9223372036854775807) (hp : Sl w p xs.length c 1 (ic xs)) (hl : xs.length ≤ 9223372036854775807) :
    Calls Try.prog 5 [.agg [.string s, .int .i64 a].toArray, .slice p xs.length c].toArray w (Ret w (.bool true)) := by
  have L : Exm [] w w := Exm.rfl'
  refine enter (n := 131) Try.func5 rfl rfl rfl ?_
  refine wp_seq ?_
  refine c_reg ?_
  refine s_box rfl rfl ?_
  intro b1 w2 lob1 hib1 l3 B1
  have z_l3 := l3.size
  have L := L.tr l3.up
  refine s0 (x_assign (v := .bool _) rfl) ?_
  refine c_end ?_
  refine n_then ?_
  refine wp_seq ?_
  refine wp_seq ?_
  refine c_reg ?_
  refine s0 (x_move (v := .slice _ _ _) rfl) ?_
  refine s0 (x_lensl un40GV rfl) ?_
  refine sb (x_gtr rfl rfl) (fun h21 => ?_) (fun h21 => ?_)
  · refine c_end ?_
    refine n_then ?_
    refine c_true rfl ?_
    refine wp_seq ?_
    refine c_reg ?_
    refine s0 (x_assign (v := .bool _) rfl) ?_
    refine c_end ?_
    refine n_then ?_
    refine wp_ret (r_then ?_)
    refine f_ret rfl rfl ?_
    exact ⟨rfl, L⟩
  · refine c_end ?_
    refine n_then ?_
    refine c_false rfl ?_
    refine c_skipn ?_
    refine n_then ?_
    refine wp_seq ?_
    refine c_reg ?_
    refine s0 (x_assign (v := .int _ _) rfl) ?_
    refine c_end ?_
    refine n_then ?_
    refine wp_seq ?_
    refine c_reg ?_
    refine st (x_loadAgB ag50GV rfl B1 rfl) ?_
    refine s0 (x_move (v := .int _ _) rfl) ?_
    refine sr (zcall cl29GV rfl) (l_szReader _ _ _ _ (by omega) (by omega)) ?_
    intro w4 l5
    have z_l5 := l5.size
    have L := L.tr l5.up
    have B1 := B1.ext l5
    refine s0 (x_assign (v := .int _ _) rfl) ?_
    refine c_end ?_
    refine n_then ?_
    refine wp_seq ?_
    refine wp_seq ?_
    refine c_reg ?_
    refine s0 (x_move (v := .int _ _) rfl) ?_
    refine sb (x_lss rfl rfl) (fun h26 => ?_) (fun h26 => ?_)
    · refine c_end ?_
      refine n_then ?_
      refine c_true rfl ?_
      refine wp_seq ?_
      refine c_reg ?_
      refine s0 (x_assign (v := .bool _) rfl) ?_
      refine c_end ?_
      refine n_then ?_
      refine wp_ret (r_then ?_)
      refine f_ret rfl rfl ?_
      exact ⟨rfl, L⟩
    · refine c_end ?_
      refine n_then ?_
      refine c_false rfl ?_
      refine c_skipn ?_
      refine n_then ?_
      refine wp_seq ?_
      have hs1 := sz_in h26
      have hs2 : s.size ≤ 1048576 := by omega
      have hl2 : xs.length ≤ 1099511627776 := by omega
      refine c_reg ?_
      refine st (x_loadAgB ag50GV rfl B1 rfl) ?_
      refine sr (zcall cl31GV rfl) (l_toReader _ _ _) ?_
      intro w6 l7
      have z_l7 := l7.size
      have L := L.tr l7.up
      have B1 := B1.ext l7
      refine s0 (x_move (v := .slice _ _ _) rfl) ?_
      refine sp (zcall cl32GV rfl) (l_toIntS _ _ _ _ (hp.ext L) (by omega)) ?_
      rintro v31 w8 l9 ⟨p31, c31, F31, rfl, o31, f31⟩
      have z_l9 := l9.size
      have L := L.tr l9.up
      have B1 := B1.ext l9
      have g31 := o31.lt
      refine sp (zcall cl30GV rfl) (s_readMb _ _ _ _ _ _ (by omega) o31.sl (by omega)) ?_
      rintro v32 w10 l11 ⟨p32, bs32, c32, F32, rfl, o32, f32, hm32⟩
      have z_l11 := l11.size
      have L := L.tr l11.up
      have B1 := B1.ext l11
      have o31 := o31.ext l11
      obtain ⟨hl32, hc32, hb32⟩ := rm_small hm32
      have g32 := o32.lt
      refine s0 (x_move (v := .tuple _) rfl) ?_
      refine s0 (x_extract rfl rfl) ?_
      refine s0 (x_extract rfl rfl) ?_
      refine s0 (x_extract rfl rfl) ?_
      refine s_alloc zr35GV ?_
      intro b12 w13 lob12 hib12 l14 B12
      have z_l14 := l14.size
      have L := L.tr l14.up
      have B1 := B1.ext l14
      have o31 := o31.ext l14
      have o32 := o32.ext l14
      refine s_alloc zr54GV ?_
      intro b15 w16 lob15 hib15 l17 B15
      have z_l17 := l17.size
      have L := L.tr l17.up
      have B1 := B1.ext l17
      have B12 := B12.ext l17
      have o31 := o31.ext l17
      have o32 := o32.ext l17
      refine s_storeAg rfl sz35GV rfl rfl B12 rfl rfl rfl ?_
      intro w18 l19 el19 B12
      have z_l19 := l19.size
      have L := L.fresh l19 (by omega)
      have B1 := B1.ne l19 (by omega)
      have B15 := B15.ne l19 (by omega)
      have o31 := o31.ne l19 (by first | assumption | exact nin_of f31 g31 (by omega))
      have o32 := o32.ne l19 (by first | assumption | exact nin_of f32 g32 (by omega))
      refine s_storeAg rfl sz54GV rfl rfl B15 rfl rfl rfl ?_
      intro w20 l21 el21 B15
      have z_l21 := l21.size
      have L := L.fresh l21 (by omega)
      have B1 := B1.ne l21 (by omega)
      have B12 := B12.ne l21 (by omega)
      have o31 := o31.ne l21 (by first | assumption | exact nin_of f31 g31 (by omega))
      have o32 := o32.ne l21 (by first | assumption | exact nin_of f32 g32 (by omega))
      refine s0 (x_assign (v := .int _ _) rfl) ?_
      refine c_end ?_
      refine n_then ?_
      refine wp_seq ?_
      refine c_reg ?_
      refine s0 (x_move (v := .slice _ _ _) rfl) ?_
      refine sp (zcall cl32GV rfl) (l_toIntS _ _ _ _ (hp.ext L) (by omega)) ?_
      rintro v37 w22 l23 ⟨p37, c37, F37, rfl, o37, f37⟩
      have z_l23 := l23.size
      have L := L.tr l23.up
      have B1 := B1.ext l23
      have B12 := B12.ext l23
      have B15 := B15.ext l23
      have o31 := o31.ext l23
      have o32 := o32.ext l23
      have g37 := o37.lt
      refine s0 (x_assign (v := .slice _ _ _) rfl) ?_
      refine c_end ?_
      refine n_then ?_
      refine wp_seq ?_
      refine c_reg ?_
      refine st (x_loadAgB ag50GV rfl B1 rfl) ?_
      refine sr (zcall cl31GV rfl) (l_toReader _ _ _) ?_
      intro w24 l25
      have z_l25 := l25.size
      have L := L.tr l25.up
      have B1 := B1.ext l25
      have B12 := B12.ext l25
      have B15 := B15.ext l25
      have o31 := o31.ext l25
      have o32 := o32.ext l25
      have o37 := o37.ext l25
      refine s0 (x_move (v := .slice _ _ _) rfl) ?_
      refine sp (zcall cl33GV rfl) (i_readMb _ _ _ _ _ _ (by omega) o37.sl (by omega)) ?_
      rintro v42 w26 l27 ⟨p42, bs42, c42, F42, rfl, o42, f42, hm42⟩
      have z_l27 := l27.size
      have L := L.tr l27.up
      have B1 := B1.ext l27
      have B12 := B12.ext l27
      have B15 := B15.ext l27
      have o31 := o31.ext l27
      have o32 := o32.ext l27
      have o37 := o37.ext l27
      obtain ⟨hl42, hc42, hb42⟩ := rm_small hm42
      have g42 := o42.lt
      refine s0 (x_move (v := .tuple _) rfl) ?_
      refine s0 (x_extract rfl rfl) ?_
      refine s0 (x_extract rfl rfl) ?_
      refine s0 (x_extract rfl rfl) ?_
      refine s_alloc zr35GV ?_
      intro b28 w29 lob28 hib28 l30 B28
      have z_l30 := l30.size
      have L := L.tr l30.up
      have B1 := B1.ext l30
      have B12 := B12.ext l30
      have B15 := B15.ext l30
      have o31 := o31.ext l30
      have o32 := o32.ext l30
      have o37 := o37.ext l30
      have o42 := o42.ext l30
      refine s_alloc zr54GV ?_
      intro b31 w32 lob31 hib31 l33 B31
      have z_l33 := l33.size
      have L := L.tr l33.up
      have B1 := B1.ext l33
      have B12 := B12.ext l33
      have B15 := B15.ext l33
      have B28 := B28.ext l33
      have o31 := o31.ext l33
      have o32 := o32.ext l33
      have o37 := o37.ext l33
      have o42 := o42.ext l33
      refine s_storeAg rfl sz35GV rfl rfl B28 rfl rfl rfl ?_
      intro w34 l35 el35 B28
      have z_l35 := l35.size
      have L := L.fresh l35 (by omega)
      have B1 := B1.ne l35 (by omega)
      have B12 := B12.ne l35 (by omega)
      have B15 := B15.ne l35 (by omega)
      have B31 := B31.ne l35 (by omega)
      have o31 := o31.ne l35 (by first | assumption | exact nin_of f31 g31 (by omega))
      have o32 := o32.ne l35 (by first | assumption | exact nin_of f32 g32 (by omega))
      have o37 := o37.ne l35 (by first | assumption | exact nin_of f37 g37 (by omega))
      have o42 := o42.ne l35 (by first | assumption | exact nin_of f42 g42 (by omega))
      refine s_storeAg rfl sz54GV rfl rfl B31 rfl rfl rfl ?_
      intro w36 l37 el37 B31
      have z_l37 := l37.size
      have L := L.fresh l37 (by omega)
      have B1 := B1.ne l37 (by omega)
      have B12 := B12.ne l37 (by omega)
      have B15 := B15.ne l37 (by omega)
      have B28 := B28.ne l37 (by omega)
      have o31 := o31.ne l37 (by first | assumption | exact nin_of f31 g31 (by omega))
      have o32 := o32.ne l37 (by first | assumption | exact nin_of f32 g32 (by omega))
      have o37 := o37.ne l37 (by first | assumption | exact nin_of f37 g37 (by omega))
      have o42 := o42.ne l37 (by first | assumption | exact nin_of f42 g42 (by omega))
      refine s0 (x_assign (v := .int _ _) rfl) ?_
      refine c_end ?_
      refine n_then ?_
      refine wp_seq ?_
      refine wp_seq ?_
      refine c_reg ?_
      refine st (x_loadAgB ag35GV rfl B28 rfl) ?_
      refine st (x_loadAgB ag35GV rfl B12 rfl) ?_
      refine srb (zcall cl34GV rfl) (l_eqReader _ _ _ _ _) (fun h48 w38 l39 => ?_) (fun h48 w38 l39 => ?_)
      · have z_l39 := l39.size
        have L := L.tr l39.up
        have B1 := B1.ext l39
        have B12 := B12.ext l39
        have B15 := B15.ext l39
        have B28 := B28.ext l39
        have B31 := B31.ext l39
        have o31 := o31.ext l39
        have o32 := o32.ext l39
        have o37 := o37.ext l39
        have o42 := o42.ext l39
        refine s0 (x_not rfl) ?_
        refine s0 (x_move (v := .bool _) rfl) ?_
        refine gt rfl rfl rfl rfl ?_
        refine st (x_loadAgB ag54GV rfl B31 rfl) ?_
        refine gt rfl rfl rfl rfl ?_
        refine st (x_loadAgB ag54GV rfl B15 rfl) ?_
        refine gt rfl rfl rfl rfl ?_
        refine srb (zcall cl35GV rfl) (l_eqMb _ _ _ _ _ _ _ _ _ o42.rd o32.rd (by omega) hb42) (fun h53 w40 l41 => ?_) (fun h53 w40 l41 => ?_)
        · have z_l41 := l41.size
          have L := L.tr l41.up
          have B1 := B1.ext l41
          have B12 := B12.ext l41
          have B15 := B15.ext l41
          have B28 := B28.ext l41
          have B31 := B31.ext l41
          have o31 := o31.ext l41
          have o32 := o32.ext l41
          have o37 := o37.ext l41
          have o42 := o42.ext l41
          refine gt rfl rfl rfl rfl ?_
          refine s0 (x_not rfl) ?_
          refine s0 (x_pickf (v := .bool _) rfl rfl) ?_
          refine s0 (x_move (v := .bool _) rfl) ?_
          refine gt rfl rfl rfl rfl ?_
          refine s0 (x_move (v := .int _ _) rfl) ?_
          refine gt rfl rfl rfl rfl ?_
          refine s0 (x_move (v := .int _ _) rfl) ?_
          refine gt rfl rfl rfl rfl ?_
          refine sb (x_neq rfl rfl) (fun h59 => ?_) (fun h59 => ?_)
          · exact absurd rfl h59
          · refine s0 (x_pickf (v := .bool _) rfl rfl) ?_
            refine c_end ?_
            refine n_then ?_
            refine c_false rfl ?_
            refine c_skipn ?_
            refine n_then ?_
            refine wp_seq ?_
            refine wp_seq ?_
            refine c_reg ?_
            refine s0 (x_move (v := .slice _ _ _) rfl) ?_
            refine s0 (x_move (v := .slice _ _ _) rfl) ?_
            refine sp (zcall cl32GV rfl) (l_toIntS _ _ _ _ (hp.ext L) (by omega)) ?_
            rintro v63 w42 l43 ⟨p63, c63, F63, rfl, o63, f63⟩
            have z_l43 := l43.size
            have L := L.tr l43.up
            have B1 := B1.ext l43
            have B12 := B12.ext l43
            have B15 := B15.ext l43
            have B28 := B28.ext l43
            have B31 := B31.ext l43
            have o31 := o31.ext l43
            have o32 := o32.ext l43
            have o37 := o37.ext l43
            have o42 := o42.ext l43
            have g63 := o63.lt
            refine srb (zcall cl36GV rfl) (l_eqIntS _ _ _ _ _ _ _ o37.sl o63.sl (by omega)) (fun h64 w44 l45 => ?_) (fun h64 w44 l45 => ?_)
            · have z_l45 := l45.size
              have L := L.tr l45.up
              have B1 := B1.ext l45
              have B12 := B12.ext l45
              have B15 := B15.ext l45
              have B28 := B28.ext l45
              have B31 := B31.ext l45
              have o31 := o31.ext l45
              have o32 := o32.ext l45
              have o37 := o37.ext l45
              have o42 := o42.ext l45
              have o63 := o63.ext l45
              refine s0 (x_not rfl) ?_
              refine c_end ?_
              refine n_then ?_
              refine c_false rfl ?_
              refine c_skipn ?_
              refine n_then ?_
              refine wp_seq ?_
              refine c_reg ?_
              refine s0 (x_assign (v := .int _ _) rfl) ?_
              refine c_end ?_
              refine n_then ?_
              refine wp_seq ?_
              refine c_reg ?_
              refine s0 (x_move (v := .slice _ _ _) rfl) ?_
              refine s0 (x_move (v := .int _ _) rfl) ?_
              refine spm (zcall cl37GV rfl) (l_markIntS _ _ _ _ _ _ o37 (by omega) (by omega)) ?_
              rintro v68 w46 l47 ⟨rfl, o37⟩
              have z_l47 := l47.size
              have L := L.freshL l47 f37 (by omega)
              have B1 := B1.exm l47 (by first | assumption | exact nin_of f37 g37 (by omega))
              have B12 := B12.exm l47 (by first | assumption | exact nin_of f37 g37 (by omega))
              have B15 := B15.exm l47 (by first | assumption | exact nin_of f37 g37 (by omega))
              have B28 := B28.exm l47 (by first | assumption | exact nin_of f37 g37 (by omega))
              have B31 := B31.exm l47 (by first | assumption | exact nin_of f37 g37 (by omega))
              have o31 := o31.exm l47 (by first | assumption | exact Dj.symm (by assumption) | exact dj_of f37 g37 f31 g31 (by omega))
              have o32 := o32.exm l47 (by first | assumption | exact Dj.symm (by assumption) | exact dj_of f37 g37 f32 g32 (by omega))
              have o42 := o42.exm l47 (by first | assumption | exact Dj.symm (by assumption) | exact dj_of f37 g37 f42 g42 (by omega))
              have o63 := o63.exm l47 (by first | assumption | exact Dj.symm (by assumption) | exact dj_of f37 g37 f63 g63 (by omega))
              refine s0 (x_assign (v := .int _ _) rfl) ?_
              refine c_end ?_
              refine n_then ?_
              refine wp_seq ?_
              refine wp_seq ?_
              refine c_reg ?_
              refine s0 (x_move (v := .int _ _) rfl) ?_
              refine sb (x_lss rfl rfl) (fun h70 => ?_) (fun h70 => ?_)
              · omega
              · refine s0 (x_move (v := .bool _) rfl) ?_
                refine gt rfl rfl rfl rfl ?_
                refine st (x_loadAgB ag35GV rfl B28 rfl) ?_
                refine gt rfl rfl rfl rfl ?_
                refine st (x_loadAgB ag35GV rfl B12 rfl) ?_
                refine gt rfl rfl rfl rfl ?_
                refine srb (zcall cl34GV rfl) (l_eqReader _ _ _ _ _) (fun h74 w48 l49 => ?_) (fun h74 w48 l49 => ?_)
                · have z_l49 := l49.size
                  have L := L.tr l49.up
                  have B1 := B1.ext l49
                  have B12 := B12.ext l49
                  have B15 := B15.ext l49
                  have B28 := B28.ext l49
                  have B31 := B31.ext l49
                  have o31 := o31.ext l49
                  have o32 := o32.ext l49
                  have o37 := o37.ext l49
                  have o42 := o42.ext l49
                  have o63 := o63.ext l49
                  refine gt rfl rfl rfl rfl ?_
                  refine s0 (x_not rfl) ?_
                  refine s0 (x_pickf (v := .bool _) rfl rfl) ?_
                  refine s0 (x_move (v := .bool _) rfl) ?_
                  refine gt rfl rfl rfl rfl ?_
                  refine st (x_loadAgB ag54GV rfl B31 rfl) ?_
                  refine gt rfl rfl rfl rfl ?_
                  refine st (x_loadAgB ag54GV rfl B15 rfl) ?_
                  refine gt rfl rfl rfl rfl ?_
                  refine srb (zcall cl35GV rfl) (l_eqMb _ _ _ _ _ _ _ _ _ o42.rd o32.rd (by omega) hb42) (fun h80 w50 l51 => ?_) (fun h80 w50 l51 => ?_)
                  · have z_l51 := l51.size
                    have L := L.tr l51.up
                    have B1 := B1.ext l51
                    have B12 := B12.ext l51
                    have B15 := B15.ext l51
                    have B28 := B28.ext l51
                    have B31 := B31.ext l51
                    have o31 := o31.ext l51
                    have o32 := o32.ext l51
                    have o37 := o37.ext l51
                    have o42 := o42.ext l51
                    have o63 := o63.ext l51
                    refine gt rfl rfl rfl rfl ?_
                    refine s0 (x_not rfl) ?_
                    refine s0 (x_pickf (v := .bool _) rfl rfl) ?_
                    refine s0 (x_move (v := .bool _) rfl) ?_
                    refine gt rfl rfl rfl rfl ?_
                    refine s0 (x_move (v := .int _ _) rfl) ?_
                    refine gt rfl rfl rfl rfl ?_
                    refine s0 (x_move (v := .int _ _) rfl) ?_
                    refine gt rfl rfl rfl rfl ?_
                    refine sb (x_neq rfl rfl) (fun h86 => ?_) (fun h86 => ?_)
                    · exact absurd rfl h86
                    · refine s0 (x_pickf (v := .bool _) rfl rfl) ?_
                      refine c_end ?_
                      refine n_then ?_
                      refine c_false rfl ?_
                      refine c_skipn ?_
                      refine n_then ?_
                      refine wp_seq ?_
                      refine c_reg ?_
                      refine s0 (x_assign (v := .int _ _) rfl) ?_
                      refine c_end ?_
                      refine n_then ?_
                      refine wp_seq ?_
                      refine c_reg ?_
                      refine st (x_loadAgB ag54GV rfl B31 rfl) ?_
                      refine s0 (x_move (v := .int _ _) rfl) ?_
                      refine spm (zcall cl38GV rfl) (l_markMb _ _ _ _ _ _ _ _ o42 (by first | rfl | assumption) (by omega) (by assumption) (by omega)) ?_
                      rintro v90 w52 l53 ⟨bs90, rfl, o42, hm90, hn90, hk90, hb90, hr90⟩
                      have z_l53 := l53.size
                      have L := L.freshL l53 f42 (by omega)
                      have B1 := B1.exm l53 (by first | assumption | exact nin_of f42 g42 (by omega))
                      have B12 := B12.exm l53 (by first | assumption | exact nin_of f42 g42 (by omega))
                      have B15 := B15.exm l53 (by first | assumption | exact nin_of f42 g42 (by omega))
                      have B28 := B28.exm l53 (by first | assumption | exact nin_of f42 g42 (by omega))
                      have B31 := B31.exm l53 (by first | assumption | exact nin_of f42 g42 (by omega))
                      have o31 := o31.exm l53 (by first | assumption | exact Dj.symm (by assumption) | exact dj_of f42 g42 f31 g31 (by omega))
                      have o32 := o32.exm l53 (by first | assumption | exact Dj.symm (by assumption) | exact dj_of f42 g42 f32 g32 (by omega))
                      have o37 := o37.exm l53 (by first | assumption | exact Dj.symm (by assumption) | exact dj_of f42 g42 f37 g37 (by omega))
                      have o63 := o63.exm l53 (by first | assumption | exact Dj.symm (by assumption) | exact dj_of f42 g42 f63 g63 (by omega))
                      refine s0 (x_assign (v := .int _ _) rfl) ?_
                      refine c_end ?_
                      refine n_then ?_
                      refine wp_seq ?_
                      refine c_reg ?_
                      refine s0 (x_assign (v := .int _ _) rfl) ?_
                      refine c_end ?_
                      refine n_then ?_
                      refine wp_seq ?_
                      refine c_reg ?_
                      refine st (x_loadAgB ag54GV rfl B31 rfl) ?_
                      refine s0 (x_move (v := .int _ _) rfl) ?_
                      refine sr (zcall cl39GV rfl) (l_heldMb _ _ _ _ _ _ _ o42.rd (by assumption) (by assumption) (by omega) (by assumption) (by omega)) ?_
                      intro w54 l55
                      have z_l55 := l55.size
                      have L := L.tr l55.up
                      have B1 := B1.ext l55
                      have B12 := B12.ext l55
                      have B15 := B15.ext l55
                      have B28 := B28.ext l55
                      have B31 := B31.ext l55
                      have o31 := o31.ext l55
                      have o32 := o32.ext l55
                      have o37 := o37.ext l55
                      have o42 := o42.ext l55
                      have o63 := o63.ext l55
                      refine s0 (x_assign (v := .int _ _) rfl) ?_
                      refine c_end ?_
                      refine n_then ?_
                      refine wp_seq ?_
                      refine wp_seq ?_
                      refine c_reg ?_
                      refine s0 (x_move (v := .int _ _) rfl) ?_
                      refine sb (x_lss rfl rfl) (fun h95 => ?_) (fun h95 => ?_)
                      · omega
                      · refine c_end ?_
                        refine n_then ?_
                        refine c_false rfl ?_
                        refine c_skipn ?_
                        refine n_then ?_
                        refine wp_seq ?_
                        refine wp_seq ?_
                        refine c_reg ?_
                        refine s0 (x_move (v := .int _ _) rfl) ?_
                        refine s0 (x_move (v := .int _ _) rfl) ?_
                        refine sb (x_neq rfl rfl) (fun h98 => ?_) (fun h98 => ?_)
                        · exact absurd rfl h98
                        · refine c_end ?_
                          refine n_then ?_
                          refine c_false rfl ?_
                          refine c_skipn ?_
                          refine n_then ?_
                          refine wp_seq ?_
                          refine c_reg ?_
                          refine st (x_loadAgB ag50GV rfl B1 rfl) ?_
                          refine sr (zcall cl31GV rfl) (l_toReader _ _ _) ?_
                          intro w56 l57
                          have z_l57 := l57.size
                          have L := L.tr l57.up
                          have B1 := B1.ext l57
                          have B12 := B12.ext l57
                          have B15 := B15.ext l57
                          have B28 := B28.ext l57
                          have B31 := B31.ext l57
                          have o31 := o31.ext l57
                          have o32 := o32.ext l57
                          have o37 := o37.ext l57
                          have o42 := o42.ext l57
                          have o63 := o63.ext l57
                          refine s0 (x_move (v := .slice _ _ _) rfl) ?_
                          refine sp (zcall cl32GV rfl) (l_toIntS _ _ _ _ (hp.ext L) (by omega)) ?_
                          rintro v103 w58 l59 ⟨p103, c103, F103, rfl, o103, f103⟩
                          have z_l59 := l59.size
                          have L := L.tr l59.up
                          have B1 := B1.ext l59
                          have B12 := B12.ext l59
                          have B15 := B15.ext l59
                          have B28 := B28.ext l59
                          have B31 := B31.ext l59
                          have o31 := o31.ext l59
                          have o32 := o32.ext l59
                          have o37 := o37.ext l59
                          have o42 := o42.ext l59
                          have o63 := o63.ext l59
                          have g103 := o103.lt
                          refine sp (zcall cl33GV rfl) (i_readMb _ _ _ _ _ _ (by omega) o103.sl (by omega)) ?_
                          rintro v104 w60 l61 ⟨p104, bs104, c104, F104, rfl, o104, f104, hm104⟩
                          have z_l61 := l61.size
                          have L := L.tr l61.up
                          have B1 := B1.ext l61
                          have B12 := B12.ext l61
                          have B15 := B15.ext l61
                          have B28 := B28.ext l61
                          have B31 := B31.ext l61
                          have o31 := o31.ext l61
                          have o32 := o32.ext l61
                          have o37 := o37.ext l61
                          have o42 := o42.ext l61
                          have o63 := o63.ext l61
                          have o103 := o103.ext l61
                          obtain ⟨hl104, hc104, hb104⟩ := rm_small hm104
                          have g104 := o104.lt
                          refine s0 (x_move (v := .tuple _) rfl) ?_
                          refine s0 (x_extract rfl rfl) ?_
                          refine s0 (x_extract rfl rfl) ?_
                          refine s0 (x_extract rfl rfl) ?_
                          refine s_alloc zr35GV ?_
                          intro b62 w63 lob62 hib62 l64 B62
                          have z_l64 := l64.size
                          have L := L.tr l64.up
                          have B1 := B1.ext l64
                          have B12 := B12.ext l64
                          have B15 := B15.ext l64
                          have B28 := B28.ext l64
                          have B31 := B31.ext l64
                          have o31 := o31.ext l64
                          have o32 := o32.ext l64
                          have o37 := o37.ext l64
                          have o42 := o42.ext l64
                          have o63 := o63.ext l64
                          have o103 := o103.ext l64
                          have o104 := o104.ext l64
                          refine s_alloc zr54GV ?_
                          intro b65 w66 lob65 hib65 l67 B65
                          have z_l67 := l67.size
                          have L := L.tr l67.up
                          have B1 := B1.ext l67
                          have B12 := B12.ext l67
                          have B15 := B15.ext l67
                          have B28 := B28.ext l67
                          have B31 := B31.ext l67
                          have B62 := B62.ext l67
                          have o31 := o31.ext l67
                          have o32 := o32.ext l67
                          have o37 := o37.ext l67
                          have o42 := o42.ext l67
                          have o63 := o63.ext l67
                          have o103 := o103.ext l67
                          have o104 := o104.ext l67
                          refine s_storeAg rfl sz35GV rfl rfl B62 rfl rfl rfl ?_
                          intro w68 l69 el69 B62
                          have z_l69 := l69.size
                          have L := L.fresh l69 (by omega)
                          have B1 := B1.ne l69 (by omega)
                          have B12 := B12.ne l69 (by omega)
                          have B15 := B15.ne l69 (by omega)
                          have B28 := B28.ne l69 (by omega)
                          have B31 := B31.ne l69 (by omega)
                          have B65 := B65.ne l69 (by omega)
                          have o31 := o31.ne l69 (by first | assumption | exact nin_of f31 g31 (by omega))
                          have o32 := o32.ne l69 (by first | assumption | exact nin_of f32 g32 (by omega))
                          have o37 := o37.ne l69 (by first | assumption | exact nin_of f37 g37 (by omega))
                          have o42 := o42.ne l69 (by first | assumption | exact nin_of f42 g42 (by omega))
                          have o63 := o63.ne l69 (by first | assumption | exact nin_of f63 g63 (by omega))
                          have o103 := o103.ne l69 (by first | assumption | exact nin_of f103 g103 (by omega))
                          have o104 := o104.ne l69 (by first | assumption | exact nin_of f104 g104 (by omega))
                          refine s_storeAg rfl sz54GV rfl rfl B65 rfl rfl rfl ?_
                          intro w70 l71 el71 B65
                          have z_l71 := l71.size
                          have L := L.fresh l71 (by omega)
                          have B1 := B1.ne l71 (by omega)
                          have B12 := B12.ne l71 (by omega)
                          have B15 := B15.ne l71 (by omega)
                          have B28 := B28.ne l71 (by omega)
                          have B31 := B31.ne l71 (by omega)
                          have B62 := B62.ne l71 (by omega)
                          have o31 := o31.ne l71 (by first | assumption | exact nin_of f31 g31 (by omega))
                          have o32 := o32.ne l71 (by first | assumption | exact nin_of f32 g32 (by omega))
                          have o37 := o37.ne l71 (by first | assumption | exact nin_of f37 g37 (by omega))
                          have o42 := o42.ne l71 (by first | assumption | exact nin_of f42 g42 (by omega))
                          have o63 := o63.ne l71 (by first | assumption | exact nin_of f63 g63 (by omega))
                          have o103 := o103.ne l71 (by first | assumption | exact nin_of f103 g103 (by omega))
                          have o104 := o104.ne l71 (by first | assumption | exact nin_of f104 g104 (by omega))
                          refine s0 (x_assign (v := .int _ _) rfl) ?_
                          refine c_end ?_
                          refine n_then ?_
                          refine wp_seq ?_
                          refine wp_seq ?_
                          refine c_reg ?_
                          refine st (x_loadAgB ag35GV rfl B62 rfl) ?_
                          refine st (x_loadAgB ag35GV rfl B12 rfl) ?_
                          refine srb (zcall cl34GV rfl) (l_eqReader _ _ _ _ _) (fun h110 w72 l73 => ?_) (fun h110 w72 l73 => ?_)
                          · have z_l73 := l73.size
                            have L := L.tr l73.up
                            have B1 := B1.ext l73
                            have B12 := B12.ext l73
                            have B15 := B15.ext l73
                            have B28 := B28.ext l73
                            have B31 := B31.ext l73
                            have B62 := B62.ext l73
                            have B65 := B65.ext l73
                            have o31 := o31.ext l73
                            have o32 := o32.ext l73
                            have o37 := o37.ext l73
                            have o42 := o42.ext l73
                            have o63 := o63.ext l73
                            have o103 := o103.ext l73
                            have o104 := o104.ext l73
                            refine s0 (x_not rfl) ?_
                            refine s0 (x_move (v := .bool _) rfl) ?_
                            refine gt rfl rfl rfl rfl ?_
                            refine st (x_loadAgB ag54GV rfl B65 rfl) ?_
                            refine gt rfl rfl rfl rfl ?_
                            refine st (x_loadAgB ag54GV rfl B15 rfl) ?_
                            refine gt rfl rfl rfl rfl ?_
                            refine srb (zcall cl35GV rfl) (l_eqMb _ _ _ _ _ _ _ _ _ o104.rd o32.rd (by omega) hb104) (fun h115 w74 l75 => ?_) (fun h115 w74 l75 => ?_)
                            · have z_l75 := l75.size
                              have L := L.tr l75.up
                              have B1 := B1.ext l75
                              have B12 := B12.ext l75
                              have B15 := B15.ext l75
                              have B28 := B28.ext l75
                              have B31 := B31.ext l75
                              have B62 := B62.ext l75
                              have B65 := B65.ext l75
                              have o31 := o31.ext l75
                              have o32 := o32.ext l75
                              have o37 := o37.ext l75
                              have o42 := o42.ext l75
                              have o63 := o63.ext l75
                              have o103 := o103.ext l75
                              have o104 := o104.ext l75
                              refine gt rfl rfl rfl rfl ?_
                              refine s0 (x_not rfl) ?_
                              refine s0 (x_pickf (v := .bool _) rfl rfl) ?_
                              refine s0 (x_move (v := .bool _) rfl) ?_
                              refine gt rfl rfl rfl rfl ?_
                              refine s0 (x_move (v := .int _ _) rfl) ?_
                              refine gt rfl rfl rfl rfl ?_
                              refine s0 (x_move (v := .int _ _) rfl) ?_
                              refine gt rfl rfl rfl rfl ?_
                              refine sb (x_neq rfl rfl) (fun h121 => ?_) (fun h121 => ?_)
                              · exact absurd rfl h121
                              · refine s0 (x_pickf (v := .bool _) rfl rfl) ?_
                                refine c_end ?_
                                refine n_then ?_
                                refine c_false rfl ?_
                                refine c_skipn ?_
                                refine n_then ?_
                                refine wp_seq ?_
                                refine c_reg ?_
                                refine s0 (x_assign (v := .int _ _) rfl) ?_
                                refine c_end ?_
                                refine n_then ?_
                                refine wp_seq ?_
                                refine c_reg ?_
                                refine st (x_loadAgB ag54GV rfl B31 rfl) ?_
                                refine s0 (x_move (v := .int _ _) rfl) ?_
                                refine sr (zcall cl39GV rfl) (l_heldMb _ _ _ _ _ _ _ o42.rd (by assumption) (by assumption) (by omega) (by assumption) (by omega)) ?_
                                intro w76 l77
                                have z_l77 := l77.size
                                have L := L.tr l77.up
                                have B1 := B1.ext l77
                                have B12 := B12.ext l77
                                have B15 := B15.ext l77
                                have B28 := B28.ext l77
                                have B31 := B31.ext l77
                                have B62 := B62.ext l77
                                have B65 := B65.ext l77
                                have o31 := o31.ext l77
                                have o32 := o32.ext l77
                                have o37 := o37.ext l77
                                have o42 := o42.ext l77
                                have o63 := o63.ext l77
                                have o103 := o103.ext l77
                                have o104 := o104.ext l77
                                refine s0 (x_assign (v := .int _ _) rfl) ?_
                                refine c_end ?_
                                refine n_then ?_
                                refine wp_seq ?_
                                refine wp_seq ?_
                                refine c_reg ?_
                                refine s0 (x_move (v := .int _ _) rfl) ?_
                                refine sb (x_lss rfl rfl) (fun h127 => ?_) (fun h127 => ?_)
                                · omega
                                · refine c_end ?_
                                  refine n_then ?_
                                  refine c_false rfl ?_
                                  refine c_skipn ?_
                                  refine n_then ?_
                                  refine wp_seq ?_
                                  refine wp_seq ?_
                                  refine c_reg ?_
                                  refine s0 (x_move (v := .int _ _) rfl) ?_
                                  refine s0 (x_move (v := .int _ _) rfl) ?_
                                  refine sb (x_neq rfl rfl) (fun h130 => ?_) (fun h130 => ?_)
                                  · exact absurd rfl h130
                                  · refine c_end ?_
                                    refine n_then ?_
                                    refine c_false rfl ?_
                                    refine c_skipn ?_
                                    refine n_then ?_
                                    refine wp_seq ?_
                                    refine c_reg ?_
                                    refine s0 (x_assign (v := .bool _) rfl) ?_
                                    refine c_end ?_
                                    refine n_then ?_
                                    refine wp_ret ?_
                                    refine f_ret rfl rfl ?_
                                    exact ⟨rfl, L⟩
                            · exact (h115 ⟨rfl, hm104.trans hm32.symm⟩).elim
                          · exact (h110 (by simp)).elim
                  · exact (h80 ⟨rfl, hm42.trans hm32.symm⟩).elim
                · exact (h74 (by simp)).elim
            · exact (h64 (by simp)).elim
        · exact (h53 ⟨rfl, hm42.trans hm32.symm⟩).elim
      · exact (h48 (by simp)).elim

end Go.Proofs.Ytnehdmcilmlchaa
