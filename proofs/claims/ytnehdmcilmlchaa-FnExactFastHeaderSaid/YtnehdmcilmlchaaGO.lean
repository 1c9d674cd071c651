/- What each function of this part returns, for every argument that meets its premises. -/
import Derived.Test.YtnehdmcilmlchaaProg
import Derived.Test.YtnehdmcilmlchaaSxF
import Derived.Test.YtnehdmcilmlchaaPlW
import Derived.Test.YtnehdmcilmlchaaF1
import Derived.Test.YtnehdmcilmlchaaF3
import Derived.Test.YtnehdmcilmlchaaF4
import Derived.Test.YtnehdmcilmlchaaF8
import Derived.Test.YtnehdmcilmlchaaFA
import Derived.Test.YtnehdmcilmlchaaFJ
import Derived.Test.YtnehdmcilmlchaaFO
namespace Go.Proofs.Ytnehdmcilmlchaa
open Go.Sx Go.Pl Go.RowKit
theorem ag25GO : Ag Try.prog 25 4 := ⟨⟨_, Try.underlying25⟩, by kernel_rfl⟩
theorem ag42GO : Ag Try.prog 42 6 := ⟨⟨_, Try.underlying42⟩, by kernel_rfl⟩
theorem ag72GO : Ag Try.prog 72 4 := ⟨⟨_, Try.underlying72⟩, by kernel_rfl⟩
theorem cl24GO : Callable Try.prog 24 := callable Try.func24 (by kernel_rfl) rfl
theorem cl45GO : Callable Try.prog 45 := callable Try.func45 (by kernel_rfl) rfl
theorem cl46GO : Callable Try.prog 46 := callable Try.func46 (by kernel_rfl) rfl
theorem cl47GO : Callable Try.prog 47 := callable Try.func47 (by kernel_rfl) rfl
theorem cl48GO : Callable Try.prog 48 := callable Try.func48 (by kernel_rfl) rfl
theorem cl49GO : Callable Try.prog 49 := callable Try.func49 (by kernel_rfl) rfl
theorem cl50GO : Callable Try.prog 50 := callable Try.func50 (by kernel_rfl) rfl
theorem cl51GO : Callable Try.prog 51 := callable Try.func51 (by kernel_rfl) rfl
theorem cl52GO : Callable Try.prog 52 := callable Try.func52 (by kernel_rfl) rfl
theorem cl53GO : Callable Try.prog 53 := callable Try.func53 (by kernel_rfl) rfl
theorem cl54GO : Callable Try.prog 54 := callable Try.func54 (by kernel_rfl) rfl
theorem cl55GO : Callable Try.prog 55 := callable Try.func55 (by kernel_rfl) rfl
theorem sz25GO : Sz Try.prog 25 4 := by unfold Sz; kernel_rfl
theorem sz42GO : Sz Try.prog 42 6 := by unfold Sz; kernel_rfl
theorem zr25GO : ZeroV Try.prog 25 [.string .empty, .int .i64 0, .int .i64 0, .int .i64 0] := by unfold ZeroV; kernel_rfl
theorem zr42GO : ZeroV Try.prog 42 [.int .i64 0, .int .i64 0, .int .i64 0, .bool false, .bool false, .slice none 0 0] := by unfold ZeroV; kernel_rfl
/-- laws.FnExactFastHeader -/
theorem l_fnFastHeader (s : ByteArray) (ca : Ca) (p : Option Addr) (t : List (Int × Int)) (c : Nat) (w : World) (hs : s.size ≤ 9223372036854775807) (hp : Sl w p t.length c 2 (t.flatMap erow)) (hl : t.length ≤ 9223372036854775807) :
    Calls Try.prog 7 [.agg [.string s, .int .i64 (ca).pos, .int .i64 (ca).word, .int .i64 (ca).hv].toArray, .slice p t.length c].toArray w (Ret w (.bool true)) := by
  have L : Exm [] w w := Exm.rfl'
  refine enter (n := 133) Try.func7 rfl rfl rfl ?_
  refine wp_seq ?_
  refine c_reg ?_
  refine s_box rfl rfl ?_
  intro b1 w2 lob1 hib1 l3 B1
  have z_l3 := l3.size
  have L := L.tr l3.up
  refine s0 (x_assign (v := .bool _) rfl) ?_
  refine c_end ?_
  refine n_then ?_
  refine wp_seq ?_
  refine c_reg ?_
  refine s0 (x_assign (v := .int _ _) rfl) ?_
  refine c_end ?_
  refine n_then ?_
  refine wp_seq ?_
  refine c_reg ?_
  refine st (x_loadAgB ag72GO rfl B1 rfl) ?_
  refine s0 (x_move (v := .int _ _) rfl) ?_
  refine sr (zcall cl45GO rfl) (l_szCache _ _ _ _ _ _ (by omega) (by omega)) ?_
  intro w4 l5
  have z_l5 := l5.size
  have L := L.tr l5.up
  have B1 := B1.ext l5
  refine s0 (x_assign (v := .int _ _) rfl) ?_
  refine c_end ?_
  refine n_then ?_
  refine wp_seq ?_
  refine wp_seq ?_
  refine c_reg ?_
  refine s0 (x_move (v := .int _ _) rfl) ?_
  refine sb (x_lss rfl rfl) (fun h23 => ?_) (fun h23 => ?_)
  · refine c_end ?_
    refine n_then ?_
    refine c_true rfl ?_
    refine wp_seq ?_
    refine c_reg ?_
    refine s0 (x_assign (v := .bool _) rfl) ?_
    refine c_end ?_
    refine n_then ?_
    refine wp_ret (r_then ?_)
    refine f_ret rfl rfl ?_
    exact ⟨rfl, L⟩
  · refine c_end ?_
    refine n_then ?_
    refine c_false rfl ?_
    refine c_skipn ?_
    refine n_then ?_
    refine wp_seq ?_
    have hs1 := sz_in h23
    refine c_reg ?_
    refine s0 (x_move (v := .slice _ _ _) rfl) ?_
    refine s0 (x_move (v := .int _ _) rfl) ?_
    refine sr (zcall cl46GO rfl) (l_szEntryS _ _ _ _ _ (by omega) (by omega)) ?_
    intro w6 l7
    have z_l7 := l7.size
    have L := L.tr l7.up
    have B1 := B1.ext l7
    refine s0 (x_assign (v := .int _ _) rfl) ?_
    refine c_end ?_
    refine n_then ?_
    refine wp_seq ?_
    refine wp_seq ?_
    refine c_reg ?_
    refine s0 (x_move (v := .int _ _) rfl) ?_
    refine sb (x_lss rfl rfl) (fun h28 => ?_) (fun h28 => ?_)
    · refine c_end ?_
      refine n_then ?_
      refine c_true rfl ?_
      refine wp_seq ?_
      refine c_reg ?_
      refine s0 (x_assign (v := .bool _) rfl) ?_
      refine c_end ?_
      refine n_then ?_
      refine wp_ret (r_then ?_)
      refine f_ret rfl rfl ?_
      exact ⟨rfl, L⟩
    · refine c_end ?_
      refine n_then ?_
      refine c_false rfl ?_
      refine c_skipn ?_
      refine n_then ?_
      refine wp_seq ?_
      have hs2 := sz_in h28
      have hs3 : s.size ≤ 1048576 := by omega
      have hl3 : t.length ≤ 1099511627776 := by omega
      have hfl : (fhL s ca t).length ≤ 6 := by unfold fhL; split; exact hdL_len _ _; simp
      refine c_reg ?_
      refine st (x_loadAgB ag72GO rfl B1 rfl) ?_
      refine sr (zcall cl48GO rfl) (l_toCache _ _ _ _ _) ?_
      intro w8 l9
      have z_l9 := l9.size
      have L := L.tr l9.up
      have B1 := B1.ext l9
      refine s0 (x_move (v := .slice _ _ _) rfl) ?_
      refine sp (zcall cl49GO rfl) (l_toEntryS _ _ _ _ (hp.ext L) (by omega)) ?_
      rintro v33 w10 l11 ⟨p33, c33, F33, rfl, o33, f33⟩
      have z_l11 := l11.size
      have L := L.tr l11.up
      have B1 := B1.ext l11
      have g33 := o33.lt
      refine sp (zcall cl47GO rfl) (s_fastHeader _ _ _ _ _ _ (by omega) o33.sl (by omega)) ?_
      rintro v34 w12 l13 ⟨p34, c34, F34, rfl, o34, f34⟩
      have z_l13 := l13.size
      have L := L.tr l13.up
      have B1 := B1.ext l13
      have o33 := o33.ext l13
      have g34 := o34.lt
      refine s0 (x_move (v := .tuple _) rfl) ?_
      refine s0 (x_extract rfl rfl) ?_
      refine s0 (x_extract rfl rfl) ?_
      refine s0 (x_extract rfl rfl) ?_
      refine s_alloc zr25GO ?_
      intro b14 w15 lob14 hib14 l16 B14
      have z_l16 := l16.size
      have L := L.tr l16.up
      have B1 := B1.ext l16
      have o33 := o33.ext l16
      have o34 := o34.ext l16
      refine s_alloc zr42GO ?_
      intro b17 w18 lob17 hib17 l19 B17
      have z_l19 := l19.size
      have L := L.tr l19.up
      have B1 := B1.ext l19
      have B14 := B14.ext l19
      have o33 := o33.ext l19
      have o34 := o34.ext l19
      refine s_storeAg rfl sz25GO rfl rfl B14 rfl rfl rfl ?_
      intro w20 l21 el21 B14
      have z_l21 := l21.size
      have L := L.fresh l21 (by omega)
      have B1 := B1.ne l21 (by omega)
      have B17 := B17.ne l21 (by omega)
      have o33 := o33.ne l21 (by first | assumption | exact nin_of f33 g33 (by omega))
      have o34 := o34.ne l21 (by first | assumption | exact nin_of f34 g34 (by omega))
      refine s_storeAg rfl sz42GO rfl rfl B17 rfl rfl rfl ?_
      intro w22 l23 el23 B17
      have z_l23 := l23.size
      have L := L.fresh l23 (by omega)
      have B1 := B1.ne l23 (by omega)
      have B14 := B14.ne l23 (by omega)
      have o33 := o33.ne l23 (by first | assumption | exact nin_of f33 g33 (by omega))
      have o34 := o34.ne l23 (by first | assumption | exact nin_of f34 g34 (by omega))
      refine s0 (x_assign (v := .int _ _) rfl) ?_
      refine c_end ?_
      refine n_then ?_
      refine wp_seq ?_
      refine c_reg ?_
      refine s0 (x_move (v := .slice _ _ _) rfl) ?_
      refine sp (zcall cl49GO rfl) (l_toEntryS _ _ _ _ (hp.ext L) (by omega)) ?_
      rintro v39 w24 l25 ⟨p39, c39, F39, rfl, o39, f39⟩
      have z_l25 := l25.size
      have L := L.tr l25.up
      have B1 := B1.ext l25
      have B14 := B14.ext l25
      have B17 := B17.ext l25
      have o33 := o33.ext l25
      have o34 := o34.ext l25
      have g39 := o39.lt
      refine s0 (x_assign (v := .slice _ _ _) rfl) ?_
      refine c_end ?_
      refine n_then ?_
      refine wp_seq ?_
      refine c_reg ?_
      refine st (x_loadAgB ag72GO rfl B1 rfl) ?_
      refine sr (zcall cl48GO rfl) (l_toCache _ _ _ _ _) ?_
      intro w26 l27
      have z_l27 := l27.size
      have L := L.tr l27.up
      have B1 := B1.ext l27
      have B14 := B14.ext l27
      have B17 := B17.ext l27
      have o33 := o33.ext l27
      have o34 := o34.ext l27
      have o39 := o39.ext l27
      refine s0 (x_move (v := .slice _ _ _) rfl) ?_
      refine sp (zcall cl24GO rfl) (i_fastHeader _ _ _ _ _ _ (by omega) o39.sl (by omega)) ?_
      rintro v44 w28 l29 ⟨p44, c44, F44, rfl, o44, f44⟩
      have z_l29 := l29.size
      have L := L.tr l29.up
      have B1 := B1.ext l29
      have B14 := B14.ext l29
      have B17 := B17.ext l29
      have o33 := o33.ext l29
      have o34 := o34.ext l29
      have o39 := o39.ext l29
      have g44 := o44.lt
      refine s0 (x_move (v := .tuple _) rfl) ?_
      refine s0 (x_extract rfl rfl) ?_
      refine s0 (x_extract rfl rfl) ?_
      refine s0 (x_extract rfl rfl) ?_
      refine s_alloc zr25GO ?_
      intro b30 w31 lob30 hib30 l32 B30
      have z_l32 := l32.size
      have L := L.tr l32.up
      have B1 := B1.ext l32
      have B14 := B14.ext l32
      have B17 := B17.ext l32
      have o33 := o33.ext l32
      have o34 := o34.ext l32
      have o39 := o39.ext l32
      have o44 := o44.ext l32
      refine s_alloc zr42GO ?_
      intro b33 w34 lob33 hib33 l35 B33
      have z_l35 := l35.size
      have L := L.tr l35.up
      have B1 := B1.ext l35
      have B14 := B14.ext l35
      have B17 := B17.ext l35
      have B30 := B30.ext l35
      have o33 := o33.ext l35
      have o34 := o34.ext l35
      have o39 := o39.ext l35
      have o44 := o44.ext l35
      refine s_storeAg rfl sz25GO rfl rfl B30 rfl rfl rfl ?_
      intro w36 l37 el37 B30
      have z_l37 := l37.size
      have L := L.fresh l37 (by omega)
      have B1 := B1.ne l37 (by omega)
      have B14 := B14.ne l37 (by omega)
      have B17 := B17.ne l37 (by omega)
      have B33 := B33.ne l37 (by omega)
      have o33 := o33.ne l37 (by first | assumption | exact nin_of f33 g33 (by omega))
      have o34 := o34.ne l37 (by first | assumption | exact nin_of f34 g34 (by omega))
      have o39 := o39.ne l37 (by first | assumption | exact nin_of f39 g39 (by omega))
      have o44 := o44.ne l37 (by first | assumption | exact nin_of f44 g44 (by omega))
      refine s_storeAg rfl sz42GO rfl rfl B33 rfl rfl rfl ?_
      intro w38 l39 el39 B33
      have z_l39 := l39.size
      have L := L.fresh l39 (by omega)
      have B1 := B1.ne l39 (by omega)
      have B14 := B14.ne l39 (by omega)
      have B17 := B17.ne l39 (by omega)
      have B30 := B30.ne l39 (by omega)
      have o33 := o33.ne l39 (by first | assumption | exact nin_of f33 g33 (by omega))
      have o34 := o34.ne l39 (by first | assumption | exact nin_of f34 g34 (by omega))
      have o39 := o39.ne l39 (by first | assumption | exact nin_of f39 g39 (by omega))
      have o44 := o44.ne l39 (by first | assumption | exact nin_of f44 g44 (by omega))
      refine s0 (x_assign (v := .int _ _) rfl) ?_
      refine c_end ?_
      refine n_then ?_
      refine wp_seq ?_
      refine wp_seq ?_
      refine c_reg ?_
      refine st (x_loadAgB ag25GO rfl B30 rfl) ?_
      refine st (x_loadAgB ag25GO rfl B14 rfl) ?_
      refine srb (zcall cl50GO rfl) (l_eqCache _ _ _ _ _) (fun h50 w40 l41 => ?_) (fun h50 w40 l41 => ?_)
      · have z_l41 := l41.size
        have L := L.tr l41.up
        have B1 := B1.ext l41
        have B14 := B14.ext l41
        have B17 := B17.ext l41
        have B30 := B30.ext l41
        have B33 := B33.ext l41
        have o33 := o33.ext l41
        have o34 := o34.ext l41
        have o39 := o39.ext l41
        have o44 := o44.ext l41
        refine s0 (x_not rfl) ?_
        refine s0 (x_move (v := .bool _) rfl) ?_
        refine gt rfl rfl rfl rfl ?_
        refine st (x_loadAgB ag42GO rfl B33 rfl) ?_
        refine gt rfl rfl rfl rfl ?_
        refine st (x_loadAgB ag42GO rfl B17 rfl) ?_
        refine gt rfl rfl rfl rfl ?_
        refine srb (zcall cl51GO rfl) (l_eqHeader _ _ _ _ _ _ _ _ _ _ _ _ _ _ _ _ _ o44.sl o34.sl (by omega)) (fun h55 w42 l43 => ?_) (fun h55 w42 l43 => ?_)
        · have z_l43 := l43.size
          have L := L.tr l43.up
          have B1 := B1.ext l43
          have B14 := B14.ext l43
          have B17 := B17.ext l43
          have B30 := B30.ext l43
          have B33 := B33.ext l43
          have o33 := o33.ext l43
          have o34 := o34.ext l43
          have o39 := o39.ext l43
          have o44 := o44.ext l43
          refine gt rfl rfl rfl rfl ?_
          refine s0 (x_not rfl) ?_
          refine s0 (x_pickf (v := .bool _) rfl rfl) ?_
          refine s0 (x_move (v := .bool _) rfl) ?_
          refine gt rfl rfl rfl rfl ?_
          refine s0 (x_move (v := .int _ _) rfl) ?_
          refine gt rfl rfl rfl rfl ?_
          refine s0 (x_move (v := .int _ _) rfl) ?_
          refine gt rfl rfl rfl rfl ?_
          refine sb (x_neq rfl rfl) (fun h61 => ?_) (fun h61 => ?_)
          · exact absurd rfl h61
          · refine s0 (x_pickf (v := .bool _) rfl rfl) ?_
            refine c_end ?_
            refine n_then ?_
            refine c_false rfl ?_
            refine c_skipn ?_
            refine n_then ?_
            refine wp_seq ?_
            refine wp_seq ?_
            refine c_reg ?_
            refine s0 (x_move (v := .slice _ _ _) rfl) ?_
            refine s0 (x_move (v := .slice _ _ _) rfl) ?_
            refine sp (zcall cl49GO rfl) (l_toEntryS _ _ _ _ (hp.ext L) (by omega)) ?_
            rintro v65 w44 l45 ⟨p65, c65, F65, rfl, o65, f65⟩
            have z_l45 := l45.size
            have L := L.tr l45.up
            have B1 := B1.ext l45
            have B14 := B14.ext l45
            have B17 := B17.ext l45
            have B30 := B30.ext l45
            have B33 := B33.ext l45
            have o33 := o33.ext l45
            have o34 := o34.ext l45
            have o39 := o39.ext l45
            have o44 := o44.ext l45
            have g65 := o65.lt
            refine srb (zcall cl52GO rfl) (l_eqEntryS _ _ _ _ _ _ _ o39.sl o65.sl (by omega)) (fun h66 w46 l47 => ?_) (fun h66 w46 l47 => ?_)
            · have z_l47 := l47.size
              have L := L.tr l47.up
              have B1 := B1.ext l47
              have B14 := B14.ext l47
              have B17 := B17.ext l47
              have B30 := B30.ext l47
              have B33 := B33.ext l47
              have o33 := o33.ext l47
              have o34 := o34.ext l47
              have o39 := o39.ext l47
              have o44 := o44.ext l47
              have o65 := o65.ext l47
              refine s0 (x_not rfl) ?_
              refine c_end ?_
              refine n_then ?_
              refine c_false rfl ?_
              refine c_skipn ?_
              refine n_then ?_
              refine wp_seq ?_
              refine c_reg ?_
              refine s0 (x_assign (v := .int _ _) rfl) ?_
              refine c_end ?_
              refine n_then ?_
              refine wp_seq ?_
              refine c_reg ?_
              refine s0 (x_move (v := .slice _ _ _) rfl) ?_
              refine s0 (x_move (v := .int _ _) rfl) ?_
              refine spm (zcall cl53GO rfl) (l_markEntryS _ _ _ _ _ _ o39 (by omega) (by omega)) ?_
              rintro v70 w48 l49 ⟨rfl, o39⟩
              have z_l49 := l49.size
              have L := L.freshL l49 f39 (by omega)
              have B1 := B1.exm l49 (by first | assumption | exact nin_of f39 g39 (by omega))
              have B14 := B14.exm l49 (by first | assumption | exact nin_of f39 g39 (by omega))
              have B17 := B17.exm l49 (by first | assumption | exact nin_of f39 g39 (by omega))
              have B30 := B30.exm l49 (by first | assumption | exact nin_of f39 g39 (by omega))
              have B33 := B33.exm l49 (by first | assumption | exact nin_of f39 g39 (by omega))
              have o33 := o33.exm l49 (by first | assumption | exact Dj.symm (by assumption) | exact dj_of f39 g39 f33 g33 (by omega))
              have o34 := o34.exm l49 (by first | assumption | exact Dj.symm (by assumption) | exact dj_of f39 g39 f34 g34 (by omega))
              have o44 := o44.exm l49 (by first | assumption | exact Dj.symm (by assumption) | exact dj_of f39 g39 f44 g44 (by omega))
              have o65 := o65.exm l49 (by first | assumption | exact Dj.symm (by assumption) | exact dj_of f39 g39 f65 g65 (by omega))
              refine s0 (x_assign (v := .int _ _) rfl) ?_
              refine c_end ?_
              refine n_then ?_
              refine wp_seq ?_
              refine wp_seq ?_
              refine c_reg ?_
              refine s0 (x_move (v := .int _ _) rfl) ?_
              refine sb (x_lss rfl rfl) (fun h72 => ?_) (fun h72 => ?_)
              · omega
              · refine s0 (x_move (v := .bool _) rfl) ?_
                refine gt rfl rfl rfl rfl ?_
                refine st (x_loadAgB ag25GO rfl B30 rfl) ?_
                refine gt rfl rfl rfl rfl ?_
                refine st (x_loadAgB ag25GO rfl B14 rfl) ?_
                refine gt rfl rfl rfl rfl ?_
                refine srb (zcall cl50GO rfl) (l_eqCache _ _ _ _ _) (fun h76 w50 l51 => ?_) (fun h76 w50 l51 => ?_)
                · have z_l51 := l51.size
                  have L := L.tr l51.up
                  have B1 := B1.ext l51
                  have B14 := B14.ext l51
                  have B17 := B17.ext l51
                  have B30 := B30.ext l51
                  have B33 := B33.ext l51
                  have o33 := o33.ext l51
                  have o34 := o34.ext l51
                  have o39 := o39.ext l51
                  have o44 := o44.ext l51
                  have o65 := o65.ext l51
                  refine gt rfl rfl rfl rfl ?_
                  refine s0 (x_not rfl) ?_
                  refine s0 (x_pickf (v := .bool _) rfl rfl) ?_
                  refine s0 (x_move (v := .bool _) rfl) ?_
                  refine gt rfl rfl rfl rfl ?_
                  refine st (x_loadAgB ag42GO rfl B33 rfl) ?_
                  refine gt rfl rfl rfl rfl ?_
                  refine st (x_loadAgB ag42GO rfl B17 rfl) ?_
                  refine gt rfl rfl rfl rfl ?_
                  refine srb (zcall cl51GO rfl) (l_eqHeader _ _ _ _ _ _ _ _ _ _ _ _ _ _ _ _ _ o44.sl o34.sl (by omega)) (fun h82 w52 l53 => ?_) (fun h82 w52 l53 => ?_)
                  · have z_l53 := l53.size
                    have L := L.tr l53.up
                    have B1 := B1.ext l53
                    have B14 := B14.ext l53
                    have B17 := B17.ext l53
                    have B30 := B30.ext l53
                    have B33 := B33.ext l53
                    have o33 := o33.ext l53
                    have o34 := o34.ext l53
                    have o39 := o39.ext l53
                    have o44 := o44.ext l53
                    have o65 := o65.ext l53
                    refine gt rfl rfl rfl rfl ?_
                    refine s0 (x_not rfl) ?_
                    refine s0 (x_pickf (v := .bool _) rfl rfl) ?_
                    refine s0 (x_move (v := .bool _) rfl) ?_
                    refine gt rfl rfl rfl rfl ?_
                    refine s0 (x_move (v := .int _ _) rfl) ?_
                    refine gt rfl rfl rfl rfl ?_
                    refine s0 (x_move (v := .int _ _) rfl) ?_
                    refine gt rfl rfl rfl rfl ?_
                    refine sb (x_neq rfl rfl) (fun h88 => ?_) (fun h88 => ?_)
                    · exact absurd rfl h88
                    · refine s0 (x_pickf (v := .bool _) rfl rfl) ?_
                      refine c_end ?_
                      refine n_then ?_
                      refine c_false rfl ?_
                      refine c_skipn ?_
                      refine n_then ?_
                      refine wp_seq ?_
                      refine c_reg ?_
                      refine s0 (x_assign (v := .int _ _) rfl) ?_
                      refine c_end ?_
                      refine n_then ?_
                      refine wp_seq ?_
                      refine c_reg ?_
                      refine st (x_loadAgB ag42GO rfl B33 rfl) ?_
                      refine s0 (x_move (v := .int _ _) rfl) ?_
                      refine spm (zcall cl54GO rfl) (l_markHeader _ _ _ _ _ _ _ _ _ _ _ _ o44 (by omega) (by omega)) ?_
                      rintro v92 w54 l55 ⟨rfl, o44⟩
                      have z_l55 := l55.size
                      have L := L.freshL l55 f44 (by omega)
                      have B1 := B1.exm l55 (by first | assumption | exact nin_of f44 g44 (by omega))
                      have B14 := B14.exm l55 (by first | assumption | exact nin_of f44 g44 (by omega))
                      have B17 := B17.exm l55 (by first | assumption | exact nin_of f44 g44 (by omega))
                      have B30 := B30.exm l55 (by first | assumption | exact nin_of f44 g44 (by omega))
                      have B33 := B33.exm l55 (by first | assumption | exact nin_of f44 g44 (by omega))
                      have o33 := o33.exm l55 (by first | assumption | exact Dj.symm (by assumption) | exact dj_of f44 g44 f33 g33 (by omega))
                      have o34 := o34.exm l55 (by first | assumption | exact Dj.symm (by assumption) | exact dj_of f44 g44 f34 g34 (by omega))
                      have o39 := o39.exm l55 (by first | assumption | exact Dj.symm (by assumption) | exact dj_of f44 g44 f39 g39 (by omega))
                      have o65 := o65.exm l55 (by first | assumption | exact Dj.symm (by assumption) | exact dj_of f44 g44 f65 g65 (by omega))
                      refine s0 (x_assign (v := .int _ _) rfl) ?_
                      refine c_end ?_
                      refine n_then ?_
                      refine wp_seq ?_
                      refine c_reg ?_
                      refine s0 (x_assign (v := .int _ _) rfl) ?_
                      refine c_end ?_
                      refine n_then ?_
                      refine wp_seq ?_
                      refine c_reg ?_
                      refine st (x_loadAgB ag42GO rfl B33 rfl) ?_
                      refine s0 (x_move (v := .int _ _) rfl) ?_
                      refine sr (zcall cl55GO rfl) (l_heldHeader _ _ _ _ _ _ _ _ _ _ o44.sl (by omega) (by omega)) ?_
                      intro w56 l57
                      have z_l57 := l57.size
                      have L := L.tr l57.up
                      have B1 := B1.ext l57
                      have B14 := B14.ext l57
                      have B17 := B17.ext l57
                      have B30 := B30.ext l57
                      have B33 := B33.ext l57
                      have o33 := o33.ext l57
                      have o34 := o34.ext l57
                      have o39 := o39.ext l57
                      have o44 := o44.ext l57
                      have o65 := o65.ext l57
                      refine s0 (x_assign (v := .int _ _) rfl) ?_
                      refine c_end ?_
                      refine n_then ?_
                      refine wp_seq ?_
                      refine wp_seq ?_
                      refine c_reg ?_
                      refine s0 (x_move (v := .int _ _) rfl) ?_
                      refine sb (x_lss rfl rfl) (fun h97 => ?_) (fun h97 => ?_)
                      · omega
                      · refine c_end ?_
                        refine n_then ?_
                        refine c_false rfl ?_
                        refine c_skipn ?_
                        refine n_then ?_
                        refine wp_seq ?_
                        refine wp_seq ?_
                        refine c_reg ?_
                        refine s0 (x_move (v := .int _ _) rfl) ?_
                        refine s0 (x_move (v := .int _ _) rfl) ?_
                        refine sb (x_neq rfl rfl) (fun h100 => ?_) (fun h100 => ?_)
                        · exact absurd rfl h100
                        · refine c_end ?_
                          refine n_then ?_
                          refine c_false rfl ?_
                          refine c_skipn ?_
                          refine n_then ?_
                          refine wp_seq ?_
                          refine c_reg ?_
                          refine st (x_loadAgB ag72GO rfl B1 rfl) ?_
                          refine sr (zcall cl48GO rfl) (l_toCache _ _ _ _ _) ?_
                          intro w58 l59
                          have z_l59 := l59.size
                          have L := L.tr l59.up
                          have B1 := B1.ext l59
                          have B14 := B14.ext l59
                          have B17 := B17.ext l59
                          have B30 := B30.ext l59
                          have B33 := B33.ext l59
                          have o33 := o33.ext l59
                          have o34 := o34.ext l59
                          have o39 := o39.ext l59
                          have o44 := o44.ext l59
                          have o65 := o65.ext l59
                          refine s0 (x_move (v := .slice _ _ _) rfl) ?_
                          refine sp (zcall cl49GO rfl) (l_toEntryS _ _ _ _ (hp.ext L) (by omega)) ?_
                          rintro v105 w60 l61 ⟨p105, c105, F105, rfl, o105, f105⟩
                          have z_l61 := l61.size
                          have L := L.tr l61.up
                          have B1 := B1.ext l61
                          have B14 := B14.ext l61
                          have B17 := B17.ext l61
                          have B30 := B30.ext l61
                          have B33 := B33.ext l61
                          have o33 := o33.ext l61
                          have o34 := o34.ext l61
                          have o39 := o39.ext l61
                          have o44 := o44.ext l61
                          have o65 := o65.ext l61
                          have g105 := o105.lt
                          refine sp (zcall cl24GO rfl) (i_fastHeader _ _ _ _ _ _ (by omega) o105.sl (by omega)) ?_
                          rintro v106 w62 l63 ⟨p106, c106, F106, rfl, o106, f106⟩
                          have z_l63 := l63.size
                          have L := L.tr l63.up
                          have B1 := B1.ext l63
                          have B14 := B14.ext l63
                          have B17 := B17.ext l63
                          have B30 := B30.ext l63
                          have B33 := B33.ext l63
                          have o33 := o33.ext l63
                          have o34 := o34.ext l63
                          have o39 := o39.ext l63
                          have o44 := o44.ext l63
                          have o65 := o65.ext l63
                          have o105 := o105.ext l63
                          have g106 := o106.lt
                          refine s0 (x_move (v := .tuple _) rfl) ?_
                          refine s0 (x_extract rfl rfl) ?_
                          refine s0 (x_extract rfl rfl) ?_
                          refine s0 (x_extract rfl rfl) ?_
                          refine s_alloc zr25GO ?_
                          intro b64 w65 lob64 hib64 l66 B64
                          have z_l66 := l66.size
                          have L := L.tr l66.up
                          have B1 := B1.ext l66
                          have B14 := B14.ext l66
                          have B17 := B17.ext l66
                          have B30 := B30.ext l66
                          have B33 := B33.ext l66
                          have o33 := o33.ext l66
                          have o34 := o34.ext l66
                          have o39 := o39.ext l66
                          have o44 := o44.ext l66
                          have o65 := o65.ext l66
                          have o105 := o105.ext l66
                          have o106 := o106.ext l66
                          refine s_alloc zr42GO ?_
                          intro b67 w68 lob67 hib67 l69 B67
                          have z_l69 := l69.size
                          have L := L.tr l69.up
                          have B1 := B1.ext l69
                          have B14 := B14.ext l69
                          have B17 := B17.ext l69
                          have B30 := B30.ext l69
                          have B33 := B33.ext l69
                          have B64 := B64.ext l69
                          have o33 := o33.ext l69
                          have o34 := o34.ext l69
                          have o39 := o39.ext l69
                          have o44 := o44.ext l69
                          have o65 := o65.ext l69
                          have o105 := o105.ext l69
                          have o106 := o106.ext l69
                          refine s_storeAg rfl sz25GO rfl rfl B64 rfl rfl rfl ?_
                          intro w70 l71 el71 B64
                          have z_l71 := l71.size
                          have L := L.fresh l71 (by omega)
                          have B1 := B1.ne l71 (by omega)
                          have B14 := B14.ne l71 (by omega)
                          have B17 := B17.ne l71 (by omega)
                          have B30 := B30.ne l71 (by omega)
                          have B33 := B33.ne l71 (by omega)
                          have B67 := B67.ne l71 (by omega)
                          have o33 := o33.ne l71 (by first | assumption | exact nin_of f33 g33 (by omega))
                          have o34 := o34.ne l71 (by first | assumption | exact nin_of f34 g34 (by omega))
                          have o39 := o39.ne l71 (by first | assumption | exact nin_of f39 g39 (by omega))
                          have o44 := o44.ne l71 (by first | assumption | exact nin_of f44 g44 (by omega))
                          have o65 := o65.ne l71 (by first | assumption | exact nin_of f65 g65 (by omega))
                          have o105 := o105.ne l71 (by first | assumption | exact nin_of f105 g105 (by omega))
                          have o106 := o106.ne l71 (by first | assumption | exact nin_of f106 g106 (by omega))
                          refine s_storeAg rfl sz42GO rfl rfl B67 rfl rfl rfl ?_
                          intro w72 l73 el73 B67
                          have z_l73 := l73.size
                          have L := L.fresh l73 (by omega)
                          have B1 := B1.ne l73 (by omega)
                          have B14 := B14.ne l73 (by omega)
                          have B17 := B17.ne l73 (by omega)
                          have B30 := B30.ne l73 (by omega)
                          have B33 := B33.ne l73 (by omega)
                          have B64 := B64.ne l73 (by omega)
                          have o33 := o33.ne l73 (by first | assumption | exact nin_of f33 g33 (by omega))
                          have o34 := o34.ne l73 (by first | assumption | exact nin_of f34 g34 (by omega))
                          have o39 := o39.ne l73 (by first | assumption | exact nin_of f39 g39 (by omega))
                          have o44 := o44.ne l73 (by first | assumption | exact nin_of f44 g44 (by omega))
                          have o65 := o65.ne l73 (by first | assumption | exact nin_of f65 g65 (by omega))
                          have o105 := o105.ne l73 (by first | assumption | exact nin_of f105 g105 (by omega))
                          have o106 := o106.ne l73 (by first | assumption | exact nin_of f106 g106 (by omega))
                          refine s0 (x_assign (v := .int _ _) rfl) ?_
                          refine c_end ?_
                          refine n_then ?_
                          refine wp_seq ?_
                          refine wp_seq ?_
                          refine c_reg ?_
                          refine st (x_loadAgB ag25GO rfl B64 rfl) ?_
                          refine st (x_loadAgB ag25GO rfl B14 rfl) ?_
                          refine srb (zcall cl50GO rfl) (l_eqCache _ _ _ _ _) (fun h112 w74 l75 => ?_) (fun h112 w74 l75 => ?_)
                          · have z_l75 := l75.size
                            have L := L.tr l75.up
                            have B1 := B1.ext l75
                            have B14 := B14.ext l75
                            have B17 := B17.ext l75
                            have B30 := B30.ext l75
                            have B33 := B33.ext l75
                            have B64 := B64.ext l75
                            have B67 := B67.ext l75
                            have o33 := o33.ext l75
                            have o34 := o34.ext l75
                            have o39 := o39.ext l75
                            have o44 := o44.ext l75
                            have o65 := o65.ext l75
                            have o105 := o105.ext l75
                            have o106 := o106.ext l75
                            refine s0 (x_not rfl) ?_
                            refine s0 (x_move (v := .bool _) rfl) ?_
                            refine gt rfl rfl rfl rfl ?_
                            refine st (x_loadAgB ag42GO rfl B67 rfl) ?_
                            refine gt rfl rfl rfl rfl ?_
                            refine st (x_loadAgB ag42GO rfl B17 rfl) ?_
                            refine gt rfl rfl rfl rfl ?_
                            refine srb (zcall cl51GO rfl) (l_eqHeader _ _ _ _ _ _ _ _ _ _ _ _ _ _ _ _ _ o106.sl o34.sl (by omega)) (fun h117 w76 l77 => ?_) (fun h117 w76 l77 => ?_)
                            · have z_l77 := l77.size
                              have L := L.tr l77.up
                              have B1 := B1.ext l77
                              have B14 := B14.ext l77
                              have B17 := B17.ext l77
                              have B30 := B30.ext l77
                              have B33 := B33.ext l77
                              have B64 := B64.ext l77
                              have B67 := B67.ext l77
                              have o33 := o33.ext l77
                              have o34 := o34.ext l77
                              have o39 := o39.ext l77
                              have o44 := o44.ext l77
                              have o65 := o65.ext l77
                              have o105 := o105.ext l77
                              have o106 := o106.ext l77
                              refine gt rfl rfl rfl rfl ?_
                              refine s0 (x_not rfl) ?_
                              refine s0 (x_pickf (v := .bool _) rfl rfl) ?_
                              refine s0 (x_move (v := .bool _) rfl) ?_
                              refine gt rfl rfl rfl rfl ?_
                              refine s0 (x_move (v := .int _ _) rfl) ?_
                              refine gt rfl rfl rfl rfl ?_
                              refine s0 (x_move (v := .int _ _) rfl) ?_
                              refine gt rfl rfl rfl rfl ?_
                              refine sb (x_neq rfl rfl) (fun h123 => ?_) (fun h123 => ?_)
                              · exact absurd rfl h123
                              · refine s0 (x_pickf (v := .bool _) rfl rfl) ?_
                                refine c_end ?_
                                refine n_then ?_
                                refine c_false rfl ?_
                                refine c_skipn ?_
                                refine n_then ?_
                                refine wp_seq ?_
                                refine c_reg ?_
                                refine s0 (x_assign (v := .int _ _) rfl) ?_
                                refine c_end ?_
                                refine n_then ?_
                                refine wp_seq ?_
                                refine c_reg ?_
                                refine st (x_loadAgB ag42GO rfl B33 rfl) ?_
                                refine s0 (x_move (v := .int _ _) rfl) ?_
                                refine sr (zcall cl55GO rfl) (l_heldHeader _ _ _ _ _ _ _ _ _ _ o44.sl (by omega) (by omega)) ?_
                                intro w78 l79
                                have z_l79 := l79.size
                                have L := L.tr l79.up
                                have B1 := B1.ext l79
                                have B14 := B14.ext l79
                                have B17 := B17.ext l79
                                have B30 := B30.ext l79
                                have B33 := B33.ext l79
                                have B64 := B64.ext l79
                                have B67 := B67.ext l79
                                have o33 := o33.ext l79
                                have o34 := o34.ext l79
                                have o39 := o39.ext l79
                                have o44 := o44.ext l79
                                have o65 := o65.ext l79
                                have o105 := o105.ext l79
                                have o106 := o106.ext l79
                                refine s0 (x_assign (v := .int _ _) rfl) ?_
                                refine c_end ?_
                                refine n_then ?_
                                refine wp_seq ?_
                                refine wp_seq ?_
                                refine c_reg ?_
                                refine s0 (x_move (v := .int _ _) rfl) ?_
                                refine sb (x_lss rfl rfl) (fun h129 => ?_) (fun h129 => ?_)
                                · omega
                                · refine c_end ?_
                                  refine n_then ?_
                                  refine c_false rfl ?_
                                  refine c_skipn ?_
                                  refine n_then ?_
                                  refine wp_seq ?_
                                  refine wp_seq ?_
                                  refine c_reg ?_
                                  refine s0 (x_move (v := .int _ _) rfl) ?_
                                  refine s0 (x_move (v := .int _ _) rfl) ?_
                                  refine sb (x_neq rfl rfl) (fun h132 => ?_) (fun h132 => ?_)
                                  · exact absurd rfl h132
                                  · refine c_end ?_
                                    refine n_then ?_
                                    refine c_false rfl ?_
                                    refine c_skipn ?_
                                    refine n_then ?_
                                    refine wp_seq ?_
                                    refine c_reg ?_
                                    refine s0 (x_assign (v := .bool _) rfl) ?_
                                    refine c_end ?_
                                    refine n_then ?_
                                    refine wp_ret ?_
                                    refine f_ret rfl rfl ?_
                                    exact ⟨rfl, L⟩
                            · exact (h117 (by simp)).elim
                          · exact (h112 (by simp)).elim
                  · exact (h82 (by simp)).elim
                · exact (h76 (by simp)).elim
            · exact (h66 (by simp)).elim
        · exact (h55 (by simp)).elim
      · exact (h50 (by simp)).elim

end Go.Proofs.Ytnehdmcilmlchaa
