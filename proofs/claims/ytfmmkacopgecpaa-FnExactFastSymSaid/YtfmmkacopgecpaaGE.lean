/- What each function of this part returns, for every argument that meets its premises. -/
import Derived.Test.YtfmmkacopgecpaaFG
namespace Go.Proofs.Ytfmmkacopgecpaa
open Go.Sx Go.Pl Go.RowKit
theorem ag41 : Ag Try.prog 41 4 := ⟨⟨_, Try.underlying41⟩, by kernel_rfl⟩
theorem cl18 : Callable Try.prog 18 := callable Try.func18 (by kernel_rfl) rfl
theorem cl30 : Callable Try.prog 30 := callable Try.func30 (by kernel_rfl) rfl
theorem cl32 : Callable Try.prog 32 := callable Try.func32 (by kernel_rfl) rfl
theorem cl33 : Callable Try.prog 33 := callable Try.func33 (by kernel_rfl) rfl
theorem cl34 : Callable Try.prog 34 := callable Try.func34 (by kernel_rfl) rfl
theorem cl36 : Callable Try.prog 36 := callable Try.func36 (by kernel_rfl) rfl
theorem cl65 : Callable Try.prog 65 := callable Try.func65 (by kernel_rfl) rfl
theorem cl66 : Callable Try.prog 66 := callable Try.func66 (by kernel_rfl) rfl
/-- laws.FnExactFastSym -/
theorem l_fnFastSym (s : ByteArray) (ca : Ca) (p : Option Addr) (t : List (Int × Int)) (c : Nat) (w : World) (hs : s.size ≤ 9223372036854775807) (hp : Sl w p t.length c 2 (t.flatMap erow)) (hl : t.length ≤ 9223372036854775807) :
    Calls Try.prog 12 [.agg [.string s, .int .i64 (ca).pos, .int .i64 (ca).word, .int .i64 (ca).hv].toArray, .slice p t.length c].toArray w (Ret w (.bool true)) := by
  have L : Exm [] w w := Exm.rfl'
  refine enter (n := 61) Try.func12 rfl rfl rfl ?_
  refine wp_seq ?_
  refine c_reg ?_
  refine s_box rfl rfl ?_
  intro b1 w2 lob1 hib1 l3 B1
  have z_l3 := l3.size
  have L := L.tr l3.up
  refine s0 (x_assign (v := .bool _) rfl) ?_
  refine c_end ?_
  refine n_then ?_
  refine wp_seq ?_
  refine c_reg ?_
  refine s0 (x_assign (v := .int _ _) rfl) ?_
  refine c_end ?_
  refine n_then ?_
  refine wp_seq ?_
  refine c_reg ?_
  refine st (x_loadAgB ag41 rfl B1 rfl) ?_
  refine s0 (x_move (v := .int _ _) rfl) ?_
  refine sr (zcall cl30 rfl) (l_szCache _ _ _ _ _ _ (by omega) (by omega)) ?_
  intro w4 l5
  have z_l5 := l5.size
  have L := L.tr l5.up
  have B1 := B1.ext l5
  refine s0 (x_assign (v := .int _ _) rfl) ?_
  refine c_end ?_
  refine n_then ?_
  refine wp_seq ?_
  refine wp_seq ?_
  refine c_reg ?_
  refine s0 (x_move (v := .int _ _) rfl) ?_
  refine sb (x_lss rfl rfl) (fun h17 => ?_) (fun h17 => ?_)
  · refine c_end ?_
    refine n_then ?_
    refine c_true rfl ?_
    refine wp_seq ?_
    refine c_reg ?_
    refine s0 (x_assign (v := .bool _) rfl) ?_
    refine c_end ?_
    refine n_then ?_
    refine wp_ret (r_then ?_)
    refine f_ret rfl rfl ?_
    exact ⟨rfl, L⟩
  · refine c_end ?_
    refine n_then ?_
    refine c_false rfl ?_
    refine c_skipn ?_
    refine n_then ?_
    refine wp_seq ?_
    have hs1 := sz_in h17
    refine c_reg ?_
    refine s0 (x_move (v := .slice _ _ _) rfl) ?_
    refine s0 (x_move (v := .int _ _) rfl) ?_
    refine sr (zcall cl34 rfl) (l_szEntryS _ _ _ _ _ (by omega) (by omega)) ?_
    intro w6 l7
    have z_l7 := l7.size
    have L := L.tr l7.up
    have B1 := B1.ext l7
    refine s0 (x_assign (v := .int _ _) rfl) ?_
    refine c_end ?_
    refine n_then ?_
    refine wp_seq ?_
    refine wp_seq ?_
    refine c_reg ?_
    refine s0 (x_move (v := .int _ _) rfl) ?_
    refine sb (x_lss rfl rfl) (fun h22 => ?_) (fun h22 => ?_)
    · refine c_end ?_
      refine n_then ?_
      refine c_true rfl ?_
      refine wp_seq ?_
      refine c_reg ?_
      refine s0 (x_assign (v := .bool _) rfl) ?_
      refine c_end ?_
      refine n_then ?_
      refine wp_ret (r_then ?_)
      refine f_ret rfl rfl ?_
      exact ⟨rfl, L⟩
    · refine c_end ?_
      refine n_then ?_
      refine c_false rfl ?_
      refine c_skipn ?_
      refine n_then ?_
      refine wp_seq ?_
      have hs2 := sz_in h22
      have hs3 : s.size ≤ 1048576 := by omega
      have hl3 : t.length ≤ 1099511627776 := by omega
      refine c_reg ?_
      refine st (x_loadAgB ag41 rfl B1 rfl) ?_
      refine sr (zcall cl32 rfl) (l_toCache _ _ _ _ _) ?_
      intro w8 l9
      have z_l9 := l9.size
      have L := L.tr l9.up
      have B1 := B1.ext l9
      refine s0 (x_move (v := .slice _ _ _) rfl) ?_
      refine sp (zcall cl36 rfl) (l_toEntryS _ _ _ _ (hp.ext L) (by omega)) ?_
      rintro v27 w10 l11 ⟨p27, c27, F27, rfl, o27, f27⟩
      have z_l11 := l11.size
      have L := L.tr l11.up
      have B1 := B1.ext l11
      have g27 := o27.lt
      refine sr (zcall cl65 rfl) (s_fastSym _ _ _ _ _ _ (by omega) o27.sl (by omega)) ?_
      intro w12 l13
      have z_l13 := l13.size
      have L := L.tr l13.up
      have B1 := B1.ext l13
      have o27 := o27.ext l13
      refine s0 (x_move (v := .tuple _) rfl) ?_
      refine s0 (x_extract rfl rfl) ?_
      refine s0 (x_extract rfl rfl) ?_
      refine s0 (x_extract rfl rfl) ?_
      refine s_alloc zr31 ?_
      intro b14 w15 lob14 hib14 l16 B14
      have z_l16 := l16.size
      have L := L.tr l16.up
      have B1 := B1.ext l16
      have o27 := o27.ext l16
      refine s_storeAg rfl sz31 rfl rfl B14 rfl rfl rfl ?_
      intro w17 l18 el18 B14
      have z_l18 := l18.size
      have L := L.fresh l18 (by omega)
      have B1 := B1.ne l18 (by omega)
      have o27 := o27.ne l18 (by first | assumption | exact nin_of f27 g27 (by omega))
      refine s0 (x_assign (v := .int _ _) rfl) ?_
      refine s0 (x_assign (v := .int _ _) rfl) ?_
      refine c_end ?_
      refine n_then ?_
      refine wp_seq ?_
      refine c_reg ?_
      refine s0 (x_move (v := .slice _ _ _) rfl) ?_
      refine sp (zcall cl36 rfl) (l_toEntryS _ _ _ _ (hp.ext L) (by omega)) ?_
      rintro v33 w19 l20 ⟨p33, c33, F33, rfl, o33, f33⟩
      have z_l20 := l20.size
      have L := L.tr l20.up
      have B1 := B1.ext l20
      have B14 := B14.ext l20
      have o27 := o27.ext l20
      have g33 := o33.lt
      refine s0 (x_assign (v := .slice _ _ _) rfl) ?_
      refine c_end ?_
      refine n_then ?_
      refine wp_seq ?_
      refine c_reg ?_
      refine st (x_loadAgB ag41 rfl B1 rfl) ?_
      refine sr (zcall cl32 rfl) (l_toCache _ _ _ _ _) ?_
      intro w21 l22
      have z_l22 := l22.size
      have L := L.tr l22.up
      have B1 := B1.ext l22
      have B14 := B14.ext l22
      have o27 := o27.ext l22
      have o33 := o33.ext l22
      refine s0 (x_move (v := .slice _ _ _) rfl) ?_
      refine sr (zcall cl66 rfl) (i_fastSym _ _ _ _ _ _ (by omega) o33.sl (by omega)) ?_
      intro w23 l24
      have z_l24 := l24.size
      have L := L.tr l24.up
      have B1 := B1.ext l24
      have B14 := B14.ext l24
      have o27 := o27.ext l24
      have o33 := o33.ext l24
      refine s0 (x_move (v := .tuple _) rfl) ?_
      refine s0 (x_extract rfl rfl) ?_
      refine s0 (x_extract rfl rfl) ?_
      refine s0 (x_extract rfl rfl) ?_
      refine s_alloc zr31 ?_
      intro b25 w26 lob25 hib25 l27 B25
      have z_l27 := l27.size
      have L := L.tr l27.up
      have B1 := B1.ext l27
      have B14 := B14.ext l27
      have o27 := o27.ext l27
      have o33 := o33.ext l27
      refine s_storeAg rfl sz31 rfl rfl B25 rfl rfl rfl ?_
      intro w28 l29 el29 B25
      have z_l29 := l29.size
      have L := L.fresh l29 (by omega)
      have B1 := B1.ne l29 (by omega)
      have B14 := B14.ne l29 (by omega)
      have o27 := o27.ne l29 (by first | assumption | exact nin_of f27 g27 (by omega))
      have o33 := o33.ne l29 (by first | assumption | exact nin_of f33 g33 (by omega))
      refine s0 (x_assign (v := .int _ _) rfl) ?_
      refine s0 (x_assign (v := .int _ _) rfl) ?_
      refine c_end ?_
      refine n_then ?_
      refine wp_seq ?_
      refine wp_seq ?_
      refine c_reg ?_
      refine st (x_loadAgB ag31 rfl B25 rfl) ?_
      refine st (x_loadAgB ag31 rfl B14 rfl) ?_
      refine srb (zcall cl33 rfl) (l_eqCache _ _ _ _ _) (fun h44 w30 l31 => ?_) (fun h44 w30 l31 => ?_)
      · have z_l31 := l31.size
        have L := L.tr l31.up
        have B1 := B1.ext l31
        have B14 := B14.ext l31
        have B25 := B25.ext l31
        have o27 := o27.ext l31
        have o33 := o33.ext l31
        refine s0 (x_not rfl) ?_
        refine s0 (x_move (v := .bool _) rfl) ?_
        refine gt rfl rfl rfl rfl ?_
        refine s0 (x_move (v := .int _ _) rfl) ?_
        refine gt rfl rfl rfl rfl ?_
        refine s0 (x_move (v := .int _ _) rfl) ?_
        refine gt rfl rfl rfl rfl ?_
        refine sb (x_neq rfl rfl) (fun h49 => ?_) (fun h49 => ?_)
        · exact absurd rfl h49
        · refine s0 (x_pickf (v := .bool _) rfl rfl) ?_
          refine s0 (x_move (v := .bool _) rfl) ?_
          refine gt rfl rfl rfl rfl ?_
          refine s0 (x_move (v := .int _ _) rfl) ?_
          refine gt rfl rfl rfl rfl ?_
          refine s0 (x_move (v := .int _ _) rfl) ?_
          refine gt rfl rfl rfl rfl ?_
          refine sb (x_neq rfl rfl) (fun h54 => ?_) (fun h54 => ?_)
          · exact absurd rfl h54
          · refine s0 (x_pickf (v := .bool _) rfl rfl) ?_
            refine c_end ?_
            refine n_then ?_
            refine c_false rfl ?_
            refine c_skipn ?_
            refine n_then ?_
            refine wp_seq ?_
            refine wp_seq ?_
            refine c_reg ?_
            refine s0 (x_move (v := .slice _ _ _) rfl) ?_
            refine s0 (x_move (v := .slice _ _ _) rfl) ?_
            refine sp (zcall cl36 rfl) (l_toEntryS _ _ _ _ (hp.ext L) (by omega)) ?_
            rintro v58 w32 l33 ⟨p58, c58, F58, rfl, o58, f58⟩
            have z_l33 := l33.size
            have L := L.tr l33.up
            have B1 := B1.ext l33
            have B14 := B14.ext l33
            have B25 := B25.ext l33
            have o27 := o27.ext l33
            have o33 := o33.ext l33
            have g58 := o58.lt
            refine srb (zcall cl18 rfl) (l_eqEntryS _ _ _ _ _ _ _ o33.sl o58.sl (by omega)) (fun h59 w34 l35 => ?_) (fun h59 w34 l35 => ?_)
            · have z_l35 := l35.size
              have L := L.tr l35.up
              have B1 := B1.ext l35
              have B14 := B14.ext l35
              have B25 := B25.ext l35
              have o27 := o27.ext l35
              have o33 := o33.ext l35
              have o58 := o58.ext l35
              refine s0 (x_not rfl) ?_
              refine c_end ?_
              refine n_then ?_
              refine c_false rfl ?_
              refine c_skipn ?_
              refine n_then ?_
              refine wp_seq ?_
              refine c_reg ?_
              refine s0 (x_assign (v := .bool _) rfl) ?_
              refine c_end ?_
              refine n_then ?_
              refine wp_ret ?_
              refine f_ret rfl rfl ?_
              exact ⟨rfl, L⟩
            · exact absurd rfl h59
      · exact absurd ⟨rfl, rfl, rfl, rfl⟩ h44

end Go.Proofs.Ytfmmkacopgecpaa
