/- What each function of this part returns, for every argument that meets its premises. -/
import Derived.Test.YtnehdmcilmlchaaProg
import Derived.Test.YtnehdmcilmlchaaVSxF
import Derived.Test.YtnehdmcilmlchaaVPlV
import Derived.Test.YtnehdmcilmlchaaVF1
import Derived.Test.YtnehdmcilmlchaaVF2
import Derived.Test.YtnehdmcilmlchaaVF3
import Derived.Test.YtnehdmcilmlchaaVF5
import Derived.Test.YtnehdmcilmlchaaVF9
import Derived.Test.YtnehdmcilmlchaaVFA
import Derived.Test.YtnehdmcilmlchaaVFK
import Derived.Test.YtnehdmcilmlchaaVFT
namespace Go.Proofs.Ytnehdmcilmlchaa
open Go.Sx Go.Pl Go.RowKit
theorem ag25GT : Ag Try.prog 25 4 := ⟨⟨_, Try.underlying25⟩, by kernel_rfl⟩
theorem bd35GT : Built Try.prog 35 [.string .empty, .int .i64 0] #[(0, 1), (1, 1)] := ⟨_, Try.underlying35, by unfold ZeroV; kernel_rfl, fun w => by kernel_rfl⟩
theorem cl11GT : Callable Try.prog 11 := callable Try.func11 (by kernel_rfl) rfl
theorem cl12GT : Callable Try.prog 12 := callable Try.func12 (by kernel_rfl) rfl
theorem cl13GT : Callable Try.prog 13 := callable Try.func13 (by kernel_rfl) rfl
theorem cl14GT : Callable Try.prog 14 := callable Try.func14 (by kernel_rfl) rfl
theorem cl15GT : Callable Try.prog 15 := callable Try.func15 (by kernel_rfl) rfl
theorem cl16GT : Callable Try.prog 16 := callable Try.func16 (by kernel_rfl) rfl
theorem cl17GT : Callable Try.prog 17 := callable Try.func17 (by kernel_rfl) rfl
theorem cl18GT : Callable Try.prog 18 := callable Try.func18 (by kernel_rfl) rfl
theorem cl19GT : Callable Try.prog 19 := callable Try.func19 (by kernel_rfl) rfl
theorem cl20GT : Callable Try.prog 20 := callable Try.func20 (by kernel_rfl) rfl
theorem cl21GT : Callable Try.prog 21 := callable Try.func21 (by kernel_rfl) rfl
theorem fa25_0GT : FieldAt Try.prog 25 0 0 := ⟨_, _, Try.underlying25, rfl, rfl, ⟨0, by unfold Sz; kernel_rfl⟩⟩
theorem fa35_1GT : FieldAt Try.prog 35 1 1 := ⟨_, _, Try.underlying35, rfl, rfl, ⟨0, by unfold Sz; kernel_rfl⟩⟩
theorem sc3GT : Sc Try.prog 3 := ⟨(.int .i64), by kernel_rfl, trivial⟩
theorem sc9GT : Sc Try.prog 9 := ⟨.string, by kernel_rfl, trivial⟩
theorem sz25GT : Sz Try.prog 25 4 := by unfold Sz; kernel_rfl
theorem sz35GT : Sz Try.prog 35 2 := by unfold Sz; kernel_rfl
theorem un26GT : Try.prog.underlying 26 = some (.slice 128) := by kernel_rfl
theorem un4GT : Try.prog.underlying 4 = some .bool := by kernel_rfl
theorem zr25GT : ZeroV Try.prog 25 [.string .empty, .int .i64 0, .int .i64 0, .int .i64 0] := by unfold ZeroV; kernel_rfl
theorem zr35GT : ZeroV Try.prog 35 [.string .empty, .int .i64 0] := by unfold ZeroV; kernel_rfl
set_option maxRecDepth 4000 in
/-- laws.FnTables -/
theorem l_fnTables (p : Option Addr) (xs : List Int) (c : Nat) (B : Nat) (w : World) (hp : Sl w p xs.length c 1 (bc xs)) (hr : ∀ x ∈ xs, 0 ≤ x ∧ x ≤ 255) (hpB : Bl p xs.length B) (hB : B ≤ w.heap.size) :
    Calls Try.prog 3 [.slice p xs.length c].toArray w (Ret w (.bool true)) := by
  have L : Exm [] w w := Exm.rfl'
  refine enter (n := 93) Try.func3 rfl rfl rfl ?_
  refine wp_seq ?_
  refine c_reg ?_
  refine s0 (x_assign (v := .bool _) rfl) ?_
  refine c_end ?_
  refine n_then ?_
  refine wp_seq ?_
  refine wp_seq ?_
  refine c_reg ?_
  refine s0 (x_move (v := .slice _ _ _) rfl) ?_
  refine srb (zcall cl11GT rfl) (l_big _ _ _ _) (fun h16 w1 l2 => ?_) (fun h16 w1 l2 => ?_)
  · have z_l2 := l2.size
    have L := L.tr l2.up
    refine c_end ?_
    refine n_then ?_
    refine c_true rfl ?_
    refine wp_seq ?_
    refine c_reg ?_
    refine s0 (x_assign (v := .bool _) rfl) ?_
    refine c_end ?_
    refine n_then ?_
    refine wp_ret (r_then ?_)
    refine f_ret rfl rfl ?_
    exact ⟨rfl, L⟩
  · have z_l2 := l2.size
    have L := L.tr l2.up
    refine c_end ?_
    refine n_then ?_
    refine c_false rfl ?_
    refine c_skipn ?_
    refine n_then ?_
    refine wp_seq ?_
    have hl : xs.length ≤ 1048576 := by omega
    refine c_reg ?_
    refine s0 (x_move (v := .slice _ _ _) rfl) ?_
    refine sp (zcall cl12GT rfl) (s_drawFastUe _ _ _ _ _ (hp.ext L) hr hpB (by omega) (by omega)) ?_
    rintro v19 w3 l4 ⟨s19, c19, p19, n19, xs19, d19, F19, rfl, hs19, o19, f19, rfl, hx19⟩
    have z_l4 := l4.size
    have L := L.tr l4.up
    have g19 := o19.lt
    refine s0 (x_move (v := .tuple _) rfl) ?_
    refine s0 (x_extract rfl rfl) ?_
    refine s0 (x_extract rfl rfl) ?_
    refine s_alloc zr25GT ?_
    intro b5 w6 lob5 hib5 l7 B5
    have z_l7 := l7.size
    have L := L.tr l7.up
    have o19 := o19.ext l7
    refine s_storeAg rfl sz25GT rfl rfl B5 rfl rfl rfl ?_
    intro w8 l9 el9 B5
    have z_l9 := l9.size
    have L := L.fresh l9 (by omega)
    have o19 := o19.ne l9 (by first | assumption | exact nin_of f19 g19 (by omega))
    refine s0 (x_assign (v := .slice _ _ _) rfl) ?_
    refine c_end ?_
    refine n_then ?_
    refine wp_seq ?_
    refine c_reg ?_
    refine st (x_loadAgB ag25GT rfl B5 rfl) ?_
    refine s0 (x_move (v := .slice _ _ _) rfl) ?_
    refine sr (zcall cl13GT rfl) (i_fastUe _ _ _ _ _ _ (by omega) o19.sl (by omega)) ?_
    intro w10 l11
    have z_l11 := l11.size
    have L := L.tr l11.up
    have B5 := B5.ext l11
    have o19 := o19.ext l11
    refine s0 (x_move (v := .tuple _) rfl) ?_
    refine s0 (x_extract rfl rfl) ?_
    refine s0 (x_extract rfl rfl) ?_
    refine s0 (x_extract rfl rfl) ?_
    refine s_alloc zr25GT ?_
    intro b12 w13 lob12 hib12 l14 B12
    have z_l14 := l14.size
    have L := L.tr l14.up
    have B5 := B5.ext l14
    have o19 := o19.ext l14
    refine s_storeAg rfl sz25GT rfl rfl B12 rfl rfl rfl ?_
    intro w15 l16 el16 B12
    have z_l16 := l16.size
    have L := L.fresh l16 (by omega)
    have B5 := B5.ne l16 (by omega)
    have o19 := o19.ne l16 (by first | assumption | exact nin_of f19 g19 (by omega))
    refine s0 (x_assign (v := .int _ _) rfl) ?_
    refine s0 (x_assign (v := .int _ _) rfl) ?_
    refine c_end ?_
    refine n_then ?_
    refine wp_seq ?_
    refine c_reg ?_
    refine sp (zcall cl14GT rfl) (i_ueTable _) ?_
    rintro v29 w17 l18 ⟨xs29, hx29, p29, c29, F29, rfl, o29, f29⟩
    have z_l18 := l18.size
    have L := L.tr l18.up
    have B5 := B5.ext l18
    have B12 := B12.ext l18
    have o19 := o19.ext l18
    have hl29 := ueTab_len hx29
    have g29 := o29.lt
    refine s0 (x_assign (v := .slice _ _ _) rfl) ?_
    refine c_end ?_
    refine n_then ?_
    refine wp_seq ?_
    refine wp_seq ?_
    refine c_reg ?_
    refine s0 (x_move (v := .slice _ _ _) rfl) ?_
    refine sr (zcall cl15GT rfl) (i_tableOk _ _ _ _ o19.sl (by omega)) ?_
    intro w19 l20
    have z_l20 := l20.size
    have L := L.tr l20.up
    have B5 := B5.ext l20
    have B12 := B12.ext l20
    have o19 := o19.ext l20
    have o29 := o29.ext l20
    refine s0 (x_move (v := .slice _ _ _) rfl) ?_
    refine sr (zcall cl16GT rfl) (s_tableOk _ _ _ _ o19.sl (by omega)) ?_
    intro w21 l22
    have z_l22 := l22.size
    have L := L.tr l22.up
    have B5 := B5.ext l22
    have B12 := B12.ext l22
    have o19 := o19.ext l22
    have o29 := o29.ext l22
    refine sb (x_neqb un4GT rfl rfl) (fun h34 => ?_) (fun h34 => ?_)
    · exact absurd rfl h34
    · refine s0 (x_move (v := .bool _) rfl) ?_
      refine gt rfl rfl rfl rfl ?_
      refine s0 (x_move (v := .slice _ _ _) rfl) ?_
      refine gt rfl rfl rfl rfl ?_
      refine srb (zcall cl15GT rfl) (i_tableOk _ _ _ _ o29.sl (by omega)) (fun h37 w23 l24 => ?_) (fun h37 w23 l24 => ?_)
      · have z_l24 := l24.size
        have L := L.tr l24.up
        have B5 := B5.ext l24
        have B12 := B12.ext l24
        have o19 := o19.ext l24
        have o29 := o29.ext l24
        refine gt rfl rfl rfl rfl ?_
        refine s0 (x_not rfl) ?_
        refine s0 (x_pickf (v := .bool _) rfl rfl) ?_
        refine s0 (x_move (v := .bool _) rfl) ?_
        refine gt rfl rfl rfl rfl ?_
        refine s0 (x_move (v := .slice _ _ _) rfl) ?_
        refine gt rfl rfl rfl rfl ?_
        refine s0 (x_lensl un26GT rfl) ?_
        refine gt rfl rfl rfl rfl ?_
        refine sb (x_neq rfl rfl) (fun h43 => ?_) (fun h43 => ?_)
        · omega
        · refine s0 (x_pickf (v := .bool _) rfl rfl) ?_
          refine c_end ?_
          refine n_then ?_
          refine c_false rfl ?_
          refine c_skipn ?_
          refine n_then ?_
          refine wp_seq ?_
          refine wp_seq ?_
          refine c_reg ?_
          refine st (x_loadAgB ag25GT rfl B5 rfl) ?_
          refine srb (zcall cl17GT rfl) (s_cacheOk _ _ _ _ _ (by omega)) (fun h46 w25 l26 => ?_) (fun h46 w25 l26 => ?_)
          · have z_l26 := l26.size
            have L := L.tr l26.up
            have B5 := B5.ext l26
            have B12 := B12.ext l26
            have o19 := o19.ext l26
            have o29 := o29.ext l26
            refine s0 (x_not rfl) ?_
            refine s0 (x_move (v := .bool _) rfl) ?_
            refine gt rfl rfl rfl rfl ?_
            refine s0 (x_move (v := .slice _ _ _) rfl) ?_
            refine gt rfl rfl rfl rfl ?_
            refine srb (zcall cl16GT rfl) (s_tableOk _ _ _ _ o19.sl (by omega)) (fun h50 w27 l28 => ?_) (fun h50 w27 l28 => ?_)
            · have z_l28 := l28.size
              have L := L.tr l28.up
              have B5 := B5.ext l28
              have B12 := B12.ext l28
              have o19 := o19.ext l28
              have o29 := o29.ext l28
              refine gt rfl rfl rfl rfl ?_
              refine s0 (x_not rfl) ?_
              refine s0 (x_pickf (v := .bool _) rfl rfl) ?_
              refine c_end ?_
              refine n_then ?_
              refine c_false rfl ?_
              refine c_skipn ?_
              refine n_then ?_
              refine wp_seq ?_
              have hpl := place_of h46
              have hpi := place_in h46
              refine c_plan (fun wq => Exm [] w27 wq) 14 (.cons (0, 2) (.cons (1, 1) (.cons (2, 1) (.fork 3 10 (.cons (4, 2) (.fork 5 10 (.cons (6, 2) (.cons (7, 2) (.cons (8, 2) (.cons (9, 2) (.cons (10, 0) (.cons (11, 0) (.cons (12, 2) (.cons (13, 2) .nil)))))))) (.cons (5, 0) (.cons (6, 2) (.cons (7, 2) (.cons (8, 2) (.cons (9, 2) (.cons (11, 0) (.cons (12, 2) (.cons (13, 2) .nil)))))))))) (.cons (3, 0) (.cons (4, 2) (.cons (5, 0) (.cons (6, 2) (.cons (7, 2) (.cons (8, 2) (.cons (9, 2) (.cons (11, 0) (.cons (12, 2) (.cons (13, 2) .nil)))))))))))))) (by kernel_rfl) (by kernel_rfl) (Exm.drew _) ?_
              obtain ⟨w29, hwd⟩ : ∃ x, x = w27.drew := ⟨_, rfl⟩
              have l30 : Ext w27 w29 := by rw [hwd]; exact Exm.drew _
              rw [← hwd]; clear hwd
              have Lq : Exm [] w27 w29 := l30.up
              have qB5 := B5
              have qB12 := B12
              have qo19 := o19
              have qo29 := o29
              have qL := L
              have z_l30 := l30.size
              have L := L.tr l30.up
              have B5 := B5.ext l30
              have B12 := B12.ext l30
              have o19 := o19.ext l30
              have o29 := o29.ext l30
              refine p0 rfl (x_fieldAddr fa25_0GT rfl) ?_
              refine ps rfl (fun wq hwq => x_loadB sc9GT rfl (qB5.ext hwq) rfl) ?_
              refine ps rfl (fun wq hwq => x_loadAgB ag25GT rfl (qB5.ext hwq) rfl) ?_
              refine pfork ?_ ?_
              · refine pu rfl ?_ (by rintro ⟨_, _, h, _⟩; cases h)
                refine sr (zcall cl20GT rfl) (s_place _ _ _ (by omega)) ?_
                intro w31 l32
                have z_l32 := l32.size
                have L := L.tr l32.up
                have Lq := Lq.tr l32.up
                have B5 := B5.ext l32
                have B12 := B12.ext l32
                have o19 := o19.ext l32
                have o29 := o29.ext l32
                refine c_end ⟨rfl, fun h hS => Lq, ?_⟩
                refine p0 rfl (x_build (cs := [.string _, .int _ _]) bd35GT (pts_cons (v := .string _) rfl (pts_cons (v := .int _ _) rfl pts_nil)) rfl) ?_
                refine pfork ?_ ?_
                · refine pu rfl ?_ (by rintro ⟨_, _, h, _⟩; cases h)
                  refine sr (zcall cl19GT rfl) (s_ue _ _ _ (by omega)) ?_
                  intro w33 l34
                  have z_l34 := l34.size
                  have L := L.tr l34.up
                  have Lq := Lq.tr l34.up
                  have B5 := B5.ext l34
                  have B12 := B12.ext l34
                  have o19 := o19.ext l34
                  have o29 := o29.ext l34
                  refine c_end ⟨rfl, fun h hS => Lq, ?_⟩
                  refine p0 rfl (x_move (v := .tuple _) rfl) ?_
                  refine p0 rfl (x_extract rfl rfl) ?_
                  refine p0 rfl (x_extract rfl rfl) ?_
                  refine p0 rfl (x_extract rfl rfl) ?_
                  refine pu rfl ?_ (by rintro ⟨_, _, h, _⟩; cases h)
                  refine s_alloc zr35GT ?_
                  intro b35 w36 lob35 hib35 l37 B35
                  have z_l37 := l37.size
                  have L := L.tr l37.up
                  have Lq := Lq.tr l37.up
                  have B5 := B5.ext l37
                  have B12 := B12.ext l37
                  have o19 := o19.ext l37
                  have o29 := o29.ext l37
                  refine c_end ⟨rfl, fun h hS => Lq, ?_⟩
                  refine pu rfl ?_ (by rintro ⟨_, _, h, _⟩; cases h)
                  refine s_storeAg rfl sz35GT rfl rfl B35 rfl rfl rfl ?_
                  intro w38 l39 el39 B35
                  have z_l39 := l39.size
                  have L := L.fresh l39 (by omega)
                  have Lq := Lq.fresh l39 (by omega)
                  have B5 := B5.ne l39 (by omega)
                  have B12 := B12.ne l39 (by omega)
                  have o19 := o19.ne l39 (by first | assumption | exact nin_of f19 g19 (by omega))
                  have o29 := o29.ne l39 (by first | assumption | exact nin_of f29 g29 (by omega))
                  refine c_end ⟨rfl, fun h hS => Lq, ?_⟩
                  refine p0 rfl (x_assign (v := .int _ _) rfl) ?_
                  refine p0 rfl (x_assign (v := .int _ _) rfl) ?_
                  refine p_nil (np_normal ?_)
                  refine n_then ?_
                  refine wp_seq ?_
                  obtain ⟨q1, q2, q3⟩ := fu_read h46
                  rw [← h50] at q1 q2 q3
                  refine c_plan (fun wq => Exm [] w38 wq) 16 (.cons (0, 2) (.cons (1, 2) (.cons (2, 2) (.cons (3, 2) (.cons (4, 2) (.cons (5, 2) (.cons (6, 2) (.cons (7, 2) (.cons (8, 2) (.cons (9, 1) (.cons (11, 2) (.cons (12, 1) (.cons (10, 0) (.cons (13, 2) (.cons (14, 2) (.cons (15, 2) .nil)))))))))))))))) (by kernel_rfl) (by kernel_rfl) (Exm.drew _) ?_
                  obtain ⟨w40, hwd⟩ : ∃ x, x = w38.drew := ⟨_, rfl⟩
                  have l41 : Ext w38 w40 := by rw [hwd]; exact Exm.drew _
                  rw [← hwd]; clear hwd
                  have Lq : Exm [] w38 w40 := l41.up
                  have qB5 := B5
                  have qB12 := B12
                  have qB35 := B35
                  have qo19 := o19
                  have qo29 := o29
                  have qL := L
                  have z_l41 := l41.size
                  have L := L.tr l41.up
                  have B5 := B5.ext l41
                  have B12 := B12.ext l41
                  have B35 := B35.ext l41
                  have o19 := o19.ext l41
                  have o29 := o29.ext l41
                  refine p0 rfl (x_move (v := .int _ _) rfl) ?_
                  refine p0 rfl (x_move (v := .int _ _) rfl) ?_
                  refine pb rfl (x_eql rfl rfl) (fun h80 => ?_) (fun h80 => ?_)
                  · refine p0 rfl (x_move (v := .bool _) rfl) ?_
                    refine p0g rfl rfl rfl rfl rfl (x_move (v := .int _ _) rfl) ?_
                    refine p0g rfl rfl rfl rfl rfl (x_move (v := .int _ _) rfl) ?_
                    refine pbg rfl rfl rfl rfl rfl (x_eql rfl rfl) (fun h84 => ?_) (fun h84 => ?_)
                    · refine p0 rfl (x_pickt (v := .bool _) rfl rfl) ?_
                      refine p0 rfl (x_move (v := .bool _) rfl) ?_
                      refine psg rfl rfl rfl rfl rfl (fun wq hwq => x_loadAgB ag25GT rfl (qB12.ext hwq) rfl) ?_
                      refine p0g rfl rfl rfl rfl rfl (x_fieldAddr fa35_1GT rfl) ?_
                      refine psg rfl rfl rfl rfl rfl (fun wq hwq => x_loadB sc3GT rfl (qB35.ext hwq) rfl) ?_
                      refine pu rfl ?_ (by rintro ⟨_, _, h, _⟩; cases h)
                      refine gt rfl rfl rfl rfl ?_
                      refine sr (zcall cl21GT rfl) (i_place _ _ _ (by omega)) ?_
                      intro w42 l43
                      have z_l43 := l43.size
                      have L := L.tr l43.up
                      have Lq := Lq.tr l43.up
                      have B5 := B5.ext l43
                      have B12 := B12.ext l43
                      have B35 := B35.ext l43
                      have o19 := o19.ext l43
                      have o29 := o29.ext l43
                      refine c_end ⟨rfl, fun h hS => Lq, ?_⟩
                      refine p0g rfl rfl rfl rfl rfl (x_eql rfl rfl) ?_
                      refine p0 rfl (x_pickt (v := .bool _) rfl rfl) ?_
                      refine p0 rfl (x_assign (v := .bool _) rfl) ?_
                      refine p_nil (np_normal ?_)
                      refine n_then ?_
                      refine wp_ret ?_
                      refine f_ret rfl rfl ?_
                      exact ⟨ret_bt q3, L⟩
                    · exact absurd q2 h84
                  · exact absurd q1 h80
                · refine pu rfl ?_ (by rintro ⟨_, _, h, _⟩; cases h)
                  refine s_alloc zr35GT ?_
                  intro b44 w45 lob44 hib44 l46 B44
                  have z_l46 := l46.size
                  have L := L.tr l46.up
                  have Lq := Lq.tr l46.up
                  have B5 := B5.ext l46
                  have B12 := B12.ext l46
                  have o19 := o19.ext l46
                  have o29 := o29.ext l46
                  refine c_end ⟨rfl, fun h hS => Lq, ?_⟩
                  refine pu rfl ?_ (by rintro ⟨_, _, h, _⟩; cases h)
                  refine sr (zcall cl19GT rfl) (s_ue _ _ _ (by omega)) ?_
                  intro w47 l48
                  have z_l48 := l48.size
                  have L := L.tr l48.up
                  have Lq := Lq.tr l48.up
                  have B5 := B5.ext l48
                  have B12 := B12.ext l48
                  have B44 := B44.ext l48
                  have o19 := o19.ext l48
                  have o29 := o29.ext l48
                  refine c_end ⟨rfl, fun h hS => Lq, ?_⟩
                  refine p0 rfl (x_move (v := .tuple _) rfl) ?_
                  refine p0 rfl (x_extract rfl rfl) ?_
                  refine p0 rfl (x_extract rfl rfl) ?_
                  refine p0 rfl (x_extract rfl rfl) ?_
                  refine pu rfl ?_ (by rintro ⟨_, _, h, _⟩; cases h)
                  refine s_storeAg rfl sz35GT rfl rfl B44 rfl rfl rfl ?_
                  intro w49 l50 el50 B44
                  have z_l50 := l50.size
                  have L := L.fresh l50 (by omega)
                  have Lq := Lq.fresh l50 (by omega)
                  have B5 := B5.ne l50 (by omega)
                  have B12 := B12.ne l50 (by omega)
                  have o19 := o19.ne l50 (by first | assumption | exact nin_of f19 g19 (by omega))
                  have o29 := o29.ne l50 (by first | assumption | exact nin_of f29 g29 (by omega))
                  refine c_end ⟨rfl, fun h hS => Lq, ?_⟩
                  refine p0 rfl (x_assign (v := .int _ _) rfl) ?_
                  refine p0 rfl (x_assign (v := .int _ _) rfl) ?_
                  refine p_nil (np_normal ?_)
                  refine n_then ?_
                  refine wp_seq ?_
                  obtain ⟨q1, q2, q3⟩ := fu_read h46
                  rw [← h50] at q1 q2 q3
                  refine c_plan (fun wq => Exm [] w49 wq) 16 (.cons (0, 2) (.cons (1, 2) (.cons (2, 2) (.cons (3, 2) (.cons (4, 2) (.cons (5, 2) (.cons (6, 2) (.cons (7, 2) (.cons (8, 2) (.cons (9, 1) (.cons (11, 2) (.cons (12, 1) (.cons (10, 0) (.cons (13, 2) (.cons (14, 2) (.cons (15, 2) .nil)))))))))))))))) (by kernel_rfl) (by kernel_rfl) (Exm.drew _) ?_
                  obtain ⟨w51, hwd⟩ : ∃ x, x = w49.drew := ⟨_, rfl⟩
                  have l52 : Ext w49 w51 := by rw [hwd]; exact Exm.drew _
                  rw [← hwd]; clear hwd
                  have Lq : Exm [] w49 w51 := l52.up
                  have qB5 := B5
                  have qB12 := B12
                  have qB44 := B44
                  have qo19 := o19
                  have qo29 := o29
                  have qL := L
                  have z_l52 := l52.size
                  have L := L.tr l52.up
                  have B5 := B5.ext l52
                  have B12 := B12.ext l52
                  have B44 := B44.ext l52
                  have o19 := o19.ext l52
                  have o29 := o29.ext l52
                  refine p0 rfl (x_move (v := .int _ _) rfl) ?_
                  refine p0 rfl (x_move (v := .int _ _) rfl) ?_
                  refine pb rfl (x_eql rfl rfl) (fun h80 => ?_) (fun h80 => ?_)
                  · refine p0 rfl (x_move (v := .bool _) rfl) ?_
                    refine p0g rfl rfl rfl rfl rfl (x_move (v := .int _ _) rfl) ?_
                    refine p0g rfl rfl rfl rfl rfl (x_move (v := .int _ _) rfl) ?_
                    refine pbg rfl rfl rfl rfl rfl (x_eql rfl rfl) (fun h84 => ?_) (fun h84 => ?_)
                    · refine p0 rfl (x_pickt (v := .bool _) rfl rfl) ?_
                      refine p0 rfl (x_move (v := .bool _) rfl) ?_
                      refine psg rfl rfl rfl rfl rfl (fun wq hwq => x_loadAgB ag25GT rfl (qB12.ext hwq) rfl) ?_
                      refine p0g rfl rfl rfl rfl rfl (x_fieldAddr fa35_1GT rfl) ?_
                      refine psg rfl rfl rfl rfl rfl (fun wq hwq => x_loadB sc3GT rfl (qB44.ext hwq) rfl) ?_
                      refine pu rfl ?_ (by rintro ⟨_, _, h, _⟩; cases h)
                      refine gt rfl rfl rfl rfl ?_
                      refine sr (zcall cl21GT rfl) (i_place _ _ _ (by omega)) ?_
                      intro w53 l54
                      have z_l54 := l54.size
                      have L := L.tr l54.up
                      have Lq := Lq.tr l54.up
                      have B5 := B5.ext l54
                      have B12 := B12.ext l54
                      have B44 := B44.ext l54
                      have o19 := o19.ext l54
                      have o29 := o29.ext l54
                      refine c_end ⟨rfl, fun h hS => Lq, ?_⟩
                      refine p0g rfl rfl rfl rfl rfl (x_eql rfl rfl) ?_
                      refine p0 rfl (x_pickt (v := .bool _) rfl rfl) ?_
                      refine p0 rfl (x_assign (v := .bool _) rfl) ?_
                      refine p_nil (np_normal ?_)
                      refine n_then ?_
                      refine wp_ret ?_
                      refine f_ret rfl rfl ?_
                      exact ⟨ret_bt q3, L⟩
                    · exact absurd q2 h84
                  · exact absurd q1 h80
              · refine pu rfl ?_ (by rintro ⟨_, _, h, _⟩; cases h)
                refine s_alloc zr35GT ?_
                intro b55 w56 lob55 hib55 l57 B55
                have z_l57 := l57.size
                have L := L.tr l57.up
                have Lq := Lq.tr l57.up
                have B5 := B5.ext l57
                have B12 := B12.ext l57
                have o19 := o19.ext l57
                have o29 := o29.ext l57
                refine c_end ⟨rfl, fun h hS => Lq, ?_⟩
                refine pu rfl ?_ (by rintro ⟨_, _, h, _⟩; cases h)
                refine sr (zcall cl20GT rfl) (s_place _ _ _ (by omega)) ?_
                intro w58 l59
                have z_l59 := l59.size
                have L := L.tr l59.up
                have Lq := Lq.tr l59.up
                have B5 := B5.ext l59
                have B12 := B12.ext l59
                have B55 := B55.ext l59
                have o19 := o19.ext l59
                have o29 := o29.ext l59
                refine c_end ⟨rfl, fun h hS => Lq, ?_⟩
                refine p0 rfl (x_build (cs := [.string _, .int _ _]) bd35GT (pts_cons (v := .string _) rfl (pts_cons (v := .int _ _) rfl pts_nil)) rfl) ?_
                refine pu rfl ?_ (by rintro ⟨_, _, h, _⟩; cases h)
                refine sr (zcall cl19GT rfl) (s_ue _ _ _ (by omega)) ?_
                intro w60 l61
                have z_l61 := l61.size
                have L := L.tr l61.up
                have Lq := Lq.tr l61.up
                have B5 := B5.ext l61
                have B12 := B12.ext l61
                have B55 := B55.ext l61
                have o19 := o19.ext l61
                have o29 := o29.ext l61
                refine c_end ⟨rfl, fun h hS => Lq, ?_⟩
                refine p0 rfl (x_move (v := .tuple _) rfl) ?_
                refine p0 rfl (x_extract rfl rfl) ?_
                refine p0 rfl (x_extract rfl rfl) ?_
                refine p0 rfl (x_extract rfl rfl) ?_
                refine pu rfl ?_ (by rintro ⟨_, _, h, _⟩; cases h)
                refine s_storeAg rfl sz35GT rfl rfl B55 rfl rfl rfl ?_
                intro w62 l63 el63 B55
                have z_l63 := l63.size
                have L := L.fresh l63 (by omega)
                have Lq := Lq.fresh l63 (by omega)
                have B5 := B5.ne l63 (by omega)
                have B12 := B12.ne l63 (by omega)
                have o19 := o19.ne l63 (by first | assumption | exact nin_of f19 g19 (by omega))
                have o29 := o29.ne l63 (by first | assumption | exact nin_of f29 g29 (by omega))
                refine c_end ⟨rfl, fun h hS => Lq, ?_⟩
                refine p0 rfl (x_assign (v := .int _ _) rfl) ?_
                refine p0 rfl (x_assign (v := .int _ _) rfl) ?_
                refine p_nil (np_normal ?_)
                refine n_then ?_
                refine wp_seq ?_
                obtain ⟨q1, q2, q3⟩ := fu_read h46
                rw [← h50] at q1 q2 q3
                refine c_plan (fun wq => Exm [] w62 wq) 16 (.cons (0, 2) (.cons (1, 2) (.cons (2, 2) (.cons (3, 2) (.cons (4, 2) (.cons (5, 2) (.cons (6, 2) (.cons (7, 2) (.cons (8, 2) (.cons (9, 1) (.cons (11, 2) (.cons (12, 1) (.cons (10, 0) (.cons (13, 2) (.cons (14, 2) (.cons (15, 2) .nil)))))))))))))))) (by kernel_rfl) (by kernel_rfl) (Exm.drew _) ?_
                obtain ⟨w64, hwd⟩ : ∃ x, x = w62.drew := ⟨_, rfl⟩
                have l65 : Ext w62 w64 := by rw [hwd]; exact Exm.drew _
                rw [← hwd]; clear hwd
                have Lq : Exm [] w62 w64 := l65.up
                have qB5 := B5
                have qB12 := B12
                have qB55 := B55
                have qo19 := o19
                have qo29 := o29
                have qL := L
                have z_l65 := l65.size
                have L := L.tr l65.up
                have B5 := B5.ext l65
                have B12 := B12.ext l65
                have B55 := B55.ext l65
                have o19 := o19.ext l65
                have o29 := o29.ext l65
                refine p0 rfl (x_move (v := .int _ _) rfl) ?_
                refine p0 rfl (x_move (v := .int _ _) rfl) ?_
                refine pb rfl (x_eql rfl rfl) (fun h80 => ?_) (fun h80 => ?_)
                · refine p0 rfl (x_move (v := .bool _) rfl) ?_
                  refine p0g rfl rfl rfl rfl rfl (x_move (v := .int _ _) rfl) ?_
                  refine p0g rfl rfl rfl rfl rfl (x_move (v := .int _ _) rfl) ?_
                  refine pbg rfl rfl rfl rfl rfl (x_eql rfl rfl) (fun h84 => ?_) (fun h84 => ?_)
                  · refine p0 rfl (x_pickt (v := .bool _) rfl rfl) ?_
                    refine p0 rfl (x_move (v := .bool _) rfl) ?_
                    refine psg rfl rfl rfl rfl rfl (fun wq hwq => x_loadAgB ag25GT rfl (qB12.ext hwq) rfl) ?_
                    refine p0g rfl rfl rfl rfl rfl (x_fieldAddr fa35_1GT rfl) ?_
                    refine psg rfl rfl rfl rfl rfl (fun wq hwq => x_loadB sc3GT rfl (qB55.ext hwq) rfl) ?_
                    refine pu rfl ?_ (by rintro ⟨_, _, h, _⟩; cases h)
                    refine gt rfl rfl rfl rfl ?_
                    refine sr (zcall cl21GT rfl) (i_place _ _ _ (by omega)) ?_
                    intro w66 l67
                    have z_l67 := l67.size
                    have L := L.tr l67.up
                    have Lq := Lq.tr l67.up
                    have B5 := B5.ext l67
                    have B12 := B12.ext l67
                    have B55 := B55.ext l67
                    have o19 := o19.ext l67
                    have o29 := o29.ext l67
                    refine c_end ⟨rfl, fun h hS => Lq, ?_⟩
                    refine p0g rfl rfl rfl rfl rfl (x_eql rfl rfl) ?_
                    refine p0 rfl (x_pickt (v := .bool _) rfl rfl) ?_
                    refine p0 rfl (x_assign (v := .bool _) rfl) ?_
                    refine p_nil (np_normal ?_)
                    refine n_then ?_
                    refine wp_ret ?_
                    refine f_ret rfl rfl ?_
                    exact ⟨ret_bt q3, L⟩
                  · exact absurd q2 h84
                · exact absurd q1 h80
            · have z_l28 := l28.size
              have L := L.tr l28.up
              have B5 := B5.ext l28
              have B12 := B12.ext l28
              have o19 := o19.ext l28
              have o29 := o29.ext l28
              refine gt rfl rfl rfl rfl ?_
              refine s0 (x_not rfl) ?_
              refine s0 (x_pickf (v := .bool _) rfl rfl) ?_
              refine c_end ?_
              refine n_then ?_
              refine c_true rfl ?_
              refine wp_seq ?_
              refine c_reg ?_
              refine st (x_loadAgB ag25GT rfl B5 rfl) ?_
              refine s0 (x_move (v := .slice _ _ _) rfl) ?_
              refine sr (zcall cl18GT rfl) (s_fastUe _ _ _ _ _ _ (by omega) o19.sl (by omega)) ?_
              intro w68 l69
              have z_l69 := l69.size
              have L := L.tr l69.up
              have B5 := B5.ext l69
              have B12 := B12.ext l69
              have o19 := o19.ext l69
              have o29 := o29.ext l69
              refine s0 (x_move (v := .tuple _) rfl) ?_
              refine s0 (x_extract rfl rfl) ?_
              refine s0 (x_extract rfl rfl) ?_
              refine s0 (x_extract rfl rfl) ?_
              refine s_alloc zr25GT ?_
              intro b70 w71 lob70 hib70 l72 B70
              have z_l72 := l72.size
              have L := L.tr l72.up
              have B5 := B5.ext l72
              have B12 := B12.ext l72
              have o19 := o19.ext l72
              have o29 := o29.ext l72
              refine s_storeAg rfl sz25GT rfl rfl B70 rfl rfl rfl ?_
              intro w73 l74 el74 B70
              have z_l74 := l74.size
              have L := L.fresh l74 (by omega)
              have B5 := B5.ne l74 (by omega)
              have B12 := B12.ne l74 (by omega)
              have o19 := o19.ne l74 (by first | assumption | exact nin_of f19 g19 (by omega))
              have o29 := o29.ne l74 (by first | assumption | exact nin_of f29 g29 (by omega))
              refine s0 (x_assign (v := .int _ _) rfl) ?_
              refine s0 (x_assign (v := .int _ _) rfl) ?_
              refine c_end ?_
              refine n_then ?_
              refine wp_seq ?_
              refine c_reg ?_
              refine s0 (x_move (v := .int _ _) rfl) ?_
              refine s0 (x_move (v := .int _ _) rfl) ?_
              refine sb (x_eql rfl rfl) (fun h62 => ?_) (fun h62 => ?_)
              · refine s0 (x_move (v := .bool _) rfl) ?_
                refine gt rfl rfl rfl rfl ?_
                refine s0 (x_move (v := .int _ _) rfl) ?_
                refine gt rfl rfl rfl rfl ?_
                refine s0 (x_move (v := .int _ _) rfl) ?_
                refine gt rfl rfl rfl rfl ?_
                refine s0 (x_eql rfl rfl) ?_
                refine s0 (x_pickt (v := .bool _) rfl rfl) ?_
                refine s0 (x_assign (v := .bool _) rfl) ?_
                refine c_end ?_
                refine n_then ?_
                refine wp_ret (r_then ?_)
                refine f_ret rfl rfl ?_
                exact ⟨ret_bt rfl, L⟩
              · exact absurd rfl h62
          · have z_l26 := l26.size
            have L := L.tr l26.up
            have B5 := B5.ext l26
            have B12 := B12.ext l26
            have o19 := o19.ext l26
            have o29 := o29.ext l26
            refine s0 (x_not rfl) ?_
            refine s0 (x_move (v := .bool _) rfl) ?_
            refine gf rfl rfl rfl rfl ?_
            refine gf rfl rfl rfl rfl ?_
            refine gf rfl rfl rfl rfl ?_
            refine s0 (x_pickt (v := .bool _) rfl rfl) ?_
            refine c_end ?_
            refine n_then ?_
            refine c_true rfl ?_
            refine wp_seq ?_
            refine c_reg ?_
            refine st (x_loadAgB ag25GT rfl B5 rfl) ?_
            refine s0 (x_move (v := .slice _ _ _) rfl) ?_
            refine sr (zcall cl18GT rfl) (s_fastUe _ _ _ _ _ _ (by omega) o19.sl (by omega)) ?_
            intro w75 l76
            have z_l76 := l76.size
            have L := L.tr l76.up
            have B5 := B5.ext l76
            have B12 := B12.ext l76
            have o19 := o19.ext l76
            have o29 := o29.ext l76
            refine s0 (x_move (v := .tuple _) rfl) ?_
            refine s0 (x_extract rfl rfl) ?_
            refine s0 (x_extract rfl rfl) ?_
            refine s0 (x_extract rfl rfl) ?_
            refine s_alloc zr25GT ?_
            intro b77 w78 lob77 hib77 l79 B77
            have z_l79 := l79.size
            have L := L.tr l79.up
            have B5 := B5.ext l79
            have B12 := B12.ext l79
            have o19 := o19.ext l79
            have o29 := o29.ext l79
            refine s_storeAg rfl sz25GT rfl rfl B77 rfl rfl rfl ?_
            intro w80 l81 el81 B77
            have z_l81 := l81.size
            have L := L.fresh l81 (by omega)
            have B5 := B5.ne l81 (by omega)
            have B12 := B12.ne l81 (by omega)
            have o19 := o19.ne l81 (by first | assumption | exact nin_of f19 g19 (by omega))
            have o29 := o29.ne l81 (by first | assumption | exact nin_of f29 g29 (by omega))
            refine s0 (x_assign (v := .int _ _) rfl) ?_
            refine s0 (x_assign (v := .int _ _) rfl) ?_
            refine c_end ?_
            refine n_then ?_
            refine wp_seq ?_
            refine c_reg ?_
            refine s0 (x_move (v := .int _ _) rfl) ?_
            refine s0 (x_move (v := .int _ _) rfl) ?_
            refine sb (x_eql rfl rfl) (fun h62 => ?_) (fun h62 => ?_)
            · refine s0 (x_move (v := .bool _) rfl) ?_
              refine gt rfl rfl rfl rfl ?_
              refine s0 (x_move (v := .int _ _) rfl) ?_
              refine gt rfl rfl rfl rfl ?_
              refine s0 (x_move (v := .int _ _) rfl) ?_
              refine gt rfl rfl rfl rfl ?_
              refine s0 (x_eql rfl rfl) ?_
              refine s0 (x_pickt (v := .bool _) rfl rfl) ?_
              refine s0 (x_assign (v := .bool _) rfl) ?_
              refine c_end ?_
              refine n_then ?_
              refine wp_ret (r_then ?_)
              refine f_ret rfl rfl ?_
              exact ⟨ret_bt rfl, L⟩
            · exact absurd rfl h62
      · exact absurd hx29 h37

end Go.Proofs.Ytnehdmcilmlchaa
