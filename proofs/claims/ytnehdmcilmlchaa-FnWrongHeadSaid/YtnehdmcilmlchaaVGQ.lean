/- What each function of this part returns, for every argument that meets its premises. -/
import Derived.Test.YtnehdmcilmlchaaProg
import Derived.Test.YtnehdmcilmlchaaVSxF
import Derived.Test.YtnehdmcilmlchaaVPlV
import Derived.Test.YtnehdmcilmlchaaVF3
import Derived.Test.YtnehdmcilmlchaaVF4
import Derived.Test.YtnehdmcilmlchaaVF5
import Derived.Test.YtnehdmcilmlchaaVF6
import Derived.Test.YtnehdmcilmlchaaVF9
import Derived.Test.YtnehdmcilmlchaaVFA
import Derived.Test.YtnehdmcilmlchaaVFL
import Derived.Test.YtnehdmcilmlchaaVFO
import Derived.Test.YtnehdmcilmlchaaVFQ
namespace Go.Proofs.Ytnehdmcilmlchaa
open Go.Sx Go.Pl Go.RowKit
theorem ag25GQ : Ag Try.prog 25 4 := ⟨⟨_, Try.underlying25⟩, by kernel_rfl⟩
theorem ag35GQ : Ag Try.prog 35 2 := ⟨⟨_, Try.underlying35⟩, by kernel_rfl⟩
theorem ag42GQ : Ag Try.prog 42 6 := ⟨⟨_, Try.underlying42⟩, by kernel_rfl⟩
theorem cl11GQ : Callable Try.prog 11 := callable Try.func11 (by kernel_rfl) rfl
theorem cl14GQ : Callable Try.prog 14 := callable Try.func14 (by kernel_rfl) rfl
theorem cl21GQ : Callable Try.prog 21 := callable Try.func21 (by kernel_rfl) rfl
theorem cl22GQ : Callable Try.prog 22 := callable Try.func22 (by kernel_rfl) rfl
theorem cl23GQ : Callable Try.prog 23 := callable Try.func23 (by kernel_rfl) rfl
theorem cl24GQ : Callable Try.prog 24 := callable Try.func24 (by kernel_rfl) rfl
theorem cl25GQ : Callable Try.prog 25 := callable Try.func25 (by kernel_rfl) rfl
theorem cl26GQ : Callable Try.prog 26 := callable Try.func26 (by kernel_rfl) rfl
theorem cl27GQ : Callable Try.prog 27 := callable Try.func27 (by kernel_rfl) rfl
theorem cl28GQ : Callable Try.prog 28 := callable Try.func28 (by kernel_rfl) rfl
theorem fa35_0GQ : FieldAt Try.prog 35 0 0 := ⟨_, _, Try.underlying35, rfl, rfl, ⟨0, by unfold Sz; kernel_rfl⟩⟩
theorem fa35_1GQ : FieldAt Try.prog 35 1 1 := ⟨_, _, Try.underlying35, rfl, rfl, ⟨0, by unfold Sz; kernel_rfl⟩⟩
theorem sc3GQ : Sc Try.prog 3 := ⟨(.int .i64), by kernel_rfl, trivial⟩
theorem sc9GQ : Sc Try.prog 9 := ⟨.string, by kernel_rfl, trivial⟩
theorem sz25GQ : Sz Try.prog 25 4 := by unfold Sz; kernel_rfl
theorem sz35GQ : Sz Try.prog 35 2 := by unfold Sz; kernel_rfl
theorem sz42GQ : Sz Try.prog 42 6 := by unfold Sz; kernel_rfl
theorem un3GQ : Try.prog.underlying 3 = some (.int .i64) := by kernel_rfl
theorem un9GQ : Try.prog.underlying 9 = some .string := by kernel_rfl
theorem zr25GQ : ZeroV Try.prog 25 [.string .empty, .int .i64 0, .int .i64 0, .int .i64 0] := by unfold ZeroV; kernel_rfl
theorem zr35GQ : ZeroV Try.prog 35 [.string .empty, .int .i64 0] := by unfold ZeroV; kernel_rfl
theorem zr42GQ : ZeroV Try.prog 42 [.int .i64 0, .int .i64 0, .int .i64 0, .bool false, .bool false, .slice none 0 0] := by unfold ZeroV; kernel_rfl
theorem fe35GQ {a0 b0 : ByteArray} {a1 b1 : Int} : StEq Try.prog 35 [.string a0, .int .i64 a1] [.string b0, .int .i64 b1] (a0 = b0 ∧ a1 = b1 ∧ True) := ⟨_, Try.underlying35, by kernel_rfl, by kernel_rfl, (fe_string (by decide) sc9GQ un9GQ rfl rfl (fe_int (by decide) sc3GQ un3GQ rfl rfl fe_nil))⟩
set_option maxRecDepth 4000 in
/-- laws.FnWrongHead -/
theorem l_fnWrongHead (p : Option Addr) (xs : List Int) (c : Nat) (B : Nat) (w : World) (hp : Sl w p xs.length c 1 (bc xs)) (hr : ∀ x ∈ xs, 0 ≤ x ∧ x ≤ 255) (hpB : Bl p xs.length B) (hB : B ≤ w.heap.size) :
    Calls Try.prog 4 [.slice p xs.length c].toArray w (Ret w (.bool true)) := by
  have L : Exm [] w w := Exm.rfl'
  refine enter (n := 79) Try.func4 rfl rfl rfl ?_
  refine wp_seq ?_
  refine c_reg ?_
  refine s0 (x_assign (v := .bool _) rfl) ?_
  refine c_end ?_
  refine n_then ?_
  refine wp_seq ?_
  refine wp_seq ?_
  refine c_reg ?_
  refine s0 (x_move (v := .slice _ _ _) rfl) ?_
  refine srb (zcall cl11GQ rfl) (l_big _ _ _ _) (fun h14 w1 l2 => ?_) (fun h14 w1 l2 => ?_)
  · have z_l2 := l2.size
    have L := L.tr l2.up
    refine c_end ?_
    refine n_then ?_
    refine c_true rfl ?_
    refine wp_seq ?_
    refine c_reg ?_
    refine s0 (x_assign (v := .bool _) rfl) ?_
    refine c_end ?_
    refine n_then ?_
    refine wp_ret (r_then ?_)
    refine f_ret rfl rfl ?_
    exact ⟨rfl, L⟩
  · have z_l2 := l2.size
    have L := L.tr l2.up
    refine c_end ?_
    refine n_then ?_
    refine c_false rfl ?_
    refine c_skipn ?_
    refine n_then ?_
    refine wp_seq ?_
    have hl : xs.length ≤ 1048576 := by omega
    refine c_reg ?_
    refine s0 (x_move (v := .slice _ _ _) rfl) ?_
    refine sp (zcall cl22GQ rfl) (s_drawReadHeader _ _ _ _ _ (hp.ext L) hr hpB (by omega) (by omega)) ?_
    rintro v16 w3 l4 ⟨s16, a16, rfl, hx16⟩
    have z_l4 := l4.size
    have L := L.tr l4.up
    refine s_alloc zr35GQ ?_
    intro b5 w6 lob5 hib5 l7 B5
    have z_l7 := l7.size
    have L := L.tr l7.up
    refine s_storeAg rfl sz35GQ rfl rfl B5 rfl rfl rfl ?_
    intro w8 l9 el9 B5
    have z_l9 := l9.size
    have L := L.fresh l9 (by omega)
    refine c_end ?_
    refine n_then ?_
    refine wp_seq ?_
    refine wp_seq ?_
    refine c_reg ?_
    refine s0 (x_fieldAddr fa35_1GQ rfl) ?_
    refine st (x_loadB sc3GQ rfl B5 rfl) ?_
    refine sb (x_neq rfl rfl) (fun h19 => ?_) (fun h19 => ?_)
    · refine c_end ?_
      refine n_then ?_
      refine c_true rfl ?_
      refine wp_seq ?_
      refine c_reg ?_
      refine s0 (x_assign (v := .bool _) rfl) ?_
      refine c_end ?_
      refine n_then ?_
      refine wp_ret (r_then ?_)
      refine f_ret rfl rfl ?_
      exact ⟨rfl, L⟩
    · refine c_end ?_
      refine n_then ?_
      refine c_false rfl ?_
      refine c_skipn ?_
      refine n_then ?_
      refine wp_seq ?_
      have ha0 : a16 = 0 := by omega
      refine c_reg ?_
      refine st (x_loadAgB ag35GQ rfl B5 rfl) ?_
      refine sp (zcall cl23GQ rfl) (i_readHeader _ _ _ (by omega)) ?_
      rintro v22 w10 l11 ⟨p22, c22, F22, rfl, o22, f22⟩
      have z_l11 := l11.size
      have L := L.tr l11.up
      have B5 := B5.ext l11
      have g22 := o22.lt
      refine s0 (x_move (v := .tuple _) rfl) ?_
      refine s0 (x_extract rfl rfl) ?_
      refine s0 (x_extract rfl rfl) ?_
      refine s0 (x_extract rfl rfl) ?_
      refine s_alloc zr35GQ ?_
      intro b12 w13 lob12 hib12 l14 B12
      have z_l14 := l14.size
      have L := L.tr l14.up
      have B5 := B5.ext l14
      have o22 := o22.ext l14
      refine s_alloc zr42GQ ?_
      intro b15 w16 lob15 hib15 l17 B15
      have z_l17 := l17.size
      have L := L.tr l17.up
      have B5 := B5.ext l17
      have B12 := B12.ext l17
      have o22 := o22.ext l17
      refine s_storeAg rfl sz35GQ rfl rfl B12 rfl rfl rfl ?_
      intro w18 l19 el19 B12
      have z_l19 := l19.size
      have L := L.fresh l19 (by omega)
      have B5 := B5.ne l19 (by omega)
      have B15 := B15.ne l19 (by omega)
      have o22 := o22.ne l19 (by first | assumption | exact nin_of f22 g22 (by omega))
      refine s_storeAg rfl sz42GQ rfl rfl B15 rfl rfl rfl ?_
      intro w20 l21 el21 B15
      have z_l21 := l21.size
      have L := L.fresh l21 (by omega)
      have B5 := B5.ne l21 (by omega)
      have B12 := B12.ne l21 (by omega)
      have o22 := o22.ne l21 (by first | assumption | exact nin_of f22 g22 (by omega))
      refine s0 (x_assign (v := .int _ _) rfl) ?_
      refine c_end ?_
      refine n_then ?_
      refine wp_seq ?_
      refine c_reg ?_
      refine s0 (x_fieldAddr fa35_0GQ rfl) ?_
      refine st (x_loadB sc9GQ rfl B5 rfl) ?_
      refine sr (zcall cl25GQ rfl) (i_cacheNew _ _) ?_
      intro w22 l23
      have z_l23 := l23.size
      have L := L.tr l23.up
      have B5 := B5.ext l23
      have B12 := B12.ext l23
      have B15 := B15.ext l23
      have o22 := o22.ext l23
      refine sp (zcall cl14GQ rfl) (i_ueTable _) ?_
      rintro v30 w24 l25 ⟨xs30, hx30, p30, c30, F30, rfl, o30, f30⟩
      have z_l25 := l25.size
      have L := L.tr l25.up
      have B5 := B5.ext l25
      have B12 := B12.ext l25
      have B15 := B15.ext l25
      have o22 := o22.ext l25
      have hl30 := ueTab_len hx30
      have g30 := o30.lt
      refine sp (zcall cl24GQ rfl) (i_fastHeader _ _ _ _ _ _ (by omega) o30.sl (by omega)) ?_
      rintro v31 w26 l27 ⟨p31, c31, F31, rfl, o31, f31⟩
      have z_l27 := l27.size
      have L := L.tr l27.up
      have B5 := B5.ext l27
      have B12 := B12.ext l27
      have B15 := B15.ext l27
      have o22 := o22.ext l27
      have o30 := o30.ext l27
      have g31 := o31.lt
      refine s0 (x_move (v := .tuple _) rfl) ?_
      refine s0 (x_extract rfl rfl) ?_
      refine s0 (x_extract rfl rfl) ?_
      refine s0 (x_extract rfl rfl) ?_
      refine s_alloc zr25GQ ?_
      intro b28 w29 lob28 hib28 l30 B28
      have z_l30 := l30.size
      have L := L.tr l30.up
      have B5 := B5.ext l30
      have B12 := B12.ext l30
      have B15 := B15.ext l30
      have o22 := o22.ext l30
      have o30 := o30.ext l30
      have o31 := o31.ext l30
      refine s_alloc zr42GQ ?_
      intro b31 w32 lob31 hib31 l33 B31
      have z_l33 := l33.size
      have L := L.tr l33.up
      have B5 := B5.ext l33
      have B12 := B12.ext l33
      have B15 := B15.ext l33
      have B28 := B28.ext l33
      have o22 := o22.ext l33
      have o30 := o30.ext l33
      have o31 := o31.ext l33
      refine s_storeAg rfl sz25GQ rfl rfl B28 rfl rfl rfl ?_
      intro w34 l35 el35 B28
      have z_l35 := l35.size
      have L := L.fresh l35 (by omega)
      have B5 := B5.ne l35 (by omega)
      have B12 := B12.ne l35 (by omega)
      have B15 := B15.ne l35 (by omega)
      have B31 := B31.ne l35 (by omega)
      have o22 := o22.ne l35 (by first | assumption | exact nin_of f22 g22 (by omega))
      have o30 := o30.ne l35 (by first | assumption | exact nin_of f30 g30 (by omega))
      have o31 := o31.ne l35 (by first | assumption | exact nin_of f31 g31 (by omega))
      refine s_storeAg rfl sz42GQ rfl rfl B31 rfl rfl rfl ?_
      intro w36 l37 el37 B31
      have z_l37 := l37.size
      have L := L.fresh l37 (by omega)
      have B5 := B5.ne l37 (by omega)
      have B12 := B12.ne l37 (by omega)
      have B15 := B15.ne l37 (by omega)
      have B28 := B28.ne l37 (by omega)
      have o22 := o22.ne l37 (by first | assumption | exact nin_of f22 g22 (by omega))
      have o30 := o30.ne l37 (by first | assumption | exact nin_of f30 g30 (by omega))
      have o31 := o31.ne l37 (by first | assumption | exact nin_of f31 g31 (by omega))
      refine s0 (x_assign (v := .int _ _) rfl) ?_
      refine c_end ?_
      refine n_then ?_
      refine wp_seq ?_
      have hfo : fhOk s16 (Ca.mk 0 0 0) xs30 := ⟨new_ok s16, hx30⟩
      have e0 : 8 * (Ca.mk 0 0 0).pos - (Ca.mk 0 0 0).hv = a16 := by rw [ha0]; rfl
      obtain ⟨e1, e2, e3, e4, e5, e6, e7, e8⟩ := fh_yes hfo
      rw [e0] at e1 e2 e3 e4 e5 e6 e7 e8
      have hin := rh_in (s := s16) (a := a16) (by omega)
      have hpl : placeOf s16 (fhC s16 (Ca.mk 0 0 0) xs30) = (rh6 s16 a16).a := by rw [e1, place_of (settled_ok hin).1]; exact (settled_ok hin).2.1
      have hdl := hdL_len s16 a16
      have hfl : (fhL s16 (Ca.mk 0 0 0) xs30).length ≤ 6 := by rw [e8]; exact hdl
      refine c_reg ?_
      refine st (x_loadAgB ag35GQ rfl B5 rfl) ?_
      refine sp (zcall cl26GQ rfl) (s_readHeader _ _ _ (by omega)) ?_
      rintro v37 w38 l39 ⟨p37, c37, F37, rfl, o37, f37⟩
      have z_l39 := l39.size
      have L := L.tr l39.up
      have B5 := B5.ext l39
      have B12 := B12.ext l39
      have B15 := B15.ext l39
      have B28 := B28.ext l39
      have B31 := B31.ext l39
      have o22 := o22.ext l39
      have o30 := o30.ext l39
      have o31 := o31.ext l39
      have g37 := o37.lt
      refine s0 (x_move (v := .tuple _) rfl) ?_
      refine s0 (x_extract rfl rfl) ?_
      refine s0 (x_extract rfl rfl) ?_
      refine s0 (x_extract rfl rfl) ?_
      refine s_alloc zr35GQ ?_
      intro b40 w41 lob40 hib40 l42 B40
      have z_l42 := l42.size
      have L := L.tr l42.up
      have B5 := B5.ext l42
      have B12 := B12.ext l42
      have B15 := B15.ext l42
      have B28 := B28.ext l42
      have B31 := B31.ext l42
      have o22 := o22.ext l42
      have o30 := o30.ext l42
      have o31 := o31.ext l42
      have o37 := o37.ext l42
      refine s_alloc zr42GQ ?_
      intro b43 w44 lob43 hib43 l45 B43
      have z_l45 := l45.size
      have L := L.tr l45.up
      have B5 := B5.ext l45
      have B12 := B12.ext l45
      have B15 := B15.ext l45
      have B28 := B28.ext l45
      have B31 := B31.ext l45
      have B40 := B40.ext l45
      have o22 := o22.ext l45
      have o30 := o30.ext l45
      have o31 := o31.ext l45
      have o37 := o37.ext l45
      refine s_storeAg rfl sz35GQ rfl rfl B40 rfl rfl rfl ?_
      intro w46 l47 el47 B40
      have z_l47 := l47.size
      have L := L.fresh l47 (by omega)
      have B5 := B5.ne l47 (by omega)
      have B12 := B12.ne l47 (by omega)
      have B15 := B15.ne l47 (by omega)
      have B28 := B28.ne l47 (by omega)
      have B31 := B31.ne l47 (by omega)
      have B43 := B43.ne l47 (by omega)
      have o22 := o22.ne l47 (by first | assumption | exact nin_of f22 g22 (by omega))
      have o30 := o30.ne l47 (by first | assumption | exact nin_of f30 g30 (by omega))
      have o31 := o31.ne l47 (by first | assumption | exact nin_of f31 g31 (by omega))
      have o37 := o37.ne l47 (by first | assumption | exact nin_of f37 g37 (by omega))
      refine s_storeAg rfl sz42GQ rfl rfl B43 rfl rfl rfl ?_
      intro w48 l49 el49 B43
      have z_l49 := l49.size
      have L := L.fresh l49 (by omega)
      have B5 := B5.ne l49 (by omega)
      have B12 := B12.ne l49 (by omega)
      have B15 := B15.ne l49 (by omega)
      have B28 := B28.ne l49 (by omega)
      have B31 := B31.ne l49 (by omega)
      have B40 := B40.ne l49 (by omega)
      have o22 := o22.ne l49 (by first | assumption | exact nin_of f22 g22 (by omega))
      have o30 := o30.ne l49 (by first | assumption | exact nin_of f30 g30 (by omega))
      have o31 := o31.ne l49 (by first | assumption | exact nin_of f31 g31 (by omega))
      have o37 := o37.ne l49 (by first | assumption | exact nin_of f37 g37 (by omega))
      refine s0 (x_assign (v := .int _ _) rfl) ?_
      refine c_end ?_
      refine n_then ?_
      refine wp_seq ?_
      refine c_plan (fun wq => Exm [] w48 wq) 39 (.cons (0, 2) (.cons (1, 2) (.cons (2, 2) (.cons (3, 2) (.cons (4, 2) (.cons (5, 2) (.cons (6, 2) (.cons (7, 2) (.cons (8, 2) (.cons (9, 1) (.cons (10, 1) (.cons (11, 2) (.cons (12, 2) (.cons (13, 2) (.cons (14, 1) (.cons (16, 2) (.cons (17, 1) (.cons (15, 0) (.cons (18, 2) (.cons (19, 2) (.cons (20, 2) (.cons (21, 1) (.cons (22, 1) (.cons (23, 0) (.cons (24, 2) (.cons (25, 2) (.cons (26, 1) (.cons (27, 1) (.cons (28, 0) (.cons (29, 2) (.cons (30, 2) (.cons (31, 2) (.cons (32, 2) (.cons (33, 2) (.cons (34, 1) (.cons (35, 0) (.cons (36, 2) (.cons (37, 2) (.cons (38, 2) .nil))))))))))))))))))))))))))))))))))))))) (by kernel_rfl) (by kernel_rfl) (Exm.drew _) ?_
      obtain ⟨w50, hwd⟩ : ∃ x, x = w48.drew := ⟨_, rfl⟩
      have l51 : Ext w48 w50 := by rw [hwd]; exact Exm.drew _
      rw [← hwd]; clear hwd
      have Lq : Exm [] w48 w50 := l51.up
      have qB5 := B5
      have qB12 := B12
      have qB15 := B15
      have qB28 := B28
      have qB31 := B31
      have qB40 := B40
      have qB43 := B43
      have qo22 := o22
      have qo30 := o30
      have qo31 := o31
      have qo37 := o37
      have qL := L
      have z_l51 := l51.size
      have L := L.tr l51.up
      have B5 := B5.ext l51
      have B12 := B12.ext l51
      have B15 := B15.ext l51
      have B28 := B28.ext l51
      have B31 := B31.ext l51
      have B40 := B40.ext l51
      have B43 := B43.ext l51
      have o22 := o22.ext l51
      have o30 := o30.ext l51
      have o31 := o31.ext l51
      have o37 := o37.ext l51
      refine p0 rfl (x_move (v := .int _ _) rfl) ?_
      refine p0 rfl (x_move (v := .int _ _) rfl) ?_
      refine pb rfl (x_eql rfl rfl) (fun h43 => ?_) (fun h43 => ?_)
      · refine p0 rfl (x_move (v := .bool _) rfl) ?_
        refine p0g rfl rfl rfl rfl rfl (x_move (v := .int _ _) rfl) ?_
        refine p0g rfl rfl rfl rfl rfl (x_move (v := .int _ _) rfl) ?_
        refine pbg rfl rfl rfl rfl rfl (x_eql rfl rfl) (fun h47 => ?_) (fun h47 => ?_)
        · refine p0 rfl (x_pickt (v := .bool _) rfl rfl) ?_
          refine p0 rfl (x_move (v := .bool _) rfl) ?_
          refine psg rfl rfl rfl rfl rfl (fun wq hwq => x_loadAgB ag35GQ rfl (qB12.ext hwq) rfl) ?_
          refine psg rfl rfl rfl rfl rfl (fun wq hwq => x_loadAgB ag35GQ rfl (qB40.ext hwq) rfl) ?_
          refine pbg rfl rfl rfl rfl rfl (x_eqla fe35GQ rfl rfl) (fun h52 => ?_) (fun h52 => ?_)
          · refine p0 rfl (x_pickt (v := .bool _) rfl rfl) ?_
            refine p0 rfl (x_move (v := .bool _) rfl) ?_
            refine psg rfl rfl rfl rfl rfl (fun wq hwq => x_loadAgB ag25GQ rfl (qB28.ext hwq) rfl) ?_
            refine p0g rfl rfl rfl rfl rfl (x_fieldAddr fa35_1GQ rfl) ?_
            refine psg rfl rfl rfl rfl rfl (fun wq hwq => x_loadB sc3GQ rfl (qB12.ext hwq) rfl) ?_
            refine pu rfl ?_ (by rintro ⟨_, _, h, _⟩; cases h)
            refine gt rfl rfl rfl rfl ?_
            refine sr (zcall cl21GQ rfl) (i_place _ _ _ (by omega)) ?_
            intro w52 l53
            have z_l53 := l53.size
            have L := L.tr l53.up
            have Lq := Lq.tr l53.up
            have B5 := B5.ext l53
            have B12 := B12.ext l53
            have B15 := B15.ext l53
            have B28 := B28.ext l53
            have B31 := B31.ext l53
            have B40 := B40.ext l53
            have B43 := B43.ext l53
            have o22 := o22.ext l53
            have o30 := o30.ext l53
            have o31 := o31.ext l53
            have o37 := o37.ext l53
            refine c_end ⟨rfl, fun h hS => Lq, ?_⟩
            refine pbg rfl rfl rfl rfl rfl (x_eql rfl rfl) (fun h59 => ?_) (fun h59 => ?_)
            · refine p0 rfl (x_pickt (v := .bool _) rfl rfl) ?_
              refine p0 rfl (x_move (v := .bool _) rfl) ?_
              refine psg rfl rfl rfl rfl rfl (fun wq hwq => x_loadAgB ag42GQ rfl (qB15.ext hwq) rfl) ?_
              refine psg rfl rfl rfl rfl rfl (fun wq hwq => x_loadAgB ag42GQ rfl (qB31.ext hwq) rfl) ?_
              refine pu rfl ?_ (by rintro ⟨_, _, h, _⟩; cases h)
              refine gt rfl rfl rfl rfl ?_
              refine srb (zcall cl27GQ rfl) (l_sameHead _ _ _ _ _ _ _ _ _ _ _ _ _ _ _ _ _ o22.sl o31.sl (by omega)) (fun h64 w54 l55 => ?_) (fun h64 w54 l55 => ?_)
              · have z_l55 := l55.size
                have L := L.tr l55.up
                have Lq := Lq.tr l55.up
                have B5 := B5.ext l55
                have B12 := B12.ext l55
                have B15 := B15.ext l55
                have B28 := B28.ext l55
                have B31 := B31.ext l55
                have B40 := B40.ext l55
                have B43 := B43.ext l55
                have o22 := o22.ext l55
                have o30 := o30.ext l55
                have o31 := o31.ext l55
                have o37 := o37.ext l55
                refine c_end ⟨rfl, fun h hS => Lq, ?_⟩
                refine p0 rfl (x_pickt (v := .bool _) rfl rfl) ?_
                refine p0 rfl (x_move (v := .bool _) rfl) ?_
                refine psg rfl rfl rfl rfl rfl (fun wq hwq => x_loadAgB ag42GQ rfl (qB15.ext hwq) rfl) ?_
                refine psg rfl rfl rfl rfl rfl (fun wq hwq => x_loadAgB ag42GQ rfl (qB43.ext hwq) rfl) ?_
                refine pu rfl ?_ (by rintro ⟨_, _, h, _⟩; cases h)
                refine gt rfl rfl rfl rfl ?_
                refine srb (zcall cl27GQ rfl) (l_sameHead _ _ _ _ _ _ _ _ _ _ _ _ _ _ _ _ _ o22.sl o37.sl (by omega)) (fun h69 w56 l57 => ?_) (fun h69 w56 l57 => ?_)
                · have z_l57 := l57.size
                  have L := L.tr l57.up
                  have Lq := Lq.tr l57.up
                  have B5 := B5.ext l57
                  have B12 := B12.ext l57
                  have B15 := B15.ext l57
                  have B28 := B28.ext l57
                  have B31 := B31.ext l57
                  have B40 := B40.ext l57
                  have B43 := B43.ext l57
                  have o22 := o22.ext l57
                  have o30 := o30.ext l57
                  have o31 := o31.ext l57
                  have o37 := o37.ext l57
                  refine c_end ⟨rfl, fun h hS => Lq, ?_⟩
                  refine p0 rfl (x_pickt (v := .bool _) rfl rfl) ?_
                  refine p0 rfl (x_move (v := .bool _) rfl) ?_
                  refine p0g rfl rfl rfl rfl rfl (x_move (v := .int _ _) rfl) ?_
                  refine pbg rfl rfl rfl rfl rfl (x_neq rfl rfl) (fun h73 => ?_) (fun h73 => ?_)
                  · refine p0g rfl rfl rfl rfl rfl (x_move (v := .bool _) rfl) ?_
                    refine pf1 rfl rfl rfl rfl rfl ?_
                    refine pu rfl ?_ (by rintro ⟨_, _, h, _⟩; cases h)
                    refine gf rfl rfl rfl rfl ?_
                    refine c_end ⟨rfl, fun h hS => Lq, ?_⟩
                    refine p0g rfl rfl rfl rfl rfl (x_pickt (v := .bool _) rfl rfl) ?_
                    refine p0 rfl (x_pickt (v := .bool _) rfl rfl) ?_
                    refine p0 rfl (x_assign (v := .bool _) rfl) ?_
                    refine p_nil (np_normal ?_)
                    refine n_then ?_
                    refine wp_ret ?_
                    refine f_ret rfl rfl ?_
                    exact ⟨rfl, L⟩
                  · refine p0g rfl rfl rfl rfl rfl (x_move (v := .bool _) rfl) ?_
                    refine psg rfl rfl rfl rfl rfl (fun wq hwq => x_loadAgB ag42GQ rfl (qB15.ext hwq) rfl) ?_
                    refine pu rfl ?_ (by rintro ⟨_, _, h, _⟩; cases h)
                    refine gt rfl rfl rfl rfl ?_
                    refine sr (zcall cl28GQ rfl) (i_headerOk _ _ _ _ _ _ _ _ _ o22.sl (by omega)) ?_
                    intro w58 l59
                    have z_l59 := l59.size
                    have L := L.tr l59.up
                    have Lq := Lq.tr l59.up
                    have B5 := B5.ext l59
                    have B12 := B12.ext l59
                    have B15 := B15.ext l59
                    have B28 := B28.ext l59
                    have B31 := B31.ext l59
                    have B40 := B40.ext l59
                    have B43 := B43.ext l59
                    have o22 := o22.ext l59
                    have o30 := o30.ext l59
                    have o31 := o31.ext l59
                    have o37 := o37.ext l59
                    refine c_end ⟨rfl, fun h hS => Lq, ?_⟩
                    refine p0g rfl rfl rfl rfl rfl (x_pickf (v := .bool _) rfl rfl) ?_
                    refine p0 rfl (x_pickt (v := .bool _) rfl rfl) ?_
                    refine p0 rfl (x_assign (v := .bool _) rfl) ?_
                    refine p_nil (np_normal ?_)
                    refine n_then ?_
                    refine wp_ret ?_
                    refine f_ret rfl rfl ?_
                    exact ⟨ret_bt (rh_head (Classical.not_not.1 h73)), L⟩
                · exact (h69 ⟨rfl, rfl, rfl, rfl, rfl, rfl⟩).elim
              · exact (h64 ⟨e3.symm, e4.symm, e5.symm, e6.symm, e7.symm, e8.symm⟩).elim
            · exact absurd hpl h59
          · exact (h52 (by simp)).elim
        · exact absurd rfl h47
      · exact absurd e2.symm h43

end Go.Proofs.Ytnehdmcilmlchaa
