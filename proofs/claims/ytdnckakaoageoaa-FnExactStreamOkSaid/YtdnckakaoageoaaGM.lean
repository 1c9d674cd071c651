/- What each function of this part returns, for every argument that meets its premises. -/
import Derived.Test.YtdnckakaoageoaaFM
namespace Go.Proofs.Ytdnckakaoageoaa
open Go.Sx Go.Pl Go.RowKit
theorem ag110 : Ag Try.prog 110 7 := ⟨⟨_, Try.underlying110⟩, by kernel_rfl⟩
theorem cl77 : Callable Try.prog 77 := callable Try.func77 (by kernel_rfl) rfl
theorem cl78 : Callable Try.prog 78 := callable Try.func78 (by kernel_rfl) rfl
theorem cl79 : Callable Try.prog 79 := callable Try.func79 (by kernel_rfl) rfl
theorem cl80 : Callable Try.prog 80 := callable Try.func80 (by kernel_rfl) rfl
theorem cl81 : Callable Try.prog 81 := callable Try.func81 (by kernel_rfl) rfl
/-- laws.FnExactStreamOk -/
theorem l_fnStreamOk (a b q : Int) (y z : Bool) (r : Option Addr) (xs : List Int) (e : Nat) (p : Option Addr) (ms : List Mk) (c : Nat) (w : World) (hx : Sl w r xs.length e 1 (ic xs)) (hp : RdMs w p ms c) (hl0 : xs.length ≤ 9223372036854775807) (hl : ms.length ≤ 9223372036854775807) (hb : ∀ m ∈ ms, smallM 9223372036854775807 m) :
    Calls Try.prog 11 [.agg [.int .i64 a, .int .i64 b, .int .i64 q, .bool y, .bool z, .slice r xs.length e, .slice p ms.length c].toArray].toArray w (Ret w (.bool true)) := by
  have L : Exm [] w w := Exm.rfl'
  refine enter (n := 27) Try.func11 rfl rfl rfl ?_
  refine wp_seq ?_
  refine c_reg ?_
  refine s_box rfl rfl ?_
  intro b1 w2 lob1 hib1 l3 B1
  have z_l3 := l3.size
  have L := L.tr l3.up
  refine s0 (x_assign (v := .bool _) rfl) ?_
  refine c_end ?_
  refine n_then ?_
  refine wp_seq ?_
  refine c_reg ?_
  refine s0 (x_assign (v := .int _ _) rfl) ?_
  refine c_end ?_
  refine n_then ?_
  refine wp_seq ?_
  refine c_reg ?_
  refine st (x_loadAgB ag110 rfl B1 rfl) ?_
  refine s0 (x_move (v := .int _ _) rfl) ?_
  refine sp (zcall cl77 rfl) (l_szStream _ _ _ _ _ _ _ _ _ _ _ _ _ (hp.ext L) (by omega) (by omega) hb (by omega)) ?_
  rintro v9 w4 l5 ⟨r9, rfl, hr9⟩
  have z_l5 := l5.size
  have L := L.tr l5.up
  have B1 := B1.ext l5
  refine s0 (x_assign (v := .int _ _) rfl) ?_
  refine c_end ?_
  refine n_then ?_
  refine wp_seq ?_
  refine wp_seq ?_
  refine c_reg ?_
  refine s0 (x_move (v := .int _ _) rfl) ?_
  refine sb (x_lss rfl rfl) (fun h11 => ?_) (fun h11 => ?_)
  · refine c_end ?_
    refine n_then ?_
    refine c_true rfl ?_
    refine wp_seq ?_
    refine c_reg ?_
    refine s0 (x_assign (v := .bool _) rfl) ?_
    refine c_end ?_
    refine n_then ?_
    refine wp_ret (r_then ?_)
    refine f_ret rfl rfl ?_
    exact ⟨rfl, L⟩
  · refine c_end ?_
    refine n_then ?_
    refine c_false rfl ?_
    refine c_skipn ?_
    refine n_then ?_
    refine wp_seq ?_
    have hA := hr9.resolve_left (by omega)
    have hbA : ∀ m ∈ ms, smallM 1099511627776 m := fun m hm => ⟨by have := (hA.2.2.2.2 m hm).1; omega, fun b hb3 => by have := (hA.2.2.2.2 m hm).2 b hb3; omega⟩
    refine c_reg ?_
    refine st (x_loadAgB ag110 rfl B1 rfl) ?_
    refine sp (zcall cl79 rfl) (l_toStream _ _ _ _ _ _ _ _ _ _ _ _ (hx.ext L) (hp.ext L) (by omega) (by omega) hbA) ?_
    rintro v13 w6 l7 ⟨p13, c13, F13, p13m, ms13, c13m, F13m, rfl, o13, f13, o13m, f13m, hm13⟩
    have z_l7 := l7.size
    have L := L.tr l7.up
    have B1 := B1.ext l7
    have hn13 := map_len hm13
    have hb13 := mpl_bound hm13 hbA
    have g13 := o13.lt
    have g13m := o13m.lt
    refine sr (zcall cl78 rfl) (s_streamOk _ _ _ _ _ _ _ _ _ _ _ _ o13.sl o13m.rdm (by omega) (by omega) hb13) ?_
    intro w8 l9
    have z_l9 := l9.size
    have L := L.tr l9.up
    have B1 := B1.ext l9
    have o13 := o13.ext l9
    have o13m := o13m.ext l9
    refine s0 (x_assign (v := .bool _) rfl) ?_
    refine c_end ?_
    refine n_then ?_
    refine wp_seq ?_
    refine c_reg ?_
    refine st (x_loadAgB ag110 rfl B1 rfl) ?_
    refine sp (zcall cl79 rfl) (l_toStream _ _ _ _ _ _ _ _ _ _ _ _ (hx.ext L) (hp.ext L) (by omega) (by omega) hbA) ?_
    rintro v16 w10 l11 ⟨p16, c16, F16, p16m, ms16, c16m, F16m, rfl, o16, f16, o16m, f16m, hm16⟩
    have z_l11 := l11.size
    have L := L.tr l11.up
    have B1 := B1.ext l11
    have o13 := o13.ext l11
    have o13m := o13m.ext l11
    have hn16 := map_len hm16
    have hb16 := mpl_bound hm16 hbA
    have g16 := o16.lt
    have g16m := o16m.lt
    refine s_alloc zr115 ?_
    intro b12 w13 lob12 hib12 l14 B12
    have z_l14 := l14.size
    have L := L.tr l14.up
    have B1 := B1.ext l14
    have o13 := o13.ext l14
    have o13m := o13m.ext l14
    have o16 := o16.ext l14
    have o16m := o16m.ext l14
    refine s_storeAg rfl sz115 rfl rfl B12 rfl rfl rfl ?_
    intro w15 l16 el16 B12
    have z_l16 := l16.size
    have L := L.fresh l16 (by omega)
    have B1 := B1.ne l16 (by omega)
    have o13 := o13.ne l16 (by first | assumption | exact nin_of f13 g13 (by omega))
    have o13m := o13m.ne l16 (by first | assumption | exact nin_of f13m g13m (by omega))
    have o16 := o16.ne l16 (by first | assumption | exact nin_of f16 g16 (by omega))
    have o16m := o16m.ne l16 (by first | assumption | exact nin_of f16m g16m (by omega))
    refine c_end ?_
    refine n_then ?_
    refine wp_seq ?_
    refine c_reg ?_
    refine st (x_loadAgB ag115 rfl B12 rfl) ?_
    refine sr (zcall cl80 rfl) (i_streamOk _ _ _ _ _ _ _ _ _ _ _ _ o16.sl o16m.rdm (by omega) (by omega) hb16) ?_
    intro w17 l18
    have z_l18 := l18.size
    have L := L.tr l18.up
    have B1 := B1.ext l18
    have B12 := B12.ext l18
    have o13 := o13.ext l18
    have o13m := o13m.ext l18
    have o16 := o16.ext l18
    have o16m := o16m.ext l18
    refine s0 (x_assign (v := .bool _) rfl) ?_
    refine c_end ?_
    refine n_then ?_
    refine wp_seq ?_
    refine wp_seq ?_
    refine c_reg ?_
    refine s0 (x_move (v := .bool _) rfl) ?_
    refine s0 (x_move (v := .bool _) rfl) ?_
    refine sb (x_neqb un4 rfl rfl) (fun h21 => ?_) (fun h21 => ?_)
    · exact (h21 (by simp only [hm16, hm13])).elim
    · refine c_end ?_
      refine n_then ?_
      refine c_false rfl ?_
      refine c_skipn ?_
      refine n_then ?_
      refine wp_seq ?_
      refine wp_seq ?_
      refine c_plan (fun wq => Exm [] w17 wq) 5 (.cons (0, 1) (.cons (1, 1) (.cons (2, 0) (.cons (3, 0) (.cons (4, 2) .nil))))) (by kernel_rfl) (by kernel_rfl) (Exm.drew _) ?_
      obtain ⟨w19, hwd⟩ : ∃ x, x = w17.drew := ⟨_, rfl⟩
      have l20 : Ext w17 w19 := by rw [hwd]; exact Exm.drew _
      rw [← hwd]; clear hwd
      have Lq : Exm [] w17 w19 := l20.up
      have qB1 := B1
      have qB12 := B12
      have qo13 := o13
      have qo13m := o13m
      have qo16 := o16
      have qo16m := o16m
      have qL := L
      have z_l20 := l20.size
      have L := L.tr l20.up
      have B1 := B1.ext l20
      have B12 := B12.ext l20
      have o13 := o13.ext l20
      have o13m := o13m.ext l20
      have o16 := o16.ext l20
      have o16m := o16m.ext l20
      refine ps rfl (fun wq hwq => x_loadAgB ag115 rfl (qB12.ext hwq) rfl) ?_
      refine ps rfl (fun wq hwq => x_loadAgB ag110 rfl (qB1.ext hwq) rfl) ?_
      refine pu rfl ?_ (by rintro ⟨_, _, h, _⟩; cases h)
      refine sp (zcall cl79 rfl) (l_toStream _ _ _ _ _ _ _ _ _ _ _ _ (hx.ext L) (hp.ext L) (by omega) (by omega) hbA) ?_
      rintro v24 w21 l22 ⟨p24, c24, F24, p24m, ms24, c24m, F24m, rfl, o24, f24, o24m, f24m, hm24⟩
      have z_l22 := l22.size
      have L := L.tr l22.up
      have Lq := Lq.tr l22.up
      have B1 := B1.ext l22
      have B12 := B12.ext l22
      have o13 := o13.ext l22
      have o13m := o13m.ext l22
      have o16 := o16.ext l22
      have o16m := o16m.ext l22
      have hn24 := map_len hm24
      have hb24 := mpl_bound hm24 hbA
      have g24 := o24.lt
      have g24m := o24m.lt
      refine c_end ⟨rfl, fun h hS => Lq, ?_⟩
      refine pu rfl ?_ (by rintro ⟨_, _, h, _⟩; cases h)
      refine srb (zcall cl81 rfl) (l_eqStream _ _ _ _ _ _ _ _ _ _ _ _ _ _ _ _ _ _ _ _ _ _ _ o16.sl o16m.rdm o24.sl o24m.rdm (by omega) (by omega) hb16) (fun h25 w23 l24 => ?_) (fun h25 w23 l24 => ?_)
      · have z_l24 := l24.size
        have L := L.tr l24.up
        have Lq := Lq.tr l24.up
        have B1 := B1.ext l24
        have B12 := B12.ext l24
        have o13 := o13.ext l24
        have o13m := o13m.ext l24
        have o16 := o16.ext l24
        have o16m := o16m.ext l24
        have o24 := o24.ext l24
        have o24m := o24m.ext l24
        refine c_end ⟨rfl, fun h hS => Lq, ?_⟩
        refine p0 rfl (x_not rfl) ?_
        refine p_nil (np_normal ?_)
        refine n_then ?_
        refine c_false rfl ?_
        refine c_skipn ?_
        refine n_then ?_
        refine wp_seq ?_
        refine c_reg ?_
        refine s0 (x_assign (v := .bool _) rfl) ?_
        refine c_end ?_
        refine n_then ?_
        refine wp_ret ?_
        refine f_ret rfl rfl ?_
        exact ⟨rfl, L⟩
      · exact (h25 ⟨rfl, rfl, rfl, rfl, rfl, rfl, hm16.trans hm24.symm⟩).elim

end Go.Proofs.Ytdnckakaoageoaa
