/- What each function of this part returns, for every argument that meets its premises. -/
import Derived.Test.YtglepnbcplldeaaF4
namespace Go.Proofs.Ytglepnbcplldeaa
open Go.Sx Go.Pl Go.RowKit
theorem ag55 : Ag Try.prog 55 6 := ⟨⟨_, Try.underlying55⟩, by kernel_rfl⟩
theorem cl40 : Callable Try.prog 40 := callable Try.func40 (by kernel_rfl) rfl
theorem cl41 : Callable Try.prog 41 := callable Try.func41 (by kernel_rfl) rfl
theorem cl42 : Callable Try.prog 42 := callable Try.func42 (by kernel_rfl) rfl
theorem cl43 : Callable Try.prog 43 := callable Try.func43 (by kernel_rfl) rfl
theorem cl44 : Callable Try.prog 44 := callable Try.func44 (by kernel_rfl) rfl
/-- laws.FnExactHeaderOk -/
theorem l_fnHeaderOk (a b q : Int) (y z : Bool) (p : Option Addr) (xs : List Int) (c : Nat) (w : World) (hp : Sl w p xs.length c 1 (ic xs)) (hl : xs.length ≤ 9223372036854775807) :
    Calls Try.prog 10 [.agg [.int .i64 a, .int .i64 b, .int .i64 q, .bool y, .bool z, .slice p xs.length c].toArray].toArray w (Ret w (.bool true)) := by
  have L : Exm [] w w := Exm.rfl'
  refine enter (n := 27) Try.func10 rfl rfl rfl ?_
  refine wp_seq ?_
  refine c_reg ?_
  refine s_box rfl rfl ?_
  intro b1 w2 lob1 hib1 l3 B1
  have z_l3 := l3.size
  have L := L.tr l3.up
  refine s0 (x_assign (v := .bool _) rfl) ?_
  refine c_end ?_
  refine n_then ?_
  refine wp_seq ?_
  refine c_reg ?_
  refine s0 (x_assign (v := .int _ _) rfl) ?_
  refine c_end ?_
  refine n_then ?_
  refine wp_seq ?_
  refine c_reg ?_
  refine st (x_loadAgB ag55 rfl B1 rfl) ?_
  refine s0 (x_move (v := .int _ _) rfl) ?_
  refine sr (zcall cl40 rfl) (l_szHeader _ _ _ _ _ _ _ _ _ _ (by omega) (by omega)) ?_
  intro w4 l5
  have z_l5 := l5.size
  have L := L.tr l5.up
  have B1 := B1.ext l5
  refine s0 (x_assign (v := .int _ _) rfl) ?_
  refine c_end ?_
  refine n_then ?_
  refine wp_seq ?_
  refine wp_seq ?_
  refine c_reg ?_
  refine s0 (x_move (v := .int _ _) rfl) ?_
  refine sb (x_lss rfl rfl) (fun h11 => ?_) (fun h11 => ?_)
  · refine c_end ?_
    refine n_then ?_
    refine c_true rfl ?_
    refine wp_seq ?_
    refine c_reg ?_
    refine s0 (x_assign (v := .bool _) rfl) ?_
    refine c_end ?_
    refine n_then ?_
    refine wp_ret (r_then ?_)
    refine f_ret rfl rfl ?_
    exact ⟨rfl, L⟩
  · refine c_end ?_
    refine n_then ?_
    refine c_false rfl ?_
    refine c_skipn ?_
    refine n_then ?_
    refine wp_seq ?_
    have hs1 : xs.length ≤ 1048576 := by unfold szOf at h11; split at h11 <;> omega
    refine c_reg ?_
    refine st (x_loadAgB ag55 rfl B1 rfl) ?_
    refine sp (zcall cl42 rfl) (l_toHeader _ _ _ _ _ _ _ _ _ (hp.ext L) (by omega)) ?_
    rintro v13 w6 l7 ⟨p13, c13, rfl, o13, f13⟩
    have z_l7 := l7.size
    have L := L.tr l7.up
    have B1 := B1.ext l7
    have g13 := o13.lt
    refine sr (zcall cl41 rfl) (s_headerOk _ _ _ _ _ _ _ _ _ o13.sl (by omega)) ?_
    intro w8 l9
    have z_l9 := l9.size
    have L := L.tr l9.up
    have B1 := B1.ext l9
    have o13 := o13.ext l9
    refine s0 (x_assign (v := .bool _) rfl) ?_
    refine c_end ?_
    refine n_then ?_
    refine wp_seq ?_
    refine c_reg ?_
    refine st (x_loadAgB ag55 rfl B1 rfl) ?_
    refine sp (zcall cl42 rfl) (l_toHeader _ _ _ _ _ _ _ _ _ (hp.ext L) (by omega)) ?_
    rintro v16 w10 l11 ⟨p16, c16, rfl, o16, f16⟩
    have z_l11 := l11.size
    have L := L.tr l11.up
    have B1 := B1.ext l11
    have o13 := o13.ext l11
    have g16 := o16.lt
    refine s_alloc zr58 ?_
    intro b12 w13 lob12 hib12 l14 B12
    have z_l14 := l14.size
    have L := L.tr l14.up
    have B1 := B1.ext l14
    have o13 := o13.ext l14
    have o16 := o16.ext l14
    refine s_storeAg rfl sz58 rfl rfl B12 rfl rfl rfl ?_
    intro w15 l16 el16 B12
    have z_l16 := l16.size
    have L := L.fresh l16 (by omega)
    have B1 := B1.ne l16 (by omega)
    have o13 := o13.ne l16 (by first | assumption | exact ap_of f13 g13 (by omega))
    have o16 := o16.ne l16 (by first | assumption | exact ap_of f16 g16 (by omega))
    refine c_end ?_
    refine n_then ?_
    refine wp_seq ?_
    refine c_reg ?_
    refine st (x_loadAgB ag58 rfl B12 rfl) ?_
    refine sr (zcall cl43 rfl) (i_headerOk _ _ _ _ _ _ _ _ _ o16.sl (by omega)) ?_
    intro w17 l18
    have z_l18 := l18.size
    have L := L.tr l18.up
    have B1 := B1.ext l18
    have B12 := B12.ext l18
    have o13 := o13.ext l18
    have o16 := o16.ext l18
    refine s0 (x_assign (v := .bool _) rfl) ?_
    refine c_end ?_
    refine n_then ?_
    refine wp_seq ?_
    refine wp_seq ?_
    refine c_reg ?_
    refine s0 (x_move (v := .bool _) rfl) ?_
    refine s0 (x_move (v := .bool _) rfl) ?_
    refine sb (x_neqb un4 rfl rfl) (fun h21 => ?_) (fun h21 => ?_)
    · exact absurd rfl h21
    · refine c_end ?_
      refine n_then ?_
      refine c_false rfl ?_
      refine c_skipn ?_
      refine n_then ?_
      refine wp_seq ?_
      refine wp_seq ?_
      refine c_plan (fun wq => Exm [] w17 wq) 5 [(0, true), (1, true), (2, false), (3, false), (4, true)] (by kernel_rfl) (by kernel_rfl) (Exm.drew _) ?_
      obtain ⟨w19, hwd⟩ : ∃ x, x = w17.drew := ⟨_, rfl⟩
      have l20 : Ext w17 w19 := by rw [hwd]; exact Exm.drew _
      rw [← hwd]; clear hwd
      have Lq : Exm [] w17 w19 := l20.up
      have qB1 := B1
      have qB12 := B12
      have qo13 := o13
      have qo16 := o16
      have qL := L
      have z_l20 := l20.size
      have L := L.tr l20.up
      have B1 := B1.ext l20
      have B12 := B12.ext l20
      have o13 := o13.ext l20
      have o16 := o16.ext l20
      refine ps rfl (fun wq hwq => x_loadAgB ag58 rfl (qB12.ext hwq) rfl) ?_
      refine ps rfl (fun wq hwq => x_loadAgB ag55 rfl (qB1.ext hwq) rfl) ?_
      refine pu rfl ?_ (by rintro ⟨_, _, h, _⟩; cases h)
      refine sp (zcall cl42 rfl) (l_toHeader _ _ _ _ _ _ _ _ _ (hp.ext L) (by omega)) ?_
      rintro v24 w21 l22 ⟨p24, c24, rfl, o24, f24⟩
      have z_l22 := l22.size
      have L := L.tr l22.up
      have Lq := Lq.tr l22.up
      have B1 := B1.ext l22
      have B12 := B12.ext l22
      have o13 := o13.ext l22
      have o16 := o16.ext l22
      have g24 := o24.lt
      refine c_end ⟨rfl, fun h => Lq, ?_⟩
      refine pu rfl ?_ (by rintro ⟨_, _, h, _⟩; cases h)
      refine srb (zcall cl44 rfl) (l_eqHeader _ _ _ _ _ _ _ _ _ _ _ _ _ _ _ _ _ o16.sl o24.sl (by omega)) (fun h25 w23 l24 => ?_) (fun h25 w23 l24 => ?_)
      · have z_l24 := l24.size
        have L := L.tr l24.up
        have Lq := Lq.tr l24.up
        have B1 := B1.ext l24
        have B12 := B12.ext l24
        have o13 := o13.ext l24
        have o16 := o16.ext l24
        have o24 := o24.ext l24
        refine c_end ⟨rfl, fun h => Lq, ?_⟩
        refine p0 rfl (x_not rfl) ?_
        refine p_nil (np_normal ?_)
        refine n_then ?_
        refine c_false rfl ?_
        refine c_skipn ?_
        refine n_then ?_
        refine wp_seq ?_
        refine c_reg ?_
        refine s0 (x_assign (v := .bool _) rfl) ?_
        refine c_end ?_
        refine n_then ?_
        refine wp_ret ?_
        refine f_ret rfl rfl ?_
        exact ⟨rfl, L⟩
      · exact (h25 (by simp)).elim

end Go.Proofs.Ytglepnbcplldeaa
