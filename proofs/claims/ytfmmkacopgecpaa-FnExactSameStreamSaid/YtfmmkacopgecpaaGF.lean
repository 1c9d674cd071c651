/- What each function of this part returns, for every argument that meets its premises. -/
import Derived.Test.YtfmmkacopgecpaaFF
namespace Go.Proofs.Ytfmmkacopgecpaa
open Go.Sx Go.Pl Go.RowKit
theorem ag101 : Ag Try.prog 101 7 := ⟨⟨_, Try.underlying101⟩, by kernel_rfl⟩
theorem cl81 : Callable Try.prog 81 := callable Try.func81 (by kernel_rfl) rfl
theorem cl82 : Callable Try.prog 82 := callable Try.func82 (by kernel_rfl) rfl
theorem cl83 : Callable Try.prog 83 := callable Try.func83 (by kernel_rfl) rfl
theorem cl84 : Callable Try.prog 84 := callable Try.func84 (by kernel_rfl) rfl
theorem cl85 : Callable Try.prog 85 := callable Try.func85 (by kernel_rfl) rfl
/-- laws.FnExactSameStream -/
theorem l_fnSameStream (a b q : Int) (y z : Bool) (r : Option Addr) (xs : List Int) (e : Nat) (p : Option Addr) (ms : List Mk) (c : Nat) (a' b' q' : Int) (y' z' : Bool) (r' : Option Addr) (xs' : List Int) (e' : Nat) (p' : Option Addr) (us : List Mk) (c' : Nat) (w : World) (hx : Sl w r xs.length e 1 (ic xs)) (hp : RdMs w p ms c) (hx' : Sl w r' xs'.length e' 1 (ic xs')) (hp' : RdMs w p' us c') (hl0 : xs.length ≤ 9223372036854775807) (hl : ms.length ≤ 9223372036854775807) (hb : ∀ m ∈ ms, smallM 9223372036854775807 m) (hl1 : xs'.length ≤ 9223372036854775807) (hl2 : us.length ≤ 9223372036854775807) (hb2 : ∀ m ∈ us, smallM 9223372036854775807 m) :
    Calls Try.prog 15 [.agg [.int .i64 a, .int .i64 b, .int .i64 q, .bool y, .bool z, .slice r xs.length e, .slice p ms.length c].toArray, .agg [.int .i64 a', .int .i64 b', .int .i64 q', .bool y', .bool z', .slice r' xs'.length e', .slice p' us.length c'].toArray].toArray w (Ret w (.bool true)) := by
  have L : Exm [] w w := Exm.rfl'
  refine enter (n := 45) Try.func15 rfl rfl rfl ?_
  refine wp_seq ?_
  refine c_reg ?_
  refine s_box rfl rfl ?_
  intro b1 w2 lob1 hib1 l3 B1
  have z_l3 := l3.size
  have L := L.tr l3.up
  refine s_box rfl rfl ?_
  intro b4 w5 lob4 hib4 l6 B4
  have z_l6 := l6.size
  have L := L.tr l6.up
  have B1 := B1.ext l6
  refine s0 (x_assign (v := .bool _) rfl) ?_
  refine c_end ?_
  refine n_then ?_
  refine wp_seq ?_
  refine c_reg ?_
  refine s0 (x_assign (v := .int _ _) rfl) ?_
  refine c_end ?_
  refine n_then ?_
  refine wp_seq ?_
  refine c_reg ?_
  refine st (x_loadAgB ag101 rfl B1 rfl) ?_
  refine s0 (x_move (v := .int _ _) rfl) ?_
  refine sp (zcall cl81 rfl) (l_szStream _ _ _ _ _ _ _ _ _ _ _ _ _ (hp.ext L) (by omega) (by omega) hb (by omega)) ?_
  rintro v12 w7 l8 ⟨r12, rfl, hr12⟩
  have z_l8 := l8.size
  have L := L.tr l8.up
  have B1 := B1.ext l8
  have B4 := B4.ext l8
  refine s0 (x_assign (v := .int _ _) rfl) ?_
  refine c_end ?_
  refine n_then ?_
  refine wp_seq ?_
  refine wp_seq ?_
  refine c_reg ?_
  refine s0 (x_move (v := .int _ _) rfl) ?_
  refine sb (x_lss rfl rfl) (fun h14 => ?_) (fun h14 => ?_)
  · refine c_end ?_
    refine n_then ?_
    refine c_true rfl ?_
    refine wp_seq ?_
    refine c_reg ?_
    refine s0 (x_assign (v := .bool _) rfl) ?_
    refine c_end ?_
    refine n_then ?_
    refine wp_ret (r_then ?_)
    refine f_ret rfl rfl ?_
    exact ⟨rfl, L⟩
  · refine c_end ?_
    refine n_then ?_
    refine c_false rfl ?_
    refine c_skipn ?_
    refine n_then ?_
    refine wp_seq ?_
    have hA := hr12.resolve_left (by omega)
    refine c_reg ?_
    refine st (x_loadAgB ag101 rfl B4 rfl) ?_
    refine s0 (x_move (v := .int _ _) rfl) ?_
    refine sp (zcall cl81 rfl) (l_szStream _ _ _ _ _ _ _ _ _ _ _ _ _ (hp'.ext L) (by omega) (by omega) hb2 (by omega)) ?_
    rintro v17 w9 l10 ⟨r17, rfl, hr17⟩
    have z_l10 := l10.size
    have L := L.tr l10.up
    have B1 := B1.ext l10
    have B4 := B4.ext l10
    refine s0 (x_assign (v := .int _ _) rfl) ?_
    refine c_end ?_
    refine n_then ?_
    refine wp_seq ?_
    refine wp_seq ?_
    refine c_reg ?_
    refine s0 (x_move (v := .int _ _) rfl) ?_
    refine sb (x_lss rfl rfl) (fun h19 => ?_) (fun h19 => ?_)
    · refine c_end ?_
      refine n_then ?_
      refine c_true rfl ?_
      refine wp_seq ?_
      refine c_reg ?_
      refine s0 (x_assign (v := .bool _) rfl) ?_
      refine c_end ?_
      refine n_then ?_
      refine wp_ret (r_then ?_)
      refine f_ret rfl rfl ?_
      exact ⟨rfl, L⟩
    · refine c_end ?_
      refine n_then ?_
      refine c_false rfl ?_
      refine c_skipn ?_
      refine n_then ?_
      refine wp_seq ?_
      have hB := hr17.resolve_left (by omega)
      have hbA : ∀ m ∈ ms, smallM 1099511627776 m := fun m hm => ⟨by have := (hA.2.2.2.2 m hm).1; omega, fun b hb3 => by have := (hA.2.2.2.2 m hm).2 b hb3; omega⟩
      have hbB : ∀ m ∈ us, smallM 1099511627776 m := fun m hm => ⟨by have := (hB.2.2.2.2 m hm).1; omega, fun b hb3 => by have := (hB.2.2.2.2 m hm).2 b hb3; omega⟩
      refine c_plan (fun wq => Exm [] w9 wq) 6 (.cons (0, 1) (.cons (2, 1) (.cons (1, 0) (.cons (3, 0) (.cons (4, 0) (.cons (5, 2) .nil)))))) (by kernel_rfl) (by kernel_rfl) (Exm.drew _) ?_
      obtain ⟨w11, hwd⟩ : ∃ x, x = w9.drew := ⟨_, rfl⟩
      have l12 : Ext w9 w11 := by rw [hwd]; exact Exm.drew _
      rw [← hwd]; clear hwd
      have Lq : Exm [] w9 w11 := l12.up
      have qB1 := B1
      have qB4 := B4
      have qL := L
      have z_l12 := l12.size
      have L := L.tr l12.up
      have B1 := B1.ext l12
      have B4 := B4.ext l12
      refine ps rfl (fun wq hwq => x_loadAgB ag101 rfl (qB1.ext hwq) rfl) ?_
      refine ps rfl (fun wq hwq => x_loadAgB ag101 rfl (qB4.ext hwq) rfl) ?_
      refine pu rfl ?_ (by rintro ⟨_, _, h, _⟩; cases h)
      refine sp (zcall cl83 rfl) (l_toStream _ _ _ _ _ _ _ _ _ _ _ _ (hx.ext L) (hp.ext L) (by omega) (by omega) hbA) ?_
      rintro v21 w13 l14 ⟨p21, c21, F21, p21m, ms21, c21m, F21m, rfl, o21, f21, o21m, f21m, hm21⟩
      have z_l14 := l14.size
      have L := L.tr l14.up
      have Lq := Lq.tr l14.up
      have B1 := B1.ext l14
      have B4 := B4.ext l14
      have hn21 := map_len hm21
      have hb21 := mpl_bound hm21 hbA
      have g21 := o21.lt
      have g21m := o21m.lt
      refine c_end ⟨rfl, fun h hS => Lq, ?_⟩
      refine pu rfl ?_ (by rintro ⟨_, _, h, _⟩; cases h)
      refine sp (zcall cl83 rfl) (l_toStream _ _ _ _ _ _ _ _ _ _ _ _ (hx'.ext L) (hp'.ext L) (by omega) (by omega) hbB) ?_
      rintro v23 w15 l16 ⟨p23, c23, F23, p23m, ms23, c23m, F23m, rfl, o23, f23, o23m, f23m, hm23⟩
      have z_l16 := l16.size
      have L := L.tr l16.up
      have Lq := Lq.tr l16.up
      have B1 := B1.ext l16
      have B4 := B4.ext l16
      have o21 := o21.ext l16
      have o21m := o21m.ext l16
      have hn23 := map_len hm23
      have hb23 := mpl_bound hm23 hbB
      have g23 := o23.lt
      have g23m := o23m.lt
      refine c_end ⟨rfl, fun h hS => Lq, ?_⟩
      refine pu rfl ?_ (by rintro ⟨_, _, h, _⟩; cases h)
      refine sr (zcall cl82 rfl) (s_sameStream _ _ _ _ _ _ _ _ _ _ _ _ _ _ _ _ _ _ _ _ _ _ _ o21.sl o21m.rdm o23.sl o23m.rdm (by omega) (by omega) hb21) ?_
      intro w17 l18
      have z_l18 := l18.size
      have L := L.tr l18.up
      have Lq := Lq.tr l18.up
      have B1 := B1.ext l18
      have B4 := B4.ext l18
      have o21 := o21.ext l18
      have o21m := o21m.ext l18
      have o23 := o23.ext l18
      have o23m := o23m.ext l18
      refine c_end ⟨rfl, fun h hS => Lq, ?_⟩
      refine p0 rfl (x_assign (v := .bool _) rfl) ?_
      refine p_nil (np_normal ?_)
      refine n_then ?_
      refine wp_seq ?_
      refine c_reg ?_
      refine st (x_loadAgB ag101 rfl B1 rfl) ?_
      refine sp (zcall cl83 rfl) (l_toStream _ _ _ _ _ _ _ _ _ _ _ _ (hx.ext L) (hp.ext L) (by omega) (by omega) hbA) ?_
      rintro v26 w19 l20 ⟨p26, c26, F26, p26m, ms26, c26m, F26m, rfl, o26, f26, o26m, f26m, hm26⟩
      have z_l20 := l20.size
      have L := L.tr l20.up
      have B1 := B1.ext l20
      have B4 := B4.ext l20
      have o21 := o21.ext l20
      have o21m := o21m.ext l20
      have o23 := o23.ext l20
      have o23m := o23m.ext l20
      have hn26 := map_len hm26
      have hb26 := mpl_bound hm26 hbA
      have g26 := o26.lt
      have g26m := o26m.lt
      refine s_alloc zr107 ?_
      intro b21 w22 lob21 hib21 l23 B21
      have z_l23 := l23.size
      have L := L.tr l23.up
      have B1 := B1.ext l23
      have B4 := B4.ext l23
      have o21 := o21.ext l23
      have o21m := o21m.ext l23
      have o23 := o23.ext l23
      have o23m := o23m.ext l23
      have o26 := o26.ext l23
      have o26m := o26m.ext l23
      refine s_storeAg rfl sz107 rfl rfl B21 rfl rfl rfl ?_
      intro w24 l25 el25 B21
      have z_l25 := l25.size
      have L := L.fresh l25 (by omega)
      have B1 := B1.ne l25 (by omega)
      have B4 := B4.ne l25 (by omega)
      have o21 := o21.ne l25 (by first | assumption | exact nin_of f21 g21 (by omega))
      have o21m := o21m.ne l25 (by first | assumption | exact nin_of f21m g21m (by omega))
      have o23 := o23.ne l25 (by first | assumption | exact nin_of f23 g23 (by omega))
      have o23m := o23m.ne l25 (by first | assumption | exact nin_of f23m g23m (by omega))
      have o26 := o26.ne l25 (by first | assumption | exact nin_of f26 g26 (by omega))
      have o26m := o26m.ne l25 (by first | assumption | exact nin_of f26m g26m (by omega))
      refine c_end ?_
      refine n_then ?_
      refine wp_seq ?_
      refine c_reg ?_
      refine st (x_loadAgB ag101 rfl B4 rfl) ?_
      refine sp (zcall cl83 rfl) (l_toStream _ _ _ _ _ _ _ _ _ _ _ _ (hx'.ext L) (hp'.ext L) (by omega) (by omega) hbB) ?_
      rintro v28 w26 l27 ⟨p28, c28, F28, p28m, ms28, c28m, F28m, rfl, o28, f28, o28m, f28m, hm28⟩
      have z_l27 := l27.size
      have L := L.tr l27.up
      have B1 := B1.ext l27
      have B4 := B4.ext l27
      have B21 := B21.ext l27
      have o21 := o21.ext l27
      have o21m := o21m.ext l27
      have o23 := o23.ext l27
      have o23m := o23m.ext l27
      have o26 := o26.ext l27
      have o26m := o26m.ext l27
      have hn28 := map_len hm28
      have hb28 := mpl_bound hm28 hbB
      have g28 := o28.lt
      have g28m := o28m.lt
      refine s_alloc zr107 ?_
      intro b28 w29 lob28 hib28 l30 B28
      have z_l30 := l30.size
      have L := L.tr l30.up
      have B1 := B1.ext l30
      have B4 := B4.ext l30
      have B21 := B21.ext l30
      have o21 := o21.ext l30
      have o21m := o21m.ext l30
      have o23 := o23.ext l30
      have o23m := o23m.ext l30
      have o26 := o26.ext l30
      have o26m := o26m.ext l30
      have o28 := o28.ext l30
      have o28m := o28m.ext l30
      refine s_storeAg rfl sz107 rfl rfl B28 rfl rfl rfl ?_
      intro w31 l32 el32 B28
      have z_l32 := l32.size
      have L := L.fresh l32 (by omega)
      have B1 := B1.ne l32 (by omega)
      have B4 := B4.ne l32 (by omega)
      have B21 := B21.ne l32 (by omega)
      have o21 := o21.ne l32 (by first | assumption | exact nin_of f21 g21 (by omega))
      have o21m := o21m.ne l32 (by first | assumption | exact nin_of f21m g21m (by omega))
      have o23 := o23.ne l32 (by first | assumption | exact nin_of f23 g23 (by omega))
      have o23m := o23m.ne l32 (by first | assumption | exact nin_of f23m g23m (by omega))
      have o26 := o26.ne l32 (by first | assumption | exact nin_of f26 g26 (by omega))
      have o26m := o26m.ne l32 (by first | assumption | exact nin_of f26m g26m (by omega))
      have o28 := o28.ne l32 (by first | assumption | exact nin_of f28 g28 (by omega))
      have o28m := o28m.ne l32 (by first | assumption | exact nin_of f28m g28m (by omega))
      refine c_end ?_
      refine n_then ?_
      refine wp_seq ?_
      refine c_reg ?_
      refine st (x_loadAgB ag107 rfl B21 rfl) ?_
      refine st (x_loadAgB ag107 rfl B28 rfl) ?_
      refine sr (zcall cl84 rfl) (i_sameStream _ _ _ _ _ _ _ _ _ _ _ _ _ _ _ _ _ _ _ _ _ _ _ o26.sl o26m.rdm o28.sl o28m.rdm (by omega) (by omega) hb26) ?_
      intro w33 l34
      have z_l34 := l34.size
      have L := L.tr l34.up
      have B1 := B1.ext l34
      have B4 := B4.ext l34
      have B21 := B21.ext l34
      have B28 := B28.ext l34
      have o21 := o21.ext l34
      have o21m := o21m.ext l34
      have o23 := o23.ext l34
      have o23m := o23m.ext l34
      have o26 := o26.ext l34
      have o26m := o26m.ext l34
      have o28 := o28.ext l34
      have o28m := o28m.ext l34
      refine s0 (x_assign (v := .bool _) rfl) ?_
      refine c_end ?_
      refine n_then ?_
      refine wp_seq ?_
      refine wp_seq ?_
      refine c_reg ?_
      refine s0 (x_move (v := .bool _) rfl) ?_
      refine s0 (x_move (v := .bool _) rfl) ?_
      refine sb (x_neqb un4 rfl rfl) (fun h34 => ?_) (fun h34 => ?_)
      · exact (h34 (by simp only [hm26, hm28, hm21, hm23])).elim
      · refine c_end ?_
        refine n_then ?_
        refine c_false rfl ?_
        refine c_skipn ?_
        refine n_then ?_
        refine wp_seq ?_
        refine wp_seq ?_
        refine c_plan (fun wq => Exm [] w33 wq) 5 (.cons (0, 1) (.cons (1, 1) (.cons (2, 0) (.cons (3, 0) (.cons (4, 2) .nil))))) (by kernel_rfl) (by kernel_rfl) (Exm.drew _) ?_
        obtain ⟨w35, hwd⟩ : ∃ x, x = w33.drew := ⟨_, rfl⟩
        have l36 : Ext w33 w35 := by rw [hwd]; exact Exm.drew _
        rw [← hwd]; clear hwd
        have Lq : Exm [] w33 w35 := l36.up
        have qB1 := B1
        have qB4 := B4
        have qB21 := B21
        have qB28 := B28
        have qo21 := o21
        have qo21m := o21m
        have qo23 := o23
        have qo23m := o23m
        have qo26 := o26
        have qo26m := o26m
        have qo28 := o28
        have qo28m := o28m
        have qL := L
        have z_l36 := l36.size
        have L := L.tr l36.up
        have B1 := B1.ext l36
        have B4 := B4.ext l36
        have B21 := B21.ext l36
        have B28 := B28.ext l36
        have o21 := o21.ext l36
        have o21m := o21m.ext l36
        have o23 := o23.ext l36
        have o23m := o23m.ext l36
        have o26 := o26.ext l36
        have o26m := o26m.ext l36
        have o28 := o28.ext l36
        have o28m := o28m.ext l36
        refine ps rfl (fun wq hwq => x_loadAgB ag107 rfl (qB21.ext hwq) rfl) ?_
        refine ps rfl (fun wq hwq => x_loadAgB ag101 rfl (qB1.ext hwq) rfl) ?_
        refine pu rfl ?_ (by rintro ⟨_, _, h, _⟩; cases h)
        refine sp (zcall cl83 rfl) (l_toStream _ _ _ _ _ _ _ _ _ _ _ _ (hx.ext L) (hp.ext L) (by omega) (by omega) hbA) ?_
        rintro v37 w37 l38 ⟨p37, c37, F37, p37m, ms37, c37m, F37m, rfl, o37, f37, o37m, f37m, hm37⟩
        have z_l38 := l38.size
        have L := L.tr l38.up
        have Lq := Lq.tr l38.up
        have B1 := B1.ext l38
        have B4 := B4.ext l38
        have B21 := B21.ext l38
        have B28 := B28.ext l38
        have o21 := o21.ext l38
        have o21m := o21m.ext l38
        have o23 := o23.ext l38
        have o23m := o23m.ext l38
        have o26 := o26.ext l38
        have o26m := o26m.ext l38
        have o28 := o28.ext l38
        have o28m := o28m.ext l38
        have hn37 := map_len hm37
        have hb37 := mpl_bound hm37 hbA
        have g37 := o37.lt
        have g37m := o37m.lt
        refine c_end ⟨rfl, fun h hS => Lq, ?_⟩
        refine pu rfl ?_ (by rintro ⟨_, _, h, _⟩; cases h)
        refine srb (zcall cl85 rfl) (l_eqStream _ _ _ _ _ _ _ _ _ _ _ _ _ _ _ _ _ _ _ _ _ _ _ o26.sl o26m.rdm o37.sl o37m.rdm (by omega) (by omega) hb26) (fun h38 w39 l40 => ?_) (fun h38 w39 l40 => ?_)
        · have z_l40 := l40.size
          have L := L.tr l40.up
          have Lq := Lq.tr l40.up
          have B1 := B1.ext l40
          have B4 := B4.ext l40
          have B21 := B21.ext l40
          have B28 := B28.ext l40
          have o21 := o21.ext l40
          have o21m := o21m.ext l40
          have o23 := o23.ext l40
          have o23m := o23m.ext l40
          have o26 := o26.ext l40
          have o26m := o26m.ext l40
          have o28 := o28.ext l40
          have o28m := o28m.ext l40
          have o37 := o37.ext l40
          have o37m := o37m.ext l40
          refine c_end ⟨rfl, fun h hS => Lq, ?_⟩
          refine p0 rfl (x_not rfl) ?_
          refine p_nil (np_normal ?_)
          refine n_then ?_
          refine c_false rfl ?_
          refine c_skipn ?_
          refine n_then ?_
          refine wp_seq ?_
          refine wp_seq ?_
          refine c_plan (fun wq => Exm [] w39 wq) 5 (.cons (0, 1) (.cons (1, 1) (.cons (2, 0) (.cons (3, 0) (.cons (4, 2) .nil))))) (by kernel_rfl) (by kernel_rfl) (Exm.drew _) ?_
          obtain ⟨w41, hwd⟩ : ∃ x, x = w39.drew := ⟨_, rfl⟩
          have l42 : Ext w39 w41 := by rw [hwd]; exact Exm.drew _
          rw [← hwd]; clear hwd
          have Lq : Exm [] w39 w41 := l42.up
          have qB1 := B1
          have qB4 := B4
          have qB21 := B21
          have qB28 := B28
          have qo21 := o21
          have qo21m := o21m
          have qo23 := o23
          have qo23m := o23m
          have qo26 := o26
          have qo26m := o26m
          have qo28 := o28
          have qo28m := o28m
          have qo37 := o37
          have qo37m := o37m
          have qL := L
          have z_l42 := l42.size
          have L := L.tr l42.up
          have B1 := B1.ext l42
          have B4 := B4.ext l42
          have B21 := B21.ext l42
          have B28 := B28.ext l42
          have o21 := o21.ext l42
          have o21m := o21m.ext l42
          have o23 := o23.ext l42
          have o23m := o23m.ext l42
          have o26 := o26.ext l42
          have o26m := o26m.ext l42
          have o28 := o28.ext l42
          have o28m := o28m.ext l42
          have o37 := o37.ext l42
          have o37m := o37m.ext l42
          refine ps rfl (fun wq hwq => x_loadAgB ag107 rfl (qB28.ext hwq) rfl) ?_
          refine ps rfl (fun wq hwq => x_loadAgB ag101 rfl (qB4.ext hwq) rfl) ?_
          refine pu rfl ?_ (by rintro ⟨_, _, h, _⟩; cases h)
          refine sp (zcall cl83 rfl) (l_toStream _ _ _ _ _ _ _ _ _ _ _ _ (hx'.ext L) (hp'.ext L) (by omega) (by omega) hbB) ?_
          rintro v42 w43 l44 ⟨p42, c42, F42, p42m, ms42, c42m, F42m, rfl, o42, f42, o42m, f42m, hm42⟩
          have z_l44 := l44.size
          have L := L.tr l44.up
          have Lq := Lq.tr l44.up
          have B1 := B1.ext l44
          have B4 := B4.ext l44
          have B21 := B21.ext l44
          have B28 := B28.ext l44
          have o21 := o21.ext l44
          have o21m := o21m.ext l44
          have o23 := o23.ext l44
          have o23m := o23m.ext l44
          have o26 := o26.ext l44
          have o26m := o26m.ext l44
          have o28 := o28.ext l44
          have o28m := o28m.ext l44
          have o37 := o37.ext l44
          have o37m := o37m.ext l44
          have hn42 := map_len hm42
          have hb42 := mpl_bound hm42 hbB
          have g42 := o42.lt
          have g42m := o42m.lt
          refine c_end ⟨rfl, fun h hS => Lq, ?_⟩
          refine pu rfl ?_ (by rintro ⟨_, _, h, _⟩; cases h)
          refine srb (zcall cl85 rfl) (l_eqStream _ _ _ _ _ _ _ _ _ _ _ _ _ _ _ _ _ _ _ _ _ _ _ o28.sl o28m.rdm o42.sl o42m.rdm (by omega) (by omega) hb28) (fun h43 w45 l46 => ?_) (fun h43 w45 l46 => ?_)
          · have z_l46 := l46.size
            have L := L.tr l46.up
            have Lq := Lq.tr l46.up
            have B1 := B1.ext l46
            have B4 := B4.ext l46
            have B21 := B21.ext l46
            have B28 := B28.ext l46
            have o21 := o21.ext l46
            have o21m := o21m.ext l46
            have o23 := o23.ext l46
            have o23m := o23m.ext l46
            have o26 := o26.ext l46
            have o26m := o26m.ext l46
            have o28 := o28.ext l46
            have o28m := o28m.ext l46
            have o37 := o37.ext l46
            have o37m := o37m.ext l46
            have o42 := o42.ext l46
            have o42m := o42m.ext l46
            refine c_end ⟨rfl, fun h hS => Lq, ?_⟩
            refine p0 rfl (x_not rfl) ?_
            refine p_nil (np_normal ?_)
            refine n_then ?_
            refine c_false rfl ?_
            refine c_skipn ?_
            refine n_then ?_
            refine wp_seq ?_
            refine c_reg ?_
            refine s0 (x_assign (v := .bool _) rfl) ?_
            refine c_end ?_
            refine n_then ?_
            refine wp_ret ?_
            refine f_ret rfl rfl ?_
            exact ⟨rfl, L⟩
          · exact (h43 ⟨rfl, rfl, rfl, rfl, rfl, rfl, hm28.trans hm42.symm⟩).elim
        · exact (h38 ⟨rfl, rfl, rfl, rfl, rfl, rfl, hm26.trans hm37.symm⟩).elim

end Go.Proofs.Ytfmmkacopgecpaa
