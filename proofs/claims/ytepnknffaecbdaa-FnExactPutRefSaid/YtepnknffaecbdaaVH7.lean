/- What each function of this part returns, for every argument that meets its premises. -/
import Derived.Test.YtepnknffaecbdaaProg
import Derived.Test.YtepnknffaecbdaaVSxF
import Derived.Test.YtepnknffaecbdaaVPlT
import Derived.Test.YtepnknffaecbdaaVF4
import Derived.Test.YtepnknffaecbdaaVF7
import Derived.Test.YtepnknffaecbdaaVFH
import Derived.Test.YtepnknffaecbdaaVFJ
import Derived.Test.YtepnknffaecbdaaVFK
import Derived.Test.YtepnknffaecbdaaVH6
namespace Go.Proofs.Ytepnknffaecbdaa
open Go.Sx Go.Pl Go.RowKit
theorem ag100H7 : Ag Try.prog 100 3 := ⟨⟨_, Try.underlying100⟩, by kernel_rfl⟩
theorem ag102H7 : Ag Try.prog 102 2 := ⟨⟨_, Try.underlying102⟩, by kernel_rfl⟩
theorem ag106H7 : Ag Try.prog 106 3 := ⟨⟨_, Try.underlying106⟩, by kernel_rfl⟩
theorem ag111H7 : Ag Try.prog 111 2 := ⟨⟨_, Try.underlying111⟩, by kernel_rfl⟩
theorem ag42H7 : Ag Try.prog 42 6 := ⟨⟨_, Try.underlying42⟩, by kernel_rfl⟩
theorem ag91H7 : Ag Try.prog 91 6 := ⟨⟨_, Try.underlying91⟩, by kernel_rfl⟩
theorem cl51H7 : Callable Try.prog 51 := callable Try.func51 (by kernel_rfl) rfl
theorem cl54H7 : Callable Try.prog 54 := callable Try.func54 (by kernel_rfl) rfl
theorem cl65H7 : Callable Try.prog 65 := callable Try.func65 (by kernel_rfl) rfl
theorem cl66H7 : Callable Try.prog 66 := callable Try.func66 (by kernel_rfl) rfl
theorem cl67H7 : Callable Try.prog 67 := callable Try.func67 (by kernel_rfl) rfl
theorem cl68H7 : Callable Try.prog 68 := callable Try.func68 (by kernel_rfl) rfl
theorem cl69H7 : Callable Try.prog 69 := callable Try.func69 (by kernel_rfl) rfl
theorem cl70H7 : Callable Try.prog 70 := callable Try.func70 (by kernel_rfl) rfl
theorem cl71H7 : Callable Try.prog 71 := callable Try.func71 (by kernel_rfl) rfl
theorem cl72H7 : Callable Try.prog 72 := callable Try.func72 (by kernel_rfl) rfl
theorem cl73H7 : Callable Try.prog 73 := callable Try.func73 (by kernel_rfl) rfl
theorem cl74H7 : Callable Try.prog 74 := callable Try.func74 (by kernel_rfl) rfl
theorem cl75H7 : Callable Try.prog 75 := callable Try.func75 (by kernel_rfl) rfl
theorem cl76H7 : Callable Try.prog 76 := callable Try.func76 (by kernel_rfl) rfl
theorem cl77H7 : Callable Try.prog 77 := callable Try.func77 (by kernel_rfl) rfl
theorem sz106H7 : Sz Try.prog 106 3 := by unfold Sz; kernel_rfl
theorem sz111H7 : Sz Try.prog 111 2 := by unfold Sz; kernel_rfl
theorem sz42H7 : Sz Try.prog 42 6 := by unfold Sz; kernel_rfl
theorem un4H7 : Try.prog.underlying 4 = some .bool := by kernel_rfl
theorem zr106H7 : ZeroV Try.prog 106 [.int .i64 0, .int .i64 0, .slice none 0 0] := by unfold ZeroV; kernel_rfl
theorem zr111H7 : ZeroV Try.prog 111 [.int .i64 0, .slice none 0 0] := by unfold ZeroV; kernel_rfl
theorem zr42H7 : ZeroV Try.prog 42 [.int .i64 0, .int .i64 0, .int .i64 0, .bool false, .bool false, .slice none 0 0] := by unfold ZeroV; kernel_rfl
theorem c_mid {P : Program} {Q : Exit → Act → World → Prop} {c : Code} {n : Nat} {E : Env} {w : World} (I : Env → World → Prop) (h : c.wp P (fun e a w' => e = .normal ∧ ∃ E', a = mk n E' ∧ I E' w') (mk n E) w) (k : ∀ E' w', I E' w' → Q .normal (mk n E') w') : c.wp P Q (mk n E) w := by
  refine wp_mono h ?_
  rintro e a w' ⟨rfl, E', rfl, hI⟩
  exact k E' w' hI

set_option maxHeartbeats 8000000 in
/-- laws.FnExactPutRef -/
theorem l_fnPutRef (W H x y a0 b0 q m : Int) (e z : Bool) (pA : Option Addr) (zs : List Int) (cA : Nat) (p : Option Addr) (xs : List Int) (c : Nat) (r : Option Addr) (ys : List Int) (d : Nat) (w : World) (hz : Sl w pA zs.length cA 1 (ic zs)) (hp : Sl w p xs.length c 1 (ic xs)) (hr : Sl w r ys.length d 1 (ic ys)) (hlz : zs.length ≤ 9223372036854775807) (hl : xs.length ≤ 9223372036854775807) (hl2 : ys.length ≤ 9223372036854775807) :
    Calls Try.prog 10 [.agg [.int .i64 W, .int .i64 H, .slice p xs.length c].toArray, .agg [.int .i64 a0, .int .i64 b0, .int .i64 q, .bool e, .bool z, .slice pA zs.length cA].toArray, .int .i64 x, .int .i64 y, .agg [.int .i64 m, .slice r ys.length d].toArray].toArray w (Ret w (.bool true)) := by
  have L : Exm [] w w := Exm.rfl'
  refine enter (n := 152) Try.func10 rfl rfl rfl ?_
  refine wp_seq ?_
  refine c_reg ?_
  refine s_box rfl rfl ?_
  intro b1 w2 lob1 hib1 l3 B1
  have z_l3 := l3.size
  have L := L.tr l3.up
  refine s_box rfl rfl ?_
  intro b4 w5 lob4 hib4 l6 B4
  have z_l6 := l6.size
  have L := L.tr l6.up
  have B1 := B1.ext l6
  refine s_box rfl rfl ?_
  intro b7 w8 lob7 hib7 l9 B7
  have z_l9 := l9.size
  have L := L.tr l9.up
  have B1 := B1.ext l9
  have B4 := B4.ext l9
  refine s0 (x_assign (v := .bool _) rfl) ?_
  refine c_end ?_
  refine n_then ?_
  refine wp_seq ?_
  refine c_reg ?_
  refine s0 (x_assign (v := .int _ _) rfl) ?_
  refine c_end ?_
  refine n_then ?_
  refine wp_seq ?_
  refine c_reg ?_
  refine st (x_loadAgB ag100H7 rfl B1 rfl) ?_
  refine s0 (x_move (v := .int _ _) rfl) ?_
  refine sr (zcall cl65H7 rfl) (l_szFrame _ _ _ _ _ _ _ (by omega) (by omega)) ?_
  intro w10 l11
  have z_l11 := l11.size
  have L := L.tr l11.up
  have B1 := B1.ext l11
  have B4 := B4.ext l11
  have B7 := B7.ext l11
  refine s0 (x_assign (v := .int _ _) rfl) ?_
  refine c_end ?_
  refine n_then ?_
  refine wp_seq ?_
  refine wp_seq ?_
  refine c_reg ?_
  refine s0 (x_move (v := .int _ _) rfl) ?_
  refine sb (x_lss rfl rfl) (fun h28 => ?_) (fun h28 => ?_)
  · refine c_end ?_
    refine n_then ?_
    refine c_true rfl ?_
    refine wp_seq ?_
    refine c_reg ?_
    refine s0 (x_assign (v := .bool _) rfl) ?_
    refine c_end ?_
    refine n_then ?_
    refine wp_ret (r_then ?_)
    refine f_ret rfl rfl ?_
    exact ⟨rfl, L⟩
  · refine c_end ?_
    refine n_then ?_
    refine c_false rfl ?_
    refine c_skipn ?_
    refine n_then ?_
    refine wp_seq ?_
    have hs1 := sz_in h28
    refine c_reg ?_
    refine st (x_loadAgB ag91H7 rfl B4 rfl) ?_
    refine s0 (x_move (v := .int _ _) rfl) ?_
    refine sr (zcall cl66H7 rfl) (l_szHeader _ _ _ _ _ _ _ _ _ _ (by omega) (by omega)) ?_
    intro w12 l13
    have z_l13 := l13.size
    have L := L.tr l13.up
    have B1 := B1.ext l13
    have B4 := B4.ext l13
    have B7 := B7.ext l13
    refine s0 (x_assign (v := .int _ _) rfl) ?_
    refine c_end ?_
    refine n_then ?_
    refine wp_seq ?_
    refine wp_seq ?_
    refine c_reg ?_
    refine s0 (x_move (v := .int _ _) rfl) ?_
    refine sb (x_lss rfl rfl) (fun h33 => ?_) (fun h33 => ?_)
    · refine c_end ?_
      refine n_then ?_
      refine c_true rfl ?_
      refine wp_seq ?_
      refine c_reg ?_
      refine s0 (x_assign (v := .bool _) rfl) ?_
      refine c_end ?_
      refine n_then ?_
      refine wp_ret (r_then ?_)
      refine f_ret rfl rfl ?_
      exact ⟨rfl, L⟩
    · refine c_end ?_
      refine n_then ?_
      refine c_false rfl ?_
      refine c_skipn ?_
      refine n_then ?_
      refine wp_seq ?_
      have hs2 := sz_in h33
      refine c_reg ?_
      refine st (x_loadAgB ag102H7 rfl B7 rfl) ?_
      refine s0 (x_move (v := .int _ _) rfl) ?_
      refine sr (zcall cl67H7 rfl) (l_szBlock _ _ _ _ _ _ (by omega) (by omega)) ?_
      intro w14 l15
      have z_l15 := l15.size
      have L := L.tr l15.up
      have B1 := B1.ext l15
      have B4 := B4.ext l15
      have B7 := B7.ext l15
      refine s0 (x_assign (v := .int _ _) rfl) ?_
      refine c_end ?_
      refine n_then ?_
      refine wp_seq ?_
      refine wp_seq ?_
      refine c_reg ?_
      refine s0 (x_move (v := .int _ _) rfl) ?_
      refine sb (x_lss rfl rfl) (fun h38 => ?_) (fun h38 => ?_)
      · refine c_end ?_
        refine n_then ?_
        refine c_true rfl ?_
        refine wp_seq ?_
        refine c_reg ?_
        refine s0 (x_assign (v := .bool _) rfl) ?_
        refine c_end ?_
        refine n_then ?_
        refine wp_ret (r_then ?_)
        refine f_ret rfl rfl ?_
        exact ⟨rfl, L⟩
      · refine c_end ?_
        refine n_then ?_
        refine c_false rfl ?_
        refine c_skipn ?_
        refine n_then ?_
        refine wp_seq ?_
        have hs3 := sz_in h38
        refine c_mid (fun E wl => ∃ (E0 : Env) (jb12 : Nat) (p48 : Option Addr) (c48 : Nat) (F48 : List Nat), E = upd (upd (upd (upd (upd (upd (upd E0 2 (.int .i64 x)) 3 (.int .i64 y)) 5 (pt b1 0)) 6 (pt b4 0)) 9 (pt b7 0)) 12 (pt jb12 0)) 13 (.bool (decide (setsOk W H xs x y q e m ys))) ∧ (Exm [] w wl) ∧ (w14.heap.size ≤ wl.heap.size) ∧ (Bx wl b1 [.int .i64 W, .int .i64 H, .slice p xs.length c] 100) ∧ (Bx wl b4 [.int .i64 a0, .int .i64 b0, .int .i64 q, .bool e, .bool z, .slice pA zs.length cA] 91) ∧ (Bx wl b7 [.int .i64 m, .slice r ys.length d] 102) ∧ (Bx wl jb12 [.int .i64 W, .int .i64 H, .slice p48 xs.length c48] 106) ∧ (w14.heap.size ≤ jb12) ∧ (jb12 < wl.heap.size) ∧ (Own wl p48 xs.length c48 3 1 (ic (putL W H xs x y q e m ys)) F48) ∧ (Fr w14.heap.size F48) ∧ (Lt F48 wl.heap.size) ∧ (b1 ∉ F48) ∧ (b4 ∉ F48) ∧ (b7 ∉ F48) ∧ (jb12 ∉ F48)) ?_ ?_
        · refine c_plan (fun wq => Exm [] w14 wq) 15 (.cons (0, 1) (.cons (2, 1) (.cons (4, 2) (.cons (5, 2) (.cons (6, 1) (.fork 1 12 (.fork 3 12 (.fork 7 12 (.fork 8 12 (.cons (9, 2) (.cons (10, 2) (.cons (11, 2) (.cons (12, 0) (.cons (13, 0) (.cons (14, 2) .nil)))))) (.cons (8, 0) (.cons (9, 2) (.cons (10, 2) (.cons (11, 2) (.cons (13, 0) (.cons (14, 2) .nil))))))) (.cons (7, 0) (.cons (8, 0) (.cons (9, 2) (.cons (10, 2) (.cons (11, 2) (.cons (13, 0) (.cons (14, 2) .nil)))))))) (.cons (3, 0) (.cons (7, 0) (.cons (8, 0) (.cons (9, 2) (.cons (10, 2) (.cons (11, 2) (.cons (13, 0) (.cons (14, 2) .nil))))))))) (.cons (1, 0) (.cons (3, 0) (.cons (7, 0) (.cons (8, 0) (.cons (9, 2) (.cons (10, 2) (.cons (11, 2) (.cons (13, 0) (.cons (14, 2) .nil))))))))))))))) (by kernel_rfl) (by kernel_rfl) (Exm.drew _) ?_
          obtain ⟨w16, hwd⟩ : ∃ x, x = w14.drew := ⟨_, rfl⟩
          have l17 : Ext w14 w16 := by rw [hwd]; exact Exm.drew _
          rw [← hwd]; clear hwd
          have Lq : Exm [] w14 w16 := l17.up
          have qB1 := B1
          have qB4 := B4
          have qB7 := B7
          have qL := L
          have z_l17 := l17.size
          have L := L.tr l17.up
          have B1 := B1.ext l17
          have B4 := B4.ext l17
          have B7 := B7.ext l17
          refine ps rfl (fun wq hwq => x_loadAgB ag100H7 rfl (qB1.ext hwq) rfl) ?_
          refine ps rfl (fun wq hwq => x_loadAgB ag91H7 rfl (qB4.ext hwq) rfl) ?_
          refine p0 rfl (x_move (v := .int _ _) rfl) ?_
          refine p0 rfl (x_move (v := .int _ _) rfl) ?_
          refine ps rfl (fun wq hwq => x_loadAgB ag102H7 rfl (qB7.ext hwq) rfl) ?_
          refine pfork ?_ ?_
          · refine pu rfl ?_ (by rintro ⟨_, _, h, _⟩; cases h)
            refine sp (zcall cl69H7 rfl) (l_toFrame _ _ _ _ _ _ _ (hp.ext L) (by omega)) ?_
            rintro v41 w18 l19 ⟨p41, c41, F41, rfl, o41, f41⟩
            have z_l19 := l19.size
            have L := L.tr l19.up
            have Lq := Lq.tr l19.up
            have B1 := B1.ext l19
            have B4 := B4.ext l19
            have B7 := B7.ext l19
            have g41 := o41.lt
            refine c_end ⟨rfl, fun h hS => Lq, ?_⟩
            refine pfork ?_ ?_
            · refine pu rfl ?_ (by rintro ⟨_, _, h, _⟩; cases h)
              refine sp (zcall cl70H7 rfl) (l_toHeader _ _ _ _ _ _ _ _ _ (hz.ext L) (by omega)) ?_
              rintro v43 w20 l21 ⟨p43, c43, F43, rfl, o43, f43⟩
              have z_l21 := l21.size
              have L := L.tr l21.up
              have Lq := Lq.tr l21.up
              have B1 := B1.ext l21
              have B4 := B4.ext l21
              have B7 := B7.ext l21
              have o41 := o41.ext l21
              have g43 := o43.lt
              refine c_end ⟨rfl, fun h hS => Lq, ?_⟩
              refine pfork ?_ ?_
              · refine pu rfl ?_ (by rintro ⟨_, _, h, _⟩; cases h)
                refine sp (zcall cl71H7 rfl) (l_toBlock _ _ _ _ _ (hr.ext L) (by omega)) ?_
                rintro v47 w22 l23 ⟨p47, c47, F47, rfl, o47, f47⟩
                have z_l23 := l23.size
                have L := L.tr l23.up
                have Lq := Lq.tr l23.up
                have B1 := B1.ext l23
                have B4 := B4.ext l23
                have B7 := B7.ext l23
                have o41 := o41.ext l23
                have o43 := o43.ext l23
                have g47 := o47.lt
                refine c_end ⟨rfl, fun h hS => Lq, ?_⟩
                refine pfork ?_ ?_
                · refine pu rfl ?_ (by rintro ⟨_, _, h, _⟩; cases h)
                  refine sp (zcall cl68H7 rfl) (s_putRef _ _ _ _ _ _ _ _ _ _ _ _ _ _ _ _ _ _ _ _ o41.sl o47.sl (by omega) (by omega)) ?_
                  rintro v48 w24 l25 ⟨p48, c48, F48, rfl, o48, f48⟩
                  have z_l25 := l25.size
                  have L := L.tr l25.up
                  have Lq := Lq.tr l25.up
                  have B1 := B1.ext l25
                  have B4 := B4.ext l25
                  have B7 := B7.ext l25
                  have o41 := o41.ext l25
                  have o43 := o43.ext l25
                  have o47 := o47.ext l25
                  have g48 := o48.lt
                  refine c_end ⟨rfl, fun h hS => Lq, ?_⟩
                  refine p0 rfl (x_move (v := .tuple _) rfl) ?_
                  refine p0 rfl (x_extract rfl rfl) ?_
                  refine p0 rfl (x_extract rfl rfl) ?_
                  refine pu rfl ?_ (by rintro ⟨_, _, h, _⟩; cases h)
                  refine s_alloc zr106H7 ?_
                  intro b26 w27 lob26 hib26 l28 B26
                  have z_l28 := l28.size
                  have L := L.tr l28.up
                  have Lq := Lq.tr l28.up
                  have B1 := B1.ext l28
                  have B4 := B4.ext l28
                  have B7 := B7.ext l28
                  have o41 := o41.ext l28
                  have o43 := o43.ext l28
                  have o47 := o47.ext l28
                  have o48 := o48.ext l28
                  refine c_end ⟨rfl, fun h hS => Lq, ?_⟩
                  refine pu rfl ?_ (by rintro ⟨_, _, h, _⟩; cases h)
                  refine s_storeAg rfl sz106H7 rfl rfl B26 rfl rfl rfl ?_
                  intro w29 l30 el30 B26
                  have z_l30 := l30.size
                  have L := L.fresh l30 (by omega)
                  have Lq := Lq.fresh l30 (by omega)
                  have B1 := B1.ne l30 (by omega)
                  have B4 := B4.ne l30 (by omega)
                  have B7 := B7.ne l30 (by omega)
                  have o41 := o41.ne l30 (by first | assumption | exact nin_of f41 g41 (by omega))
                  have o43 := o43.ne l30 (by first | assumption | exact nin_of f43 g43 (by omega))
                  have o47 := o47.ne l30 (by first | assumption | exact nin_of f47 g47 (by omega))
                  have o48 := o48.ne l30 (by first | assumption | exact nin_of f48 g48 (by omega))
                  refine c_end ⟨rfl, fun h hS => Lq, ?_⟩
                  refine p0 rfl (x_assign (v := .bool _) rfl) ?_
                  refine p_nil (np_normal ?_)
                  exact ⟨rfl, _, rfl, _, _, _, _, _, upd_self7 rfl rfl rfl rfl rfl rfl rfl, L, (by omega), B1, B4, B7, B26, (by omega), (by omega), o48, (f48.mono (by omega)), (g48.mono (by omega)), (by first | assumption | exact nin_of f48 g48 (by omega)), (by first | assumption | exact nin_of f48 g48 (by omega)), (by first | assumption | exact nin_of f48 g48 (by omega)), (by first | assumption | exact nin_of f48 g48 (by omega))⟩
                · refine pu rfl ?_ (by rintro ⟨_, _, h, _⟩; cases h)
                  refine s_alloc zr106H7 ?_
                  intro b31 w32 lob31 hib31 l33 B31
                  have z_l33 := l33.size
                  have L := L.tr l33.up
                  have Lq := Lq.tr l33.up
                  have B1 := B1.ext l33
                  have B4 := B4.ext l33
                  have B7 := B7.ext l33
                  have o41 := o41.ext l33
                  have o43 := o43.ext l33
                  have o47 := o47.ext l33
                  refine c_end ⟨rfl, fun h hS => Lq, ?_⟩
                  refine pu rfl ?_ (by rintro ⟨_, _, h, _⟩; cases h)
                  refine sp (zcall cl68H7 rfl) (s_putRef _ _ _ _ _ _ _ _ _ _ _ _ _ _ _ _ _ _ _ _ o41.sl o47.sl (by omega) (by omega)) ?_
                  rintro v48 w34 l35 ⟨p48, c48, F48, rfl, o48, f48⟩
                  have z_l35 := l35.size
                  have L := L.tr l35.up
                  have Lq := Lq.tr l35.up
                  have B1 := B1.ext l35
                  have B4 := B4.ext l35
                  have B7 := B7.ext l35
                  have B31 := B31.ext l35
                  have o41 := o41.ext l35
                  have o43 := o43.ext l35
                  have o47 := o47.ext l35
                  have g48 := o48.lt
                  refine c_end ⟨rfl, fun h hS => Lq, ?_⟩
                  refine p0 rfl (x_move (v := .tuple _) rfl) ?_
                  refine p0 rfl (x_extract rfl rfl) ?_
                  refine p0 rfl (x_extract rfl rfl) ?_
                  refine pu rfl ?_ (by rintro ⟨_, _, h, _⟩; cases h)
                  refine s_storeAg rfl sz106H7 rfl rfl B31 rfl rfl rfl ?_
                  intro w36 l37 el37 B31
                  have z_l37 := l37.size
                  have L := L.fresh l37 (by omega)
                  have Lq := Lq.fresh l37 (by omega)
                  have B1 := B1.ne l37 (by omega)
                  have B4 := B4.ne l37 (by omega)
                  have B7 := B7.ne l37 (by omega)
                  have o41 := o41.ne l37 (by first | assumption | exact nin_of f41 g41 (by omega))
                  have o43 := o43.ne l37 (by first | assumption | exact nin_of f43 g43 (by omega))
                  have o47 := o47.ne l37 (by first | assumption | exact nin_of f47 g47 (by omega))
                  have o48 := o48.ne l37 (by first | assumption | exact nin_of f48 g48 (by omega))
                  refine c_end ⟨rfl, fun h hS => Lq, ?_⟩
                  refine p0 rfl (x_assign (v := .bool _) rfl) ?_
                  refine p_nil (np_normal ?_)
                  exact ⟨rfl, _, rfl, _, _, _, _, _, upd_self7 rfl rfl rfl rfl rfl rfl rfl, L, (by omega), B1, B4, B7, B31, (by omega), (by omega), o48, (f48.mono (by omega)), (g48.mono (by omega)), (by first | assumption | exact nin_of f48 g48 (by omega)), (by first | assumption | exact nin_of f48 g48 (by omega)), (by first | assumption | exact nin_of f48 g48 (by omega)), (by first | assumption | exact nin_of f48 g48 (by omega))⟩
              · refine pu rfl ?_ (by rintro ⟨_, _, h, _⟩; cases h)
                refine s_alloc zr106H7 ?_
                intro b38 w39 lob38 hib38 l40 B38
                have z_l40 := l40.size
                have L := L.tr l40.up
                have Lq := Lq.tr l40.up
                have B1 := B1.ext l40
                have B4 := B4.ext l40
                have B7 := B7.ext l40
                have o41 := o41.ext l40
                have o43 := o43.ext l40
                refine c_end ⟨rfl, fun h hS => Lq, ?_⟩
                refine pu rfl ?_ (by rintro ⟨_, _, h, _⟩; cases h)
                refine sp (zcall cl71H7 rfl) (l_toBlock _ _ _ _ _ (hr.ext L) (by omega)) ?_
                rintro v47 w41 l42 ⟨p47, c47, F47, rfl, o47, f47⟩
                have z_l42 := l42.size
                have L := L.tr l42.up
                have Lq := Lq.tr l42.up
                have B1 := B1.ext l42
                have B4 := B4.ext l42
                have B7 := B7.ext l42
                have B38 := B38.ext l42
                have o41 := o41.ext l42
                have o43 := o43.ext l42
                have g47 := o47.lt
                refine c_end ⟨rfl, fun h hS => Lq, ?_⟩
                refine pu rfl ?_ (by rintro ⟨_, _, h, _⟩; cases h)
                refine sp (zcall cl68H7 rfl) (s_putRef _ _ _ _ _ _ _ _ _ _ _ _ _ _ _ _ _ _ _ _ o41.sl o47.sl (by omega) (by omega)) ?_
                rintro v48 w43 l44 ⟨p48, c48, F48, rfl, o48, f48⟩
                have z_l44 := l44.size
                have L := L.tr l44.up
                have Lq := Lq.tr l44.up
                have B1 := B1.ext l44
                have B4 := B4.ext l44
                have B7 := B7.ext l44
                have B38 := B38.ext l44
                have o41 := o41.ext l44
                have o43 := o43.ext l44
                have o47 := o47.ext l44
                have g48 := o48.lt
                refine c_end ⟨rfl, fun h hS => Lq, ?_⟩
                refine p0 rfl (x_move (v := .tuple _) rfl) ?_
                refine p0 rfl (x_extract rfl rfl) ?_
                refine p0 rfl (x_extract rfl rfl) ?_
                refine pu rfl ?_ (by rintro ⟨_, _, h, _⟩; cases h)
                refine s_storeAg rfl sz106H7 rfl rfl B38 rfl rfl rfl ?_
                intro w45 l46 el46 B38
                have z_l46 := l46.size
                have L := L.fresh l46 (by omega)
                have Lq := Lq.fresh l46 (by omega)
                have B1 := B1.ne l46 (by omega)
                have B4 := B4.ne l46 (by omega)
                have B7 := B7.ne l46 (by omega)
                have o41 := o41.ne l46 (by first | assumption | exact nin_of f41 g41 (by omega))
                have o43 := o43.ne l46 (by first | assumption | exact nin_of f43 g43 (by omega))
                have o47 := o47.ne l46 (by first | assumption | exact nin_of f47 g47 (by omega))
                have o48 := o48.ne l46 (by first | assumption | exact nin_of f48 g48 (by omega))
                refine c_end ⟨rfl, fun h hS => Lq, ?_⟩
                refine p0 rfl (x_assign (v := .bool _) rfl) ?_
                refine p_nil (np_normal ?_)
                exact ⟨rfl, _, rfl, _, _, _, _, _, upd_self7 rfl rfl rfl rfl rfl rfl rfl, L, (by omega), B1, B4, B7, B38, (by omega), (by omega), o48, (f48.mono (by omega)), (g48.mono (by omega)), (by first | assumption | exact nin_of f48 g48 (by omega)), (by first | assumption | exact nin_of f48 g48 (by omega)), (by first | assumption | exact nin_of f48 g48 (by omega)), (by first | assumption | exact nin_of f48 g48 (by omega))⟩
            · refine pu rfl ?_ (by rintro ⟨_, _, h, _⟩; cases h)
              refine s_alloc zr106H7 ?_
              intro b47 w48 lob47 hib47 l49 B47
              have z_l49 := l49.size
              have L := L.tr l49.up
              have Lq := Lq.tr l49.up
              have B1 := B1.ext l49
              have B4 := B4.ext l49
              have B7 := B7.ext l49
              have o41 := o41.ext l49
              refine c_end ⟨rfl, fun h hS => Lq, ?_⟩
              refine pu rfl ?_ (by rintro ⟨_, _, h, _⟩; cases h)
              refine sp (zcall cl70H7 rfl) (l_toHeader _ _ _ _ _ _ _ _ _ (hz.ext L) (by omega)) ?_
              rintro v43 w50 l51 ⟨p43, c43, F43, rfl, o43, f43⟩
              have z_l51 := l51.size
              have L := L.tr l51.up
              have Lq := Lq.tr l51.up
              have B1 := B1.ext l51
              have B4 := B4.ext l51
              have B7 := B7.ext l51
              have B47 := B47.ext l51
              have o41 := o41.ext l51
              have g43 := o43.lt
              refine c_end ⟨rfl, fun h hS => Lq, ?_⟩
              refine pu rfl ?_ (by rintro ⟨_, _, h, _⟩; cases h)
              refine sp (zcall cl71H7 rfl) (l_toBlock _ _ _ _ _ (hr.ext L) (by omega)) ?_
              rintro v47 w52 l53 ⟨p47, c47, F47, rfl, o47, f47⟩
              have z_l53 := l53.size
              have L := L.tr l53.up
              have Lq := Lq.tr l53.up
              have B1 := B1.ext l53
              have B4 := B4.ext l53
              have B7 := B7.ext l53
              have B47 := B47.ext l53
              have o41 := o41.ext l53
              have o43 := o43.ext l53
              have g47 := o47.lt
              refine c_end ⟨rfl, fun h hS => Lq, ?_⟩
              refine pu rfl ?_ (by rintro ⟨_, _, h, _⟩; cases h)
              refine sp (zcall cl68H7 rfl) (s_putRef _ _ _ _ _ _ _ _ _ _ _ _ _ _ _ _ _ _ _ _ o41.sl o47.sl (by omega) (by omega)) ?_
              rintro v48 w54 l55 ⟨p48, c48, F48, rfl, o48, f48⟩
              have z_l55 := l55.size
              have L := L.tr l55.up
              have Lq := Lq.tr l55.up
              have B1 := B1.ext l55
              have B4 := B4.ext l55
              have B7 := B7.ext l55
              have B47 := B47.ext l55
              have o41 := o41.ext l55
              have o43 := o43.ext l55
              have o47 := o47.ext l55
              have g48 := o48.lt
              refine c_end ⟨rfl, fun h hS => Lq, ?_⟩
              refine p0 rfl (x_move (v := .tuple _) rfl) ?_
              refine p0 rfl (x_extract rfl rfl) ?_
              refine p0 rfl (x_extract rfl rfl) ?_
              refine pu rfl ?_ (by rintro ⟨_, _, h, _⟩; cases h)
              refine s_storeAg rfl sz106H7 rfl rfl B47 rfl rfl rfl ?_
              intro w56 l57 el57 B47
              have z_l57 := l57.size
              have L := L.fresh l57 (by omega)
              have Lq := Lq.fresh l57 (by omega)
              have B1 := B1.ne l57 (by omega)
              have B4 := B4.ne l57 (by omega)
              have B7 := B7.ne l57 (by omega)
              have o41 := o41.ne l57 (by first | assumption | exact nin_of f41 g41 (by omega))
              have o43 := o43.ne l57 (by first | assumption | exact nin_of f43 g43 (by omega))
              have o47 := o47.ne l57 (by first | assumption | exact nin_of f47 g47 (by omega))
              have o48 := o48.ne l57 (by first | assumption | exact nin_of f48 g48 (by omega))
              refine c_end ⟨rfl, fun h hS => Lq, ?_⟩
              refine p0 rfl (x_assign (v := .bool _) rfl) ?_
              refine p_nil (np_normal ?_)
              exact ⟨rfl, _, rfl, _, _, _, _, _, upd_self7 rfl rfl rfl rfl rfl rfl rfl, L, (by omega), B1, B4, B7, B47, (by omega), (by omega), o48, (f48.mono (by omega)), (g48.mono (by omega)), (by first | assumption | exact nin_of f48 g48 (by omega)), (by first | assumption | exact nin_of f48 g48 (by omega)), (by first | assumption | exact nin_of f48 g48 (by omega)), (by first | assumption | exact nin_of f48 g48 (by omega))⟩
          · refine pu rfl ?_ (by rintro ⟨_, _, h, _⟩; cases h)
            refine s_alloc zr106H7 ?_
            intro b58 w59 lob58 hib58 l60 B58
            have z_l60 := l60.size
            have L := L.tr l60.up
            have Lq := Lq.tr l60.up
            have B1 := B1.ext l60
            have B4 := B4.ext l60
            have B7 := B7.ext l60
            refine c_end ⟨rfl, fun h hS => Lq, ?_⟩
            refine pu rfl ?_ (by rintro ⟨_, _, h, _⟩; cases h)
            refine sp (zcall cl69H7 rfl) (l_toFrame _ _ _ _ _ _ _ (hp.ext L) (by omega)) ?_
            rintro v41 w61 l62 ⟨p41, c41, F41, rfl, o41, f41⟩
            have z_l62 := l62.size
            have L := L.tr l62.up
            have Lq := Lq.tr l62.up
            have B1 := B1.ext l62
            have B4 := B4.ext l62
            have B7 := B7.ext l62
            have B58 := B58.ext l62
            have g41 := o41.lt
            refine c_end ⟨rfl, fun h hS => Lq, ?_⟩
            refine pu rfl ?_ (by rintro ⟨_, _, h, _⟩; cases h)
            refine sp (zcall cl70H7 rfl) (l_toHeader _ _ _ _ _ _ _ _ _ (hz.ext L) (by omega)) ?_
            rintro v43 w63 l64 ⟨p43, c43, F43, rfl, o43, f43⟩
            have z_l64 := l64.size
            have L := L.tr l64.up
            have Lq := Lq.tr l64.up
            have B1 := B1.ext l64
            have B4 := B4.ext l64
            have B7 := B7.ext l64
            have B58 := B58.ext l64
            have o41 := o41.ext l64
            have g43 := o43.lt
            refine c_end ⟨rfl, fun h hS => Lq, ?_⟩
            refine pu rfl ?_ (by rintro ⟨_, _, h, _⟩; cases h)
            refine sp (zcall cl71H7 rfl) (l_toBlock _ _ _ _ _ (hr.ext L) (by omega)) ?_
            rintro v47 w65 l66 ⟨p47, c47, F47, rfl, o47, f47⟩
            have z_l66 := l66.size
            have L := L.tr l66.up
            have Lq := Lq.tr l66.up
            have B1 := B1.ext l66
            have B4 := B4.ext l66
            have B7 := B7.ext l66
            have B58 := B58.ext l66
            have o41 := o41.ext l66
            have o43 := o43.ext l66
            have g47 := o47.lt
            refine c_end ⟨rfl, fun h hS => Lq, ?_⟩
            refine pu rfl ?_ (by rintro ⟨_, _, h, _⟩; cases h)
            refine sp (zcall cl68H7 rfl) (s_putRef _ _ _ _ _ _ _ _ _ _ _ _ _ _ _ _ _ _ _ _ o41.sl o47.sl (by omega) (by omega)) ?_
            rintro v48 w67 l68 ⟨p48, c48, F48, rfl, o48, f48⟩
            have z_l68 := l68.size
            have L := L.tr l68.up
            have Lq := Lq.tr l68.up
            have B1 := B1.ext l68
            have B4 := B4.ext l68
            have B7 := B7.ext l68
            have B58 := B58.ext l68
            have o41 := o41.ext l68
            have o43 := o43.ext l68
            have o47 := o47.ext l68
            have g48 := o48.lt
            refine c_end ⟨rfl, fun h hS => Lq, ?_⟩
            refine p0 rfl (x_move (v := .tuple _) rfl) ?_
            refine p0 rfl (x_extract rfl rfl) ?_
            refine p0 rfl (x_extract rfl rfl) ?_
            refine pu rfl ?_ (by rintro ⟨_, _, h, _⟩; cases h)
            refine s_storeAg rfl sz106H7 rfl rfl B58 rfl rfl rfl ?_
            intro w69 l70 el70 B58
            have z_l70 := l70.size
            have L := L.fresh l70 (by omega)
            have Lq := Lq.fresh l70 (by omega)
            have B1 := B1.ne l70 (by omega)
            have B4 := B4.ne l70 (by omega)
            have B7 := B7.ne l70 (by omega)
            have o41 := o41.ne l70 (by first | assumption | exact nin_of f41 g41 (by omega))
            have o43 := o43.ne l70 (by first | assumption | exact nin_of f43 g43 (by omega))
            have o47 := o47.ne l70 (by first | assumption | exact nin_of f47 g47 (by omega))
            have o48 := o48.ne l70 (by first | assumption | exact nin_of f48 g48 (by omega))
            refine c_end ⟨rfl, fun h hS => Lq, ?_⟩
            refine p0 rfl (x_assign (v := .bool _) rfl) ?_
            refine p_nil (np_normal ?_)
            exact ⟨rfl, _, rfl, _, _, _, _, _, upd_self7 rfl rfl rfl rfl rfl rfl rfl, L, (by omega), B1, B4, B7, B58, (by omega), (by omega), o48, (f48.mono (by omega)), (g48.mono (by omega)), (by first | assumption | exact nin_of f48 g48 (by omega)), (by first | assumption | exact nin_of f48 g48 (by omega)), (by first | assumption | exact nin_of f48 g48 (by omega)), (by first | assumption | exact nin_of f48 g48 (by omega))⟩
        rintro E wl ⟨E0, jb12, p48, c48, F48, rfl, L, Lz, B1, B4, B7, JB12, lojb12, hijb12, o48, f48, g48, ab1_48, ab4_48, ab7_48, ajb12_48⟩
        refine n_then ?_
        refine wp_seq ?_
        refine c_reg ?_
        refine st (x_loadAgB ag100H7 rfl B1 rfl) ?_
        refine sp (zcall cl69H7 rfl) (l_toFrame _ _ _ _ _ _ _ (hp.ext L) (by omega)) ?_
        rintro v52 w71 l72 ⟨p52, c52, F52, rfl, o52, f52⟩
        have z_l72 := l72.size
        have L := L.tr l72.up
        have B1 := B1.ext l72
        have B4 := B4.ext l72
        have B7 := B7.ext l72
        have JB12 := JB12.ext l72
        have o48 := o48.ext l72
        have g52 := o52.lt
        refine s_alloc zr106H7 ?_
        intro b73 w74 lob73 hib73 l75 B73
        have z_l75 := l75.size
        have L := L.tr l75.up
        have B1 := B1.ext l75
        have B4 := B4.ext l75
        have B7 := B7.ext l75
        have JB12 := JB12.ext l75
        have o48 := o48.ext l75
        have o52 := o52.ext l75
        refine s_storeAg rfl sz106H7 rfl rfl B73 rfl rfl rfl ?_
        intro w76 l77 el77 B73
        have z_l77 := l77.size
        have L := L.fresh l77 (by omega)
        have B1 := B1.ne l77 (by omega)
        have B4 := B4.ne l77 (by omega)
        have B7 := B7.ne l77 (by omega)
        have JB12 := JB12.ne l77 (by omega)
        have o48 := o48.ne l77 (by first | assumption | exact nin_of f48 g48 (by omega))
        have o52 := o52.ne l77 (by first | assumption | exact nin_of f52 g52 (by omega))
        refine c_end ?_
        refine n_then ?_
        refine wp_seq ?_
        refine c_reg ?_
        refine st (x_loadAgB ag91H7 rfl B4 rfl) ?_
        refine sp (zcall cl70H7 rfl) (l_toHeader _ _ _ _ _ _ _ _ _ (hz.ext L) (by omega)) ?_
        rintro v54 w78 l79 ⟨p54, c54, F54, rfl, o54, f54⟩
        have z_l79 := l79.size
        have L := L.tr l79.up
        have B1 := B1.ext l79
        have B4 := B4.ext l79
        have B7 := B7.ext l79
        have JB12 := JB12.ext l79
        have B73 := B73.ext l79
        have o48 := o48.ext l79
        have o52 := o52.ext l79
        have g54 := o54.lt
        refine s_alloc zr42H7 ?_
        intro b80 w81 lob80 hib80 l82 B80
        have z_l82 := l82.size
        have L := L.tr l82.up
        have B1 := B1.ext l82
        have B4 := B4.ext l82
        have B7 := B7.ext l82
        have JB12 := JB12.ext l82
        have B73 := B73.ext l82
        have o48 := o48.ext l82
        have o52 := o52.ext l82
        have o54 := o54.ext l82
        refine s_storeAg rfl sz42H7 rfl rfl B80 rfl rfl rfl ?_
        intro w83 l84 el84 B80
        have z_l84 := l84.size
        have L := L.fresh l84 (by omega)
        have B1 := B1.ne l84 (by omega)
        have B4 := B4.ne l84 (by omega)
        have B7 := B7.ne l84 (by omega)
        have JB12 := JB12.ne l84 (by omega)
        have B73 := B73.ne l84 (by omega)
        have o48 := o48.ne l84 (by first | assumption | exact nin_of f48 g48 (by omega))
        have o52 := o52.ne l84 (by first | assumption | exact nin_of f52 g52 (by omega))
        have o54 := o54.ne l84 (by first | assumption | exact nin_of f54 g54 (by omega))
        refine c_end ?_
        refine n_then ?_
        refine wp_seq ?_
        refine c_reg ?_
        refine st (x_loadAgB ag102H7 rfl B7 rfl) ?_
        refine sp (zcall cl71H7 rfl) (l_toBlock _ _ _ _ _ (hr.ext L) (by omega)) ?_
        rintro v56 w85 l86 ⟨p56, c56, F56, rfl, o56, f56⟩
        have z_l86 := l86.size
        have L := L.tr l86.up
        have B1 := B1.ext l86
        have B4 := B4.ext l86
        have B7 := B7.ext l86
        have JB12 := JB12.ext l86
        have B73 := B73.ext l86
        have B80 := B80.ext l86
        have o48 := o48.ext l86
        have o52 := o52.ext l86
        have o54 := o54.ext l86
        have g56 := o56.lt
        refine s_alloc zr111H7 ?_
        intro b87 w88 lob87 hib87 l89 B87
        have z_l89 := l89.size
        have L := L.tr l89.up
        have B1 := B1.ext l89
        have B4 := B4.ext l89
        have B7 := B7.ext l89
        have JB12 := JB12.ext l89
        have B73 := B73.ext l89
        have B80 := B80.ext l89
        have o48 := o48.ext l89
        have o52 := o52.ext l89
        have o54 := o54.ext l89
        have o56 := o56.ext l89
        refine s_storeAg rfl sz111H7 rfl rfl B87 rfl rfl rfl ?_
        intro w90 l91 el91 B87
        have z_l91 := l91.size
        have L := L.fresh l91 (by omega)
        have B1 := B1.ne l91 (by omega)
        have B4 := B4.ne l91 (by omega)
        have B7 := B7.ne l91 (by omega)
        have JB12 := JB12.ne l91 (by omega)
        have B73 := B73.ne l91 (by omega)
        have B80 := B80.ne l91 (by omega)
        have o48 := o48.ne l91 (by first | assumption | exact nin_of f48 g48 (by omega))
        have o52 := o52.ne l91 (by first | assumption | exact nin_of f52 g52 (by omega))
        have o54 := o54.ne l91 (by first | assumption | exact nin_of f54 g54 (by omega))
        have o56 := o56.ne l91 (by first | assumption | exact nin_of f56 g56 (by omega))
        refine c_end ?_
        refine n_then ?_
        refine wp_seq ?_
        refine c_reg ?_
        refine st (x_loadAgB ag106H7 rfl B73 rfl) ?_
        refine st (x_loadAgB ag42H7 rfl B80 rfl) ?_
        refine s0 (x_move (v := .int _ _) rfl) ?_
        refine s0 (x_move (v := .int _ _) rfl) ?_
        refine st (x_loadAgB ag111H7 rfl B87 rfl) ?_
        refine sp (zcall cl72H7 rfl) (i_putRef _ _ _ _ _ _ _ _ _ _ _ _ _ _ _ _ _ _ _ _ o52.sl o56.sl (by omega) (by omega)) ?_
        rintro v63 w92 l93 ⟨p63, c63, F63, rfl, o63, f63⟩
        have z_l93 := l93.size
        have L := L.tr l93.up
        have B1 := B1.ext l93
        have B4 := B4.ext l93
        have B7 := B7.ext l93
        have JB12 := JB12.ext l93
        have B73 := B73.ext l93
        have B80 := B80.ext l93
        have B87 := B87.ext l93
        have o48 := o48.ext l93
        have o52 := o52.ext l93
        have o54 := o54.ext l93
        have o56 := o56.ext l93
        have g63 := o63.lt
        refine s0 (x_move (v := .tuple _) rfl) ?_
        refine s0 (x_extract rfl rfl) ?_
        refine s0 (x_extract rfl rfl) ?_
        refine s_alloc zr106H7 ?_
        intro b94 w95 lob94 hib94 l96 B94
        have z_l96 := l96.size
        have L := L.tr l96.up
        have B1 := B1.ext l96
        have B4 := B4.ext l96
        have B7 := B7.ext l96
        have JB12 := JB12.ext l96
        have B73 := B73.ext l96
        have B80 := B80.ext l96
        have B87 := B87.ext l96
        have o48 := o48.ext l96
        have o52 := o52.ext l96
        have o54 := o54.ext l96
        have o56 := o56.ext l96
        have o63 := o63.ext l96
        refine s_storeAg rfl sz106H7 rfl rfl B94 rfl rfl rfl ?_
        intro w97 l98 el98 B94
        have z_l98 := l98.size
        have L := L.fresh l98 (by omega)
        have B1 := B1.ne l98 (by omega)
        have B4 := B4.ne l98 (by omega)
        have B7 := B7.ne l98 (by omega)
        have JB12 := JB12.ne l98 (by omega)
        have B73 := B73.ne l98 (by omega)
        have B80 := B80.ne l98 (by omega)
        have B87 := B87.ne l98 (by omega)
        have o48 := o48.ne l98 (by first | assumption | exact nin_of f48 g48 (by omega))
        have o52 := o52.ne l98 (by first | assumption | exact nin_of f52 g52 (by omega))
        have o54 := o54.ne l98 (by first | assumption | exact nin_of f54 g54 (by omega))
        have o56 := o56.ne l98 (by first | assumption | exact nin_of f56 g56 (by omega))
        have o63 := o63.ne l98 (by first | assumption | exact nin_of f63 g63 (by omega))
        refine s0 (x_assign (v := .bool _) rfl) ?_
        refine c_end ?_
        refine n_then ?_
        refine wp_seq ?_
        refine wp_seq ?_
        refine c_reg ?_
        refine st (x_loadAgB ag106H7 rfl B94 rfl) ?_
        refine st (x_loadAgB ag106H7 rfl JB12 rfl) ?_
        refine srb (zcall cl73H7 rfl) (l_eqFrame _ _ _ _ _ _ _ _ _ _ _ _ _ o63.sl o48.sl (by omega)) (fun h68 w99 l100 => ?_) (fun h68 w99 l100 => ?_)
        · have z_l100 := l100.size
          have L := L.tr l100.up
          have B1 := B1.ext l100
          have B4 := B4.ext l100
          have B7 := B7.ext l100
          have JB12 := JB12.ext l100
          have B73 := B73.ext l100
          have B80 := B80.ext l100
          have B87 := B87.ext l100
          have B94 := B94.ext l100
          have o48 := o48.ext l100
          have o52 := o52.ext l100
          have o54 := o54.ext l100
          have o56 := o56.ext l100
          have o63 := o63.ext l100
          refine s0 (x_not rfl) ?_
          refine s0 (x_move (v := .bool _) rfl) ?_
          refine gt rfl rfl rfl rfl ?_
          refine s0 (x_move (v := .bool _) rfl) ?_
          refine gt rfl rfl rfl rfl ?_
          refine s0 (x_move (v := .bool _) rfl) ?_
          refine gt rfl rfl rfl rfl ?_
          refine sb (x_neqb un4H7 rfl rfl) (fun h73 => ?_) (fun h73 => ?_)
          · exact absurd rfl h73
          · refine s0 (x_pickf (v := .bool _) rfl rfl) ?_
            refine c_end ?_
            refine n_then ?_
            refine c_false rfl ?_
            refine c_skipn ?_
            refine n_then ?_
            refine wp_seq ?_
            refine wp_seq ?_
            refine c_plan (fun wq => Exm [] w99 wq) 5 (.cons (0, 1) (.cons (1, 1) (.cons (2, 0) (.cons (3, 0) (.cons (4, 2) .nil))))) (by kernel_rfl) (by kernel_rfl) (Exm.drew _) ?_
            obtain ⟨w101, hwd⟩ : ∃ x, x = w99.drew := ⟨_, rfl⟩
            have l102 : Ext w99 w101 := by rw [hwd]; exact Exm.drew _
            rw [← hwd]; clear hwd
            have Lq : Exm [] w99 w101 := l102.up
            have qB1 := B1
            have qB4 := B4
            have qB7 := B7
            have qJB12 := JB12
            have qB73 := B73
            have qB80 := B80
            have qB87 := B87
            have qB94 := B94
            have qo48 := o48
            have qo52 := o52
            have qo54 := o54
            have qo56 := o56
            have qo63 := o63
            have qL := L
            have z_l102 := l102.size
            have L := L.tr l102.up
            have B1 := B1.ext l102
            have B4 := B4.ext l102
            have B7 := B7.ext l102
            have JB12 := JB12.ext l102
            have B73 := B73.ext l102
            have B80 := B80.ext l102
            have B87 := B87.ext l102
            have B94 := B94.ext l102
            have o48 := o48.ext l102
            have o52 := o52.ext l102
            have o54 := o54.ext l102
            have o56 := o56.ext l102
            have o63 := o63.ext l102
            refine ps rfl (fun wq hwq => x_loadAgB ag106H7 rfl (qB73.ext hwq) rfl) ?_
            refine ps rfl (fun wq hwq => x_loadAgB ag100H7 rfl (qB1.ext hwq) rfl) ?_
            refine pu rfl ?_ (by rintro ⟨_, _, h, _⟩; cases h)
            refine sp (zcall cl69H7 rfl) (l_toFrame _ _ _ _ _ _ _ (hp.ext L) (by omega)) ?_
            rintro v77 w103 l104 ⟨p77, c77, F77, rfl, o77, f77⟩
            have z_l104 := l104.size
            have L := L.tr l104.up
            have Lq := Lq.tr l104.up
            have B1 := B1.ext l104
            have B4 := B4.ext l104
            have B7 := B7.ext l104
            have JB12 := JB12.ext l104
            have B73 := B73.ext l104
            have B80 := B80.ext l104
            have B87 := B87.ext l104
            have B94 := B94.ext l104
            have o48 := o48.ext l104
            have o52 := o52.ext l104
            have o54 := o54.ext l104
            have o56 := o56.ext l104
            have o63 := o63.ext l104
            have g77 := o77.lt
            refine c_end ⟨rfl, fun h hS => Lq, ?_⟩
            refine pu rfl ?_ (by rintro ⟨_, _, h, _⟩; cases h)
            refine srb (zcall cl73H7 rfl) (l_eqFrame _ _ _ _ _ _ _ _ _ _ _ _ _ o52.sl o77.sl (by omega)) (fun h78 w105 l106 => ?_) (fun h78 w105 l106 => ?_)
            · have z_l106 := l106.size
              have L := L.tr l106.up
              have Lq := Lq.tr l106.up
              have B1 := B1.ext l106
              have B4 := B4.ext l106
              have B7 := B7.ext l106
              have JB12 := JB12.ext l106
              have B73 := B73.ext l106
              have B80 := B80.ext l106
              have B87 := B87.ext l106
              have B94 := B94.ext l106
              have o48 := o48.ext l106
              have o52 := o52.ext l106
              have o54 := o54.ext l106
              have o56 := o56.ext l106
              have o63 := o63.ext l106
              have o77 := o77.ext l106
              refine c_end ⟨rfl, fun h hS => Lq, ?_⟩
              refine p0 rfl (x_not rfl) ?_
              refine p_nil (np_normal ?_)
              refine n_then ?_
              refine c_false rfl ?_
              refine c_skipn ?_
              refine n_then ?_
              refine wp_seq ?_
              refine wp_seq ?_
              refine c_plan (fun wq => Exm [] w105 wq) 5 (.cons (0, 1) (.cons (1, 1) (.cons (2, 0) (.cons (3, 0) (.cons (4, 2) .nil))))) (by kernel_rfl) (by kernel_rfl) (Exm.drew _) ?_
              obtain ⟨w107, hwd⟩ : ∃ x, x = w105.drew := ⟨_, rfl⟩
              have l108 : Ext w105 w107 := by rw [hwd]; exact Exm.drew _
              rw [← hwd]; clear hwd
              have Lq : Exm [] w105 w107 := l108.up
              have qB1 := B1
              have qB4 := B4
              have qB7 := B7
              have qJB12 := JB12
              have qB73 := B73
              have qB80 := B80
              have qB87 := B87
              have qB94 := B94
              have qo48 := o48
              have qo52 := o52
              have qo54 := o54
              have qo56 := o56
              have qo63 := o63
              have qo77 := o77
              have qL := L
              have z_l108 := l108.size
              have L := L.tr l108.up
              have B1 := B1.ext l108
              have B4 := B4.ext l108
              have B7 := B7.ext l108
              have JB12 := JB12.ext l108
              have B73 := B73.ext l108
              have B80 := B80.ext l108
              have B87 := B87.ext l108
              have B94 := B94.ext l108
              have o48 := o48.ext l108
              have o52 := o52.ext l108
              have o54 := o54.ext l108
              have o56 := o56.ext l108
              have o63 := o63.ext l108
              have o77 := o77.ext l108
              refine ps rfl (fun wq hwq => x_loadAgB ag42H7 rfl (qB80.ext hwq) rfl) ?_
              refine ps rfl (fun wq hwq => x_loadAgB ag91H7 rfl (qB4.ext hwq) rfl) ?_
              refine pu rfl ?_ (by rintro ⟨_, _, h, _⟩; cases h)
              refine sp (zcall cl70H7 rfl) (l_toHeader _ _ _ _ _ _ _ _ _ (hz.ext L) (by omega)) ?_
              rintro v82 w109 l110 ⟨p82, c82, F82, rfl, o82, f82⟩
              have z_l110 := l110.size
              have L := L.tr l110.up
              have Lq := Lq.tr l110.up
              have B1 := B1.ext l110
              have B4 := B4.ext l110
              have B7 := B7.ext l110
              have JB12 := JB12.ext l110
              have B73 := B73.ext l110
              have B80 := B80.ext l110
              have B87 := B87.ext l110
              have B94 := B94.ext l110
              have o48 := o48.ext l110
              have o52 := o52.ext l110
              have o54 := o54.ext l110
              have o56 := o56.ext l110
              have o63 := o63.ext l110
              have o77 := o77.ext l110
              have g82 := o82.lt
              refine c_end ⟨rfl, fun h hS => Lq, ?_⟩
              refine pu rfl ?_ (by rintro ⟨_, _, h, _⟩; cases h)
              refine srb (zcall cl51H7 rfl) (l_eqHeader _ _ _ _ _ _ _ _ _ _ _ _ _ _ _ _ _ o54.sl o82.sl (by omega)) (fun h83 w111 l112 => ?_) (fun h83 w111 l112 => ?_)
              · have z_l112 := l112.size
                have L := L.tr l112.up
                have Lq := Lq.tr l112.up
                have B1 := B1.ext l112
                have B4 := B4.ext l112
                have B7 := B7.ext l112
                have JB12 := JB12.ext l112
                have B73 := B73.ext l112
                have B80 := B80.ext l112
                have B87 := B87.ext l112
                have B94 := B94.ext l112
                have o48 := o48.ext l112
                have o52 := o52.ext l112
                have o54 := o54.ext l112
                have o56 := o56.ext l112
                have o63 := o63.ext l112
                have o77 := o77.ext l112
                have o82 := o82.ext l112
                refine c_end ⟨rfl, fun h hS => Lq, ?_⟩
                refine p0 rfl (x_not rfl) ?_
                refine p_nil (np_normal ?_)
                refine n_then ?_
                refine c_false rfl ?_
                refine c_skipn ?_
                refine n_then ?_
                refine wp_seq ?_
                refine wp_seq ?_
                refine c_plan (fun wq => Exm [] w111 wq) 5 (.cons (0, 1) (.cons (1, 1) (.cons (2, 0) (.cons (3, 0) (.cons (4, 2) .nil))))) (by kernel_rfl) (by kernel_rfl) (Exm.drew _) ?_
                obtain ⟨w113, hwd⟩ : ∃ x, x = w111.drew := ⟨_, rfl⟩
                have l114 : Ext w111 w113 := by rw [hwd]; exact Exm.drew _
                rw [← hwd]; clear hwd
                have Lq : Exm [] w111 w113 := l114.up
                have qB1 := B1
                have qB4 := B4
                have qB7 := B7
                have qJB12 := JB12
                have qB73 := B73
                have qB80 := B80
                have qB87 := B87
                have qB94 := B94
                have qo48 := o48
                have qo52 := o52
                have qo54 := o54
                have qo56 := o56
                have qo63 := o63
                have qo77 := o77
                have qo82 := o82
                have qL := L
                have z_l114 := l114.size
                have L := L.tr l114.up
                have B1 := B1.ext l114
                have B4 := B4.ext l114
                have B7 := B7.ext l114
                have JB12 := JB12.ext l114
                have B73 := B73.ext l114
                have B80 := B80.ext l114
                have B87 := B87.ext l114
                have B94 := B94.ext l114
                have o48 := o48.ext l114
                have o52 := o52.ext l114
                have o54 := o54.ext l114
                have o56 := o56.ext l114
                have o63 := o63.ext l114
                have o77 := o77.ext l114
                have o82 := o82.ext l114
                refine ps rfl (fun wq hwq => x_loadAgB ag111H7 rfl (qB87.ext hwq) rfl) ?_
                refine ps rfl (fun wq hwq => x_loadAgB ag102H7 rfl (qB7.ext hwq) rfl) ?_
                refine pu rfl ?_ (by rintro ⟨_, _, h, _⟩; cases h)
                refine sp (zcall cl71H7 rfl) (l_toBlock _ _ _ _ _ (hr.ext L) (by omega)) ?_
                rintro v87 w115 l116 ⟨p87, c87, F87, rfl, o87, f87⟩
                have z_l116 := l116.size
                have L := L.tr l116.up
                have Lq := Lq.tr l116.up
                have B1 := B1.ext l116
                have B4 := B4.ext l116
                have B7 := B7.ext l116
                have JB12 := JB12.ext l116
                have B73 := B73.ext l116
                have B80 := B80.ext l116
                have B87 := B87.ext l116
                have B94 := B94.ext l116
                have o48 := o48.ext l116
                have o52 := o52.ext l116
                have o54 := o54.ext l116
                have o56 := o56.ext l116
                have o63 := o63.ext l116
                have o77 := o77.ext l116
                have o82 := o82.ext l116
                have g87 := o87.lt
                refine c_end ⟨rfl, fun h hS => Lq, ?_⟩
                refine pu rfl ?_ (by rintro ⟨_, _, h, _⟩; cases h)
                refine srb (zcall cl74H7 rfl) (l_eqBlock _ _ _ _ _ _ _ _ _ o56.sl o87.sl (by omega)) (fun h88 w117 l118 => ?_) (fun h88 w117 l118 => ?_)
                · have z_l118 := l118.size
                  have L := L.tr l118.up
                  have Lq := Lq.tr l118.up
                  have B1 := B1.ext l118
                  have B4 := B4.ext l118
                  have B7 := B7.ext l118
                  have JB12 := JB12.ext l118
                  have B73 := B73.ext l118
                  have B80 := B80.ext l118
                  have B87 := B87.ext l118
                  have B94 := B94.ext l118
                  have o48 := o48.ext l118
                  have o52 := o52.ext l118
                  have o54 := o54.ext l118
                  have o56 := o56.ext l118
                  have o63 := o63.ext l118
                  have o77 := o77.ext l118
                  have o82 := o82.ext l118
                  have o87 := o87.ext l118
                  refine c_end ⟨rfl, fun h hS => Lq, ?_⟩
                  refine p0 rfl (x_not rfl) ?_
                  refine p_nil (np_normal ?_)
                  refine n_then ?_
                  refine c_false rfl ?_
                  refine c_skipn ?_
                  refine n_then ?_
                  refine wp_seq ?_
                  refine c_reg ?_
                  refine s0 (x_assign (v := .int _ _) rfl) ?_
                  refine c_end ?_
                  refine n_then ?_
                  refine wp_seq ?_
                  refine c_reg ?_
                  refine st (x_loadAgB ag106H7 rfl B73 rfl) ?_
                  refine s0 (x_move (v := .int _ _) rfl) ?_
                  refine spm (zcall cl75H7 rfl) (l_markFrame _ _ _ _ _ _ _ _ _ o52 (by omega) (by omega)) ?_
                  rintro v92 w119 l120 ⟨rfl, o52⟩
                  have z_l120 := l120.size
                  have L := L.freshL l120 f52 (by omega)
                  have B1 := B1.exm l120 (by first | assumption | exact nin_of f52 g52 (by omega))
                  have B4 := B4.exm l120 (by first | assumption | exact nin_of f52 g52 (by omega))
                  have B7 := B7.exm l120 (by first | assumption | exact nin_of f52 g52 (by omega))
                  have JB12 := JB12.exm l120 (by first | assumption | exact nin_of f52 g52 (by omega))
                  have B73 := B73.exm l120 (by first | assumption | exact nin_of f52 g52 (by omega))
                  have B80 := B80.exm l120 (by first | assumption | exact nin_of f52 g52 (by omega))
                  have B87 := B87.exm l120 (by first | assumption | exact nin_of f52 g52 (by omega))
                  have B94 := B94.exm l120 (by first | assumption | exact nin_of f52 g52 (by omega))
                  have o48 := o48.exm l120 (by first | assumption | exact Dj.symm (by assumption) | exact dj_of f52 g52 f48 g48 (by omega))
                  have o54 := o54.exm l120 (by first | assumption | exact Dj.symm (by assumption) | exact dj_of f52 g52 f54 g54 (by omega))
                  have o56 := o56.exm l120 (by first | assumption | exact Dj.symm (by assumption) | exact dj_of f52 g52 f56 g56 (by omega))
                  have o63 := o63.exm l120 (by first | assumption | exact Dj.symm (by assumption) | exact dj_of f52 g52 f63 g63 (by omega))
                  have o77 := o77.exm l120 (by first | assumption | exact Dj.symm (by assumption) | exact dj_of f52 g52 f77 g77 (by omega))
                  have o82 := o82.exm l120 (by first | assumption | exact Dj.symm (by assumption) | exact dj_of f52 g52 f82 g82 (by omega))
                  have o87 := o87.exm l120 (by first | assumption | exact Dj.symm (by assumption) | exact dj_of f52 g52 f87 g87 (by omega))
                  refine s0 (x_assign (v := .int _ _) rfl) ?_
                  refine c_end ?_
                  refine n_then ?_
                  refine wp_seq ?_
                  refine c_reg ?_
                  refine st (x_loadAgB ag42H7 rfl B80 rfl) ?_
                  refine s0 (x_move (v := .int _ _) rfl) ?_
                  refine spm (zcall cl54H7 rfl) (l_markHeader _ _ _ _ _ _ _ _ _ _ _ _ o54 (by omega) (by omega)) ?_
                  rintro v95 w121 l122 ⟨rfl, o54⟩
                  have z_l122 := l122.size
                  have L := L.freshL l122 f54 (by omega)
                  have B1 := B1.exm l122 (by first | assumption | exact nin_of f54 g54 (by omega))
                  have B4 := B4.exm l122 (by first | assumption | exact nin_of f54 g54 (by omega))
                  have B7 := B7.exm l122 (by first | assumption | exact nin_of f54 g54 (by omega))
                  have JB12 := JB12.exm l122 (by first | assumption | exact nin_of f54 g54 (by omega))
                  have B73 := B73.exm l122 (by first | assumption | exact nin_of f54 g54 (by omega))
                  have B80 := B80.exm l122 (by first | assumption | exact nin_of f54 g54 (by omega))
                  have B87 := B87.exm l122 (by first | assumption | exact nin_of f54 g54 (by omega))
                  have B94 := B94.exm l122 (by first | assumption | exact nin_of f54 g54 (by omega))
                  have o48 := o48.exm l122 (by first | assumption | exact Dj.symm (by assumption) | exact dj_of f54 g54 f48 g48 (by omega))
                  have o52 := o52.exm l122 (by first | assumption | exact Dj.symm (by assumption) | exact dj_of f54 g54 f52 g52 (by omega))
                  have o56 := o56.exm l122 (by first | assumption | exact Dj.symm (by assumption) | exact dj_of f54 g54 f56 g56 (by omega))
                  have o63 := o63.exm l122 (by first | assumption | exact Dj.symm (by assumption) | exact dj_of f54 g54 f63 g63 (by omega))
                  have o77 := o77.exm l122 (by first | assumption | exact Dj.symm (by assumption) | exact dj_of f54 g54 f77 g77 (by omega))
                  have o82 := o82.exm l122 (by first | assumption | exact Dj.symm (by assumption) | exact dj_of f54 g54 f82 g82 (by omega))
                  have o87 := o87.exm l122 (by first | assumption | exact Dj.symm (by assumption) | exact dj_of f54 g54 f87 g87 (by omega))
                  refine s0 (x_assign (v := .int _ _) rfl) ?_
                  refine c_end ?_
                  refine n_then ?_
                  refine wp_seq ?_
                  refine c_reg ?_
                  refine st (x_loadAgB ag111H7 rfl B87 rfl) ?_
                  refine s0 (x_move (v := .int _ _) rfl) ?_
                  refine spm (zcall cl76H7 rfl) (l_markBlock _ _ _ _ _ _ _ _ o56 (by omega) (by omega)) ?_
                  rintro v98 w123 l124 ⟨rfl, o56⟩
                  have z_l124 := l124.size
                  have L := L.freshL l124 f56 (by omega)
                  have B1 := B1.exm l124 (by first | assumption | exact nin_of f56 g56 (by omega))
                  have B4 := B4.exm l124 (by first | assumption | exact nin_of f56 g56 (by omega))
                  have B7 := B7.exm l124 (by first | assumption | exact nin_of f56 g56 (by omega))
                  have JB12 := JB12.exm l124 (by first | assumption | exact nin_of f56 g56 (by omega))
                  have B73 := B73.exm l124 (by first | assumption | exact nin_of f56 g56 (by omega))
                  have B80 := B80.exm l124 (by first | assumption | exact nin_of f56 g56 (by omega))
                  have B87 := B87.exm l124 (by first | assumption | exact nin_of f56 g56 (by omega))
                  have B94 := B94.exm l124 (by first | assumption | exact nin_of f56 g56 (by omega))
                  have o48 := o48.exm l124 (by first | assumption | exact Dj.symm (by assumption) | exact dj_of f56 g56 f48 g48 (by omega))
                  have o52 := o52.exm l124 (by first | assumption | exact Dj.symm (by assumption) | exact dj_of f56 g56 f52 g52 (by omega))
                  have o54 := o54.exm l124 (by first | assumption | exact Dj.symm (by assumption) | exact dj_of f56 g56 f54 g54 (by omega))
                  have o63 := o63.exm l124 (by first | assumption | exact Dj.symm (by assumption) | exact dj_of f56 g56 f63 g63 (by omega))
                  have o77 := o77.exm l124 (by first | assumption | exact Dj.symm (by assumption) | exact dj_of f56 g56 f77 g77 (by omega))
                  have o82 := o82.exm l124 (by first | assumption | exact Dj.symm (by assumption) | exact dj_of f56 g56 f82 g82 (by omega))
                  have o87 := o87.exm l124 (by first | assumption | exact Dj.symm (by assumption) | exact dj_of f56 g56 f87 g87 (by omega))
                  refine s0 (x_assign (v := .int _ _) rfl) ?_
                  refine c_end ?_
                  refine n_then ?_
                  refine wp_seq ?_
                  refine wp_seq ?_
                  refine c_reg ?_
                  refine s0 (x_move (v := .int _ _) rfl) ?_
                  refine sb (x_lss rfl rfl) (fun h100 => ?_) (fun h100 => ?_)
                  · omega
                  · refine s0 (x_move (v := .bool _) rfl) ?_
                    refine gt rfl rfl rfl rfl ?_
                    refine st (x_loadAgB ag106H7 rfl B94 rfl) ?_
                    refine gt rfl rfl rfl rfl ?_
                    refine st (x_loadAgB ag106H7 rfl JB12 rfl) ?_
                    refine gt rfl rfl rfl rfl ?_
                    refine srb (zcall cl73H7 rfl) (l_eqFrame _ _ _ _ _ _ _ _ _ _ _ _ _ o63.sl o48.sl (by omega)) (fun h104 w125 l126 => ?_) (fun h104 w125 l126 => ?_)
                    · have z_l126 := l126.size
                      have L := L.tr l126.up
                      have B1 := B1.ext l126
                      have B4 := B4.ext l126
                      have B7 := B7.ext l126
                      have JB12 := JB12.ext l126
                      have B73 := B73.ext l126
                      have B80 := B80.ext l126
                      have B87 := B87.ext l126
                      have B94 := B94.ext l126
                      have o48 := o48.ext l126
                      have o52 := o52.ext l126
                      have o54 := o54.ext l126
                      have o56 := o56.ext l126
                      have o63 := o63.ext l126
                      have o77 := o77.ext l126
                      have o82 := o82.ext l126
                      have o87 := o87.ext l126
                      refine gt rfl rfl rfl rfl ?_
                      refine s0 (x_not rfl) ?_
                      refine s0 (x_pickf (v := .bool _) rfl rfl) ?_
                      refine s0 (x_move (v := .bool _) rfl) ?_
                      refine gt rfl rfl rfl rfl ?_
                      refine s0 (x_move (v := .bool _) rfl) ?_
                      refine gt rfl rfl rfl rfl ?_
                      refine s0 (x_move (v := .bool _) rfl) ?_
                      refine gt rfl rfl rfl rfl ?_
                      refine sb (x_neqb un4H7 rfl rfl) (fun h110 => ?_) (fun h110 => ?_)
                      · exact absurd rfl h110
                      · refine s0 (x_pickf (v := .bool _) rfl rfl) ?_
                        refine c_end ?_
                        refine n_then ?_
                        refine c_false rfl ?_
                        refine c_skipn ?_
                        refine n_then ?_
                        refine wp_seq ?_
                        refine c_reg ?_
                        refine s0 (x_assign (v := .int _ _) rfl) ?_
                        refine c_end ?_
                        refine n_then ?_
                        refine wp_seq ?_
                        refine c_reg ?_
                        refine st (x_loadAgB ag106H7 rfl B94 rfl) ?_
                        refine s0 (x_move (v := .int _ _) rfl) ?_
                        refine spm (zcall cl75H7 rfl) (l_markFrame _ _ _ _ _ _ _ _ _ o63 (by omega) (by omega)) ?_
                        rintro v114 w127 l128 ⟨rfl, o63⟩
                        have z_l128 := l128.size
                        have L := L.freshL l128 f63 (by omega)
                        have B1 := B1.exm l128 (by first | assumption | exact nin_of f63 g63 (by omega))
                        have B4 := B4.exm l128 (by first | assumption | exact nin_of f63 g63 (by omega))
                        have B7 := B7.exm l128 (by first | assumption | exact nin_of f63 g63 (by omega))
                        have JB12 := JB12.exm l128 (by first | assumption | exact nin_of f63 g63 (by omega))
                        have B73 := B73.exm l128 (by first | assumption | exact nin_of f63 g63 (by omega))
                        have B80 := B80.exm l128 (by first | assumption | exact nin_of f63 g63 (by omega))
                        have B87 := B87.exm l128 (by first | assumption | exact nin_of f63 g63 (by omega))
                        have B94 := B94.exm l128 (by first | assumption | exact nin_of f63 g63 (by omega))
                        have o48 := o48.exm l128 (by first | assumption | exact Dj.symm (by assumption) | exact dj_of f63 g63 f48 g48 (by omega))
                        have o52 := o52.exm l128 (by first | assumption | exact Dj.symm (by assumption) | exact dj_of f63 g63 f52 g52 (by omega))
                        have o54 := o54.exm l128 (by first | assumption | exact Dj.symm (by assumption) | exact dj_of f63 g63 f54 g54 (by omega))
                        have o56 := o56.exm l128 (by first | assumption | exact Dj.symm (by assumption) | exact dj_of f63 g63 f56 g56 (by omega))
                        have o77 := o77.exm l128 (by first | assumption | exact Dj.symm (by assumption) | exact dj_of f63 g63 f77 g77 (by omega))
                        have o82 := o82.exm l128 (by first | assumption | exact Dj.symm (by assumption) | exact dj_of f63 g63 f82 g82 (by omega))
                        have o87 := o87.exm l128 (by first | assumption | exact Dj.symm (by assumption) | exact dj_of f63 g63 f87 g87 (by omega))
                        refine s0 (x_assign (v := .int _ _) rfl) ?_
                        refine c_end ?_
                        refine n_then ?_
                        refine wp_seq ?_
                        refine c_reg ?_
                        refine s0 (x_assign (v := .int _ _) rfl) ?_
                        refine c_end ?_
                        refine n_then ?_
                        refine wp_seq ?_
                        refine c_reg ?_
                        refine st (x_loadAgB ag106H7 rfl B94 rfl) ?_
                        refine s0 (x_move (v := .int _ _) rfl) ?_
                        refine sr (zcall cl77H7 rfl) (l_heldFrame _ _ _ _ _ _ _ o63.sl (by omega) (by omega)) ?_
                        intro w129 l130
                        have z_l130 := l130.size
                        have L := L.tr l130.up
                        have B1 := B1.ext l130
                        have B4 := B4.ext l130
                        have B7 := B7.ext l130
                        have JB12 := JB12.ext l130
                        have B73 := B73.ext l130
                        have B80 := B80.ext l130
                        have B87 := B87.ext l130
                        have B94 := B94.ext l130
                        have o48 := o48.ext l130
                        have o52 := o52.ext l130
                        have o54 := o54.ext l130
                        have o56 := o56.ext l130
                        have o63 := o63.ext l130
                        have o77 := o77.ext l130
                        have o82 := o82.ext l130
                        have o87 := o87.ext l130
                        refine s0 (x_assign (v := .int _ _) rfl) ?_
                        refine c_end ?_
                        refine n_then ?_
                        refine wp_seq ?_
                        refine wp_seq ?_
                        refine c_reg ?_
                        refine s0 (x_move (v := .int _ _) rfl) ?_
                        refine sb (x_lss rfl rfl) (fun h119 => ?_) (fun h119 => ?_)
                        · omega
                        · refine c_end ?_
                          refine n_then ?_
                          refine c_false rfl ?_
                          refine c_skipn ?_
                          refine n_then ?_
                          refine wp_seq ?_
                          refine wp_seq ?_
                          refine c_reg ?_
                          refine s0 (x_move (v := .int _ _) rfl) ?_
                          refine s0 (x_move (v := .int _ _) rfl) ?_
                          refine sb (x_neq rfl rfl) (fun h122 => ?_) (fun h122 => ?_)
                          · exact absurd rfl h122
                          · refine c_end ?_
                            refine n_then ?_
                            refine c_false rfl ?_
                            refine c_skipn ?_
                            refine n_then ?_
                            refine wp_seq ?_
                            refine c_plan (fun wq => Exm [] w129 wq) 15 (.cons (0, 1) (.cons (2, 1) (.cons (4, 2) (.cons (5, 2) (.cons (6, 1) (.fork 1 12 (.fork 3 12 (.fork 7 12 (.fork 8 12 (.cons (9, 2) (.cons (10, 2) (.cons (11, 2) (.cons (12, 0) (.cons (13, 0) (.cons (14, 2) .nil)))))) (.cons (8, 0) (.cons (9, 2) (.cons (10, 2) (.cons (11, 2) (.cons (13, 0) (.cons (14, 2) .nil))))))) (.cons (7, 0) (.cons (8, 0) (.cons (9, 2) (.cons (10, 2) (.cons (11, 2) (.cons (13, 0) (.cons (14, 2) .nil)))))))) (.cons (3, 0) (.cons (7, 0) (.cons (8, 0) (.cons (9, 2) (.cons (10, 2) (.cons (11, 2) (.cons (13, 0) (.cons (14, 2) .nil))))))))) (.cons (1, 0) (.cons (3, 0) (.cons (7, 0) (.cons (8, 0) (.cons (9, 2) (.cons (10, 2) (.cons (11, 2) (.cons (13, 0) (.cons (14, 2) .nil))))))))))))))) (by kernel_rfl) (by kernel_rfl) (Exm.drew _) ?_
                            obtain ⟨w131, hwd⟩ : ∃ x, x = w129.drew := ⟨_, rfl⟩
                            have l132 : Ext w129 w131 := by rw [hwd]; exact Exm.drew _
                            rw [← hwd]; clear hwd
                            have Lq : Exm [] w129 w131 := l132.up
                            have qB1 := B1
                            have qB4 := B4
                            have qB7 := B7
                            have qJB12 := JB12
                            have qB73 := B73
                            have qB80 := B80
                            have qB87 := B87
                            have qB94 := B94
                            have qo48 := o48
                            have qo52 := o52
                            have qo54 := o54
                            have qo56 := o56
                            have qo63 := o63
                            have qo77 := o77
                            have qo82 := o82
                            have qo87 := o87
                            have qL := L
                            have z_l132 := l132.size
                            have L := L.tr l132.up
                            have B1 := B1.ext l132
                            have B4 := B4.ext l132
                            have B7 := B7.ext l132
                            have JB12 := JB12.ext l132
                            have B73 := B73.ext l132
                            have B80 := B80.ext l132
                            have B87 := B87.ext l132
                            have B94 := B94.ext l132
                            have o48 := o48.ext l132
                            have o52 := o52.ext l132
                            have o54 := o54.ext l132
                            have o56 := o56.ext l132
                            have o63 := o63.ext l132
                            have o77 := o77.ext l132
                            have o82 := o82.ext l132
                            have o87 := o87.ext l132
                            refine ps rfl (fun wq hwq => x_loadAgB ag100H7 rfl (qB1.ext hwq) rfl) ?_
                            refine ps rfl (fun wq hwq => x_loadAgB ag91H7 rfl (qB4.ext hwq) rfl) ?_
                            refine p0 rfl (x_move (v := .int _ _) rfl) ?_
                            refine p0 rfl (x_move (v := .int _ _) rfl) ?_
                            refine ps rfl (fun wq hwq => x_loadAgB ag102H7 rfl (qB7.ext hwq) rfl) ?_
                            refine pfork ?_ ?_
                            · refine pu rfl ?_ (by rintro ⟨_, _, h, _⟩; cases h)
                              refine sp (zcall cl69H7 rfl) (l_toFrame _ _ _ _ _ _ _ (hp.ext L) (by omega)) ?_
                              rintro v125 w133 l134 ⟨p125, c125, F125, rfl, o125, f125⟩
                              have z_l134 := l134.size
                              have L := L.tr l134.up
                              have Lq := Lq.tr l134.up
                              have B1 := B1.ext l134
                              have B4 := B4.ext l134
                              have B7 := B7.ext l134
                              have JB12 := JB12.ext l134
                              have B73 := B73.ext l134
                              have B80 := B80.ext l134
                              have B87 := B87.ext l134
                              have B94 := B94.ext l134
                              have o48 := o48.ext l134
                              have o52 := o52.ext l134
                              have o54 := o54.ext l134
                              have o56 := o56.ext l134
                              have o63 := o63.ext l134
                              have o77 := o77.ext l134
                              have o82 := o82.ext l134
                              have o87 := o87.ext l134
                              have g125 := o125.lt
                              refine c_end ⟨rfl, fun h hS => Lq, ?_⟩
                              refine pfork ?_ ?_
                              · refine pu rfl ?_ (by rintro ⟨_, _, h, _⟩; cases h)
                                refine sp (zcall cl70H7 rfl) (l_toHeader _ _ _ _ _ _ _ _ _ (hz.ext L) (by omega)) ?_
                                rintro v127 w135 l136 ⟨p127, c127, F127, rfl, o127, f127⟩
                                have z_l136 := l136.size
                                have L := L.tr l136.up
                                have Lq := Lq.tr l136.up
                                have B1 := B1.ext l136
                                have B4 := B4.ext l136
                                have B7 := B7.ext l136
                                have JB12 := JB12.ext l136
                                have B73 := B73.ext l136
                                have B80 := B80.ext l136
                                have B87 := B87.ext l136
                                have B94 := B94.ext l136
                                have o48 := o48.ext l136
                                have o52 := o52.ext l136
                                have o54 := o54.ext l136
                                have o56 := o56.ext l136
                                have o63 := o63.ext l136
                                have o77 := o77.ext l136
                                have o82 := o82.ext l136
                                have o87 := o87.ext l136
                                have o125 := o125.ext l136
                                have g127 := o127.lt
                                refine c_end ⟨rfl, fun h hS => Lq, ?_⟩
                                refine pfork ?_ ?_
                                · refine pu rfl ?_ (by rintro ⟨_, _, h, _⟩; cases h)
                                  refine sp (zcall cl71H7 rfl) (l_toBlock _ _ _ _ _ (hr.ext L) (by omega)) ?_
                                  rintro v131 w137 l138 ⟨p131, c131, F131, rfl, o131, f131⟩
                                  have z_l138 := l138.size
                                  have L := L.tr l138.up
                                  have Lq := Lq.tr l138.up
                                  have B1 := B1.ext l138
                                  have B4 := B4.ext l138
                                  have B7 := B7.ext l138
                                  have JB12 := JB12.ext l138
                                  have B73 := B73.ext l138
                                  have B80 := B80.ext l138
                                  have B87 := B87.ext l138
                                  have B94 := B94.ext l138
                                  have o48 := o48.ext l138
                                  have o52 := o52.ext l138
                                  have o54 := o54.ext l138
                                  have o56 := o56.ext l138
                                  have o63 := o63.ext l138
                                  have o77 := o77.ext l138
                                  have o82 := o82.ext l138
                                  have o87 := o87.ext l138
                                  have o125 := o125.ext l138
                                  have o127 := o127.ext l138
                                  have g131 := o131.lt
                                  refine c_end ⟨rfl, fun h hS => Lq, ?_⟩
                                  refine pfork ?_ ?_
                                  · refine pu rfl ?_ (by rintro ⟨_, _, h, _⟩; cases h)
                                    refine sp (zcall cl72H7 rfl) (i_putRef _ _ _ _ _ _ _ _ _ _ _ _ _ _ _ _ _ _ _ _ o125.sl o131.sl (by omega) (by omega)) ?_
                                    rintro v132 w139 l140 ⟨p132, c132, F132, rfl, o132, f132⟩
                                    have z_l140 := l140.size
                                    have L := L.tr l140.up
                                    have Lq := Lq.tr l140.up
                                    have B1 := B1.ext l140
                                    have B4 := B4.ext l140
                                    have B7 := B7.ext l140
                                    have JB12 := JB12.ext l140
                                    have B73 := B73.ext l140
                                    have B80 := B80.ext l140
                                    have B87 := B87.ext l140
                                    have B94 := B94.ext l140
                                    have o48 := o48.ext l140
                                    have o52 := o52.ext l140
                                    have o54 := o54.ext l140
                                    have o56 := o56.ext l140
                                    have o63 := o63.ext l140
                                    have o77 := o77.ext l140
                                    have o82 := o82.ext l140
                                    have o87 := o87.ext l140
                                    have o125 := o125.ext l140
                                    have o127 := o127.ext l140
                                    have o131 := o131.ext l140
                                    have g132 := o132.lt
                                    refine c_end ⟨rfl, fun h hS => Lq, ?_⟩
                                    refine p0 rfl (x_move (v := .tuple _) rfl) ?_
                                    refine p0 rfl (x_extract rfl rfl) ?_
                                    refine p0 rfl (x_extract rfl rfl) ?_
                                    refine pu rfl ?_ (by rintro ⟨_, _, h, _⟩; cases h)
                                    refine s_alloc zr106H7 ?_
                                    intro b141 w142 lob141 hib141 l143 B141
                                    have z_l143 := l143.size
                                    have L := L.tr l143.up
                                    have Lq := Lq.tr l143.up
                                    have B1 := B1.ext l143
                                    have B4 := B4.ext l143
                                    have B7 := B7.ext l143
                                    have JB12 := JB12.ext l143
                                    have B73 := B73.ext l143
                                    have B80 := B80.ext l143
                                    have B87 := B87.ext l143
                                    have B94 := B94.ext l143
                                    have o48 := o48.ext l143
                                    have o52 := o52.ext l143
                                    have o54 := o54.ext l143
                                    have o56 := o56.ext l143
                                    have o63 := o63.ext l143
                                    have o77 := o77.ext l143
                                    have o82 := o82.ext l143
                                    have o87 := o87.ext l143
                                    have o125 := o125.ext l143
                                    have o127 := o127.ext l143
                                    have o131 := o131.ext l143
                                    have o132 := o132.ext l143
                                    refine c_end ⟨rfl, fun h hS => Lq, ?_⟩
                                    refine pu rfl ?_ (by rintro ⟨_, _, h, _⟩; cases h)
                                    refine s_storeAg rfl sz106H7 rfl rfl B141 rfl rfl rfl ?_
                                    intro w144 l145 el145 B141
                                    have z_l145 := l145.size
                                    have L := L.fresh l145 (by omega)
                                    have Lq := Lq.fresh l145 (by omega)
                                    have B1 := B1.ne l145 (by omega)
                                    have B4 := B4.ne l145 (by omega)
                                    have B7 := B7.ne l145 (by omega)
                                    have JB12 := JB12.ne l145 (by omega)
                                    have B73 := B73.ne l145 (by omega)
                                    have B80 := B80.ne l145 (by omega)
                                    have B87 := B87.ne l145 (by omega)
                                    have B94 := B94.ne l145 (by omega)
                                    have o48 := o48.ne l145 (by first | assumption | exact nin_of f48 g48 (by omega))
                                    have o52 := o52.ne l145 (by first | assumption | exact nin_of f52 g52 (by omega))
                                    have o54 := o54.ne l145 (by first | assumption | exact nin_of f54 g54 (by omega))
                                    have o56 := o56.ne l145 (by first | assumption | exact nin_of f56 g56 (by omega))
                                    have o63 := o63.ne l145 (by first | assumption | exact nin_of f63 g63 (by omega))
                                    have o77 := o77.ne l145 (by first | assumption | exact nin_of f77 g77 (by omega))
                                    have o82 := o82.ne l145 (by first | assumption | exact nin_of f82 g82 (by omega))
                                    have o87 := o87.ne l145 (by first | assumption | exact nin_of f87 g87 (by omega))
                                    have o125 := o125.ne l145 (by first | assumption | exact nin_of f125 g125 (by omega))
                                    have o127 := o127.ne l145 (by first | assumption | exact nin_of f127 g127 (by omega))
                                    have o131 := o131.ne l145 (by first | assumption | exact nin_of f131 g131 (by omega))
                                    have o132 := o132.ne l145 (by first | assumption | exact nin_of f132 g132 (by omega))
                                    refine c_end ⟨rfl, fun h hS => Lq, ?_⟩
                                    refine p0 rfl (x_assign (v := .bool _) rfl) ?_
                                    refine p_nil (np_normal ?_)
                                    refine n_then ?_
                                    refine wp_seq ?_
                                    refine wp_seq ?_
                                    refine c_reg ?_
                                    refine st (x_loadAgB ag106H7 rfl B141 rfl) ?_
                                    refine st (x_loadAgB ag106H7 rfl JB12 rfl) ?_
                                    refine srb (zcall cl73H7 rfl) (l_eqFrame _ _ _ _ _ _ _ _ _ _ _ _ _ o132.sl o48.sl (by omega)) (fun h137 w146 l147 => ?_) (fun h137 w146 l147 => ?_)
                                    · have z_l147 := l147.size
                                      have L := L.tr l147.up
                                      have B1 := B1.ext l147
                                      have B4 := B4.ext l147
                                      have B7 := B7.ext l147
                                      have JB12 := JB12.ext l147
                                      have B73 := B73.ext l147
                                      have B80 := B80.ext l147
                                      have B87 := B87.ext l147
                                      have B94 := B94.ext l147
                                      have B141 := B141.ext l147
                                      have o48 := o48.ext l147
                                      have o52 := o52.ext l147
                                      have o54 := o54.ext l147
                                      have o56 := o56.ext l147
                                      have o63 := o63.ext l147
                                      have o77 := o77.ext l147
                                      have o82 := o82.ext l147
                                      have o87 := o87.ext l147
                                      have o125 := o125.ext l147
                                      have o127 := o127.ext l147
                                      have o131 := o131.ext l147
                                      have o132 := o132.ext l147
                                      refine s0 (x_not rfl) ?_
                                      refine s0 (x_move (v := .bool _) rfl) ?_
                                      refine gt rfl rfl rfl rfl ?_
                                      refine s0 (x_move (v := .bool _) rfl) ?_
                                      refine gt rfl rfl rfl rfl ?_
                                      refine s0 (x_move (v := .bool _) rfl) ?_
                                      refine gt rfl rfl rfl rfl ?_
                                      refine sb (x_neqb un4H7 rfl rfl) (fun h142 => ?_) (fun h142 => ?_)
                                      · exact absurd rfl h142
                                      · refine s0 (x_pickf (v := .bool _) rfl rfl) ?_
                                        refine c_end ?_
                                        refine n_then ?_
                                        refine c_false rfl ?_
                                        refine c_skipn ?_
                                        refine n_then ?_
                                        refine wp_seq ?_
                                        refine c_reg ?_
                                        refine s0 (x_assign (v := .int _ _) rfl) ?_
                                        refine c_end ?_
                                        refine n_then ?_
                                        refine wp_seq ?_
                                        refine c_reg ?_
                                        refine st (x_loadAgB ag106H7 rfl B94 rfl) ?_
                                        refine s0 (x_move (v := .int _ _) rfl) ?_
                                        refine sr (zcall cl77H7 rfl) (l_heldFrame _ _ _ _ _ _ _ o63.sl (by omega) (by omega)) ?_
                                        intro w148 l149
                                        have z_l149 := l149.size
                                        have L := L.tr l149.up
                                        have B1 := B1.ext l149
                                        have B4 := B4.ext l149
                                        have B7 := B7.ext l149
                                        have JB12 := JB12.ext l149
                                        have B73 := B73.ext l149
                                        have B80 := B80.ext l149
                                        have B87 := B87.ext l149
                                        have B94 := B94.ext l149
                                        have B141 := B141.ext l149
                                        have o48 := o48.ext l149
                                        have o52 := o52.ext l149
                                        have o54 := o54.ext l149
                                        have o56 := o56.ext l149
                                        have o63 := o63.ext l149
                                        have o77 := o77.ext l149
                                        have o82 := o82.ext l149
                                        have o87 := o87.ext l149
                                        have o125 := o125.ext l149
                                        have o127 := o127.ext l149
                                        have o131 := o131.ext l149
                                        have o132 := o132.ext l149
                                        refine s0 (x_assign (v := .int _ _) rfl) ?_
                                        refine c_end ?_
                                        refine n_then ?_
                                        refine wp_seq ?_
                                        refine wp_seq ?_
                                        refine c_reg ?_
                                        refine s0 (x_move (v := .int _ _) rfl) ?_
                                        refine sb (x_lss rfl rfl) (fun h148 => ?_) (fun h148 => ?_)
                                        · omega
                                        · refine c_end ?_
                                          refine n_then ?_
                                          refine c_false rfl ?_
                                          refine c_skipn ?_
                                          refine n_then ?_
                                          refine wp_seq ?_
                                          refine wp_seq ?_
                                          refine c_reg ?_
                                          refine s0 (x_move (v := .int _ _) rfl) ?_
                                          refine s0 (x_move (v := .int _ _) rfl) ?_
                                          refine sb (x_neq rfl rfl) (fun h151 => ?_) (fun h151 => ?_)
                                          · exact absurd rfl h151
                                          · refine c_end ?_
                                            refine n_then ?_
                                            refine c_false rfl ?_
                                            refine c_skipn ?_
                                            refine n_then ?_
                                            refine wp_seq ?_
                                            refine c_reg ?_
                                            refine s0 (x_assign (v := .bool _) rfl) ?_
                                            refine c_end ?_
                                            refine n_then ?_
                                            refine wp_ret ?_
                                            refine f_ret rfl rfl ?_
                                            exact ⟨rfl, L⟩
                                    · exact (h137 (by simp)).elim
                                  · refine pu rfl ?_ (by rintro ⟨_, _, h, _⟩; cases h)
                                    refine s_alloc zr106H7 ?_
                                    intro b150 w151 lob150 hib150 l152 B150
                                    have z_l152 := l152.size
                                    have L := L.tr l152.up
                                    have Lq := Lq.tr l152.up
                                    have B1 := B1.ext l152
                                    have B4 := B4.ext l152
                                    have B7 := B7.ext l152
                                    have JB12 := JB12.ext l152
                                    have B73 := B73.ext l152
                                    have B80 := B80.ext l152
                                    have B87 := B87.ext l152
                                    have B94 := B94.ext l152
                                    have o48 := o48.ext l152
                                    have o52 := o52.ext l152
                                    have o54 := o54.ext l152
                                    have o56 := o56.ext l152
                                    have o63 := o63.ext l152
                                    have o77 := o77.ext l152
                                    have o82 := o82.ext l152
                                    have o87 := o87.ext l152
                                    have o125 := o125.ext l152
                                    have o127 := o127.ext l152
                                    have o131 := o131.ext l152
                                    refine c_end ⟨rfl, fun h hS => Lq, ?_⟩
                                    refine pu rfl ?_ (by rintro ⟨_, _, h, _⟩; cases h)
                                    refine sp (zcall cl72H7 rfl) (i_putRef _ _ _ _ _ _ _ _ _ _ _ _ _ _ _ _ _ _ _ _ o125.sl o131.sl (by omega) (by omega)) ?_
                                    rintro v132 w153 l154 ⟨p132, c132, F132, rfl, o132, f132⟩
                                    have z_l154 := l154.size
                                    have L := L.tr l154.up
                                    have Lq := Lq.tr l154.up
                                    have B1 := B1.ext l154
                                    have B4 := B4.ext l154
                                    have B7 := B7.ext l154
                                    have JB12 := JB12.ext l154
                                    have B73 := B73.ext l154
                                    have B80 := B80.ext l154
                                    have B87 := B87.ext l154
                                    have B94 := B94.ext l154
                                    have B150 := B150.ext l154
                                    have o48 := o48.ext l154
                                    have o52 := o52.ext l154
                                    have o54 := o54.ext l154
                                    have o56 := o56.ext l154
                                    have o63 := o63.ext l154
                                    have o77 := o77.ext l154
                                    have o82 := o82.ext l154
                                    have o87 := o87.ext l154
                                    have o125 := o125.ext l154
                                    have o127 := o127.ext l154
                                    have o131 := o131.ext l154
                                    have g132 := o132.lt
                                    refine c_end ⟨rfl, fun h hS => Lq, ?_⟩
                                    refine p0 rfl (x_move (v := .tuple _) rfl) ?_
                                    refine p0 rfl (x_extract rfl rfl) ?_
                                    refine p0 rfl (x_extract rfl rfl) ?_
                                    refine pu rfl ?_ (by rintro ⟨_, _, h, _⟩; cases h)
                                    refine s_storeAg rfl sz106H7 rfl rfl B150 rfl rfl rfl ?_
                                    intro w155 l156 el156 B150
                                    have z_l156 := l156.size
                                    have L := L.fresh l156 (by omega)
                                    have Lq := Lq.fresh l156 (by omega)
                                    have B1 := B1.ne l156 (by omega)
                                    have B4 := B4.ne l156 (by omega)
                                    have B7 := B7.ne l156 (by omega)
                                    have JB12 := JB12.ne l156 (by omega)
                                    have B73 := B73.ne l156 (by omega)
                                    have B80 := B80.ne l156 (by omega)
                                    have B87 := B87.ne l156 (by omega)
                                    have B94 := B94.ne l156 (by omega)
                                    have o48 := o48.ne l156 (by first | assumption | exact nin_of f48 g48 (by omega))
                                    have o52 := o52.ne l156 (by first | assumption | exact nin_of f52 g52 (by omega))
                                    have o54 := o54.ne l156 (by first | assumption | exact nin_of f54 g54 (by omega))
                                    have o56 := o56.ne l156 (by first | assumption | exact nin_of f56 g56 (by omega))
                                    have o63 := o63.ne l156 (by first | assumption | exact nin_of f63 g63 (by omega))
                                    have o77 := o77.ne l156 (by first | assumption | exact nin_of f77 g77 (by omega))
                                    have o82 := o82.ne l156 (by first | assumption | exact nin_of f82 g82 (by omega))
                                    have o87 := o87.ne l156 (by first | assumption | exact nin_of f87 g87 (by omega))
                                    have o125 := o125.ne l156 (by first | assumption | exact nin_of f125 g125 (by omega))
                                    have o127 := o127.ne l156 (by first | assumption | exact nin_of f127 g127 (by omega))
                                    have o131 := o131.ne l156 (by first | assumption | exact nin_of f131 g131 (by omega))
                                    have o132 := o132.ne l156 (by first | assumption | exact nin_of f132 g132 (by omega))
                                    refine c_end ⟨rfl, fun h hS => Lq, ?_⟩
                                    refine p0 rfl (x_assign (v := .bool _) rfl) ?_
                                    refine p_nil (np_normal ?_)
                                    refine n_then ?_
                                    refine wp_seq ?_
                                    refine wp_seq ?_
                                    refine c_reg ?_
                                    refine st (x_loadAgB ag106H7 rfl B150 rfl) ?_
                                    refine st (x_loadAgB ag106H7 rfl JB12 rfl) ?_
                                    refine srb (zcall cl73H7 rfl) (l_eqFrame _ _ _ _ _ _ _ _ _ _ _ _ _ o132.sl o48.sl (by omega)) (fun h137 w157 l158 => ?_) (fun h137 w157 l158 => ?_)
                                    · have z_l158 := l158.size
                                      have L := L.tr l158.up
                                      have B1 := B1.ext l158
                                      have B4 := B4.ext l158
                                      have B7 := B7.ext l158
                                      have JB12 := JB12.ext l158
                                      have B73 := B73.ext l158
                                      have B80 := B80.ext l158
                                      have B87 := B87.ext l158
                                      have B94 := B94.ext l158
                                      have B150 := B150.ext l158
                                      have o48 := o48.ext l158
                                      have o52 := o52.ext l158
                                      have o54 := o54.ext l158
                                      have o56 := o56.ext l158
                                      have o63 := o63.ext l158
                                      have o77 := o77.ext l158
                                      have o82 := o82.ext l158
                                      have o87 := o87.ext l158
                                      have o125 := o125.ext l158
                                      have o127 := o127.ext l158
                                      have o131 := o131.ext l158
                                      have o132 := o132.ext l158
                                      refine s0 (x_not rfl) ?_
                                      refine s0 (x_move (v := .bool _) rfl) ?_
                                      refine gt rfl rfl rfl rfl ?_
                                      refine s0 (x_move (v := .bool _) rfl) ?_
                                      refine gt rfl rfl rfl rfl ?_
                                      refine s0 (x_move (v := .bool _) rfl) ?_
                                      refine gt rfl rfl rfl rfl ?_
                                      refine sb (x_neqb un4H7 rfl rfl) (fun h142 => ?_) (fun h142 => ?_)
                                      · exact absurd rfl h142
                                      · refine s0 (x_pickf (v := .bool _) rfl rfl) ?_
                                        refine c_end ?_
                                        refine n_then ?_
                                        refine c_false rfl ?_
                                        refine c_skipn ?_
                                        refine n_then ?_
                                        refine wp_seq ?_
                                        refine c_reg ?_
                                        refine s0 (x_assign (v := .int _ _) rfl) ?_
                                        refine c_end ?_
                                        refine n_then ?_
                                        refine wp_seq ?_
                                        refine c_reg ?_
                                        refine st (x_loadAgB ag106H7 rfl B94 rfl) ?_
                                        refine s0 (x_move (v := .int _ _) rfl) ?_
                                        refine sr (zcall cl77H7 rfl) (l_heldFrame _ _ _ _ _ _ _ o63.sl (by omega) (by omega)) ?_
                                        intro w159 l160
                                        have z_l160 := l160.size
                                        have L := L.tr l160.up
                                        have B1 := B1.ext l160
                                        have B4 := B4.ext l160
                                        have B7 := B7.ext l160
                                        have JB12 := JB12.ext l160
                                        have B73 := B73.ext l160
                                        have B80 := B80.ext l160
                                        have B87 := B87.ext l160
                                        have B94 := B94.ext l160
                                        have B150 := B150.ext l160
                                        have o48 := o48.ext l160
                                        have o52 := o52.ext l160
                                        have o54 := o54.ext l160
                                        have o56 := o56.ext l160
                                        have o63 := o63.ext l160
                                        have o77 := o77.ext l160
                                        have o82 := o82.ext l160
                                        have o87 := o87.ext l160
                                        have o125 := o125.ext l160
                                        have o127 := o127.ext l160
                                        have o131 := o131.ext l160
                                        have o132 := o132.ext l160
                                        refine s0 (x_assign (v := .int _ _) rfl) ?_
                                        refine c_end ?_
                                        refine n_then ?_
                                        refine wp_seq ?_
                                        refine wp_seq ?_
                                        refine c_reg ?_
                                        refine s0 (x_move (v := .int _ _) rfl) ?_
                                        refine sb (x_lss rfl rfl) (fun h148 => ?_) (fun h148 => ?_)
                                        · omega
                                        · refine c_end ?_
                                          refine n_then ?_
                                          refine c_false rfl ?_
                                          refine c_skipn ?_
                                          refine n_then ?_
                                          refine wp_seq ?_
                                          refine wp_seq ?_
                                          refine c_reg ?_
                                          refine s0 (x_move (v := .int _ _) rfl) ?_
                                          refine s0 (x_move (v := .int _ _) rfl) ?_
                                          refine sb (x_neq rfl rfl) (fun h151 => ?_) (fun h151 => ?_)
                                          · exact absurd rfl h151
                                          · refine c_end ?_
                                            refine n_then ?_
                                            refine c_false rfl ?_
                                            refine c_skipn ?_
                                            refine n_then ?_
                                            refine wp_seq ?_
                                            refine c_reg ?_
                                            refine s0 (x_assign (v := .bool _) rfl) ?_
                                            refine c_end ?_
                                            refine n_then ?_
                                            refine wp_ret ?_
                                            refine f_ret rfl rfl ?_
                                            exact ⟨rfl, L⟩
                                    · exact (h137 (by simp)).elim
                                · refine pu rfl ?_ (by rintro ⟨_, _, h, _⟩; cases h)
                                  refine s_alloc zr106H7 ?_
                                  intro b161 w162 lob161 hib161 l163 B161
                                  have z_l163 := l163.size
                                  have L := L.tr l163.up
                                  have Lq := Lq.tr l163.up
                                  have B1 := B1.ext l163
                                  have B4 := B4.ext l163
                                  have B7 := B7.ext l163
                                  have JB12 := JB12.ext l163
                                  have B73 := B73.ext l163
                                  have B80 := B80.ext l163
                                  have B87 := B87.ext l163
                                  have B94 := B94.ext l163
                                  have o48 := o48.ext l163
                                  have o52 := o52.ext l163
                                  have o54 := o54.ext l163
                                  have o56 := o56.ext l163
                                  have o63 := o63.ext l163
                                  have o77 := o77.ext l163
                                  have o82 := o82.ext l163
                                  have o87 := o87.ext l163
                                  have o125 := o125.ext l163
                                  have o127 := o127.ext l163
                                  refine c_end ⟨rfl, fun h hS => Lq, ?_⟩
                                  refine pu rfl ?_ (by rintro ⟨_, _, h, _⟩; cases h)
                                  refine sp (zcall cl71H7 rfl) (l_toBlock _ _ _ _ _ (hr.ext L) (by omega)) ?_
                                  rintro v131 w164 l165 ⟨p131, c131, F131, rfl, o131, f131⟩
                                  have z_l165 := l165.size
                                  have L := L.tr l165.up
                                  have Lq := Lq.tr l165.up
                                  have B1 := B1.ext l165
                                  have B4 := B4.ext l165
                                  have B7 := B7.ext l165
                                  have JB12 := JB12.ext l165
                                  have B73 := B73.ext l165
                                  have B80 := B80.ext l165
                                  have B87 := B87.ext l165
                                  have B94 := B94.ext l165
                                  have B161 := B161.ext l165
                                  have o48 := o48.ext l165
                                  have o52 := o52.ext l165
                                  have o54 := o54.ext l165
                                  have o56 := o56.ext l165
                                  have o63 := o63.ext l165
                                  have o77 := o77.ext l165
                                  have o82 := o82.ext l165
                                  have o87 := o87.ext l165
                                  have o125 := o125.ext l165
                                  have o127 := o127.ext l165
                                  have g131 := o131.lt
                                  refine c_end ⟨rfl, fun h hS => Lq, ?_⟩
                                  refine pu rfl ?_ (by rintro ⟨_, _, h, _⟩; cases h)
                                  refine sp (zcall cl72H7 rfl) (i_putRef _ _ _ _ _ _ _ _ _ _ _ _ _ _ _ _ _ _ _ _ o125.sl o131.sl (by omega) (by omega)) ?_
                                  rintro v132 w166 l167 ⟨p132, c132, F132, rfl, o132, f132⟩
                                  have z_l167 := l167.size
                                  have L := L.tr l167.up
                                  have Lq := Lq.tr l167.up
                                  have B1 := B1.ext l167
                                  have B4 := B4.ext l167
                                  have B7 := B7.ext l167
                                  have JB12 := JB12.ext l167
                                  have B73 := B73.ext l167
                                  have B80 := B80.ext l167
                                  have B87 := B87.ext l167
                                  have B94 := B94.ext l167
                                  have B161 := B161.ext l167
                                  have o48 := o48.ext l167
                                  have o52 := o52.ext l167
                                  have o54 := o54.ext l167
                                  have o56 := o56.ext l167
                                  have o63 := o63.ext l167
                                  have o77 := o77.ext l167
                                  have o82 := o82.ext l167
                                  have o87 := o87.ext l167
                                  have o125 := o125.ext l167
                                  have o127 := o127.ext l167
                                  have o131 := o131.ext l167
                                  have g132 := o132.lt
                                  refine c_end ⟨rfl, fun h hS => Lq, ?_⟩
                                  refine p0 rfl (x_move (v := .tuple _) rfl) ?_
                                  refine p0 rfl (x_extract rfl rfl) ?_
                                  refine p0 rfl (x_extract rfl rfl) ?_
                                  refine pu rfl ?_ (by rintro ⟨_, _, h, _⟩; cases h)
                                  refine s_storeAg rfl sz106H7 rfl rfl B161 rfl rfl rfl ?_
                                  intro w168 l169 el169 B161
                                  have z_l169 := l169.size
                                  have L := L.fresh l169 (by omega)
                                  have Lq := Lq.fresh l169 (by omega)
                                  have B1 := B1.ne l169 (by omega)
                                  have B4 := B4.ne l169 (by omega)
                                  have B7 := B7.ne l169 (by omega)
                                  have JB12 := JB12.ne l169 (by omega)
                                  have B73 := B73.ne l169 (by omega)
                                  have B80 := B80.ne l169 (by omega)
                                  have B87 := B87.ne l169 (by omega)
                                  have B94 := B94.ne l169 (by omega)
                                  have o48 := o48.ne l169 (by first | assumption | exact nin_of f48 g48 (by omega))
                                  have o52 := o52.ne l169 (by first | assumption | exact nin_of f52 g52 (by omega))
                                  have o54 := o54.ne l169 (by first | assumption | exact nin_of f54 g54 (by omega))
                                  have o56 := o56.ne l169 (by first | assumption | exact nin_of f56 g56 (by omega))
                                  have o63 := o63.ne l169 (by first | assumption | exact nin_of f63 g63 (by omega))
                                  have o77 := o77.ne l169 (by first | assumption | exact nin_of f77 g77 (by omega))
                                  have o82 := o82.ne l169 (by first | assumption | exact nin_of f82 g82 (by omega))
                                  have o87 := o87.ne l169 (by first | assumption | exact nin_of f87 g87 (by omega))
                                  have o125 := o125.ne l169 (by first | assumption | exact nin_of f125 g125 (by omega))
                                  have o127 := o127.ne l169 (by first | assumption | exact nin_of f127 g127 (by omega))
                                  have o131 := o131.ne l169 (by first | assumption | exact nin_of f131 g131 (by omega))
                                  have o132 := o132.ne l169 (by first | assumption | exact nin_of f132 g132 (by omega))
                                  refine c_end ⟨rfl, fun h hS => Lq, ?_⟩
                                  refine p0 rfl (x_assign (v := .bool _) rfl) ?_
                                  refine p_nil (np_normal ?_)
                                  refine n_then ?_
                                  refine wp_seq ?_
                                  refine wp_seq ?_
                                  refine c_reg ?_
                                  refine st (x_loadAgB ag106H7 rfl B161 rfl) ?_
                                  refine st (x_loadAgB ag106H7 rfl JB12 rfl) ?_
                                  refine srb (zcall cl73H7 rfl) (l_eqFrame _ _ _ _ _ _ _ _ _ _ _ _ _ o132.sl o48.sl (by omega)) (fun h137 w170 l171 => ?_) (fun h137 w170 l171 => ?_)
                                  · have z_l171 := l171.size
                                    have L := L.tr l171.up
                                    have B1 := B1.ext l171
                                    have B4 := B4.ext l171
                                    have B7 := B7.ext l171
                                    have JB12 := JB12.ext l171
                                    have B73 := B73.ext l171
                                    have B80 := B80.ext l171
                                    have B87 := B87.ext l171
                                    have B94 := B94.ext l171
                                    have B161 := B161.ext l171
                                    have o48 := o48.ext l171
                                    have o52 := o52.ext l171
                                    have o54 := o54.ext l171
                                    have o56 := o56.ext l171
                                    have o63 := o63.ext l171
                                    have o77 := o77.ext l171
                                    have o82 := o82.ext l171
                                    have o87 := o87.ext l171
                                    have o125 := o125.ext l171
                                    have o127 := o127.ext l171
                                    have o131 := o131.ext l171
                                    have o132 := o132.ext l171
                                    refine s0 (x_not rfl) ?_
                                    refine s0 (x_move (v := .bool _) rfl) ?_
                                    refine gt rfl rfl rfl rfl ?_
                                    refine s0 (x_move (v := .bool _) rfl) ?_
                                    refine gt rfl rfl rfl rfl ?_
                                    refine s0 (x_move (v := .bool _) rfl) ?_
                                    refine gt rfl rfl rfl rfl ?_
                                    refine sb (x_neqb un4H7 rfl rfl) (fun h142 => ?_) (fun h142 => ?_)
                                    · exact absurd rfl h142
                                    · refine s0 (x_pickf (v := .bool _) rfl rfl) ?_
                                      refine c_end ?_
                                      refine n_then ?_
                                      refine c_false rfl ?_
                                      refine c_skipn ?_
                                      refine n_then ?_
                                      refine wp_seq ?_
                                      refine c_reg ?_
                                      refine s0 (x_assign (v := .int _ _) rfl) ?_
                                      refine c_end ?_
                                      refine n_then ?_
                                      refine wp_seq ?_
                                      refine c_reg ?_
                                      refine st (x_loadAgB ag106H7 rfl B94 rfl) ?_
                                      refine s0 (x_move (v := .int _ _) rfl) ?_
                                      refine sr (zcall cl77H7 rfl) (l_heldFrame _ _ _ _ _ _ _ o63.sl (by omega) (by omega)) ?_
                                      intro w172 l173
                                      have z_l173 := l173.size
                                      have L := L.tr l173.up
                                      have B1 := B1.ext l173
                                      have B4 := B4.ext l173
                                      have B7 := B7.ext l173
                                      have JB12 := JB12.ext l173
                                      have B73 := B73.ext l173
                                      have B80 := B80.ext l173
                                      have B87 := B87.ext l173
                                      have B94 := B94.ext l173
                                      have B161 := B161.ext l173
                                      have o48 := o48.ext l173
                                      have o52 := o52.ext l173
                                      have o54 := o54.ext l173
                                      have o56 := o56.ext l173
                                      have o63 := o63.ext l173
                                      have o77 := o77.ext l173
                                      have o82 := o82.ext l173
                                      have o87 := o87.ext l173
                                      have o125 := o125.ext l173
                                      have o127 := o127.ext l173
                                      have o131 := o131.ext l173
                                      have o132 := o132.ext l173
                                      refine s0 (x_assign (v := .int _ _) rfl) ?_
                                      refine c_end ?_
                                      refine n_then ?_
                                      refine wp_seq ?_
                                      refine wp_seq ?_
                                      refine c_reg ?_
                                      refine s0 (x_move (v := .int _ _) rfl) ?_
                                      refine sb (x_lss rfl rfl) (fun h148 => ?_) (fun h148 => ?_)
                                      · omega
                                      · refine c_end ?_
                                        refine n_then ?_
                                        refine c_false rfl ?_
                                        refine c_skipn ?_
                                        refine n_then ?_
                                        refine wp_seq ?_
                                        refine wp_seq ?_
                                        refine c_reg ?_
                                        refine s0 (x_move (v := .int _ _) rfl) ?_
                                        refine s0 (x_move (v := .int _ _) rfl) ?_
                                        refine sb (x_neq rfl rfl) (fun h151 => ?_) (fun h151 => ?_)
                                        · exact absurd rfl h151
                                        · refine c_end ?_
                                          refine n_then ?_
                                          refine c_false rfl ?_
                                          refine c_skipn ?_
                                          refine n_then ?_
                                          refine wp_seq ?_
                                          refine c_reg ?_
                                          refine s0 (x_assign (v := .bool _) rfl) ?_
                                          refine c_end ?_
                                          refine n_then ?_
                                          refine wp_ret ?_
                                          refine f_ret rfl rfl ?_
                                          exact ⟨rfl, L⟩
                                  · exact (h137 (by simp)).elim
                              · refine pu rfl ?_ (by rintro ⟨_, _, h, _⟩; cases h)
                                refine s_alloc zr106H7 ?_
                                intro b174 w175 lob174 hib174 l176 B174
                                have z_l176 := l176.size
                                have L := L.tr l176.up
                                have Lq := Lq.tr l176.up
                                have B1 := B1.ext l176
                                have B4 := B4.ext l176
                                have B7 := B7.ext l176
                                have JB12 := JB12.ext l176
                                have B73 := B73.ext l176
                                have B80 := B80.ext l176
                                have B87 := B87.ext l176
                                have B94 := B94.ext l176
                                have o48 := o48.ext l176
                                have o52 := o52.ext l176
                                have o54 := o54.ext l176
                                have o56 := o56.ext l176
                                have o63 := o63.ext l176
                                have o77 := o77.ext l176
                                have o82 := o82.ext l176
                                have o87 := o87.ext l176
                                have o125 := o125.ext l176
                                refine c_end ⟨rfl, fun h hS => Lq, ?_⟩
                                refine pu rfl ?_ (by rintro ⟨_, _, h, _⟩; cases h)
                                refine sp (zcall cl70H7 rfl) (l_toHeader _ _ _ _ _ _ _ _ _ (hz.ext L) (by omega)) ?_
                                rintro v127 w177 l178 ⟨p127, c127, F127, rfl, o127, f127⟩
                                have z_l178 := l178.size
                                have L := L.tr l178.up
                                have Lq := Lq.tr l178.up
                                have B1 := B1.ext l178
                                have B4 := B4.ext l178
                                have B7 := B7.ext l178
                                have JB12 := JB12.ext l178
                                have B73 := B73.ext l178
                                have B80 := B80.ext l178
                                have B87 := B87.ext l178
                                have B94 := B94.ext l178
                                have B174 := B174.ext l178
                                have o48 := o48.ext l178
                                have o52 := o52.ext l178
                                have o54 := o54.ext l178
                                have o56 := o56.ext l178
                                have o63 := o63.ext l178
                                have o77 := o77.ext l178
                                have o82 := o82.ext l178
                                have o87 := o87.ext l178
                                have o125 := o125.ext l178
                                have g127 := o127.lt
                                refine c_end ⟨rfl, fun h hS => Lq, ?_⟩
                                refine pu rfl ?_ (by rintro ⟨_, _, h, _⟩; cases h)
                                refine sp (zcall cl71H7 rfl) (l_toBlock _ _ _ _ _ (hr.ext L) (by omega)) ?_
                                rintro v131 w179 l180 ⟨p131, c131, F131, rfl, o131, f131⟩
                                have z_l180 := l180.size
                                have L := L.tr l180.up
                                have Lq := Lq.tr l180.up
                                have B1 := B1.ext l180
                                have B4 := B4.ext l180
                                have B7 := B7.ext l180
                                have JB12 := JB12.ext l180
                                have B73 := B73.ext l180
                                have B80 := B80.ext l180
                                have B87 := B87.ext l180
                                have B94 := B94.ext l180
                                have B174 := B174.ext l180
                                have o48 := o48.ext l180
                                have o52 := o52.ext l180
                                have o54 := o54.ext l180
                                have o56 := o56.ext l180
                                have o63 := o63.ext l180
                                have o77 := o77.ext l180
                                have o82 := o82.ext l180
                                have o87 := o87.ext l180
                                have o125 := o125.ext l180
                                have o127 := o127.ext l180
                                have g131 := o131.lt
                                refine c_end ⟨rfl, fun h hS => Lq, ?_⟩
                                refine pu rfl ?_ (by rintro ⟨_, _, h, _⟩; cases h)
                                refine sp (zcall cl72H7 rfl) (i_putRef _ _ _ _ _ _ _ _ _ _ _ _ _ _ _ _ _ _ _ _ o125.sl o131.sl (by omega) (by omega)) ?_
                                rintro v132 w181 l182 ⟨p132, c132, F132, rfl, o132, f132⟩
                                have z_l182 := l182.size
                                have L := L.tr l182.up
                                have Lq := Lq.tr l182.up
                                have B1 := B1.ext l182
                                have B4 := B4.ext l182
                                have B7 := B7.ext l182
                                have JB12 := JB12.ext l182
                                have B73 := B73.ext l182
                                have B80 := B80.ext l182
                                have B87 := B87.ext l182
                                have B94 := B94.ext l182
                                have B174 := B174.ext l182
                                have o48 := o48.ext l182
                                have o52 := o52.ext l182
                                have o54 := o54.ext l182
                                have o56 := o56.ext l182
                                have o63 := o63.ext l182
                                have o77 := o77.ext l182
                                have o82 := o82.ext l182
                                have o87 := o87.ext l182
                                have o125 := o125.ext l182
                                have o127 := o127.ext l182
                                have o131 := o131.ext l182
                                have g132 := o132.lt
                                refine c_end ⟨rfl, fun h hS => Lq, ?_⟩
                                refine p0 rfl (x_move (v := .tuple _) rfl) ?_
                                refine p0 rfl (x_extract rfl rfl) ?_
                                refine p0 rfl (x_extract rfl rfl) ?_
                                refine pu rfl ?_ (by rintro ⟨_, _, h, _⟩; cases h)
                                refine s_storeAg rfl sz106H7 rfl rfl B174 rfl rfl rfl ?_
                                intro w183 l184 el184 B174
                                have z_l184 := l184.size
                                have L := L.fresh l184 (by omega)
                                have Lq := Lq.fresh l184 (by omega)
                                have B1 := B1.ne l184 (by omega)
                                have B4 := B4.ne l184 (by omega)
                                have B7 := B7.ne l184 (by omega)
                                have JB12 := JB12.ne l184 (by omega)
                                have B73 := B73.ne l184 (by omega)
                                have B80 := B80.ne l184 (by omega)
                                have B87 := B87.ne l184 (by omega)
                                have B94 := B94.ne l184 (by omega)
                                have o48 := o48.ne l184 (by first | assumption | exact nin_of f48 g48 (by omega))
                                have o52 := o52.ne l184 (by first | assumption | exact nin_of f52 g52 (by omega))
                                have o54 := o54.ne l184 (by first | assumption | exact nin_of f54 g54 (by omega))
                                have o56 := o56.ne l184 (by first | assumption | exact nin_of f56 g56 (by omega))
                                have o63 := o63.ne l184 (by first | assumption | exact nin_of f63 g63 (by omega))
                                have o77 := o77.ne l184 (by first | assumption | exact nin_of f77 g77 (by omega))
                                have o82 := o82.ne l184 (by first | assumption | exact nin_of f82 g82 (by omega))
                                have o87 := o87.ne l184 (by first | assumption | exact nin_of f87 g87 (by omega))
                                have o125 := o125.ne l184 (by first | assumption | exact nin_of f125 g125 (by omega))
                                have o127 := o127.ne l184 (by first | assumption | exact nin_of f127 g127 (by omega))
                                have o131 := o131.ne l184 (by first | assumption | exact nin_of f131 g131 (by omega))
                                have o132 := o132.ne l184 (by first | assumption | exact nin_of f132 g132 (by omega))
                                refine c_end ⟨rfl, fun h hS => Lq, ?_⟩
                                refine p0 rfl (x_assign (v := .bool _) rfl) ?_
                                refine p_nil (np_normal ?_)
                                refine n_then ?_
                                refine wp_seq ?_
                                refine wp_seq ?_
                                refine c_reg ?_
                                refine st (x_loadAgB ag106H7 rfl B174 rfl) ?_
                                refine st (x_loadAgB ag106H7 rfl JB12 rfl) ?_
                                refine srb (zcall cl73H7 rfl) (l_eqFrame _ _ _ _ _ _ _ _ _ _ _ _ _ o132.sl o48.sl (by omega)) (fun h137 w185 l186 => ?_) (fun h137 w185 l186 => ?_)
                                · have z_l186 := l186.size
                                  have L := L.tr l186.up
                                  have B1 := B1.ext l186
                                  have B4 := B4.ext l186
                                  have B7 := B7.ext l186
                                  have JB12 := JB12.ext l186
                                  have B73 := B73.ext l186
                                  have B80 := B80.ext l186
                                  have B87 := B87.ext l186
                                  have B94 := B94.ext l186
                                  have B174 := B174.ext l186
                                  have o48 := o48.ext l186
                                  have o52 := o52.ext l186
                                  have o54 := o54.ext l186
                                  have o56 := o56.ext l186
                                  have o63 := o63.ext l186
                                  have o77 := o77.ext l186
                                  have o82 := o82.ext l186
                                  have o87 := o87.ext l186
                                  have o125 := o125.ext l186
                                  have o127 := o127.ext l186
                                  have o131 := o131.ext l186
                                  have o132 := o132.ext l186
                                  refine s0 (x_not rfl) ?_
                                  refine s0 (x_move (v := .bool _) rfl) ?_
                                  refine gt rfl rfl rfl rfl ?_
                                  refine s0 (x_move (v := .bool _) rfl) ?_
                                  refine gt rfl rfl rfl rfl ?_
                                  refine s0 (x_move (v := .bool _) rfl) ?_
                                  refine gt rfl rfl rfl rfl ?_
                                  refine sb (x_neqb un4H7 rfl rfl) (fun h142 => ?_) (fun h142 => ?_)
                                  · exact absurd rfl h142
                                  · refine s0 (x_pickf (v := .bool _) rfl rfl) ?_
                                    refine c_end ?_
                                    refine n_then ?_
                                    refine c_false rfl ?_
                                    refine c_skipn ?_
                                    refine n_then ?_
                                    refine wp_seq ?_
                                    refine c_reg ?_
                                    refine s0 (x_assign (v := .int _ _) rfl) ?_
                                    refine c_end ?_
                                    refine n_then ?_
                                    refine wp_seq ?_
                                    refine c_reg ?_
                                    refine st (x_loadAgB ag106H7 rfl B94 rfl) ?_
                                    refine s0 (x_move (v := .int _ _) rfl) ?_
                                    refine sr (zcall cl77H7 rfl) (l_heldFrame _ _ _ _ _ _ _ o63.sl (by omega) (by omega)) ?_
                                    intro w187 l188
                                    have z_l188 := l188.size
                                    have L := L.tr l188.up
                                    have B1 := B1.ext l188
                                    have B4 := B4.ext l188
                                    have B7 := B7.ext l188
                                    have JB12 := JB12.ext l188
                                    have B73 := B73.ext l188
                                    have B80 := B80.ext l188
                                    have B87 := B87.ext l188
                                    have B94 := B94.ext l188
                                    have B174 := B174.ext l188
                                    have o48 := o48.ext l188
                                    have o52 := o52.ext l188
                                    have o54 := o54.ext l188
                                    have o56 := o56.ext l188
                                    have o63 := o63.ext l188
                                    have o77 := o77.ext l188
                                    have o82 := o82.ext l188
                                    have o87 := o87.ext l188
                                    have o125 := o125.ext l188
                                    have o127 := o127.ext l188
                                    have o131 := o131.ext l188
                                    have o132 := o132.ext l188
                                    refine s0 (x_assign (v := .int _ _) rfl) ?_
                                    refine c_end ?_
                                    refine n_then ?_
                                    refine wp_seq ?_
                                    refine wp_seq ?_
                                    refine c_reg ?_
                                    refine s0 (x_move (v := .int _ _) rfl) ?_
                                    refine sb (x_lss rfl rfl) (fun h148 => ?_) (fun h148 => ?_)
                                    · omega
                                    · refine c_end ?_
                                      refine n_then ?_
                                      refine c_false rfl ?_
                                      refine c_skipn ?_
                                      refine n_then ?_
                                      refine wp_seq ?_
                                      refine wp_seq ?_
                                      refine c_reg ?_
                                      refine s0 (x_move (v := .int _ _) rfl) ?_
                                      refine s0 (x_move (v := .int _ _) rfl) ?_
                                      refine sb (x_neq rfl rfl) (fun h151 => ?_) (fun h151 => ?_)
                                      · exact absurd rfl h151
                                      · refine c_end ?_
                                        refine n_then ?_
                                        refine c_false rfl ?_
                                        refine c_skipn ?_
                                        refine n_then ?_
                                        refine wp_seq ?_
                                        refine c_reg ?_
                                        refine s0 (x_assign (v := .bool _) rfl) ?_
                                        refine c_end ?_
                                        refine n_then ?_
                                        refine wp_ret ?_
                                        refine f_ret rfl rfl ?_
                                        exact ⟨rfl, L⟩
                                · exact (h137 (by simp)).elim
                            · refine pu rfl ?_ (by rintro ⟨_, _, h, _⟩; cases h)
                              refine s_alloc zr106H7 ?_
                              intro b189 w190 lob189 hib189 l191 B189
                              have z_l191 := l191.size
                              have L := L.tr l191.up
                              have Lq := Lq.tr l191.up
                              have B1 := B1.ext l191
                              have B4 := B4.ext l191
                              have B7 := B7.ext l191
                              have JB12 := JB12.ext l191
                              have B73 := B73.ext l191
                              have B80 := B80.ext l191
                              have B87 := B87.ext l191
                              have B94 := B94.ext l191
                              have o48 := o48.ext l191
                              have o52 := o52.ext l191
                              have o54 := o54.ext l191
                              have o56 := o56.ext l191
                              have o63 := o63.ext l191
                              have o77 := o77.ext l191
                              have o82 := o82.ext l191
                              have o87 := o87.ext l191
                              refine c_end ⟨rfl, fun h hS => Lq, ?_⟩
                              refine pu rfl ?_ (by rintro ⟨_, _, h, _⟩; cases h)
                              refine sp (zcall cl69H7 rfl) (l_toFrame _ _ _ _ _ _ _ (hp.ext L) (by omega)) ?_
                              rintro v125 w192 l193 ⟨p125, c125, F125, rfl, o125, f125⟩
                              have z_l193 := l193.size
                              have L := L.tr l193.up
                              have Lq := Lq.tr l193.up
                              have B1 := B1.ext l193
                              have B4 := B4.ext l193
                              have B7 := B7.ext l193
                              have JB12 := JB12.ext l193
                              have B73 := B73.ext l193
                              have B80 := B80.ext l193
                              have B87 := B87.ext l193
                              have B94 := B94.ext l193
                              have B189 := B189.ext l193
                              have o48 := o48.ext l193
                              have o52 := o52.ext l193
                              have o54 := o54.ext l193
                              have o56 := o56.ext l193
                              have o63 := o63.ext l193
                              have o77 := o77.ext l193
                              have o82 := o82.ext l193
                              have o87 := o87.ext l193
                              have g125 := o125.lt
                              refine c_end ⟨rfl, fun h hS => Lq, ?_⟩
                              refine pu rfl ?_ (by rintro ⟨_, _, h, _⟩; cases h)
                              refine sp (zcall cl70H7 rfl) (l_toHeader _ _ _ _ _ _ _ _ _ (hz.ext L) (by omega)) ?_
                              rintro v127 w194 l195 ⟨p127, c127, F127, rfl, o127, f127⟩
                              have z_l195 := l195.size
                              have L := L.tr l195.up
                              have Lq := Lq.tr l195.up
                              have B1 := B1.ext l195
                              have B4 := B4.ext l195
                              have B7 := B7.ext l195
                              have JB12 := JB12.ext l195
                              have B73 := B73.ext l195
                              have B80 := B80.ext l195
                              have B87 := B87.ext l195
                              have B94 := B94.ext l195
                              have B189 := B189.ext l195
                              have o48 := o48.ext l195
                              have o52 := o52.ext l195
                              have o54 := o54.ext l195
                              have o56 := o56.ext l195
                              have o63 := o63.ext l195
                              have o77 := o77.ext l195
                              have o82 := o82.ext l195
                              have o87 := o87.ext l195
                              have o125 := o125.ext l195
                              have g127 := o127.lt
                              refine c_end ⟨rfl, fun h hS => Lq, ?_⟩
                              refine pu rfl ?_ (by rintro ⟨_, _, h, _⟩; cases h)
                              refine sp (zcall cl71H7 rfl) (l_toBlock _ _ _ _ _ (hr.ext L) (by omega)) ?_
                              rintro v131 w196 l197 ⟨p131, c131, F131, rfl, o131, f131⟩
                              have z_l197 := l197.size
                              have L := L.tr l197.up
                              have Lq := Lq.tr l197.up
                              have B1 := B1.ext l197
                              have B4 := B4.ext l197
                              have B7 := B7.ext l197
                              have JB12 := JB12.ext l197
                              have B73 := B73.ext l197
                              have B80 := B80.ext l197
                              have B87 := B87.ext l197
                              have B94 := B94.ext l197
                              have B189 := B189.ext l197
                              have o48 := o48.ext l197
                              have o52 := o52.ext l197
                              have o54 := o54.ext l197
                              have o56 := o56.ext l197
                              have o63 := o63.ext l197
                              have o77 := o77.ext l197
                              have o82 := o82.ext l197
                              have o87 := o87.ext l197
                              have o125 := o125.ext l197
                              have o127 := o127.ext l197
                              have g131 := o131.lt
                              refine c_end ⟨rfl, fun h hS => Lq, ?_⟩
                              refine pu rfl ?_ (by rintro ⟨_, _, h, _⟩; cases h)
                              refine sp (zcall cl72H7 rfl) (i_putRef _ _ _ _ _ _ _ _ _ _ _ _ _ _ _ _ _ _ _ _ o125.sl o131.sl (by omega) (by omega)) ?_
                              rintro v132 w198 l199 ⟨p132, c132, F132, rfl, o132, f132⟩
                              have z_l199 := l199.size
                              have L := L.tr l199.up
                              have Lq := Lq.tr l199.up
                              have B1 := B1.ext l199
                              have B4 := B4.ext l199
                              have B7 := B7.ext l199
                              have JB12 := JB12.ext l199
                              have B73 := B73.ext l199
                              have B80 := B80.ext l199
                              have B87 := B87.ext l199
                              have B94 := B94.ext l199
                              have B189 := B189.ext l199
                              have o48 := o48.ext l199
                              have o52 := o52.ext l199
                              have o54 := o54.ext l199
                              have o56 := o56.ext l199
                              have o63 := o63.ext l199
                              have o77 := o77.ext l199
                              have o82 := o82.ext l199
                              have o87 := o87.ext l199
                              have o125 := o125.ext l199
                              have o127 := o127.ext l199
                              have o131 := o131.ext l199
                              have g132 := o132.lt
                              refine c_end ⟨rfl, fun h hS => Lq, ?_⟩
                              refine p0 rfl (x_move (v := .tuple _) rfl) ?_
                              refine p0 rfl (x_extract rfl rfl) ?_
                              refine p0 rfl (x_extract rfl rfl) ?_
                              refine pu rfl ?_ (by rintro ⟨_, _, h, _⟩; cases h)
                              refine s_storeAg rfl sz106H7 rfl rfl B189 rfl rfl rfl ?_
                              intro w200 l201 el201 B189
                              have z_l201 := l201.size
                              have L := L.fresh l201 (by omega)
                              have Lq := Lq.fresh l201 (by omega)
                              have B1 := B1.ne l201 (by omega)
                              have B4 := B4.ne l201 (by omega)
                              have B7 := B7.ne l201 (by omega)
                              have JB12 := JB12.ne l201 (by omega)
                              have B73 := B73.ne l201 (by omega)
                              have B80 := B80.ne l201 (by omega)
                              have B87 := B87.ne l201 (by omega)
                              have B94 := B94.ne l201 (by omega)
                              have o48 := o48.ne l201 (by first | assumption | exact nin_of f48 g48 (by omega))
                              have o52 := o52.ne l201 (by first | assumption | exact nin_of f52 g52 (by omega))
                              have o54 := o54.ne l201 (by first | assumption | exact nin_of f54 g54 (by omega))
                              have o56 := o56.ne l201 (by first | assumption | exact nin_of f56 g56 (by omega))
                              have o63 := o63.ne l201 (by first | assumption | exact nin_of f63 g63 (by omega))
                              have o77 := o77.ne l201 (by first | assumption | exact nin_of f77 g77 (by omega))
                              have o82 := o82.ne l201 (by first | assumption | exact nin_of f82 g82 (by omega))
                              have o87 := o87.ne l201 (by first | assumption | exact nin_of f87 g87 (by omega))
                              have o125 := o125.ne l201 (by first | assumption | exact nin_of f125 g125 (by omega))
                              have o127 := o127.ne l201 (by first | assumption | exact nin_of f127 g127 (by omega))
                              have o131 := o131.ne l201 (by first | assumption | exact nin_of f131 g131 (by omega))
                              have o132 := o132.ne l201 (by first | assumption | exact nin_of f132 g132 (by omega))
                              refine c_end ⟨rfl, fun h hS => Lq, ?_⟩
                              refine p0 rfl (x_assign (v := .bool _) rfl) ?_
                              refine p_nil (np_normal ?_)
                              refine n_then ?_
                              refine wp_seq ?_
                              refine wp_seq ?_
                              refine c_reg ?_
                              refine st (x_loadAgB ag106H7 rfl B189 rfl) ?_
                              refine st (x_loadAgB ag106H7 rfl JB12 rfl) ?_
                              refine srb (zcall cl73H7 rfl) (l_eqFrame _ _ _ _ _ _ _ _ _ _ _ _ _ o132.sl o48.sl (by omega)) (fun h137 w202 l203 => ?_) (fun h137 w202 l203 => ?_)
                              · have z_l203 := l203.size
                                have L := L.tr l203.up
                                have B1 := B1.ext l203
                                have B4 := B4.ext l203
                                have B7 := B7.ext l203
                                have JB12 := JB12.ext l203
                                have B73 := B73.ext l203
                                have B80 := B80.ext l203
                                have B87 := B87.ext l203
                                have B94 := B94.ext l203
                                have B189 := B189.ext l203
                                have o48 := o48.ext l203
                                have o52 := o52.ext l203
                                have o54 := o54.ext l203
                                have o56 := o56.ext l203
                                have o63 := o63.ext l203
                                have o77 := o77.ext l203
                                have o82 := o82.ext l203
                                have o87 := o87.ext l203
                                have o125 := o125.ext l203
                                have o127 := o127.ext l203
                                have o131 := o131.ext l203
                                have o132 := o132.ext l203
                                refine s0 (x_not rfl) ?_
                                refine s0 (x_move (v := .bool _) rfl) ?_
                                refine gt rfl rfl rfl rfl ?_
                                refine s0 (x_move (v := .bool _) rfl) ?_
                                refine gt rfl rfl rfl rfl ?_
                                refine s0 (x_move (v := .bool _) rfl) ?_
                                refine gt rfl rfl rfl rfl ?_
                                refine sb (x_neqb un4H7 rfl rfl) (fun h142 => ?_) (fun h142 => ?_)
                                · exact absurd rfl h142
                                · refine s0 (x_pickf (v := .bool _) rfl rfl) ?_
                                  refine c_end ?_
                                  refine n_then ?_
                                  refine c_false rfl ?_
                                  refine c_skipn ?_
                                  refine n_then ?_
                                  refine wp_seq ?_
                                  refine c_reg ?_
                                  refine s0 (x_assign (v := .int _ _) rfl) ?_
                                  refine c_end ?_
                                  refine n_then ?_
                                  refine wp_seq ?_
                                  refine c_reg ?_
                                  refine st (x_loadAgB ag106H7 rfl B94 rfl) ?_
                                  refine s0 (x_move (v := .int _ _) rfl) ?_
                                  refine sr (zcall cl77H7 rfl) (l_heldFrame _ _ _ _ _ _ _ o63.sl (by omega) (by omega)) ?_
                                  intro w204 l205
                                  have z_l205 := l205.size
                                  have L := L.tr l205.up
                                  have B1 := B1.ext l205
                                  have B4 := B4.ext l205
                                  have B7 := B7.ext l205
                                  have JB12 := JB12.ext l205
                                  have B73 := B73.ext l205
                                  have B80 := B80.ext l205
                                  have B87 := B87.ext l205
                                  have B94 := B94.ext l205
                                  have B189 := B189.ext l205
                                  have o48 := o48.ext l205
                                  have o52 := o52.ext l205
                                  have o54 := o54.ext l205
                                  have o56 := o56.ext l205
                                  have o63 := o63.ext l205
                                  have o77 := o77.ext l205
                                  have o82 := o82.ext l205
                                  have o87 := o87.ext l205
                                  have o125 := o125.ext l205
                                  have o127 := o127.ext l205
                                  have o131 := o131.ext l205
                                  have o132 := o132.ext l205
                                  refine s0 (x_assign (v := .int _ _) rfl) ?_
                                  refine c_end ?_
                                  refine n_then ?_
                                  refine wp_seq ?_
                                  refine wp_seq ?_
                                  refine c_reg ?_
                                  refine s0 (x_move (v := .int _ _) rfl) ?_
                                  refine sb (x_lss rfl rfl) (fun h148 => ?_) (fun h148 => ?_)
                                  · omega
                                  · refine c_end ?_
                                    refine n_then ?_
                                    refine c_false rfl ?_
                                    refine c_skipn ?_
                                    refine n_then ?_
                                    refine wp_seq ?_
                                    refine wp_seq ?_
                                    refine c_reg ?_
                                    refine s0 (x_move (v := .int _ _) rfl) ?_
                                    refine s0 (x_move (v := .int _ _) rfl) ?_
                                    refine sb (x_neq rfl rfl) (fun h151 => ?_) (fun h151 => ?_)
                                    · exact absurd rfl h151
                                    · refine c_end ?_
                                      refine n_then ?_
                                      refine c_false rfl ?_
                                      refine c_skipn ?_
                                      refine n_then ?_
                                      refine wp_seq ?_
                                      refine c_reg ?_
                                      refine s0 (x_assign (v := .bool _) rfl) ?_
                                      refine c_end ?_
                                      refine n_then ?_
                                      refine wp_ret ?_
                                      refine f_ret rfl rfl ?_
                                      exact ⟨rfl, L⟩
                              · exact (h137 (by simp)).elim
                    · exact (h104 (by simp)).elim
                · exact (h88 (by simp)).elim
              · exact (h83 (by simp)).elim
            · exact (h78 (by simp)).elim
        · exact (h68 (by simp)).elim

end Go.Proofs.Ytepnknffaecbdaa
