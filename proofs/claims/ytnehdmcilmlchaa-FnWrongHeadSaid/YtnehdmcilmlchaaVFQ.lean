/- What each function of this part returns, for every argument that meets its premises. -/
import Derived.Test.YtnehdmcilmlchaaProg
import Derived.Test.YtnehdmcilmlchaaVSxF
import Derived.Test.YtnehdmcilmlchaaVPlV
import Derived.Test.YtnehdmcilmlchaaVF5
import Derived.Test.YtnehdmcilmlchaaVF7
import Derived.Test.YtnehdmcilmlchaaVFG
import Derived.Test.YtnehdmcilmlchaaVFJ
import Derived.Test.YtnehdmcilmlchaaVFN
namespace Go.Proofs.Ytnehdmcilmlchaa
open Go.Sx Go.Pl Go.RowKit
theorem ag35FQ : Ag Try.prog 35 2 := ⟨⟨_, Try.underlying35⟩, by kernel_rfl⟩
theorem ag42FQ : Ag Try.prog 42 6 := ⟨⟨_, Try.underlying42⟩, by kernel_rfl⟩
theorem bd35FQ : Built Try.prog 35 [.string .empty, .int .i64 0] #[(0, 1), (1, 1)] := ⟨_, Try.underlying35, by unfold ZeroV; kernel_rfl, fun w => by kernel_rfl⟩
theorem bd42FQ : Built Try.prog 42 [.int .i64 0, .int .i64 0, .int .i64 0, .bool false, .bool false, .slice none 0 0] #[(0, 1), (1, 1), (2, 1), (3, 1), (4, 1), (5, 1)] := ⟨_, Try.underlying42, by unfold ZeroV; kernel_rfl, fun w => by kernel_rfl⟩
theorem cl103FQ : Callable Try.prog 103 := callable Try.func103 (by kernel_rfl) rfl
theorem cl104FQ : Callable Try.prog 104 := callable Try.func104 (by kernel_rfl) rfl
theorem cl117FQ : Callable Try.prog 117 := callable Try.func117 (by kernel_rfl) rfl
theorem cl146FQ : Callable Try.prog 146 := callable Try.func146 (by kernel_rfl) rfl
theorem cl147FQ : Callable Try.prog 147 := callable Try.func147 (by kernel_rfl) rfl
theorem cl171FQ : Callable Try.prog 171 := callable Try.func171 (by kernel_rfl) rfl
theorem cl175FQ : Callable Try.prog 175 := callable Try.func175 (by kernel_rfl) rfl
theorem cl181FQ : Callable Try.prog 181 := callable Try.func181 (by kernel_rfl) rfl
theorem cl236FQ : Callable Try.prog 236 := callable Try.func236 (by kernel_rfl) rfl
theorem cl78FQ : Callable Try.prog 78 := callable Try.func78 (by kernel_rfl) rfl
theorem cl82FQ : Callable Try.prog 82 := callable Try.func82 (by kernel_rfl) rfl
theorem fa42_0FQ : FieldAt Try.prog 42 0 0 := ⟨_, _, Try.underlying42, rfl, rfl, ⟨0, by unfold Sz; kernel_rfl⟩⟩
theorem fa42_1FQ : FieldAt Try.prog 42 1 1 := ⟨_, _, Try.underlying42, rfl, rfl, ⟨0, by unfold Sz; kernel_rfl⟩⟩
theorem fa42_2FQ : FieldAt Try.prog 42 2 2 := ⟨_, _, Try.underlying42, rfl, rfl, ⟨0, by unfold Sz; kernel_rfl⟩⟩
theorem fa42_3FQ : FieldAt Try.prog 42 3 3 := ⟨_, _, Try.underlying42, rfl, rfl, ⟨0, by unfold Sz; kernel_rfl⟩⟩
theorem fa42_4FQ : FieldAt Try.prog 42 4 4 := ⟨_, _, Try.underlying42, rfl, rfl, ⟨0, by unfold Sz; kernel_rfl⟩⟩
theorem fa42_5FQ : FieldAt Try.prog 42 5 5 := ⟨_, _, Try.underlying42, rfl, rfl, ⟨0, by unfold Sz; kernel_rfl⟩⟩
theorem sc3FQ : Sc Try.prog 3 := ⟨(.int .i64), by kernel_rfl, trivial⟩
theorem sc4FQ : Sc Try.prog 4 := ⟨.bool, by kernel_rfl, trivial⟩
theorem sc40FQ : Sc Try.prog 40 := ⟨(.slice 3), by kernel_rfl, trivial⟩
theorem so40FQ : SliceOf Try.prog 40 3 1 8 := ⟨by kernel_rfl, by kernel_rfl⟩
theorem sz3FQ : Sz Try.prog 3 1 := by unfold Sz; kernel_rfl
theorem sz35FQ : Sz Try.prog 35 2 := by unfold Sz; kernel_rfl
theorem sz42FQ : Sz Try.prog 42 6 := by unfold Sz; kernel_rfl
theorem un4FQ : Try.prog.underlying 4 = some .bool := by kernel_rfl
theorem un40FQ : Try.prog.underlying 40 = some (.slice 3) := by kernel_rfl
theorem zr3FQ : ZeroV Try.prog 3 [.int .i64 0] := by unfold ZeroV; kernel_rfl
theorem zr35FQ : ZeroV Try.prog 35 [.string .empty, .int .i64 0] := by unfold ZeroV; kernel_rfl
theorem zr42FQ : ZeroV Try.prog 42 [.int .i64 0, .int .i64 0, .int .i64 0, .bool false, .bool false, .slice none 0 0] := by unfold ZeroV; kernel_rfl
theorem s_stoppedN (p : Option Addr) (n : Nat) (xs : List Int) (c : Nat) (w : World) (hp : Sl w p n c 1 (ic xs)) (hl : n ≤ 1099511627000) : Calls Try.prog 147 [.slice p n c].toArray w (Ret w (.string (stopped xs))) := by
  obtain rfl : n = xs.length := by have := hp.len; rw [ic_length] at this; omega
  exact s_stopped p xs c w hp hl

set_option maxHeartbeats 2000000 in
/-- spec.l22Header -/
theorem s_l22Header (b B : Nat) (w : World) (hcu : Cu w b B 192) :
    Calls Try.prog 181 [pt b 0].toArray w (RetM [b] w fun v w' => (∃ (za zb zq : Int) (zy zz : Bool) (p : Option Addr) (n : Nat) (xs : List Int) (c : Nat) (F : List Nat), v = .agg [.int .i64 za, .int .i64 zb, .int .i64 zq, .bool zy, .bool zz, .slice p n c].toArray ∧ Own w' p n c 3 1 (ic xs) F ∧ Fr w.heap.size F ∧ n = xs.length ∧ n = 6) ∧ Cu w' b B 192) := by
  have hcb := hcu.lt
  have L : Exm [b] w w := Exm.rfl'
  refine enter (n := 21) Try.func181 rfl rfl rfl ?_
  refine wp_seq ?_
  refine c_reg ?_
  refine s_alloc zr42FQ ?_
  intro b1 w2 lob1 hib1 l3 B1
  have z_l3 := l3.size
  have L := L.tr l3.up
  have hcu := hcu.ext l3
  refine c_end ?_
  refine n_then ?_
  refine wp_seq ?_
  refine c_reg ?_
  refine s0 (x_move (v := .pointer _) rfl) ?_
  refine spm (zcall cl171FQ rfl) (s_below b _ _ _ hcu) ?_
  rintro v4 w4 l5 ⟨⟨x4, rfl, hx4⟩, hcu⟩
  have z_l5 := l5.size
  have L := L.within l5 (by simp)
  have B1 := B1.ne l5 (by omega)
  refine s0 (x_add rfl rfl (by omega)) ?_
  refine s0 (x_mul rfl rfl (by omega)) ?_
  refine s0 (x_move (v := .pointer _) rfl) ?_
  refine spm (zcall cl171FQ rfl) (s_below b _ _ _ hcu) ?_
  rintro v8 w6 l7 ⟨⟨x8, rfl, hx8⟩, hcu⟩
  have z_l7 := l7.size
  have L := L.within l7 (by simp)
  have B1 := B1.ne l7 (by omega)
  refine s0 (x_add rfl rfl (by omega)) ?_
  refine s0 (x_mul rfl rfl (by omega)) ?_
  refine s0 (x_move (v := .pointer _) rfl) ?_
  refine s_bsi (xs := [_, _, _, _, _, _]) so40FQ zr3FQ (pts_cons rfl (pts_cons rfl (pts_cons rfl (pts_cons rfl (pts_cons rfl (pts_cons rfl pts_nil)))))) rfl rfl rfl ?_
  intro p12 F12 w8 l9 o12 f12 g12
  have z_l9 := l9.size
  have L := L.tr l9.up
  have hcu := hcu.ext l9
  have B1 := B1.ext l9
  have hn12 := o12.n1
  refine spm (zcall cl175FQ rfl) (s_pick b _ _ _ _ _ _ hcu _ o12 (by first | assumption | exact nin_of f12 g12 (by omega)) (by omega)) ?_
  rintro v13 w10 l11 ⟨⟨x13, rfl, hx13⟩, hcu⟩
  have z_l11 := l11.size
  have L := L.within l11 (by simp)
  have B1 := B1.ne l11 (by omega)
  have o12 := o12.ne l11 (by first | assumption | exact nin_of f12 g12 (by omega))
  refine s0 (x_move (v := .pointer _) rfl) ?_
  refine spm (zcall cl82FQ rfl) (s_once b _ _ _ hcu) ?_
  rintro v15 w12 l13 ⟨⟨x15, rfl⟩, hcu⟩
  have z_l13 := l13.size
  have L := L.within l13 (by simp)
  have B1 := B1.ne l13 (by omega)
  have o12 := o12.ne l13 (by first | assumption | exact nin_of f12 g12 (by omega))
  refine s0 (x_move (v := .pointer _) rfl) ?_
  refine spm (zcall cl82FQ rfl) (s_once b _ _ _ hcu) ?_
  rintro v17 w14 l15 ⟨⟨x17, rfl⟩, hcu⟩
  have z_l15 := l15.size
  have L := L.within l15 (by simp)
  have B1 := B1.ne l15 (by omega)
  have o12 := o12.ne l15 (by first | assumption | exact nin_of f12 g12 (by omega))
  refine s0 (x_move (v := .pointer _) rfl) ?_
  refine spm (zcall cl236FQ rfl) (s_l8Lens b _ _ hcu) ?_
  rintro v19 w16 l17 ⟨⟨p19, n19, xs19, c19, F19, rfl, o19, f19, rfl, hx19⟩, hcu⟩
  have z_l17 := l17.size
  have L := L.within l17 (by simp)
  have B1 := B1.ne l17 (by omega)
  have o12 := o12.ne l17 (by first | assumption | exact nin_of f12 g12 (by omega))
  have g19 := o19.lt
  refine s0 (x_build (cs := [.int _ _, .int _ _, .int _ _, .bool _, .bool _, .slice _ _ _]) bd42FQ (pts_cons (v := .int _ _) rfl (pts_cons (v := .int _ _) rfl (pts_cons (v := .int _ _) rfl (pts_cons (v := .bool _) rfl (pts_cons (v := .bool _) rfl (pts_cons (v := .slice _ _ _) rfl pts_nil)))))) rfl) ?_
  refine s_storeAg rfl sz42FQ rfl rfl B1 rfl rfl rfl ?_
  intro w18 l19 el19 B1
  have z_l19 := l19.size
  have L := L.fresh l19 (by omega)
  have hcu := hcu.ne l19 (by omega)
  have o12 := o12.ne l19 (by first | assumption | exact nin_of f12 g12 (by omega))
  have o19 := o19.ne l19 (by first | assumption | exact nin_of f19 g19 (by omega))
  refine c_end ?_
  refine n_then ?_
  refine wp_ret ?_
  refine f_retc rfl rfl ag42FQ B1 rfl ?_
  exact ⟨_, rfl, L, ⟨_, _, _, _, _, _, _, _, _, _, rfl, o19, f19.mono (by omega), rfl, hx19⟩, hcu⟩

/-- spec.l22Bits -/
theorem s_l22Bits (b B : Nat) (w : World) (hcu : Cu w b B 192) :
    Calls Try.prog 104 [pt b 0].toArray w (RetM [b] w fun v w' => (∃ (s : ByteArray) (a : Int), v = .agg [.string s, .int .i64 a].toArray ∧ s.size ≤ 1048576) ∧ Cu w' b B 192) := by
  have hcb := hcu.lt
  have L : Exm [b] w w := Exm.rfl'
  refine enter (n := 39) Try.func104 rfl rfl rfl ?_
  refine wp_seq ?_
  refine c_reg ?_
  refine s_alloc zr35FQ ?_
  intro b1 w2 lob1 hib1 l3 B1
  have z_l3 := l3.size
  have L := L.tr l3.up
  have hcu := hcu.ext l3
  refine c_end ?_
  refine n_then ?_
  refine wp_seq ?_
  refine c_reg ?_
  refine s0 (x_move (v := .pointer _) rfl) ?_
  refine spm (zcall cl181FQ rfl) (s_l22Header b _ _ hcu) ?_
  rintro v6 w4 l5 ⟨⟨za6, zb6, zq6, zy6, zz6, p6, n6, xs6, c6, F6, rfl, o6, f6, rfl, hx6⟩, hcu⟩
  have z_l5 := l5.size
  have L := L.within l5 (by simp)
  have B1 := B1.ne l5 (by omega)
  have g6 := o6.lt
  refine sp (zcall cl146FQ rfl) (s_headerBits _ _ _ _ _ _ _ _ _ o6.sl (by omega)) ?_
  rintro v7 w6 l7 ⟨p7, c7, F7, rfl, o7, f7⟩
  have z_l7 := l7.size
  have L := L.tr l7.up
  have hcu := hcu.ext l7
  have B1 := B1.ext l7
  have o6 := o6.ext l7
  have g7 := o7.lt
  refine s0 (x_assign (v := .slice _ _ _) rfl) ?_
  refine c_end ?_
  refine n_then ?_
  refine wp_seq ?_
  refine wp_seq ?_
  have hbl := headBits_len za6 zb6 zq6 zy6 zz6 xs6
  refine c_reg ?_
  refine s0 (x_move (v := .slice _ _ _) rfl) ?_
  refine s0 (x_lensl un40FQ rfl) ?_
  refine sb (x_gtr rfl rfl) (fun h10 => ?_) (fun h10 => ?_)
  · refine s0 (x_move (v := .bool _) rfl) ?_
    refine gt rfl rfl rfl rfl ?_
    refine s0 (x_move (v := .pointer _) rfl) ?_
    refine gt rfl rfl rfl rfl ?_
    refine spm (zcall cl82FQ rfl) (s_once b _ _ _ hcu) ?_
    rintro v13 w8 l9 ⟨⟨x13, rfl⟩, hcu⟩
    have z_l9 := l9.size
    have L := L.within l9 (by simp)
    have B1 := B1.ne l9 (by omega)
    have o6 := o6.ne l9 (by first | assumption | exact nin_of f6 g6 (by omega))
    have o7 := o7.ne l9 (by first | assumption | exact nin_of f7 g7 (by omega))
    by_cases h13 : x13 = true
    · subst h13
      refine s0 (x_pickt (v := .bool _) rfl rfl) ?_
      refine c_end ?_
      refine n_then ?_
      refine c_true rfl ?_
      refine wp_seq ?_
      refine c_reg ?_
      refine s0 (x_move (v := .pointer _) rfl) ?_
      refine s0 (x_move (v := .slice _ _ _) rfl) ?_
      refine s0 (x_lensl un40FQ rfl) ?_
      refine spm (zcall cl171FQ rfl) (s_below b _ _ _ hcu) ?_
      rintro v18 w10 l11 ⟨⟨x18, rfl, hx18⟩, hcu⟩
      have z_l11 := l11.size
      have L := L.within l11 (by simp)
      have B1 := B1.ne l11 (by omega)
      have o6 := o6.ne l11 (by first | assumption | exact nin_of f6 g6 (by omega))
      have o7 := o7.ne l11 (by first | assumption | exact nin_of f7 g7 (by omega))
      refine s0 (x_assign (v := .int _ _) rfl) ?_
      refine c_end ?_
      refine n_then ?_
      have hbt := isBits_get (headBits_bits za6 zb6 zq6 zy6 zz6 xs6) x18.toNat
      refine c_reg ?_
      refine s0 (x_move (v := .slice _ _ _) rfl) ?_
      refine s0 (x_move (v := .int _ _) rfl) ?_
      refine s0 (x_move (v := .slice _ _ _) rfl) ?_
      refine s0 (x_move (v := .int _ _) rfl) ?_
      refine s0 (x_idx so40FQ rfl rfl o7.sl (by decide) (by omega) (by omega)) ?_
      refine st (x_ldi sc3FQ rfl o7.sl (by omega) (by omega)) ?_
      refine s0 (x_sub rfl rfl (by omega)) ?_
      refine s0 (x_idx so40FQ rfl rfl o7.sl (by decide) (by omega) (by omega)) ?_
      refine s_stoi rfl sz3FQ rfl rfl o7 (by omega) (by omega) ?_
      intro w12 l13 el13 o7
      have z_l13 := l13.size
      have L := L.freshL l13 f7 (by omega)
      have hcu := hcu.exm l13 (by first | assumption | exact nin_of f7 g7 (by omega)) (f7.mono (by omega))
      have B1 := B1.exm l13 (by first | assumption | exact nin_of f7 g7 (by omega))
      have o6 := o6.exm l13 (by first | assumption | exact Dj.symm (by assumption) | exact dj_of f7 g7 f6 g6 (by omega))
      have hnl13 := o7.n1
      refine c_end ?_
      refine n_then ?_
      refine wp_seq ?_
      refine wp_seq ?_
      refine c_reg ?_
      refine s0 (x_move (v := .pointer _) rfl) ?_
      refine spm (zcall cl82FQ rfl) (s_once b _ _ _ hcu) ?_
      rintro v28 w14 l15 ⟨⟨x28, rfl⟩, hcu⟩
      have z_l15 := l15.size
      have L := L.within l15 (by simp)
      have B1 := B1.ne l15 (by omega)
      have o6 := o6.ne l15 (by first | assumption | exact nin_of f6 g6 (by omega))
      have o7 := o7.ne l15 (by first | assumption | exact nin_of f7 g7 (by omega))
      by_cases h28 : x28 = true
      · subst h28
        refine c_end ?_
        refine n_then ?_
        refine c_true rfl ?_
        refine c_reg ?_
        refine s0 (x_move (v := .slice _ _ _) rfl) ?_
        refine s0 (x_move (v := .pointer _) rfl) ?_
        refine s0 (x_move (v := .slice _ _ _) rfl) ?_
        refine s0 (x_lensl un40FQ rfl) ?_
        refine s0 (x_add rfl rfl (by omega)) ?_
        refine spm (zcall cl171FQ rfl) (s_below b _ _ _ hcu) ?_
        rintro v34 w16 l17 ⟨⟨x34, rfl, hx34⟩, hcu⟩
        have z_l17 := l17.size
        have L := L.within l17 (by simp)
        have B1 := B1.ne l17 (by omega)
        have o6 := o6.ne l17 (by first | assumption | exact nin_of f6 g6 (by omega))
        have o7 := o7.ne l17 (by first | assumption | exact nin_of f7 g7 (by omega))
        refine s0 (x_cuthr so40FQ o7.sl.r (by omega) rfl rfl (by omega) (by omega)) ?_
        refine s0 (x_assign (v := .slice _ _ _) rfl) ?_
        refine c_end ?_
        refine n_then ?_
        refine wp_seq ?_
        refine c_reg ?_
        refine s0 (x_move (v := .slice _ _ _) rfl) ?_
        refine sr (zcall cl147FQ rfl) (s_stoppedN _ _ _ _ _ (o7.sl.cuti (by omega) (by omega)) (by first | omega | (simp only [List.length_take, List.length_set, List.length_drop]; omega))) ?_
        intro w18 l19
        have z_l19 := l19.size
        have L := L.tr l19.up
        have hcu := hcu.ext l19
        have B1 := B1.ext l19
        have o6 := o6.ext l19
        have o7 := o7.ext l19
        refine s0 (x_build (cs := [.string _, .int .i64 0]) bd35FQ (pts_cons (v := .string _) rfl pts_nil) rfl) ?_
        refine s_storeAg rfl sz35FQ rfl rfl B1 rfl rfl rfl ?_
        intro w20 l21 el21 B1
        have z_l21 := l21.size
        have L := L.fresh l21 (by omega)
        have hcu := hcu.ne l21 (by omega)
        have o6 := o6.ne l21 (by first | assumption | exact nin_of f6 g6 (by omega))
        have o7 := o7.ne l21 (by first | assumption | exact nin_of f7 g7 (by omega))
        refine c_end ?_
        refine n_then ?_
        refine wp_ret ?_
        refine f_retc rfl rfl ag35FQ B1 rfl ?_
        exact ⟨_, rfl, L, ⟨_, _, rfl, Nat.le_trans (stopped_size _) (by first | omega | (simp only [List.length_take, List.length_set, List.length_drop]; omega))⟩, hcu⟩
      · obtain rfl := Bool.eq_false_iff.2 h28
        refine c_end ?_
        refine n_then ?_
        refine c_false rfl ?_
        refine c_skipn ?_
        refine n_then ?_
        refine wp_seq ?_
        refine c_reg ?_
        refine s0 (x_move (v := .slice _ _ _) rfl) ?_
        refine sr (zcall cl147FQ rfl) (s_stoppedN _ _ _ _ _ o7.sl (by first | omega | (simp only [List.length_take, List.length_set, List.length_drop]; omega))) ?_
        intro w22 l23
        have z_l23 := l23.size
        have L := L.tr l23.up
        have hcu := hcu.ext l23
        have B1 := B1.ext l23
        have o6 := o6.ext l23
        have o7 := o7.ext l23
        refine s0 (x_build (cs := [.string _, .int .i64 0]) bd35FQ (pts_cons (v := .string _) rfl pts_nil) rfl) ?_
        refine s_storeAg rfl sz35FQ rfl rfl B1 rfl rfl rfl ?_
        intro w24 l25 el25 B1
        have z_l25 := l25.size
        have L := L.fresh l25 (by omega)
        have hcu := hcu.ne l25 (by omega)
        have o6 := o6.ne l25 (by first | assumption | exact nin_of f6 g6 (by omega))
        have o7 := o7.ne l25 (by first | assumption | exact nin_of f7 g7 (by omega))
        refine c_end ?_
        refine n_then ?_
        refine wp_ret ?_
        refine f_retc rfl rfl ag35FQ B1 rfl ?_
        exact ⟨_, rfl, L, ⟨_, _, rfl, Nat.le_trans (stopped_size _) (by first | omega | (simp only [List.length_take, List.length_set, List.length_drop]; omega))⟩, hcu⟩
    · obtain rfl := Bool.eq_false_iff.2 h13
      refine s0 (x_pickt (v := .bool _) rfl rfl) ?_
      refine c_end ?_
      refine n_then ?_
      refine c_false rfl ?_
      refine c_skipn ?_
      refine n_then ?_
      refine wp_seq ?_
      refine wp_seq ?_
      refine c_reg ?_
      refine s0 (x_move (v := .pointer _) rfl) ?_
      refine spm (zcall cl82FQ rfl) (s_once b _ _ _ hcu) ?_
      rintro v28 w26 l27 ⟨⟨x28, rfl⟩, hcu⟩
      have z_l27 := l27.size
      have L := L.within l27 (by simp)
      have B1 := B1.ne l27 (by omega)
      have o6 := o6.ne l27 (by first | assumption | exact nin_of f6 g6 (by omega))
      have o7 := o7.ne l27 (by first | assumption | exact nin_of f7 g7 (by omega))
      by_cases h28 : x28 = true
      · subst h28
        refine c_end ?_
        refine n_then ?_
        refine c_true rfl ?_
        refine c_reg ?_
        refine s0 (x_move (v := .slice _ _ _) rfl) ?_
        refine s0 (x_move (v := .pointer _) rfl) ?_
        refine s0 (x_move (v := .slice _ _ _) rfl) ?_
        refine s0 (x_lensl un40FQ rfl) ?_
        refine s0 (x_add rfl rfl (by omega)) ?_
        refine spm (zcall cl171FQ rfl) (s_below b _ _ _ hcu) ?_
        rintro v34 w28 l29 ⟨⟨x34, rfl, hx34⟩, hcu⟩
        have z_l29 := l29.size
        have L := L.within l29 (by simp)
        have B1 := B1.ne l29 (by omega)
        have o6 := o6.ne l29 (by first | assumption | exact nin_of f6 g6 (by omega))
        have o7 := o7.ne l29 (by first | assumption | exact nin_of f7 g7 (by omega))
        refine s0 (x_cuthr so40FQ o7.sl.r (by omega) rfl rfl (by omega) (by omega)) ?_
        refine s0 (x_assign (v := .slice _ _ _) rfl) ?_
        refine c_end ?_
        refine n_then ?_
        refine wp_seq ?_
        refine c_reg ?_
        refine s0 (x_move (v := .slice _ _ _) rfl) ?_
        refine sr (zcall cl147FQ rfl) (s_stoppedN _ _ _ _ _ (o7.sl.cuti (by omega) (by omega)) (by first | omega | (simp only [List.length_take, List.length_set, List.length_drop]; omega))) ?_
        intro w30 l31
        have z_l31 := l31.size
        have L := L.tr l31.up
        have hcu := hcu.ext l31
        have B1 := B1.ext l31
        have o6 := o6.ext l31
        have o7 := o7.ext l31
        refine s0 (x_build (cs := [.string _, .int .i64 0]) bd35FQ (pts_cons (v := .string _) rfl pts_nil) rfl) ?_
        refine s_storeAg rfl sz35FQ rfl rfl B1 rfl rfl rfl ?_
        intro w32 l33 el33 B1
        have z_l33 := l33.size
        have L := L.fresh l33 (by omega)
        have hcu := hcu.ne l33 (by omega)
        have o6 := o6.ne l33 (by first | assumption | exact nin_of f6 g6 (by omega))
        have o7 := o7.ne l33 (by first | assumption | exact nin_of f7 g7 (by omega))
        refine c_end ?_
        refine n_then ?_
        refine wp_ret ?_
        refine f_retc rfl rfl ag35FQ B1 rfl ?_
        exact ⟨_, rfl, L, ⟨_, _, rfl, Nat.le_trans (stopped_size _) (by first | omega | (simp only [List.length_take, List.length_set, List.length_drop]; omega))⟩, hcu⟩
      · obtain rfl := Bool.eq_false_iff.2 h28
        refine c_end ?_
        refine n_then ?_
        refine c_false rfl ?_
        refine c_skipn ?_
        refine n_then ?_
        refine wp_seq ?_
        refine c_reg ?_
        refine s0 (x_move (v := .slice _ _ _) rfl) ?_
        refine sr (zcall cl147FQ rfl) (s_stoppedN _ _ _ _ _ o7.sl (by first | omega | (simp only [List.length_take, List.length_set, List.length_drop]; omega))) ?_
        intro w34 l35
        have z_l35 := l35.size
        have L := L.tr l35.up
        have hcu := hcu.ext l35
        have B1 := B1.ext l35
        have o6 := o6.ext l35
        have o7 := o7.ext l35
        refine s0 (x_build (cs := [.string _, .int .i64 0]) bd35FQ (pts_cons (v := .string _) rfl pts_nil) rfl) ?_
        refine s_storeAg rfl sz35FQ rfl rfl B1 rfl rfl rfl ?_
        intro w36 l37 el37 B1
        have z_l37 := l37.size
        have L := L.fresh l37 (by omega)
        have hcu := hcu.ne l37 (by omega)
        have o6 := o6.ne l37 (by first | assumption | exact nin_of f6 g6 (by omega))
        have o7 := o7.ne l37 (by first | assumption | exact nin_of f7 g7 (by omega))
        refine c_end ?_
        refine n_then ?_
        refine wp_ret ?_
        refine f_retc rfl rfl ag35FQ B1 rfl ?_
        exact ⟨_, rfl, L, ⟨_, _, rfl, Nat.le_trans (stopped_size _) (by first | omega | (simp only [List.length_take, List.length_set, List.length_drop]; omega))⟩, hcu⟩
  · refine s0 (x_move (v := .bool _) rfl) ?_
    refine gf rfl rfl rfl rfl ?_
    refine gf rfl rfl rfl rfl ?_
    refine s0 (x_pickf (v := .bool _) rfl rfl) ?_
    refine c_end ?_
    refine n_then ?_
    refine c_false rfl ?_
    refine c_skipn ?_
    refine n_then ?_
    refine wp_seq ?_
    refine wp_seq ?_
    refine c_reg ?_
    refine s0 (x_move (v := .pointer _) rfl) ?_
    refine spm (zcall cl82FQ rfl) (s_once b _ _ _ hcu) ?_
    rintro v28 w38 l39 ⟨⟨x28, rfl⟩, hcu⟩
    have z_l39 := l39.size
    have L := L.within l39 (by simp)
    have B1 := B1.ne l39 (by omega)
    have o6 := o6.ne l39 (by first | assumption | exact nin_of f6 g6 (by omega))
    have o7 := o7.ne l39 (by first | assumption | exact nin_of f7 g7 (by omega))
    by_cases h28 : x28 = true
    · subst h28
      refine c_end ?_
      refine n_then ?_
      refine c_true rfl ?_
      refine c_reg ?_
      refine s0 (x_move (v := .slice _ _ _) rfl) ?_
      refine s0 (x_move (v := .pointer _) rfl) ?_
      refine s0 (x_move (v := .slice _ _ _) rfl) ?_
      refine s0 (x_lensl un40FQ rfl) ?_
      refine s0 (x_add rfl rfl (by omega)) ?_
      refine spm (zcall cl171FQ rfl) (s_below b _ _ _ hcu) ?_
      rintro v34 w40 l41 ⟨⟨x34, rfl, hx34⟩, hcu⟩
      have z_l41 := l41.size
      have L := L.within l41 (by simp)
      have B1 := B1.ne l41 (by omega)
      have o6 := o6.ne l41 (by first | assumption | exact nin_of f6 g6 (by omega))
      have o7 := o7.ne l41 (by first | assumption | exact nin_of f7 g7 (by omega))
      refine s0 (x_cuthr so40FQ o7.sl.r (by omega) rfl rfl (by omega) (by omega)) ?_
      refine s0 (x_assign (v := .slice _ _ _) rfl) ?_
      refine c_end ?_
      refine n_then ?_
      refine wp_seq ?_
      refine c_reg ?_
      refine s0 (x_move (v := .slice _ _ _) rfl) ?_
      refine sr (zcall cl147FQ rfl) (s_stoppedN _ _ _ _ _ (o7.sl.cuti (by omega) (by omega)) (by first | omega | (simp only [List.length_take, List.length_set, List.length_drop]; omega))) ?_
      intro w42 l43
      have z_l43 := l43.size
      have L := L.tr l43.up
      have hcu := hcu.ext l43
      have B1 := B1.ext l43
      have o6 := o6.ext l43
      have o7 := o7.ext l43
      refine s0 (x_build (cs := [.string _, .int .i64 0]) bd35FQ (pts_cons (v := .string _) rfl pts_nil) rfl) ?_
      refine s_storeAg rfl sz35FQ rfl rfl B1 rfl rfl rfl ?_
      intro w44 l45 el45 B1
      have z_l45 := l45.size
      have L := L.fresh l45 (by omega)
      have hcu := hcu.ne l45 (by omega)
      have o6 := o6.ne l45 (by first | assumption | exact nin_of f6 g6 (by omega))
      have o7 := o7.ne l45 (by first | assumption | exact nin_of f7 g7 (by omega))
      refine c_end ?_
      refine n_then ?_
      refine wp_ret ?_
      refine f_retc rfl rfl ag35FQ B1 rfl ?_
      exact ⟨_, rfl, L, ⟨_, _, rfl, Nat.le_trans (stopped_size _) (by first | omega | (simp only [List.length_take, List.length_set, List.length_drop]; omega))⟩, hcu⟩
    · obtain rfl := Bool.eq_false_iff.2 h28
      refine c_end ?_
      refine n_then ?_
      refine c_false rfl ?_
      refine c_skipn ?_
      refine n_then ?_
      refine wp_seq ?_
      refine c_reg ?_
      refine s0 (x_move (v := .slice _ _ _) rfl) ?_
      refine sr (zcall cl147FQ rfl) (s_stoppedN _ _ _ _ _ o7.sl (by first | omega | (simp only [List.length_take, List.length_set, List.length_drop]; omega))) ?_
      intro w46 l47
      have z_l47 := l47.size
      have L := L.tr l47.up
      have hcu := hcu.ext l47
      have B1 := B1.ext l47
      have o6 := o6.ext l47
      have o7 := o7.ext l47
      refine s0 (x_build (cs := [.string _, .int .i64 0]) bd35FQ (pts_cons (v := .string _) rfl pts_nil) rfl) ?_
      refine s_storeAg rfl sz35FQ rfl rfl B1 rfl rfl rfl ?_
      intro w48 l49 el49 B1
      have z_l49 := l49.size
      have L := L.fresh l49 (by omega)
      have hcu := hcu.ne l49 (by omega)
      have o6 := o6.ne l49 (by first | assumption | exact nin_of f6 g6 (by omega))
      have o7 := o7.ne l49 (by first | assumption | exact nin_of f7 g7 (by omega))
      refine c_end ?_
      refine n_then ?_
      refine wp_ret ?_
      refine f_retc rfl rfl ag35FQ B1 rfl ?_
      exact ⟨_, rfl, L, ⟨_, _, rfl, Nat.le_trans (stopped_size _) (by first | omega | (simp only [List.length_take, List.length_set, List.length_drop]; omega))⟩, hcu⟩

/-- spec.DrawReadHeader -/
theorem s_drawReadHeader (p : Option Addr) (xs : List Int) (c : Nat) (B : Nat) (w : World) (hp : Sl w p xs.length c 1 (bc xs)) (hr : ∀ x ∈ xs, 0 ≤ x ∧ x ≤ 255) (hpB : Bl p xs.length B) (hB : B ≤ w.heap.size) (hl : xs.length ≤ 1048576) :
    Calls Try.prog 22 [.slice p xs.length c].toArray w (RetP w fun v w' => ∃ (s : ByteArray) (a : Int), v = .agg [.string s, .int .i64 a].toArray ∧ s.size ≤ 1048576) := by
  have L : Exm [] w w := Exm.rfl'
  refine enter (n := 12) Try.func22 rfl rfl rfl ?_
  refine wp_seq ?_
  refine c_reg ?_
  refine s_alloc zr35FQ ?_
  intro b1 w2 lob1 hib1 l3 B1
  have z_l3 := l3.size
  have L := L.tr l3.up
  refine c_end ?_
  refine n_then ?_
  refine wp_seq ?_
  refine c_reg ?_
  refine s0 (x_move (v := .slice _ _ _) rfl) ?_
  refine sp (zcall cl78FQ rfl) (s_new _ _ _ B _ (hp.ext L) hr hpB (by omega) hl) ?_
  rintro v5 w4 l5 ⟨b5, rfl, ⟨lob5, hib5⟩, K5⟩
  have z_l5 := l5.size
  have L := L.tr l5.up
  have B1 := B1.ext l5
  refine s0 (x_assign (v := .pointer _) rfl) ?_
  refine c_end ?_
  refine n_then ?_
  refine wp_seq ?_
  refine wp_seq ?_
  refine c_reg ?_
  refine s0 (x_move (v := .pointer _) rfl) ?_
  refine spm (zcall cl82FQ rfl) (s_once b5 _ _ _ K5) ?_
  rintro v7 w6 l7 ⟨⟨x7, rfl⟩, K5⟩
  have z_l7 := l7.size
  have L := L.fresh l7 (by omega)
  have B1 := B1.ne l7 (by omega)
  by_cases h7 : x7 = true
  · subst h7
    refine c_end ?_
    refine n_then ?_
    refine c_true rfl ?_
    refine wp_seq ?_
    refine c_reg ?_
    refine s0 (x_move (v := .pointer _) rfl) ?_
    refine spm (zcall cl103FQ rfl) (s_l3Reader b5 _ _ K5) ?_
    rintro v9 w8 l9 ⟨⟨s9, a9, rfl, hx9⟩, K5⟩
    have z_l9 := l9.size
    have L := L.fresh l9 (by omega)
    have B1 := B1.ne l9 (by omega)
    refine s_storeAg rfl sz35FQ rfl rfl B1 rfl rfl rfl ?_
    intro w10 l11 el11 B1
    have z_l11 := l11.size
    have L := L.fresh l11 (by omega)
    have K5 := K5.ne l11 (by omega)
    refine c_end ?_
    refine n_then ?_
    refine wp_ret (r_then ?_)
    refine f_retc rfl rfl ag35FQ B1 rfl ?_
    exact ⟨_, rfl, L, _, _, rfl, by omega⟩
  · obtain rfl := Bool.eq_false_iff.2 h7
    refine c_end ?_
    refine n_then ?_
    refine c_false rfl ?_
    refine c_skipn ?_
    refine n_then ?_
    refine wp_seq ?_
    refine c_reg ?_
    refine s0 (x_move (v := .pointer _) rfl) ?_
    refine spm (zcall cl104FQ rfl) (s_l22Bits b5 _ _ K5) ?_
    rintro v11 w12 l13 ⟨⟨s11, a11, rfl, hx11⟩, K5⟩
    have z_l13 := l13.size
    have L := L.fresh l13 (by omega)
    have B1 := B1.ne l13 (by omega)
    refine s_storeAg rfl sz35FQ rfl rfl B1 rfl rfl rfl ?_
    intro w14 l15 el15 B1
    have z_l15 := l15.size
    have L := L.fresh l15 (by omega)
    have K5 := K5.ne l15 (by omega)
    refine c_end ?_
    refine n_then ?_
    refine wp_ret ?_
    refine f_retc rfl rfl ag35FQ B1 rfl ?_
    exact ⟨_, rfl, L, _, _, rfl, hx11⟩

/-- laws.sameHead -/
theorem l_sameHead (a b q a' b' q' : Int) (y z y' z' : Bool) (p p2 : Option Addr) (xs ys : List Int) (c d : Nat) (w : World) (hp : Sl w p xs.length c 1 (ic xs)) (hq : Sl w p2 ys.length d 1 (ic ys)) (hl : xs.length ≤ 1099511627776) :
    Calls Try.prog 27 [.agg [.int .i64 a, .int .i64 b, .int .i64 q, .bool y, .bool z, .slice p xs.length c].toArray, .agg [.int .i64 a', .int .i64 b', .int .i64 q', .bool y', .bool z', .slice p2 ys.length d].toArray].toArray w (Ret w (.bool (decide (a = a' ∧ b = b' ∧ q = q' ∧ y = y' ∧ z = z' ∧ xs = ys)))) := by
  have L : Exm [] w w := Exm.rfl'
  refine enter (n := 45) Try.func27 rfl rfl rfl ?_
  refine wp_seq ?_
  refine c_reg ?_
  refine s_box rfl rfl ?_
  intro b1 w2 lob1 hib1 l3 B1
  have z_l3 := l3.size
  have L := L.tr l3.up
  refine s_box rfl rfl ?_
  intro b4 w5 lob4 hib4 l6 B4
  have z_l6 := l6.size
  have L := L.tr l6.up
  have B1 := B1.ext l6
  refine s0 (x_assign (v := .bool _) rfl) ?_
  refine c_end ?_
  refine n_then ?_
  refine wp_seq ?_
  refine c_reg ?_
  refine s0 (x_fieldAddr fa42_0FQ rfl) ?_
  refine st (x_loadB sc3FQ rfl B1 rfl) ?_
  refine s0 (x_fieldAddr fa42_0FQ rfl) ?_
  refine st (x_loadB sc3FQ rfl B4 rfl) ?_
  refine sb (x_eql rfl rfl) (fun h9 => ?_) (fun h9 => ?_)
  · refine s0 (x_move (v := .bool _) rfl) ?_
    refine gt rfl rfl rfl rfl ?_
    refine s0 (x_fieldAddr fa42_1FQ rfl) ?_
    refine gt rfl rfl rfl rfl ?_
    refine st (x_loadB sc3FQ rfl B1 rfl) ?_
    refine gt rfl rfl rfl rfl ?_
    refine s0 (x_fieldAddr fa42_1FQ rfl) ?_
    refine gt rfl rfl rfl rfl ?_
    refine st (x_loadB sc3FQ rfl B4 rfl) ?_
    refine gt rfl rfl rfl rfl ?_
    refine sb (x_eql rfl rfl) (fun h15 => ?_) (fun h15 => ?_)
    · refine s0 (x_pickt (v := .bool _) rfl rfl) ?_
      refine s0 (x_move (v := .bool _) rfl) ?_
      refine gt rfl rfl rfl rfl ?_
      refine s0 (x_fieldAddr fa42_2FQ rfl) ?_
      refine gt rfl rfl rfl rfl ?_
      refine st (x_loadB sc3FQ rfl B1 rfl) ?_
      refine gt rfl rfl rfl rfl ?_
      refine s0 (x_fieldAddr fa42_2FQ rfl) ?_
      refine gt rfl rfl rfl rfl ?_
      refine st (x_loadB sc3FQ rfl B4 rfl) ?_
      refine gt rfl rfl rfl rfl ?_
      refine sb (x_eql rfl rfl) (fun h22 => ?_) (fun h22 => ?_)
      · refine s0 (x_pickt (v := .bool _) rfl rfl) ?_
        refine s0 (x_move (v := .bool _) rfl) ?_
        refine gt rfl rfl rfl rfl ?_
        refine s0 (x_fieldAddr fa42_3FQ rfl) ?_
        refine gt rfl rfl rfl rfl ?_
        refine st (x_loadB sc4FQ rfl B1 rfl) ?_
        refine gt rfl rfl rfl rfl ?_
        refine s0 (x_fieldAddr fa42_3FQ rfl) ?_
        refine gt rfl rfl rfl rfl ?_
        refine st (x_loadB sc4FQ rfl B4 rfl) ?_
        refine gt rfl rfl rfl rfl ?_
        refine sb (x_eqlb un4FQ rfl rfl) (fun h29 => ?_) (fun h29 => ?_)
        · refine s0 (x_pickt (v := .bool _) rfl rfl) ?_
          refine s0 (x_move (v := .bool _) rfl) ?_
          refine gt rfl rfl rfl rfl ?_
          refine s0 (x_fieldAddr fa42_4FQ rfl) ?_
          refine gt rfl rfl rfl rfl ?_
          refine st (x_loadB sc4FQ rfl B1 rfl) ?_
          refine gt rfl rfl rfl rfl ?_
          refine s0 (x_fieldAddr fa42_4FQ rfl) ?_
          refine gt rfl rfl rfl rfl ?_
          refine st (x_loadB sc4FQ rfl B4 rfl) ?_
          refine gt rfl rfl rfl rfl ?_
          refine sb (x_eqlb un4FQ rfl rfl) (fun h36 => ?_) (fun h36 => ?_)
          · refine s0 (x_pickt (v := .bool _) rfl rfl) ?_
            refine s0 (x_move (v := .bool _) rfl) ?_
            refine gt rfl rfl rfl rfl ?_
            refine s0 (x_fieldAddr fa42_5FQ rfl) ?_
            refine gt rfl rfl rfl rfl ?_
            refine st (x_loadB sc40FQ rfl B1 rfl) ?_
            refine gt rfl rfl rfl rfl ?_
            refine s0 (x_fieldAddr fa42_5FQ rfl) ?_
            refine gt rfl rfl rfl rfl ?_
            refine st (x_loadB sc40FQ rfl B4 rfl) ?_
            refine gt rfl rfl rfl rfl ?_
            refine sr (zcall cl117FQ rfl) (l_sameInts _ _ _ _ _ _ _ (hp.ext L) (hq.ext L) (by omega)) ?_
            intro w7 l8
            have z_l8 := l8.size
            have L := L.tr l8.up
            have B1 := B1.ext l8
            have B4 := B4.ext l8
            refine s0 (x_pickt (v := .bool _) rfl rfl) ?_
            refine s0 (x_assign (v := .bool _) rfl) ?_
            refine c_end ?_
            refine n_then ?_
            refine wp_ret ?_
            refine f_ret rfl rfl ?_
            exact ⟨ret_dec2 (by simp_all), L⟩
          · refine s0 (x_pickt (v := .bool _) rfl rfl) ?_
            refine s0 (x_move (v := .bool _) rfl) ?_
            refine gf rfl rfl rfl rfl ?_
            refine gf rfl rfl rfl rfl ?_
            refine gf rfl rfl rfl rfl ?_
            refine gf rfl rfl rfl rfl ?_
            refine gf rfl rfl rfl rfl ?_
            refine s0 (x_pickf (v := .bool _) rfl rfl) ?_
            refine s0 (x_assign (v := .bool _) rfl) ?_
            refine c_end ?_
            refine n_then ?_
            refine wp_ret ?_
            refine f_ret rfl rfl ?_
            exact ⟨ret_f (by simp_all), L⟩
        · refine s0 (x_pickt (v := .bool _) rfl rfl) ?_
          refine s0 (x_move (v := .bool _) rfl) ?_
          refine gf rfl rfl rfl rfl ?_
          refine gf rfl rfl rfl rfl ?_
          refine gf rfl rfl rfl rfl ?_
          refine gf rfl rfl rfl rfl ?_
          refine gf rfl rfl rfl rfl ?_
          refine s0 (x_pickf (v := .bool _) rfl rfl) ?_
          refine s0 (x_move (v := .bool _) rfl) ?_
          refine gf rfl rfl rfl rfl ?_
          refine gf rfl rfl rfl rfl ?_
          refine gf rfl rfl rfl rfl ?_
          refine gf rfl rfl rfl rfl ?_
          refine gf rfl rfl rfl rfl ?_
          refine s0 (x_pickf (v := .bool _) rfl rfl) ?_
          refine s0 (x_assign (v := .bool _) rfl) ?_
          refine c_end ?_
          refine n_then ?_
          refine wp_ret ?_
          refine f_ret rfl rfl ?_
          exact ⟨ret_f (by simp_all), L⟩
      · refine s0 (x_pickt (v := .bool _) rfl rfl) ?_
        refine s0 (x_move (v := .bool _) rfl) ?_
        refine gf rfl rfl rfl rfl ?_
        refine gf rfl rfl rfl rfl ?_
        refine gf rfl rfl rfl rfl ?_
        refine gf rfl rfl rfl rfl ?_
        refine gf rfl rfl rfl rfl ?_
        refine s0 (x_pickf (v := .bool _) rfl rfl) ?_
        refine s0 (x_move (v := .bool _) rfl) ?_
        refine gf rfl rfl rfl rfl ?_
        refine gf rfl rfl rfl rfl ?_
        refine gf rfl rfl rfl rfl ?_
        refine gf rfl rfl rfl rfl ?_
        refine gf rfl rfl rfl rfl ?_
        refine s0 (x_pickf (v := .bool _) rfl rfl) ?_
        refine s0 (x_move (v := .bool _) rfl) ?_
        refine gf rfl rfl rfl rfl ?_
        refine gf rfl rfl rfl rfl ?_
        refine gf rfl rfl rfl rfl ?_
        refine gf rfl rfl rfl rfl ?_
        refine gf rfl rfl rfl rfl ?_
        refine s0 (x_pickf (v := .bool _) rfl rfl) ?_
        refine s0 (x_assign (v := .bool _) rfl) ?_
        refine c_end ?_
        refine n_then ?_
        refine wp_ret ?_
        refine f_ret rfl rfl ?_
        exact ⟨ret_f (by simp_all), L⟩
    · refine s0 (x_pickt (v := .bool _) rfl rfl) ?_
      refine s0 (x_move (v := .bool _) rfl) ?_
      refine gf rfl rfl rfl rfl ?_
      refine gf rfl rfl rfl rfl ?_
      refine gf rfl rfl rfl rfl ?_
      refine gf rfl rfl rfl rfl ?_
      refine gf rfl rfl rfl rfl ?_
      refine s0 (x_pickf (v := .bool _) rfl rfl) ?_
      refine s0 (x_move (v := .bool _) rfl) ?_
      refine gf rfl rfl rfl rfl ?_
      refine gf rfl rfl rfl rfl ?_
      refine gf rfl rfl rfl rfl ?_
      refine gf rfl rfl rfl rfl ?_
      refine gf rfl rfl rfl rfl ?_
      refine s0 (x_pickf (v := .bool _) rfl rfl) ?_
      refine s0 (x_move (v := .bool _) rfl) ?_
      refine gf rfl rfl rfl rfl ?_
      refine gf rfl rfl rfl rfl ?_
      refine gf rfl rfl rfl rfl ?_
      refine gf rfl rfl rfl rfl ?_
      refine gf rfl rfl rfl rfl ?_
      refine s0 (x_pickf (v := .bool _) rfl rfl) ?_
      refine s0 (x_move (v := .bool _) rfl) ?_
      refine gf rfl rfl rfl rfl ?_
      refine gf rfl rfl rfl rfl ?_
      refine gf rfl rfl rfl rfl ?_
      refine gf rfl rfl rfl rfl ?_
      refine gf rfl rfl rfl rfl ?_
      refine s0 (x_pickf (v := .bool _) rfl rfl) ?_
      refine s0 (x_assign (v := .bool _) rfl) ?_
      refine c_end ?_
      refine n_then ?_
      refine wp_ret ?_
      refine f_ret rfl rfl ?_
      exact ⟨ret_f (by simp_all), L⟩
  · refine s0 (x_move (v := .bool _) rfl) ?_
    refine gf rfl rfl rfl rfl ?_
    refine gf rfl rfl rfl rfl ?_
    refine gf rfl rfl rfl rfl ?_
    refine gf rfl rfl rfl rfl ?_
    refine gf rfl rfl rfl rfl ?_
    refine s0 (x_pickf (v := .bool _) rfl rfl) ?_
    refine s0 (x_move (v := .bool _) rfl) ?_
    refine gf rfl rfl rfl rfl ?_
    refine gf rfl rfl rfl rfl ?_
    refine gf rfl rfl rfl rfl ?_
    refine gf rfl rfl rfl rfl ?_
    refine gf rfl rfl rfl rfl ?_
    refine s0 (x_pickf (v := .bool _) rfl rfl) ?_
    refine s0 (x_move (v := .bool _) rfl) ?_
    refine gf rfl rfl rfl rfl ?_
    refine gf rfl rfl rfl rfl ?_
    refine gf rfl rfl rfl rfl ?_
    refine gf rfl rfl rfl rfl ?_
    refine gf rfl rfl rfl rfl ?_
    refine s0 (x_pickf (v := .bool _) rfl rfl) ?_
    refine s0 (x_move (v := .bool _) rfl) ?_
    refine gf rfl rfl rfl rfl ?_
    refine gf rfl rfl rfl rfl ?_
    refine gf rfl rfl rfl rfl ?_
    refine gf rfl rfl rfl rfl ?_
    refine gf rfl rfl rfl rfl ?_
    refine s0 (x_pickf (v := .bool _) rfl rfl) ?_
    refine s0 (x_move (v := .bool _) rfl) ?_
    refine gf rfl rfl rfl rfl ?_
    refine gf rfl rfl rfl rfl ?_
    refine gf rfl rfl rfl rfl ?_
    refine gf rfl rfl rfl rfl ?_
    refine gf rfl rfl rfl rfl ?_
    refine s0 (x_pickf (v := .bool _) rfl rfl) ?_
    refine s0 (x_assign (v := .bool _) rfl) ?_
    refine c_end ?_
    refine n_then ?_
    refine wp_ret ?_
    refine f_ret rfl rfl ?_
    exact ⟨ret_f (by simp_all), L⟩

end Go.Proofs.Ytnehdmcilmlchaa
