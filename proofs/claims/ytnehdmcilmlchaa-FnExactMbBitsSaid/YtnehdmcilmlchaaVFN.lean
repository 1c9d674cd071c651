/- What each function of this part returns, for every argument that meets its premises. -/
import Derived.Test.YtnehdmcilmlchaaProg
import Derived.Test.YtnehdmcilmlchaaVSxF
import Derived.Test.YtnehdmcilmlchaaVPlY
import Derived.Test.YtnehdmcilmlchaaVF1
import Derived.Test.YtnehdmcilmlchaaVF7
import Derived.Test.YtnehdmcilmlchaaVF8
import Derived.Test.YtnehdmcilmlchaaVF9
import Derived.Test.YtnehdmcilmlchaaVFC
import Derived.Test.YtnehdmcilmlchaaVFJ
import Derived.Test.YtnehdmcilmlchaaVFK
namespace Go.Proofs.Ytnehdmcilmlchaa
open Go.Sx Go.Pl Go.RowKit
theorem ag111FN : Ag Try.prog 111 2 := ⟨⟨_, Try.underlying111⟩, by kernel_rfl⟩
theorem ag54FN : Ag Try.prog 54 2 := ⟨⟨_, Try.underlying54⟩, by kernel_rfl⟩
theorem cl119FN : Callable Try.prog 119 := callable Try.func119 (by kernel_rfl) rfl
theorem cl122FN : Callable Try.prog 122 := callable Try.func122 (by kernel_rfl) rfl
theorem cl128FN : Callable Try.prog 128 := callable Try.func128 (by kernel_rfl) rfl
theorem cl129FN : Callable Try.prog 129 := callable Try.func129 (by kernel_rfl) rfl
theorem cl130FN : Callable Try.prog 130 := callable Try.func130 (by kernel_rfl) rfl
theorem cl132FN : Callable Try.prog 132 := callable Try.func132 (by kernel_rfl) rfl
theorem cl133FN : Callable Try.prog 133 := callable Try.func133 (by kernel_rfl) rfl
theorem cl134FN : Callable Try.prog 134 := callable Try.func134 (by kernel_rfl) rfl
theorem fa54_0FN : FieldAt Try.prog 54 0 0 := ⟨_, _, Try.underlying54, rfl, rfl, ⟨0, by unfold Sz; kernel_rfl⟩⟩
theorem fa54_1FN : FieldAt Try.prog 54 1 1 := ⟨_, _, Try.underlying54, rfl, rfl, ⟨0, by unfold Sz; kernel_rfl⟩⟩
theorem sc4FN : Sc Try.prog 4 := ⟨.bool, by kernel_rfl, trivial⟩
theorem sc52FN : Sc Try.prog 52 := ⟨(.slice 111), by kernel_rfl, trivial⟩
theorem so40FN : SliceOf Try.prog 40 3 1 8 := ⟨by kernel_rfl, by kernel_rfl⟩
theorem so52FN : SliceOf Try.prog 52 111 2 32 := ⟨by kernel_rfl, by kernel_rfl⟩
theorem sz111FN : Sz Try.prog 111 2 := by unfold Sz; kernel_rfl
theorem un52FN : Try.prog.underlying 52 = some (.slice 111) := by kernel_rfl
theorem zr111FN : ZeroV Try.prog 111 [.int .i64 0, .slice none 0 0] := by unfold ZeroV; kernel_rfl
theorem zr3FN : ZeroV Try.prog 3 [.int .i64 0] := by unfold ZeroV; kernel_rfl
/-- impl.MbBits -/
theorem i_mbBits (e : Bool) (p : Option Addr) (bs : List Bk) (c : Nat) (r : Option Addr) (xs : List Int) (d : Nat) (w : World) (hp : RdBs w p bs c) (hx : Sl w r xs.length d 1 (ic xs)) (hl : bs.length ≤ 1099511627776) (hb : ∀ b ∈ bs, b.lv.length ≤ 1099511627776) (hl2 : xs.length ≤ 1099511627776) :
    Calls Try.prog 43 [.agg [.bool e, .slice p bs.length c].toArray, .slice r xs.length d].toArray w (RetP w fun v w' => ∃ p c F, v = .slice p (mbBits e (bs.map Bk.pl) xs).length c ∧ Own w' p (mbBits e (bs.map Bk.pl) xs).length c 3 1 (ic (mbBits e (bs.map Bk.pl) xs)) F ∧ Fr w.heap.size F) := by
  have L : Exm [] w w := Exm.rfl'
  refine enter (n := 39) Try.func43 rfl rfl rfl ?_
  refine wp_seq ?_
  refine c_reg ?_
  refine s_box rfl rfl ?_
  intro b1 w2 lob1 hib1 l3 B1
  have z_l3 := l3.size
  have L := L.tr l3.up
  refine s0 (x_assign (v := .slice _ _ _) rfl) ?_
  refine c_end ?_
  refine n_then ?_
  refine wp_seq ?_
  refine wp_seq ?_
  refine c_reg ?_
  refine st (x_loadAgB ag54FN rfl B1 rfl) ?_
  refine s0 (x_move (v := .slice _ _ _) rfl) ?_
  refine srb (zcall cl132FN rfl) (i_mbOk _ _ _ _ _ _ _ _ (hp.ext L) (hx.ext L) (by omega) hb (by omega)) (fun h12 w4 l5 => ?_) (fun h12 w4 l5 => ?_)
  · have z_l5 := l5.size
    have L := L.tr l5.up
    have B1 := B1.ext l5
    refine s0 (x_not rfl) ?_
    refine c_end ?_
    refine n_then ?_
    refine c_false rfl ?_
    refine c_skipn ?_
    refine n_then ?_
    refine wp_seq ?_
    refine c_reg ?_
    refine s0 (x_fieldAddr fa54_0FN rfl) ?_
    refine st (x_loadB sc4FN rfl B1 rfl) ?_
    refine sr (zcall cl122FN rfl) (i_shape _ _) ?_
    intro w6 l7
    have z_l7 := l7.size
    have L := L.tr l7.up
    have B1 := B1.ext l7
    refine s0 (x_move (v := .tuple _) rfl) ?_
    refine s0 (x_extract rfl rfl) ?_
    refine s0 (x_extract rfl rfl) ?_
    refine s0 (x_assign (v := .int _ _) rfl) ?_
    refine s0 (x_assign (v := .int _ _) rfl) ?_
    refine c_end ?_
    refine n_then ?_
    refine wp_seq ?_
    refine c_reg ?_
    refine s0 (x_fieldAddr fa54_0FN rfl) ?_
    refine st (x_loadB sc4FN rfl B1 rfl) ?_
    refine sr (zcall cl133FN rfl) (i_bitOf _ _) ?_
    intro w8 l9
    have z_l9 := l9.size
    have L := L.tr l9.up
    have B1 := B1.ext l9
    refine s_bsi (xs := [_]) so40FN zr3FN (pts_cons rfl pts_nil) rfl rfl rfl ?_
    intro p23 F23 w10 l11 o23 f23 g23
    have z_l11 := l11.size
    have L := L.tr l11.up
    have B1 := B1.ext l11
    have hn23 := o23.n1
    refine s0 (x_assign (v := .slice _ _ _) rfl) ?_
    refine c_end ?_
    refine n_then ?_
    refine wp_seq ?_
    refine wp_seq ?_
    refine c_reg ?_
    refine s0 (x_fieldAddr fa54_1FN rfl) ?_
    refine st (x_loadB sc52FN rfl B1 rfl) ?_
    refine s0 (x_lensl un52FN rfl) ?_
    refine s0 (x_move (v := .int _ _) rfl) ?_
    refine c_end ?_
    refine n_then ?_
    refine wp_block ?_
    refine c_loop (γ := Nat) (fun k => bs.length - k) (fun (k : Nat) E wl => ∃ E0 pz7 cz7 Fz7, E = upd (upd (upd (upd (upd (upd E0 1 (.slice r xs.length d)) 6 (.int .i64 (side e))) 7 (.slice pz7 ((mbA e (bs.map Bk.pl) xs k).length) cz7)) 25 (.slice p bs.length c)) 26 (.int .i64 bs.length)) 27 (.int .i64 (k : Int)) ∧ (Exm [] w wl) ∧ (w10.heap.size ≤ wl.heap.size) ∧ (Bx wl b1 [.bool e, .slice p bs.length c] 54) ∧ (Own wl pz7 ((mbA e (bs.map Bk.pl) xs k).length) cz7 3 1 (ic (mbA e (bs.map Bk.pl) xs k)) Fz7) ∧ (Fr (w8.heap.size) Fz7) ∧ (Lt Fz7 wl.heap.size) ∧ (b1 ∉ Fz7) ∧ ((k : Int) ≤ bs.length)) 0 ⟨_, _, _, _, upd_self6 rfl rfl (slice_len (by rw [mbA_zero]; rfl)) rfl rfl rfl, L, (by omega), B1, (own_eq (mbA_zero e (bs.map Bk.pl) xs).symm o23), (f23.mono (by omega)), (g23.mono (by omega)), (by first | assumption | exact nin_of f23 g23 (by omega)), (by omega)⟩ ?_
    rintro k E wl12 ⟨E0, pz7, cz7, Fz7, rfl, L, Lz, B1, oz7, fz7, gz7, ab1_z7, hk⟩
    have Lz0 := L.size
    have hml := mbA_len e (bs.map Bk.pl) xs k
    have hb4 := (mb_many h12); rw [List.length_map] at hb4
    refine wp_seq ?_
    refine c_reg ?_
    refine sb (x_lss rfl rfl) (fun h28 => ?_) (fun h28 => ?_)
    · refine c_end ?_
      refine n_then ?_
      refine wp_seq ?_
      refine c_true rfl ?_
      refine c_skipn ?_
      refine n_then ?_
      refine wp_seq ?_
      refine wp_block ?_
      refine wp_seq ?_
      refine c_reg ?_
      refine s0 (x_idx so52FN rfl rfl hp.1 (by decide) (by omega) (by omega)) ?_
      refine st (x_ldr brow_len ag111FN rfl (hp.1.ext L) (by omega) (by omega)) ?_
      refine s_alloc zr111FN ?_
      intro b13 w14 lob13 hib13 l15 B13
      have z_l15 := l15.size
      have L := L.tr l15.up
      have B1 := B1.ext l15
      have oz7 := oz7.ext l15
      refine s_storeAg rfl sz111FN rfl rfl B13 rfl rfl rfl ?_
      intro w16 l17 el17 B13
      have z_l17 := l17.size
      have L := L.fresh l17 (by omega)
      have B1 := B1.ne l17 (by omega)
      have oz7 := oz7.ne l17 (by first | assumption | exact nin_of fz7 gz7 (by omega))
      refine c_end ?_
      refine n_then ?_
      have hbk := hb _ (getD_mem (xs := bs) (i := (k : Int)) (by omega) (by omega))
      have hbl4 := blockBits_le (bs.getD (k : Int).toNat default).mode (bs.getD (k : Int).toNat default).lv xs (side e)
      refine c_reg ?_
      refine s0 (x_move (v := .slice _ _ _) rfl) ?_
      refine st (x_loadAgB ag111FN rfl B13 rfl) ?_
      refine s0 (x_move (v := .slice _ _ _) rfl) ?_
      refine s0 (x_move (v := .int _ _) rfl) ?_
      refine sp (zcall cl134FN rfl) (i_blockBits _ _ _ _ _ _ _ _ _ (hx.ext L) (by omega) ((hp.2 _ (getD_mem (by omega) (by omega))).ext L) (by omega)) ?_
      rintro v35 w18 l19 ⟨p35, c35, F35, rfl, o35, f35⟩
      have z_l19 := l19.size
      have L := L.tr l19.up
      have B1 := B1.ext l19
      have B13 := B13.ext l19
      have oz7 := oz7.ext l19
      have g35 := o35.lt
      refine s_appi (B := w8.heap.size) so40FN zr3FN rfl rfl (xs := _) oz7 o35.sl fz7 (by omega) (by omega) (by omega) ?_
      intro p36 c36 F36 w20 l21 o36 hn36 k36 f36 g36
      have ab1_36 : b1 ∉ F36 := k36.nin (by first | assumption | exact nin_of fz7 gz7 (by omega)) (by omega)
      have B1 := B1.exm l21 (by first | assumption | exact nin_of fz7 gz7 (by omega))
      have ab13_36 : b13 ∉ F36 := k36.nin (by first | assumption | exact nin_of fz7 gz7 (by omega)) (by omega)
      have B13 := B13.exm l21 (by first | assumption | exact nin_of fz7 gz7 (by omega))
      have z_l21 := l21.size
      have L := L.freshL l21 fz7 (by omega)
      have d35_36 : Dj F35 F36 := k36.dj (by first | assumption | exact Dj.symm (by assumption) | exact dj_of f35 g35 fz7 gz7 (by omega)) g35 (by omega)
      have o35 := o35.exm l21 (by first | assumption | exact Dj.symm (by assumption) | exact dj_of fz7 gz7 f35 g35 (by omega))
      refine s0 (x_assign (v := .slice _ _ _) rfl) ?_
      refine c_end ?_
      refine n_block ?_
      refine n_then ?_
      refine c_reg ?_
      refine s0 (x_add rfl rfl (by omega)) ?_
      refine s0 (x_move (v := .int _ _) rfl) ?_
      refine c_end ?_
      exact c_round (g' := k + 1) (by omega) ⟨_, _, _, _, upd_self6 rfl rfl (slice_len (by rw [mbA_succ (by omega), Int.toNat_natCast])) rfl rfl (vint (by omega)), L, (by omega), B1, (by rw [mbA_succ (by omega)]; rw [Int.toNat_natCast] at o36; exact o36), (f36.mono (by omega)), (g36.mono (by omega)), (by first | assumption | exact nin_of f36 g36 (by omega)), (by omega)⟩
    · refine c_end ?_
      refine n_then ?_
      refine wp_seq ?_
      refine c_false rfl ?_
      refine wp_exit (e_then (e_then (e_here ?_)))
      refine n_then ?_
      refine wp_seq ?_
      refine c_reg ?_
      refine s0 (x_move (v := .slice _ _ _) rfl) ?_
      refine s0 (x_assign (v := .slice _ _ _) rfl) ?_
      refine c_end ?_
      refine n_then ?_
      refine wp_ret ?_
      refine f_ret rfl rfl ?_
      rw [mb_yes h12 (k := k) (by rw [List.length_map]; omega)]
      exact ⟨_, rfl, L, _, _, _, rfl, oz7, fz7.mono (by omega)⟩
  · have z_l5 := l5.size
    have L := L.tr l5.up
    have B1 := B1.ext l5
    refine s0 (x_not rfl) ?_
    refine c_end ?_
    refine n_then ?_
    refine c_true rfl ?_
    refine wp_seq ?_
    refine c_reg ?_
    refine s0 (x_assign (v := .slice _ _ _) rfl) ?_
    refine c_end ?_
    refine n_then ?_
    refine wp_ret (r_then ?_)
    refine f_ret rfl rfl ?_
    rw [mb_no h12]
    exact ⟨_, rfl, L, none, 0, [], rfl, Own.nil, Fr.no⟩

/-- spec.MbBits -/
theorem s_mbBits (e : Bool) (p : Option Addr) (bs : List Bk) (c : Nat) (r : Option Addr) (xs : List Int) (d : Nat) (w : World) (hp : RdBs w p bs c) (hx : Sl w r xs.length d 1 (ic xs)) (hl : bs.length ≤ 1099511627776) (hb : ∀ b ∈ bs, b.lv.length ≤ 1099511627776) (hl2 : xs.length ≤ 1099511627776) :
    Calls Try.prog 41 [.agg [.bool e, .slice p bs.length c].toArray, .slice r xs.length d].toArray w (RetP w fun v w' => ∃ p c F, v = .slice p (mbBits e (bs.map Bk.pl) xs).length c ∧ Own w' p (mbBits e (bs.map Bk.pl) xs).length c 3 1 (ic (mbBits e (bs.map Bk.pl) xs)) F ∧ Fr w.heap.size F) := by
  have L : Exm [] w w := Exm.rfl'
  refine enter (n := 39) Try.func41 rfl rfl rfl ?_
  refine wp_seq ?_
  refine c_reg ?_
  refine s_box rfl rfl ?_
  intro b1 w2 lob1 hib1 l3 B1
  have z_l3 := l3.size
  have L := L.tr l3.up
  refine s0 (x_assign (v := .slice _ _ _) rfl) ?_
  refine c_end ?_
  refine n_then ?_
  refine wp_seq ?_
  refine c_reg ?_
  refine s_bs0 so40FN ?_
  intro p7 F7 w4 l5 o7 f7 g7
  have o7 : Own w4 p7 0 0 3 1 (ic []) F7 := o7
  have z_l5 := l5.size
  have L := L.tr l5.up
  have B1 := B1.ext l5
  refine s0 (x_assign (v := .slice _ _ _) rfl) ?_
  refine c_end ?_
  refine n_then ?_
  refine wp_seq ?_
  refine wp_seq ?_
  refine c_reg ?_
  refine st (x_loadAgB ag54FN rfl B1 rfl) ?_
  refine s0 (x_move (v := .slice _ _ _) rfl) ?_
  refine srb (zcall cl128FN rfl) (s_mbOk _ _ _ _ _ _ _ _ (hp.ext L) (hx.ext L) (by omega) hb (by omega)) (fun h10 w6 l7 => ?_) (fun h10 w6 l7 => ?_)
  · have z_l7 := l7.size
    have L := L.tr l7.up
    have B1 := B1.ext l7
    have o7 := o7.ext l7
    refine s0 (x_not rfl) ?_
    refine c_end ?_
    refine n_then ?_
    refine c_false rfl ?_
    refine c_skipn ?_
    refine n_then ?_
    refine wp_seq ?_
    refine c_reg ?_
    refine s0 (x_move (v := .slice _ _ _) rfl) ?_
    refine s0 (x_fieldAddr fa54_0FN rfl) ?_
    refine st (x_loadB sc4FN rfl B1 rfl) ?_
    refine sr (zcall cl129FN rfl) (s_flag _ _) ?_
    intro w8 l9
    have z_l9 := l9.size
    have L := L.tr l9.up
    have B1 := B1.ext l9
    have o7 := o7.ext l9
    refine s_bsi (xs := [_]) so40FN zr3FN (pts_cons rfl pts_nil) rfl rfl rfl ?_
    intro p17 F17 w10 l11 o17 f17 g17
    have z_l11 := l11.size
    have L := L.tr l11.up
    have B1 := B1.ext l11
    have o7 := o7.ext l11
    have hn17 := o17.n1
    refine s_appi (B := w2.heap.size) so40FN zr3FN rfl rfl (xs := _) o7 o17.sl f7 (by omega) (by omega) (by omega) ?_
    intro p18 c18 F18 w12 l13 o18 hn18 k18 f18 g18
    have ab1_18 : b1 ∉ F18 := k18.nin (by first | assumption | exact nin_of f7 g7 (by omega)) (by omega)
    have B1 := B1.exm l13 (by first | assumption | exact nin_of f7 g7 (by omega))
    have z_l13 := l13.size
    have L := L.freshL l13 f7 (by omega)
    have d17_18 : Dj F17 F18 := k18.dj (by first | assumption | exact Dj.symm (by assumption) | exact dj_of f17 g17 f7 g7 (by omega)) g17 (by omega)
    have o17 := o17.exm l13 (by first | assumption | exact Dj.symm (by assumption) | exact dj_of f7 g7 f17 g17 (by omega))
    refine s0 (x_assign (v := .slice _ _ _) rfl) ?_
    refine c_end ?_
    refine n_then ?_
    refine wp_seq ?_
    refine wp_seq ?_
    refine c_reg ?_
    refine s0 (x_assign (v := .int _ _) rfl) ?_
    refine c_end ?_
    refine n_then ?_
    refine wp_block ?_
    refine c_loop (γ := Nat) (fun k => bs.length - k) (fun (k : Nat) E wl => ∃ E0 pz5 cz5 Fz5, E = upd (upd (upd (upd E0 1 (.slice r xs.length d)) 2 (pt b1 0)) 5 (.slice pz5 ((mbA e (bs.map Bk.pl) xs k).length) cz5)) 6 (.int .i64 (k : Int)) ∧ (Exm [] w wl) ∧ (w12.heap.size ≤ wl.heap.size) ∧ (Bx wl b1 [.bool e, .slice p bs.length c] 54) ∧ (Own wl pz5 ((mbA e (bs.map Bk.pl) xs k).length) cz5 3 1 (ic (mbA e (bs.map Bk.pl) xs k)) Fz5) ∧ (Fr (w2.heap.size) Fz5) ∧ (Lt Fz5 wl.heap.size) ∧ (b1 ∉ Fz5) ∧ ((k : Int) ≤ bs.length)) 0 ⟨_, _, _, _, upd_self4 rfl rfl (slice_len (by rw [mbA_zero]; rfl)) rfl, L, (by omega), B1, (own_eq (mbA_zero e (bs.map Bk.pl) xs).symm o18), (f18.mono (by omega)), (g18.mono (by omega)), (by first | assumption | exact nin_of f18 g18 (by omega)), (by omega)⟩ ?_
    rintro k E wl14 ⟨E0, pz5, cz5, Fz5, rfl, L, Lz, B1, oz5, fz5, gz5, ab1_z5, hk⟩
    have Lz0 := L.size
    have hml := mbA_len e (bs.map Bk.pl) xs k
    have hb4 := (mb_many h10); rw [List.length_map] at hb4
    refine wp_seq ?_
    refine wp_seq ?_
    refine c_reg ?_
    refine s0 (x_move (v := .int _ _) rfl) ?_
    refine s0 (x_fieldAddr fa54_1FN rfl) ?_
    refine st (x_loadB sc52FN rfl B1 rfl) ?_
    refine s0 (x_lensl un52FN rfl) ?_
    refine sb (x_lss rfl rfl) (fun h23 => ?_) (fun h23 => ?_)
    · refine c_end ?_
      refine n_then ?_
      refine c_true rfl ?_
      refine c_skipn ?_
      refine n_then ?_
      refine wp_seq ?_
      refine wp_block ?_
      have hbk := hb _ (getD_mem (xs := bs) (i := (k : Int)) (by omega) (by omega))
      have hbl4 := blockBits_le (bs.getD (k : Int).toNat default).mode (bs.getD (k : Int).toNat default).lv xs (side e)
      refine c_plan (fun wq => Exm [] wl14 wq) 11 (.cons (0, 2) (.cons (1, 2) (.cons (2, 1) (.cons (3, 2) (.cons (4, 2) (.cons (5, 1) (.cons (6, 2) (.cons (7, 2) (.cons (8, 1) (.cons (9, 0) (.cons (10, 0) (.cons (11, 0) (.cons (12, 0) .nil))))))))))))) (by kernel_rfl) (by kernel_rfl) (Exm.drew _) ?_
      obtain ⟨w15, hwd⟩ : ∃ x, x = wl14.drew := ⟨_, rfl⟩
      have l16 : Ext wl14 w15 := by rw [hwd]; exact Exm.drew _
      rw [← hwd]; clear hwd
      have Lq : Exm [] wl14 w15 := l16.up
      have qB1 := B1
      have qoz5 := oz5
      have qL := L
      have z_l16 := l16.size
      have L := L.tr l16.up
      have B1 := B1.ext l16
      have oz5 := oz5.ext l16
      refine p0 rfl (x_move (v := .slice _ _ _) rfl) ?_
      refine p0 rfl (x_fieldAddr fa54_1FN rfl) ?_
      refine ps rfl (fun wq hwq => x_loadB sc52FN rfl (qB1.ext hwq) rfl) ?_
      refine p0 rfl (x_move (v := .int _ _) rfl) ?_
      refine p0 rfl (x_idx so52FN rfl rfl hp.1 (by decide) (by omega) (by omega)) ?_
      refine ps rfl (fun wq hwq => x_ldr brow_len ag111FN rfl ((hp.1.ext qL).ext hwq) (by omega) (by omega)) ?_
      refine p0 rfl (x_move (v := .slice _ _ _) rfl) ?_
      refine p0 rfl (x_fieldAddr fa54_0FN rfl) ?_
      refine ps rfl (fun wq hwq => x_loadB sc4FN rfl (qB1.ext hwq) rfl) ?_
      refine pu rfl ?_ (by rintro ⟨_, _, h, _⟩; cases h)
      refine sr (zcall cl119FN rfl) (s_side _ _) ?_
      intro w17 l18
      have z_l18 := l18.size
      have L := L.tr l18.up
      have Lq := Lq.tr l18.up
      have B1 := B1.ext l18
      have oz5 := oz5.ext l18
      refine c_end ⟨rfl, fun h hS => Lq, ?_⟩
      refine pu rfl ?_ (by rintro ⟨_, _, h, _⟩; cases h)
      refine sp (zcall cl130FN rfl) (s_blockBits _ _ _ _ _ _ _ _ _ (hx.ext L) (by omega) ((hp.2 _ (getD_mem (by omega) (by omega))).ext L) (by omega)) ?_
      rintro v36 w19 l20 ⟨p36, c36, F36, rfl, o36, f36⟩
      have z_l20 := l20.size
      have L := L.tr l20.up
      have Lq := Lq.tr l20.up
      have B1 := B1.ext l20
      have oz5 := oz5.ext l20
      have g36 := o36.lt
      refine c_end ⟨rfl, fun h hS => Lq, ?_⟩
      refine pu rfl ?_ (by rintro ⟨_, _, h, _⟩; cases h)
      refine s_appi (B := w2.heap.size) so40FN zr3FN rfl rfl (xs := _) oz5 o36.sl fz5 (by omega) (by omega) (by omega) ?_
      intro p37 c37 F37 w21 l22 o37 hn37 k37 f37 g37
      have ab1_37 : b1 ∉ F37 := k37.nin (by first | assumption | exact nin_of fz5 gz5 (by omega)) (by omega)
      have B1 := B1.exm l22 (by first | assumption | exact nin_of fz5 gz5 (by omega))
      have z_l22 := l22.size
      have L := L.freshL l22 fz5 (by omega)
      have d36_37 : Dj F36 F37 := k37.dj (by first | assumption | exact Dj.symm (by assumption) | exact dj_of f36 g36 fz5 gz5 (by omega)) g36 (by omega)
      have o36 := o36.exm l22 (by first | assumption | exact Dj.symm (by assumption) | exact dj_of fz5 gz5 f36 g36 (by omega))
      refine c_end ⟨rfl, fun h hS => absurd h (by decide), ?_⟩
      refine pu rfl ?_ (by rintro ⟨_, _, h, _⟩; cases h)
      refine s0 (x_assign (v := .slice _ _ _) rfl) ?_
      refine c_end ⟨rfl, fun h hS => absurd h (by decide), ?_⟩
      refine p_nil (np_normal ?_)
      refine n_block ?_
      refine n_then ?_
      refine c_reg ?_
      refine s0 (x_move (v := .int _ _) rfl) ?_
      refine s0 (x_add rfl rfl (by omega)) ?_
      refine s0 (x_assign (v := .int _ _) rfl) ?_
      refine c_end ?_
      exact c_round (g' := k + 1) (by omega) ⟨_, _, _, _, upd_self4 rfl rfl (slice_len (by rw [mbA_succ (by omega), Int.toNat_natCast])) (vint (by omega)), L, (by omega), B1, (by rw [mbA_succ (by omega)]; rw [Int.toNat_natCast] at o37; exact o37), (f37.mono (by omega)), (g37.mono (by omega)), (by first | assumption | exact nin_of f37 g37 (by omega)), (by omega)⟩
    · refine c_end ?_
      refine n_then ?_
      refine c_false rfl ?_
      refine wp_exit (e_then (e_then (e_here ?_)))
      refine n_then ?_
      refine wp_seq ?_
      refine c_reg ?_
      refine s0 (x_move (v := .slice _ _ _) rfl) ?_
      refine s0 (x_assign (v := .slice _ _ _) rfl) ?_
      refine c_end ?_
      refine n_then ?_
      refine wp_ret ?_
      refine f_ret rfl rfl ?_
      rw [mb_yes h10 (k := k) (by rw [List.length_map]; omega)]
      exact ⟨_, rfl, L, _, _, _, rfl, oz5, fz5.mono (by omega)⟩
  · have z_l7 := l7.size
    have L := L.tr l7.up
    have B1 := B1.ext l7
    have o7 := o7.ext l7
    refine s0 (x_not rfl) ?_
    refine c_end ?_
    refine n_then ?_
    refine c_true rfl ?_
    refine wp_seq ?_
    refine c_reg ?_
    refine s0 (x_move (v := .slice _ _ _) rfl) ?_
    refine s0 (x_assign (v := .slice _ _ _) rfl) ?_
    refine c_end ?_
    refine n_then ?_
    refine wp_ret (r_then ?_)
    refine f_ret rfl rfl ?_
    rw [mb_no h10]
    exact ⟨_, rfl, L, _, _, _, rfl, o7, f7.mono (by omega)⟩

end Go.Proofs.Ytnehdmcilmlchaa
