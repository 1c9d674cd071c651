/- What each function of this part returns, for every argument that meets its premises. -/
import Derived.Test.YtnehdmcilmlchaaFM
namespace Go.Proofs.Ytnehdmcilmlchaa
open Go.Sx Go.Pl Go.RowKit
theorem cl130 : Callable Try.prog 130 := callable Try.func130 (by kernel_rfl) rfl
theorem cl134 : Callable Try.prog 134 := callable Try.func134 (by kernel_rfl) rfl
theorem cl145 : Callable Try.prog 145 := callable Try.func145 (by kernel_rfl) rfl
theorem cl146 : Callable Try.prog 146 := callable Try.func146 (by kernel_rfl) rfl
theorem cl147 : Callable Try.prog 147 := callable Try.func147 (by kernel_rfl) rfl
theorem cl149 : Callable Try.prog 149 := callable Try.func149 (by kernel_rfl) rfl
theorem cl150 : Callable Try.prog 150 := callable Try.func150 (by kernel_rfl) rfl
theorem cl151 : Callable Try.prog 151 := callable Try.func151 (by kernel_rfl) rfl
theorem cl205 : Callable Try.prog 205 := callable Try.func205 (by kernel_rfl) rfl
theorem cl209 : Callable Try.prog 209 := callable Try.func209 (by kernel_rfl) rfl
theorem cl249 : Callable Try.prog 249 := callable Try.func249 (by kernel_rfl) rfl
theorem cl41 : Callable Try.prog 41 := callable Try.func41 (by kernel_rfl) rfl
theorem cl43 : Callable Try.prog 43 := callable Try.func43 (by kernel_rfl) rfl
/-- impl.MbBits -/
theorem i_mbBits (e : Bool) (p : Option Addr) (bs : List Bk) (c : Nat) (r : Option Addr) (xs : List Int) (d : Nat) (w : World) (hp : RdBs w p bs c) (hx : Sl w r xs.length d 1 (ic xs)) (hl : bs.length ≤ 1099511627776) (hb : ∀ b ∈ bs, b.lv.length ≤ 1099511627776) (hl2 : xs.length ≤ 1099511627776) :
    Calls Try.prog 43 [.agg [.bool e, .slice p bs.length c].toArray, .slice r xs.length d].toArray w (RetP w fun v w' => ∃ p c F, v = .slice p (mbBits e (bs.map Bk.pl) xs).length c ∧ Own w' p (mbBits e (bs.map Bk.pl) xs).length c 3 1 (ic (mbBits e (bs.map Bk.pl) xs)) F ∧ Fr w.heap.size F) := by
  have L : Exm [] w w := Exm.rfl'
  refine enter (n := 39) Try.func43 rfl rfl rfl ?_
  refine wp_seq ?_
  refine c_reg ?_
  refine s_box rfl rfl ?_
  intro b1 w2 lob1 hib1 l3 B1
  have z_l3 := l3.size
  have L := L.tr l3.up
  refine s0 (x_assign (v := .slice _ _ _) rfl) ?_
  refine c_end ?_
  refine n_then ?_
  refine wp_seq ?_
  refine wp_seq ?_
  refine c_reg ?_
  refine st (x_loadAgB ag54 rfl B1 rfl) ?_
  refine s0 (x_move (v := .slice _ _ _) rfl) ?_
  refine srb (zcall cl132 rfl) (i_mbOk _ _ _ _ _ _ _ _ (hp.ext L) (hx.ext L) (by omega) hb (by omega)) (fun h12 w4 l5 => ?_) (fun h12 w4 l5 => ?_)
  · have z_l5 := l5.size
    have L := L.tr l5.up
    have B1 := B1.ext l5
    refine s0 (x_not rfl) ?_
    refine c_end ?_
    refine n_then ?_
    refine c_false rfl ?_
    refine c_skipn ?_
    refine n_then ?_
    refine wp_seq ?_
    refine c_reg ?_
    refine s0 (x_fieldAddr fa54_0 rfl) ?_
    refine st (x_loadB sc4 rfl B1 rfl) ?_
    refine sr (zcall cl122 rfl) (i_shape _ _) ?_
    intro w6 l7
    have z_l7 := l7.size
    have L := L.tr l7.up
    have B1 := B1.ext l7
    refine s0 (x_move (v := .tuple _) rfl) ?_
    refine s0 (x_extract rfl rfl) ?_
    refine s0 (x_extract rfl rfl) ?_
    refine s0 (x_assign (v := .int _ _) rfl) ?_
    refine s0 (x_assign (v := .int _ _) rfl) ?_
    refine c_end ?_
    refine n_then ?_
    refine wp_seq ?_
    refine c_reg ?_
    refine s0 (x_fieldAddr fa54_0 rfl) ?_
    refine st (x_loadB sc4 rfl B1 rfl) ?_
    refine sr (zcall cl133 rfl) (i_bitOf _ _) ?_
    intro w8 l9
    have z_l9 := l9.size
    have L := L.tr l9.up
    have B1 := B1.ext l9
    refine s_bsi (xs := [_]) so40 zr3 (pts_cons rfl pts_nil) rfl rfl rfl ?_
    intro p23 F23 w10 l11 o23 f23 g23
    have z_l11 := l11.size
    have L := L.tr l11.up
    have B1 := B1.ext l11
    have hn23 := o23.n1
    refine s0 (x_assign (v := .slice _ _ _) rfl) ?_
    refine c_end ?_
    refine n_then ?_
    refine wp_seq ?_
    refine wp_seq ?_
    refine c_reg ?_
    refine s0 (x_fieldAddr fa54_1 rfl) ?_
    refine st (x_loadB sc52 rfl B1 rfl) ?_
    refine s0 (x_lensl un52 rfl) ?_
    refine s0 (x_move (v := .int _ _) rfl) ?_
    refine c_end ?_
    refine n_then ?_
    refine wp_block ?_
    refine c_loop (γ := Nat) (fun k => bs.length - k) (fun (k : Nat) E wl => ∃ E0 pz7 cz7 Fz7, E = upd (upd (upd (upd (upd (upd E0 1 (.slice r xs.length d)) 6 (.int .i64 (side e))) 7 (.slice pz7 ((mbA e (bs.map Bk.pl) xs k).length) cz7)) 25 (.slice p bs.length c)) 26 (.int .i64 bs.length)) 27 (.int .i64 (k : Int)) ∧ (Exm [] w wl) ∧ (w10.heap.size ≤ wl.heap.size) ∧ (Bx wl b1 [.bool e, .slice p bs.length c] 54) ∧ (Own wl pz7 ((mbA e (bs.map Bk.pl) xs k).length) cz7 3 1 (ic (mbA e (bs.map Bk.pl) xs k)) Fz7) ∧ (Fr (w8.heap.size) Fz7) ∧ (Lt Fz7 wl.heap.size) ∧ (b1 ∉ Fz7) ∧ ((k : Int) ≤ bs.length)) 0 ⟨_, _, _, _, upd_self6 rfl rfl (slice_len (by rw [mbA_zero]; rfl)) rfl rfl rfl, L, (by omega), B1, (own_eq (mbA_zero e (bs.map Bk.pl) xs).symm o23), (f23.mono (by omega)), (g23.mono (by omega)), (by first | assumption | exact nin_of f23 g23 (by omega)), (by omega)⟩ ?_
    rintro k E wl12 ⟨E0, pz7, cz7, Fz7, rfl, L, Lz, B1, oz7, fz7, gz7, ab1_z7, hk⟩
    have Lz0 := L.size
    have hml := mbA_len e (bs.map Bk.pl) xs k
    have hb4 := (mb_many h12); rw [List.length_map] at hb4
    refine wp_seq ?_
    refine c_reg ?_
    refine sb (x_lss rfl rfl) (fun h28 => ?_) (fun h28 => ?_)
    · refine c_end ?_
      refine n_then ?_
      refine wp_seq ?_
      refine c_true rfl ?_
      refine c_skipn ?_
      refine n_then ?_
      refine wp_seq ?_
      refine wp_block ?_
      refine wp_seq ?_
      refine c_reg ?_
      refine s0 (x_idx so52 rfl rfl hp.1 (by decide) (by omega) (by omega)) ?_
      refine st (x_ldr brow_len ag111 rfl (hp.1.ext L) (by omega) (by omega)) ?_
      refine s_alloc zr111 ?_
      intro b13 w14 lob13 hib13 l15 B13
      have z_l15 := l15.size
      have L := L.tr l15.up
      have B1 := B1.ext l15
      have oz7 := oz7.ext l15
      refine s_storeAg rfl sz111 rfl rfl B13 rfl rfl rfl ?_
      intro w16 l17 el17 B13
      have z_l17 := l17.size
      have L := L.fresh l17 (by omega)
      have B1 := B1.ne l17 (by omega)
      have oz7 := oz7.ne l17 (by first | assumption | exact nin_of fz7 gz7 (by omega))
      refine c_end ?_
      refine n_then ?_
      have hbk := hb _ (getD_mem (xs := bs) (i := (k : Int)) (by omega) (by omega))
      have hbl4 := blockBits_le (bs.getD (k : Int).toNat default).mode (bs.getD (k : Int).toNat default).lv xs (side e)
      refine c_reg ?_
      refine s0 (x_move (v := .slice _ _ _) rfl) ?_
      refine st (x_loadAgB ag111 rfl B13 rfl) ?_
      refine s0 (x_move (v := .slice _ _ _) rfl) ?_
      refine s0 (x_move (v := .int _ _) rfl) ?_
      refine sp (zcall cl134 rfl) (i_blockBits _ _ _ _ _ _ _ _ _ (hx.ext L) (by omega) ((hp.2 _ (getD_mem (by omega) (by omega))).ext L) (by omega)) ?_
      rintro v35 w18 l19 ⟨p35, c35, F35, rfl, o35, f35⟩
      have z_l19 := l19.size
      have L := L.tr l19.up
      have B1 := B1.ext l19
      have B13 := B13.ext l19
      have oz7 := oz7.ext l19
      have g35 := o35.lt
      refine s_appi (B := w8.heap.size) so40 zr3 rfl rfl (xs := _) oz7 o35.sl fz7 (by omega) (by omega) (by omega) ?_
      intro p36 c36 F36 w20 l21 o36 hn36 k36 f36 g36
      have ab1_36 : b1 ∉ F36 := k36.nin (by first | assumption | exact nin_of fz7 gz7 (by omega)) (by omega)
      have B1 := B1.exm l21 (by first | assumption | exact nin_of fz7 gz7 (by omega))
      have ab13_36 : b13 ∉ F36 := k36.nin (by first | assumption | exact nin_of fz7 gz7 (by omega)) (by omega)
      have B13 := B13.exm l21 (by first | assumption | exact nin_of fz7 gz7 (by omega))
      have z_l21 := l21.size
      have L := L.freshL l21 fz7 (by omega)
      have d35_36 : Dj F35 F36 := k36.dj (by first | assumption | exact Dj.symm (by assumption) | exact dj_of f35 g35 fz7 gz7 (by omega)) g35 (by omega)
      have o35 := o35.exm l21 (by first | assumption | exact Dj.symm (by assumption) | exact dj_of fz7 gz7 f35 g35 (by omega))
      refine s0 (x_assign (v := .slice _ _ _) rfl) ?_
      refine c_end ?_
      refine n_block ?_
      refine n_then ?_
      refine c_reg ?_
      refine s0 (x_add rfl rfl (by omega)) ?_
      refine s0 (x_move (v := .int _ _) rfl) ?_
      refine c_end ?_
      exact c_round (g' := k + 1) (by omega) ⟨_, _, _, _, upd_self6 rfl rfl (slice_len (by rw [mbA_succ (by omega), Int.toNat_natCast])) rfl rfl (vint (by omega)), L, (by omega), B1, (by rw [mbA_succ (by omega)]; rw [Int.toNat_natCast] at o36; exact o36), (f36.mono (by omega)), (g36.mono (by omega)), (by first | assumption | exact nin_of f36 g36 (by omega)), (by omega)⟩
    · refine c_end ?_
      refine n_then ?_
      refine wp_seq ?_
      refine c_false rfl ?_
      refine wp_exit (e_then (e_then (e_here ?_)))
      refine n_then ?_
      refine wp_seq ?_
      refine c_reg ?_
      refine s0 (x_move (v := .slice _ _ _) rfl) ?_
      refine s0 (x_assign (v := .slice _ _ _) rfl) ?_
      refine c_end ?_
      refine n_then ?_
      refine wp_ret ?_
      refine f_ret rfl rfl ?_
      rw [mb_yes h12 (k := k) (by rw [List.length_map]; omega)]
      exact ⟨_, rfl, L, _, _, _, rfl, oz7, fz7.mono (by omega)⟩
  · have z_l5 := l5.size
    have L := L.tr l5.up
    have B1 := B1.ext l5
    refine s0 (x_not rfl) ?_
    refine c_end ?_
    refine n_then ?_
    refine c_true rfl ?_
    refine wp_seq ?_
    refine c_reg ?_
    refine s0 (x_assign (v := .slice _ _ _) rfl) ?_
    refine c_end ?_
    refine n_then ?_
    refine wp_ret (r_then ?_)
    refine f_ret rfl rfl ?_
    rw [mb_no h12]
    exact ⟨_, rfl, L, none, 0, [], rfl, Own.nil, Fr.no⟩

/-- spec.MbBits -/
theorem s_mbBits (e : Bool) (p : Option Addr) (bs : List Bk) (c : Nat) (r : Option Addr) (xs : List Int) (d : Nat) (w : World) (hp : RdBs w p bs c) (hx : Sl w r xs.length d 1 (ic xs)) (hl : bs.length ≤ 1099511627776) (hb : ∀ b ∈ bs, b.lv.length ≤ 1099511627776) (hl2 : xs.length ≤ 1099511627776) :
    Calls Try.prog 41 [.agg [.bool e, .slice p bs.length c].toArray, .slice r xs.length d].toArray w (RetP w fun v w' => ∃ p c F, v = .slice p (mbBits e (bs.map Bk.pl) xs).length c ∧ Own w' p (mbBits e (bs.map Bk.pl) xs).length c 3 1 (ic (mbBits e (bs.map Bk.pl) xs)) F ∧ Fr w.heap.size F) := by
  have L : Exm [] w w := Exm.rfl'
  refine enter (n := 39) Try.func41 rfl rfl rfl ?_
  refine wp_seq ?_
  refine c_reg ?_
  refine s_box rfl rfl ?_
  intro b1 w2 lob1 hib1 l3 B1
  have z_l3 := l3.size
  have L := L.tr l3.up
  refine s0 (x_assign (v := .slice _ _ _) rfl) ?_
  refine c_end ?_
  refine n_then ?_
  refine wp_seq ?_
  refine c_reg ?_
  refine s_bs0 so40 ?_
  intro p7 F7 w4 l5 o7 f7 g7
  have o7 : Own w4 p7 0 0 3 1 (ic []) F7 := o7
  have z_l5 := l5.size
  have L := L.tr l5.up
  have B1 := B1.ext l5
  refine s0 (x_assign (v := .slice _ _ _) rfl) ?_
  refine c_end ?_
  refine n_then ?_
  refine wp_seq ?_
  refine wp_seq ?_
  refine c_reg ?_
  refine st (x_loadAgB ag54 rfl B1 rfl) ?_
  refine s0 (x_move (v := .slice _ _ _) rfl) ?_
  refine srb (zcall cl128 rfl) (s_mbOk _ _ _ _ _ _ _ _ (hp.ext L) (hx.ext L) (by omega) hb (by omega)) (fun h10 w6 l7 => ?_) (fun h10 w6 l7 => ?_)
  · have z_l7 := l7.size
    have L := L.tr l7.up
    have B1 := B1.ext l7
    have o7 := o7.ext l7
    refine s0 (x_not rfl) ?_
    refine c_end ?_
    refine n_then ?_
    refine c_false rfl ?_
    refine c_skipn ?_
    refine n_then ?_
    refine wp_seq ?_
    refine c_reg ?_
    refine s0 (x_move (v := .slice _ _ _) rfl) ?_
    refine s0 (x_fieldAddr fa54_0 rfl) ?_
    refine st (x_loadB sc4 rfl B1 rfl) ?_
    refine sr (zcall cl129 rfl) (s_flag _ _) ?_
    intro w8 l9
    have z_l9 := l9.size
    have L := L.tr l9.up
    have B1 := B1.ext l9
    have o7 := o7.ext l9
    refine s_bsi (xs := [_]) so40 zr3 (pts_cons rfl pts_nil) rfl rfl rfl ?_
    intro p17 F17 w10 l11 o17 f17 g17
    have z_l11 := l11.size
    have L := L.tr l11.up
    have B1 := B1.ext l11
    have o7 := o7.ext l11
    have hn17 := o17.n1
    refine s_appi (B := w2.heap.size) so40 zr3 rfl rfl (xs := _) o7 o17.sl f7 (by omega) (by omega) (by omega) ?_
    intro p18 c18 F18 w12 l13 o18 hn18 k18 f18 g18
    have ab1_18 : b1 ∉ F18 := k18.nin (by first | assumption | exact nin_of f7 g7 (by omega)) (by omega)
    have B1 := B1.exm l13 (by first | assumption | exact nin_of f7 g7 (by omega))
    have z_l13 := l13.size
    have L := L.freshL l13 f7 (by omega)
    have d17_18 : Dj F17 F18 := k18.dj (by first | assumption | exact Dj.symm (by assumption) | exact dj_of f17 g17 f7 g7 (by omega)) g17 (by omega)
    have o17 := o17.exm l13 (by first | assumption | exact Dj.symm (by assumption) | exact dj_of f7 g7 f17 g17 (by omega))
    refine s0 (x_assign (v := .slice _ _ _) rfl) ?_
    refine c_end ?_
    refine n_then ?_
    refine wp_seq ?_
    refine wp_seq ?_
    refine c_reg ?_
    refine s0 (x_assign (v := .int _ _) rfl) ?_
    refine c_end ?_
    refine n_then ?_
    refine wp_block ?_
    refine c_loop (γ := Nat) (fun k => bs.length - k) (fun (k : Nat) E wl => ∃ E0 pz5 cz5 Fz5, E = upd (upd (upd (upd E0 1 (.slice r xs.length d)) 2 (pt b1 0)) 5 (.slice pz5 ((mbA e (bs.map Bk.pl) xs k).length) cz5)) 6 (.int .i64 (k : Int)) ∧ (Exm [] w wl) ∧ (w12.heap.size ≤ wl.heap.size) ∧ (Bx wl b1 [.bool e, .slice p bs.length c] 54) ∧ (Own wl pz5 ((mbA e (bs.map Bk.pl) xs k).length) cz5 3 1 (ic (mbA e (bs.map Bk.pl) xs k)) Fz5) ∧ (Fr (w2.heap.size) Fz5) ∧ (Lt Fz5 wl.heap.size) ∧ (b1 ∉ Fz5) ∧ ((k : Int) ≤ bs.length)) 0 ⟨_, _, _, _, upd_self4 rfl rfl (slice_len (by rw [mbA_zero]; rfl)) rfl, L, (by omega), B1, (own_eq (mbA_zero e (bs.map Bk.pl) xs).symm o18), (f18.mono (by omega)), (g18.mono (by omega)), (by first | assumption | exact nin_of f18 g18 (by omega)), (by omega)⟩ ?_
    rintro k E wl14 ⟨E0, pz5, cz5, Fz5, rfl, L, Lz, B1, oz5, fz5, gz5, ab1_z5, hk⟩
    have Lz0 := L.size
    have hml := mbA_len e (bs.map Bk.pl) xs k
    have hb4 := (mb_many h10); rw [List.length_map] at hb4
    refine wp_seq ?_
    refine wp_seq ?_
    refine c_reg ?_
    refine s0 (x_move (v := .int _ _) rfl) ?_
    refine s0 (x_fieldAddr fa54_1 rfl) ?_
    refine st (x_loadB sc52 rfl B1 rfl) ?_
    refine s0 (x_lensl un52 rfl) ?_
    refine sb (x_lss rfl rfl) (fun h23 => ?_) (fun h23 => ?_)
    · refine c_end ?_
      refine n_then ?_
      refine c_true rfl ?_
      refine c_skipn ?_
      refine n_then ?_
      refine wp_seq ?_
      refine wp_block ?_
      have hbk := hb _ (getD_mem (xs := bs) (i := (k : Int)) (by omega) (by omega))
      have hbl4 := blockBits_le (bs.getD (k : Int).toNat default).mode (bs.getD (k : Int).toNat default).lv xs (side e)
      refine c_plan (fun wq => Exm [] wl14 wq) 11 (.cons (0, 2) (.cons (1, 2) (.cons (2, 1) (.cons (3, 2) (.cons (4, 2) (.cons (5, 1) (.cons (6, 2) (.cons (7, 2) (.cons (8, 1) (.cons (9, 0) (.cons (10, 0) (.cons (11, 0) (.cons (12, 0) .nil))))))))))))) (by kernel_rfl) (by kernel_rfl) (Exm.drew _) ?_
      obtain ⟨w15, hwd⟩ : ∃ x, x = wl14.drew := ⟨_, rfl⟩
      have l16 : Ext wl14 w15 := by rw [hwd]; exact Exm.drew _
      rw [← hwd]; clear hwd
      have Lq : Exm [] wl14 w15 := l16.up
      have qB1 := B1
      have qoz5 := oz5
      have qL := L
      have z_l16 := l16.size
      have L := L.tr l16.up
      have B1 := B1.ext l16
      have oz5 := oz5.ext l16
      refine p0 rfl (x_move (v := .slice _ _ _) rfl) ?_
      refine p0 rfl (x_fieldAddr fa54_1 rfl) ?_
      refine ps rfl (fun wq hwq => x_loadB sc52 rfl (qB1.ext hwq) rfl) ?_
      refine p0 rfl (x_move (v := .int _ _) rfl) ?_
      refine p0 rfl (x_idx so52 rfl rfl hp.1 (by decide) (by omega) (by omega)) ?_
      refine ps rfl (fun wq hwq => x_ldr brow_len ag111 rfl ((hp.1.ext qL).ext hwq) (by omega) (by omega)) ?_
      refine p0 rfl (x_move (v := .slice _ _ _) rfl) ?_
      refine p0 rfl (x_fieldAddr fa54_0 rfl) ?_
      refine ps rfl (fun wq hwq => x_loadB sc4 rfl (qB1.ext hwq) rfl) ?_
      refine pu rfl ?_ (by rintro ⟨_, _, h, _⟩; cases h)
      refine sr (zcall cl119 rfl) (s_side _ _) ?_
      intro w17 l18
      have z_l18 := l18.size
      have L := L.tr l18.up
      have Lq := Lq.tr l18.up
      have B1 := B1.ext l18
      have oz5 := oz5.ext l18
      refine c_end ⟨rfl, fun h hS => Lq, ?_⟩
      refine pu rfl ?_ (by rintro ⟨_, _, h, _⟩; cases h)
      refine sp (zcall cl130 rfl) (s_blockBits _ _ _ _ _ _ _ _ _ (hx.ext L) (by omega) ((hp.2 _ (getD_mem (by omega) (by omega))).ext L) (by omega)) ?_
      rintro v36 w19 l20 ⟨p36, c36, F36, rfl, o36, f36⟩
      have z_l20 := l20.size
      have L := L.tr l20.up
      have Lq := Lq.tr l20.up
      have B1 := B1.ext l20
      have oz5 := oz5.ext l20
      have g36 := o36.lt
      refine c_end ⟨rfl, fun h hS => Lq, ?_⟩
      refine pu rfl ?_ (by rintro ⟨_, _, h, _⟩; cases h)
      refine s_appi (B := w2.heap.size) so40 zr3 rfl rfl (xs := _) oz5 o36.sl fz5 (by omega) (by omega) (by omega) ?_
      intro p37 c37 F37 w21 l22 o37 hn37 k37 f37 g37
      have ab1_37 : b1 ∉ F37 := k37.nin (by first | assumption | exact nin_of fz5 gz5 (by omega)) (by omega)
      have B1 := B1.exm l22 (by first | assumption | exact nin_of fz5 gz5 (by omega))
      have z_l22 := l22.size
      have L := L.freshL l22 fz5 (by omega)
      have d36_37 : Dj F36 F37 := k37.dj (by first | assumption | exact Dj.symm (by assumption) | exact dj_of f36 g36 fz5 gz5 (by omega)) g36 (by omega)
      have o36 := o36.exm l22 (by first | assumption | exact Dj.symm (by assumption) | exact dj_of fz5 gz5 f36 g36 (by omega))
      refine c_end ⟨rfl, fun h hS => absurd h (by decide), ?_⟩
      refine pu rfl ?_ (by rintro ⟨_, _, h, _⟩; cases h)
      refine s0 (x_assign (v := .slice _ _ _) rfl) ?_
      refine c_end ⟨rfl, fun h hS => absurd h (by decide), ?_⟩
      refine p_nil (np_normal ?_)
      refine n_block ?_
      refine n_then ?_
      refine c_reg ?_
      refine s0 (x_move (v := .int _ _) rfl) ?_
      refine s0 (x_add rfl rfl (by omega)) ?_
      refine s0 (x_assign (v := .int _ _) rfl) ?_
      refine c_end ?_
      exact c_round (g' := k + 1) (by omega) ⟨_, _, _, _, upd_self4 rfl rfl (slice_len (by rw [mbA_succ (by omega), Int.toNat_natCast])) (vint (by omega)), L, (by omega), B1, (by rw [mbA_succ (by omega)]; rw [Int.toNat_natCast] at o37; exact o37), (f37.mono (by omega)), (g37.mono (by omega)), (by first | assumption | exact nin_of f37 g37 (by omega)), (by omega)⟩
    · refine c_end ?_
      refine n_then ?_
      refine c_false rfl ?_
      refine wp_exit (e_then (e_then (e_here ?_)))
      refine n_then ?_
      refine wp_seq ?_
      refine c_reg ?_
      refine s0 (x_move (v := .slice _ _ _) rfl) ?_
      refine s0 (x_assign (v := .slice _ _ _) rfl) ?_
      refine c_end ?_
      refine n_then ?_
      refine wp_ret ?_
      refine f_ret rfl rfl ?_
      rw [mb_yes h10 (k := k) (by rw [List.length_map]; omega)]
      exact ⟨_, rfl, L, _, _, _, rfl, oz5, fz5.mono (by omega)⟩
  · have z_l7 := l7.size
    have L := L.tr l7.up
    have B1 := B1.ext l7
    have o7 := o7.ext l7
    refine s0 (x_not rfl) ?_
    refine c_end ?_
    refine n_then ?_
    refine c_true rfl ?_
    refine wp_seq ?_
    refine c_reg ?_
    refine s0 (x_move (v := .slice _ _ _) rfl) ?_
    refine s0 (x_assign (v := .slice _ _ _) rfl) ?_
    refine c_end ?_
    refine n_then ?_
    refine wp_ret (r_then ?_)
    refine f_ret rfl rfl ?_
    rw [mb_no h10]
    exact ⟨_, rfl, L, _, _, _, rfl, o7, f7.mono (by omega)⟩

/-- (impl.Stream).bits -/
theorem i_streamBits (a b q : Int) (y z : Bool) (r : Option Addr) (xs : List Int) (e : Nat) (p : Option Addr) (ms : List Mk) (c : Nat) (w : World) (hx : Sl w r xs.length e 1 (ic xs)) (hp : RdMs w p ms c) (hl0 : xs.length ≤ 1099511627776) (hl : ms.length ≤ 1099511627776) (hb : ∀ m ∈ ms, smallM 1099511627776 m) (hok : streamOk a b q xs (ms.map Mk.pl)) :
    Calls Try.prog 151 [.agg [.int .i64 a, .int .i64 b, .int .i64 q, .bool y, .bool z, .slice r xs.length e, .slice p ms.length c].toArray].toArray w (RetP w fun v w' => ∃ p c F, v = .slice p (stA a b q y z xs (ms.map Mk.pl) ms.length).length c ∧ Own w' p (stA a b q y z xs (ms.map Mk.pl) ms.length).length c 3 1 (ic (stA a b q y z xs (ms.map Mk.pl) ms.length)) F ∧ Fr w.heap.size F ∧ (stA a b q y z xs (ms.map Mk.pl) ms.length).length ≤ 1000000) := by
  have L : Exm [] w w := Exm.rfl'
  refine enter (n := 25) Try.func151 rfl rfl rfl ?_
  refine wp_seq ?_
  refine c_reg ?_
  refine s_box rfl rfl ?_
  intro b1 w2 lob1 hib1 l3 B1
  have z_l3 := l3.size
  have L := L.tr l3.up
  refine s0 (x_assign (v := .slice _ _ _) rfl) ?_
  refine c_end ?_
  refine n_then ?_
  refine wp_seq ?_
  refine c_reg ?_
  refine s0 (x_fieldAddr fa85_0 rfl) ?_
  refine st (x_loadIn ag42 rfl B1 [.int _ _, .int _ _, .int _ _, .bool _, .bool _, .slice _ _ _] rfl rfl) ?_
  refine sp (zcall cl209 rfl) (i_headerBits _ _ _ _ _ _ _ _ _ (hx.ext L) (by omega)) ?_
  rintro v8 w4 l5 ⟨p8, c8, F8, rfl, o8, f8⟩
  have z_l5 := l5.size
  have L := L.tr l5.up
  have B1 := B1.ext l5
  have g8 := o8.lt
  refine s0 (x_assign (v := .slice _ _ _) rfl) ?_
  refine c_end ?_
  refine n_then ?_
  refine wp_seq ?_
  refine wp_seq ?_
  refine c_reg ?_
  refine s0 (x_fieldAddr fa85_1 rfl) ?_
  refine st (x_loadB sc83 rfl B1 rfl) ?_
  refine s0 (x_lensl un83 rfl) ?_
  refine s0 (x_move (v := .int _ _) rfl) ?_
  refine c_end ?_
  refine n_then ?_
  refine wp_block ?_
  refine c_loop (γ := Nat) (fun k => ms.length - k) (fun (k : Nat) E wl => ∃ E0 pz3 cz3 Fz3, E = upd (upd (upd (upd (upd E0 1 (pt b1 0)) 3 (.slice pz3 ((stA a b q y z xs (ms.map Mk.pl) k).length) cz3)) 10 (.slice p ms.length c)) 11 (.int .i64 ms.length)) 12 (.int .i64 (k : Int)) ∧ (Exm [] w wl) ∧ (w4.heap.size ≤ wl.heap.size) ∧ (Bx wl b1 [.int .i64 a, .int .i64 b, .int .i64 q, .bool y, .bool z, .slice r xs.length e, .slice p ms.length c] 85) ∧ (Own wl pz3 ((stA a b q y z xs (ms.map Mk.pl) k).length) cz3 3 1 (ic (stA a b q y z xs (ms.map Mk.pl) k)) Fz3) ∧ (Fr (w2.heap.size) Fz3) ∧ (Lt Fz3 wl.heap.size) ∧ (b1 ∉ Fz3) ∧ ((k : Int) ≤ ms.length)) 0 ⟨_, _, _, _, upd_self5 rfl (slice_len (by rw [stA_zero])) rfl rfl rfl, L, (by omega), B1, (own_eq (stA_zero a b q y z xs (ms.map Mk.pl)).symm o8), (f8.mono (by omega)), (g8.mono (by omega)), (by first | assumption | exact nin_of f8 g8 (by omega)), (by omega)⟩ ?_
  rintro k E wl6 ⟨E0, pz3, cz3, Fz3, rfl, L, Lz, B1, oz3, fz3, gz3, ab1_z3, hk⟩
  have Lz0 := L.size
  have hsl := stA_len a b q y z xs (ms.map Mk.pl) k
  have hs16 := many_range hok.1.1
  have hml := hok.2.1; rw [List.length_map] at hml
  refine wp_seq ?_
  refine c_reg ?_
  refine sb (x_lss rfl rfl) (fun h13 => ?_) (fun h13 => ?_)
  · refine c_end ?_
    refine n_then ?_
    refine wp_seq ?_
    refine c_true rfl ?_
    refine c_skipn ?_
    refine n_then ?_
    refine wp_seq ?_
    refine wp_block ?_
    refine wp_seq ?_
    refine c_reg ?_
    refine s0 (x_idx so83 rfl rfl hp.1 (by decide) (by omega) (by omega)) ?_
    refine st (x_ldr mrow_len ag54 rfl (hp.1.ext L) (by omega) (by omega)) ?_
    refine s_alloc zr54 ?_
    intro b7 w8 lob7 hib7 l9 B7
    have z_l9 := l9.size
    have L := L.tr l9.up
    have B1 := B1.ext l9
    have oz3 := oz3.ext l9
    refine s_storeAg rfl sz54 rfl rfl B7 rfl rfl rfl ?_
    intro w10 l11 el11 B7
    have z_l11 := l11.size
    have L := L.fresh l11 (by omega)
    have B1 := B1.ne l11 (by omega)
    have oz3 := oz3.ne l11 (by first | assumption | exact nin_of fz3 gz3 (by omega))
    refine c_end ?_
    refine n_then ?_
    have hbm := hb _ (getD_mem (xs := ms) (i := (k : Int)) (by omega) (by omega))
    have hbm1 := hbm.1
    have hbm2 := hbm.2
    have hmb : (mbBits (ms.getD (k : Int).toNat default).eight ((ms.getD (k : Int).toNat default).bs.map Bk.pl) xs).length ≤ 20000 := mbBits_le (ms.getD (k : Int).toNat default).pl xs
    refine c_reg ?_
    refine s0 (x_move (v := .slice _ _ _) rfl) ?_
    refine st (x_loadAgB ag54 rfl B7 rfl) ?_
    refine s0 (x_fieldAddr fa85_0 rfl) ?_
    refine s0 (x_fieldAddr fa42_5 rfl) ?_
    refine st (x_loadB sc40 rfl B1 rfl) ?_
    refine sp (zcall cl43 rfl) (i_mbBits _ _ _ _ _ _ _ _ ((hp.2 _ (getD_mem (by omega) (by omega))).ext L) (hx.ext L) (by omega) (by assumption) (by omega)) ?_
    rintro v21 w12 l13 ⟨p21, c21, F21, rfl, o21, f21⟩
    have z_l13 := l13.size
    have L := L.tr l13.up
    have B1 := B1.ext l13
    have B7 := B7.ext l13
    have oz3 := oz3.ext l13
    have g21 := o21.lt
    refine s_appi (B := w2.heap.size) so40 zr3 rfl rfl (xs := _) oz3 o21.sl fz3 (by omega) (by omega) (by omega) ?_
    intro p22 c22 F22 w14 l15 o22 hn22 k22 f22 g22
    have ab1_22 : b1 ∉ F22 := k22.nin (by first | assumption | exact nin_of fz3 gz3 (by omega)) (by omega)
    have B1 := B1.exm l15 (by first | assumption | exact nin_of fz3 gz3 (by omega))
    have ab7_22 : b7 ∉ F22 := k22.nin (by first | assumption | exact nin_of fz3 gz3 (by omega)) (by omega)
    have B7 := B7.exm l15 (by first | assumption | exact nin_of fz3 gz3 (by omega))
    have z_l15 := l15.size
    have L := L.freshL l15 fz3 (by omega)
    have d21_22 : Dj F21 F22 := k22.dj (by first | assumption | exact Dj.symm (by assumption) | exact dj_of f21 g21 fz3 gz3 (by omega)) g21 (by omega)
    have o21 := o21.exm l15 (by first | assumption | exact Dj.symm (by assumption) | exact dj_of fz3 gz3 f21 g21 (by omega))
    refine s0 (x_assign (v := .slice _ _ _) rfl) ?_
    refine c_end ?_
    refine n_block ?_
    refine n_then ?_
    refine c_reg ?_
    refine s0 (x_add rfl rfl (by omega)) ?_
    refine s0 (x_move (v := .int _ _) rfl) ?_
    refine c_end ?_
    exact c_round (g' := k + 1) (by omega) ⟨_, _, _, _, upd_self5 rfl (slice_len (by rw [stA_succ (by omega), Int.toNat_natCast])) rfl rfl (vint (by omega)), L, (by omega), B1, (by rw [stA_succ (by omega)]; rw [Int.toNat_natCast] at o22; exact o22), (f22.mono (by omega)), (g22.mono (by omega)), (by first | assumption | exact nin_of f22 g22 (by omega)), (by omega)⟩
  · refine c_end ?_
    refine n_then ?_
    refine wp_seq ?_
    refine c_false rfl ?_
    refine wp_exit (e_then (e_then (e_here ?_)))
    refine n_then ?_
    refine wp_seq ?_
    refine c_reg ?_
    refine s0 (x_move (v := .slice _ _ _) rfl) ?_
    refine s0 (x_assign (v := .slice _ _ _) rfl) ?_
    refine c_end ?_
    refine n_then ?_
    refine wp_ret ?_
    refine f_ret rfl rfl ?_
    obtain hke : k = ms.length := by omega
    rw [hke] at oz3 hsl
    exact ⟨_, rfl, L, _, _, _, slice_len (by rw [hke]), oz3, fz3.mono (by omega), by omega⟩

/-- impl.Unparse -/
theorem i_unparse (a b q : Int) (y z : Bool) (r : Option Addr) (xs : List Int) (e : Nat) (p : Option Addr) (ms : List Mk) (c : Nat) (w : World) (hx : Sl w r xs.length e 1 (ic xs)) (hp : RdMs w p ms c) (hl0 : xs.length ≤ 1099511627776) (hl : ms.length ≤ 1099511627776) (hb : ∀ m ∈ ms, smallM 1099511627776 m) :
    Calls Try.prog 64 [.agg [.int .i64 a, .int .i64 b, .int .i64 q, .bool y, .bool z, .slice r xs.length e, .slice p ms.length c].toArray].toArray w (Ret w (.string (unp a b q y z xs (ms.map Mk.pl)))) := by
  have L : Exm [] w w := Exm.rfl'
  refine enter (n := 9) Try.func64 rfl rfl rfl ?_
  refine wp_seq ?_
  refine c_reg ?_
  refine s_box rfl rfl ?_
  intro b1 w2 lob1 hib1 l3 B1
  have z_l3 := l3.size
  have L := L.tr l3.up
  refine s0 (x_assign (v := .string _) rfl) ?_
  refine c_end ?_
  refine n_then ?_
  refine wp_seq ?_
  refine wp_seq ?_
  refine c_reg ?_
  refine st (x_loadAgB ag85 rfl B1 rfl) ?_
  refine srb (zcall cl149 rfl) (i_streamOk _ _ _ _ _ _ _ _ _ _ _ _ (hx.ext L) (hp.ext L) (by omega) (by omega) hb) (fun h4 w4 l5 => ?_) (fun h4 w4 l5 => ?_)
  · have z_l5 := l5.size
    have L := L.tr l5.up
    have B1 := B1.ext l5
    refine s0 (x_not rfl) ?_
    refine c_end ?_
    refine n_then ?_
    refine c_false rfl ?_
    refine c_skipn ?_
    refine n_then ?_
    refine wp_seq ?_
    refine c_reg ?_
    refine st (x_loadAgB ag85 rfl B1 rfl) ?_
    refine sp (zcall cl151 rfl) (i_streamBits _ _ _ _ _ _ _ _ _ _ _ _ (hx.ext L) (hp.ext L) (by omega) (by omega) hb h4) ?_
    rintro v7 w6 l7 ⟨p7, c7, F7, rfl, o7, f7, hx7⟩
    have z_l7 := l7.size
    have L := L.tr l7.up
    have B1 := B1.ext l7
    have g7 := o7.lt
    refine sr (zcall cl150 rfl) (i_stopped _ _ _ _ o7.sl (by omega)) ?_
    intro w8 l9
    have z_l9 := l9.size
    have L := L.tr l9.up
    have B1 := B1.ext l9
    have o7 := o7.ext l9
    refine s0 (x_assign (v := .string _) rfl) ?_
    refine c_end ?_
    refine n_then ?_
    refine wp_ret ?_
    refine f_ret rfl rfl ?_
    rw [unp_yes h4 (List.length_map ..).symm]
    exact ⟨rfl, L⟩
  · have z_l5 := l5.size
    have L := L.tr l5.up
    have B1 := B1.ext l5
    refine s0 (x_not rfl) ?_
    refine c_end ?_
    refine n_then ?_
    refine c_true rfl ?_
    refine wp_seq ?_
    refine c_reg ?_
    refine s0 (x_assign (v := .string _) rfl) ?_
    refine c_end ?_
    refine n_then ?_
    refine wp_ret (r_then ?_)
    refine f_ret rfl rfl ?_
    rw [unp_no h4]
    exact ⟨rfl, L⟩

/-- spec.NumOf -/
theorem s_numOf (p : Option Addr) (n c : Nat) (xs : List Int) (w : World) (hp : Sl w p n c 1 (ic xs)) (hl : n ≤ 1099511627776) :
    Calls Try.prog 249 [.slice p n c].toArray w (RetP w fun v w' => ∃ x : Int, v = .tuple [.int .i64 x, .bool (decide (numOk xs))].toArray ∧ (numOk xs → x = numl xs)) := by
  have hn := hp.n
  have L : Exm [] w w := Exm.rfl'
  refine enter (n := 30) Try.func249 rfl rfl rfl ?_
  refine wp_seq ?_
  refine c_reg ?_
  refine s0 (x_assign (v := .int _ _) rfl) ?_
  refine s0 (x_assign (v := .bool _) rfl) ?_
  refine c_end ?_
  refine n_then ?_
  refine wp_seq ?_
  refine c_reg ?_
  refine s0 (x_assign (v := .int _ _) rfl) ?_
  refine c_end ?_
  refine n_then ?_
  refine wp_seq ?_
  refine wp_seq ?_
  refine c_reg ?_
  refine s0 (x_assign (v := .int _ _) rfl) ?_
  refine c_end ?_
  refine n_then ?_
  refine wp_block ?_
  refine c_loop (γ := Nat) (fun k => n - k) (fun (k : Nat) E wl => ∃ E0, E = upd (upd (upd E0 0 (.slice p n c)) 4 (.int .i64 (numl (xs.take k)))) 5 (.int .i64 (k : Int)) ∧ (Exm [] w wl) ∧ ((k : Int) ≤ n) ∧ (k ≤ 48) ∧ (∀ j : Nat, j < k → xs.getD j 0 = 0 ∨ xs.getD j 0 = 1)) 0 ⟨_, upd_self3 rfl rfl rfl, L, (by omega), (by omega), (by intro j hj; omega)⟩ ?_
  rintro k E wl1 ⟨E0, rfl, L, hk, hk8, hall⟩
  have Lz0 := L.size
  have hnr := numl_take_range hk8 hall (by omega)
  refine wp_seq ?_
  refine wp_seq ?_
  refine c_reg ?_
  refine s0 (x_move (v := .int _ _) rfl) ?_
  refine s0 (x_move (v := .slice _ _ _) rfl) ?_
  refine s0 (x_lensl un40 rfl) ?_
  refine sb (x_lss rfl rfl) (fun h9 => ?_) (fun h9 => ?_)
  · refine c_end ?_
    refine n_then ?_
    refine c_true rfl ?_
    refine c_skipn ?_
    refine n_then ?_
    refine wp_seq ?_
    refine wp_block ?_
    refine wp_seq ?_
    refine wp_seq ?_
    refine c_reg ?_
    refine s0 (x_move (v := .slice _ _ _) rfl) ?_
    refine s0 (x_move (v := .int _ _) rfl) ?_
    refine s0 (x_idx so40 rfl rfl hp (by decide) (by omega) (by omega)) ?_
    refine st (x_ldi sc3 rfl (hp.ext L) (by omega) (by omega)) ?_
    refine srb (zcall cl95 rfl) (s_l1In _ _ _ _) (fun h16 w2 l3 => ?_) (fun h16 w2 l3 => ?_)
    · have z_l3 := l3.size
      have L := L.tr l3.up
      refine s0 (x_not rfl) ?_
      refine s0 (x_move (v := .bool _) rfl) ?_
      refine gt rfl rfl rfl rfl ?_
      refine s0 (x_move (v := .int _ _) rfl) ?_
      refine gt rfl rfl rfl rfl ?_
      refine sb (x_geq rfl rfl) (fun h20 => ?_) (fun h20 => ?_)
      · refine s0 (x_pickf (v := .bool _) rfl rfl) ?_
        refine c_end ?_
        refine n_then ?_
        refine c_true rfl ?_
        refine wp_seq ?_
        refine c_reg ?_
        refine s0 (x_assign (v := .int _ _) rfl) ?_
        refine s0 (x_assign (v := .bool _) rfl) ?_
        refine c_end ?_
        refine n_then ?_
        refine wp_ret (r_then (r_block (r_then (r_then (r_block (r_then ?_))))))
        refine f_rets2 rfl (ro_tmp rfl) (ro_tmp rfl) ?_
        have hno : ¬ numOk xs := fun h => by have := h.2; omega
        rw [decide_eq_false hno]
        exact ⟨_, rfl, L, _, rfl, fun h => absurd h hno⟩
      · refine s0 (x_pickf (v := .bool _) rfl rfl) ?_
        refine c_end ?_
        refine n_then ?_
        refine c_false rfl ?_
        refine c_skipn ?_
        refine n_then ?_
        refine c_reg ?_
        refine s0 (x_move (v := .int _ _) rfl) ?_
        refine s0 (x_mul rfl rfl (by omega)) ?_
        refine s0 (x_move (v := .slice _ _ _) rfl) ?_
        refine s0 (x_move (v := .int _ _) rfl) ?_
        refine s0 (x_idx so40 rfl rfl hp (by decide) (by omega) (by omega)) ?_
        refine st (x_ldi sc3 rfl (hp.ext L) (by omega) (by omega)) ?_
        refine s0 (x_add rfl rfl (by omega)) ?_
        refine s0 (x_assign (v := .int _ _) rfl) ?_
        refine c_end ?_
        refine n_block ?_
        refine n_then ?_
        refine c_reg ?_
        refine s0 (x_move (v := .int _ _) rfl) ?_
        refine s0 (x_add rfl rfl (by omega)) ?_
        refine s0 (x_assign (v := .int _ _) rfl) ?_
        refine c_end ?_
        rw [Int.toNat_natCast] at h16
        have hnt := numl_take (b := xs) (k := k) (by omega)
        exact c_round (g' := k + 1) (by omega) ⟨_, upd_self3 rfl (vint (by rw [hnt, Int.toNat_natCast])) (vint (by omega)), L, (by omega), (by omega), (upto_succ' hall (by omega))⟩
    · have z_l3 := l3.size
      have L := L.tr l3.up
      refine s0 (x_not rfl) ?_
      refine s0 (x_move (v := .bool _) rfl) ?_
      refine gf rfl rfl rfl rfl ?_
      refine gf rfl rfl rfl rfl ?_
      refine s0 (x_pickt (v := .bool _) rfl rfl) ?_
      refine c_end ?_
      refine n_then ?_
      refine c_true rfl ?_
      refine wp_seq ?_
      refine c_reg ?_
      refine s0 (x_assign (v := .int _ _) rfl) ?_
      refine s0 (x_assign (v := .bool _) rfl) ?_
      refine c_end ?_
      refine n_then ?_
      refine wp_ret (r_then (r_block (r_then (r_then (r_block (r_then ?_))))))
      refine f_rets2 rfl (ro_tmp rfl) (ro_tmp rfl) ?_
      have hno : ¬ numOk xs := fun h => h16 (by have := isBits_get h.1 ((k : Int)).toNat; omega)
      rw [decide_eq_false hno]
      exact ⟨_, rfl, L, _, rfl, fun h => absurd h hno⟩
  · refine c_end ?_
    refine n_then ?_
    refine c_false rfl ?_
    refine wp_exit (e_then (e_then (e_here ?_)))
    refine n_then ?_
    refine wp_seq ?_
    refine c_reg ?_
    refine s0 (x_move (v := .int _ _) rfl) ?_
    refine s0 (x_assign (v := .int _ _) rfl) ?_
    refine s0 (x_assign (v := .bool _) rfl) ?_
    refine c_end ?_
    refine n_then ?_
    refine wp_ret ?_
    refine f_rets2 rfl (ro_tmp rfl) (ro_tmp rfl) ?_
    have hy : numOk xs := ⟨isBits_upto fun j hj => hall j (by omega), by omega⟩
    rw [decide_eq_true hy]
    exact ⟨_, rfl, L, _, rfl, fun _ => by rw [List.take_of_length_le (by omega)]⟩

/-- spec.BytesOf -/
theorem s_bytesOf (p : Option Addr) (xs : List Int) (c : Nat) (w : World) (hp : Sl w p xs.length c 1 (ic xs)) (hl : xs.length ≤ 1099511627776) :
    Calls Try.prog 205 [.slice p xs.length c].toArray w (Ret w (.tuple [.string (bytesStr xs), .bool (decide (byOk xs))].toArray)) := by
  have L : Exm [] w w := Exm.rfl'
  refine enter (n := 37) Try.func205 rfl rfl rfl ?_
  refine wp_seq ?_
  refine c_reg ?_
  refine s0 (x_assign (v := .string _) rfl) ?_
  refine s0 (x_assign (v := .bool _) rfl) ?_
  refine c_end ?_
  refine n_then ?_
  refine wp_seq ?_
  refine c_reg ?_
  refine s_bs0 so22 ?_
  intro p8 F8 w1 l2 o8 f8 g8
  have o8 : Own w1 p8 0 0 5 1 (bc []) F8 := o8
  have z_l2 := l2.size
  have L := L.tr l2.up
  refine s0 (x_assign (v := .slice _ _ _) rfl) ?_
  refine c_end ?_
  refine n_then ?_
  refine wp_seq ?_
  refine wp_seq ?_
  refine c_reg ?_
  refine s0 (x_move (v := .slice _ _ _) rfl) ?_
  refine s0 (x_lensl un40 rfl) ?_
  refine s0 (x_rem rfl rfl (by omega) (by omega)) ?_
  refine sb (x_neq rfl rfl) (fun h12 => ?_) (fun h12 => ?_)
  · refine c_end ?_
    refine n_then ?_
    refine c_true rfl ?_
    refine wp_seq ?_
    refine c_reg ?_
    refine s0 (x_assign (v := .string _) rfl) ?_
    refine s0 (x_assign (v := .bool _) rfl) ?_
    refine c_end ?_
    refine n_then ?_
    refine wp_ret (r_then ?_)
    refine f_rets2 rfl (ro_tmp rfl) (ro_tmp rfl) ?_
    exact ⟨by_no (fun h => by have := h.2; omega), L⟩
  · refine c_end ?_
    refine n_then ?_
    refine c_false rfl ?_
    refine c_skipn ?_
    refine n_then ?_
    refine wp_seq ?_
    refine wp_seq ?_
    refine c_reg ?_
    refine s0 (x_assign (v := .int _ _) rfl) ?_
    refine c_end ?_
    refine n_then ?_
    refine wp_block ?_
    refine c_loop (γ := Nat) (fun k => xs.length - k) (fun (k : Nat) E wl => ∃ E0 pz4 cz4 Fz4, E = upd (upd (upd E0 0 (.slice p xs.length c)) 4 (.slice pz4 (((bytesl xs).take k).length) cz4)) 5 (.int .i64 (8 * (k : Int))) ∧ (Exm [] w wl) ∧ (w1.heap.size ≤ wl.heap.size) ∧ (Own wl pz4 (((bytesl xs).take k).length) cz4 5 1 (bc ((bytesl xs).take k)) Fz4) ∧ (Fr (w.heap.size) Fz4) ∧ (Lt Fz4 wl.heap.size) ∧ (8 * (k : Int) ≤ xs.length) ∧ (isBits (xs.take (8 * k)))) 0 ⟨_, _, _, _, upd_self3 rfl (slice_len rfl) rfl, L, (by omega), o8, (f8.mono (by omega)), (g8.mono (by omega)), (by omega), (by intro x hx; simp at hx)⟩ ?_
    rintro k E wl3 ⟨E0, pz4, cz4, Fz4, rfl, L, Lz, oz4, fz4, gz4, hk, hall⟩
    have Lz0 := L.size
    have hlt : ((bytesl xs).take k).length ≤ k := List.length_take_le _ _
    have hl8 := bytesl_length xs
    refine wp_seq ?_
    refine wp_seq ?_
    refine c_reg ?_
    refine s0 (x_move (v := .int _ _) rfl) ?_
    refine s0 (x_move (v := .slice _ _ _) rfl) ?_
    refine s0 (x_lensl un40 rfl) ?_
    refine sb (x_lss rfl rfl) (fun h16 => ?_) (fun h16 => ?_)
    · refine c_end ?_
      refine n_then ?_
      refine c_true rfl ?_
      refine c_skipn ?_
      refine n_then ?_
      refine wp_seq ?_
      refine wp_block ?_
      refine wp_seq ?_
      refine c_reg ?_
      refine s0 (x_move (v := .slice _ _ _) rfl) ?_
      refine s0 (x_move (v := .int _ _) rfl) ?_
      refine s0 (x_move (v := .int _ _) rfl) ?_
      refine s0 (x_add rfl rfl (by omega)) ?_
      refine s0 (x_cutr so40 (hp.ext L).r (by omega) rfl rfl rfl (by omega) (by omega) (by omega)) ?_
      refine sp (zcall cl249 rfl) (s_numOf _ _ _ _ _ ((hp.ext L).cuti (by omega) (by omega)) (by rw [List.length_take]; omega)) ?_
      rintro v25 w4 l5 ⟨x25, rfl, hx25⟩
      have z_l5 := l5.size
      have L := L.tr l5.up
      have oz4 := oz4.ext l5
      refine s0 (x_move (v := .tuple _) rfl) ?_
      refine s0 (x_extract rfl rfl) ?_
      refine sb (x_extract rfl rfl) (fun h27 => ?_) (fun h27 => ?_)
      · refine s0 (x_assign (v := .int _ _) rfl) ?_
        refine s0 (x_assign (v := .bool _) rfl) ?_
        refine c_end ?_
        refine n_then ?_
        refine wp_seq ?_
        refine wp_seq ?_
        refine c_reg ?_
        refine s0 (x_move (v := .bool _) rfl) ?_
        refine s0 (x_not rfl) ?_
        refine c_end ?_
        refine n_then ?_
        refine c_false rfl ?_
        refine c_skipn ?_
        refine n_then ?_
        refine c_reg ?_
        refine s0 (x_move (v := .slice _ _ _) rfl) ?_
        refine s0 (x_move (v := .int _ _) rfl) ?_
        refine s0 (x_convk us3 un5 rfl) ?_
        refine s_bsb (xs := [_]) so22 zr5 (pts_cons rfl pts_nil) rfl rfl rfl ?_
        intro p33 F33 w6 l7 o33 f33 g33
        have z_l7 := l7.size
        have L := L.tr l7.up
        have oz4 := oz4.ext l7
        have hn33 := o33.nb
        refine s_appb (B := w.heap.size) so22 zr5 rfl rfl (xs := _) oz4 o33.sl fz4 (by omega) (by omega) (by omega) ?_
        intro p34 c34 F34 w8 l9 o34 hn34 k34 f34 g34
        have z_l9 := l9.size
        have L := L.freshL l9 fz4 (by omega)
        have d33_34 : Dj F33 F34 := k34.dj (by first | assumption | exact Dj.symm (by assumption) | exact dj_of f33 g33 fz4 gz4 (by omega)) g33 (by omega)
        have o33 := o33.exm l9 (by first | assumption | exact Dj.symm (by assumption) | exact dj_of fz4 gz4 f33 g33 (by omega))
        refine s0 (x_assign (v := .slice _ _ _) rfl) ?_
        refine c_end ?_
        refine n_block ?_
        refine n_then ?_
        refine c_reg ?_
        refine s0 (x_move (v := .int _ _) rfl) ?_
        refine s0 (x_add rfl rfl (by omega)) ?_
        refine s0 (x_assign (v := .int _ _) rfl) ?_
        refine c_end ?_
        have hn8 : 8 * (k : Int) + 8 = ((8 * k + 8 : Nat) : Int) := by omega
        have h8k : (8 * (k : Int)).toNat = 8 * k := by omega
        have h8k8 : (8 * (k : Int) + 8).toNat - (8 * (k : Int)).toNat = 8 := by omega
        rw [h8k8, h8k] at h27 hx25
        have hnr := numl_range h27.1
        have h2l : ((xs.drop (8 * k)).take 8).length = 8 := by rw [List.length_take, List.length_drop]; omega
        rw [h2l] at hnr
        have hbt := bytesl_take (b := xs) (k := k) (by omega)
        have hw8 : IntKind.u8.wrap x25 = numl ((xs.drop (8 * k)).take 8) := by rw [hx25 h27, wrap_u8]; omega
        exact c_round (g' := k + 1) (by omega) ⟨_, _, _, _, upd_self3 rfl (slice_len (by rw [hbt, hw8])) (vint (by omega)), L, (by omega), (by rw [hbt, ← hw8]; exact o34), (f34.mono (by omega)), (g34.mono (by omega)), (by omega), (isBits_parts hall h27.1)⟩
      · refine s0 (x_assign (v := .int _ _) rfl) ?_
        refine s0 (x_assign (v := .bool _) rfl) ?_
        refine c_end ?_
        refine n_then ?_
        refine wp_seq ?_
        refine wp_seq ?_
        refine c_reg ?_
        refine s0 (x_move (v := .bool _) rfl) ?_
        refine s0 (x_not rfl) ?_
        refine c_end ?_
        refine n_then ?_
        refine c_true rfl ?_
        refine wp_seq ?_
        refine c_reg ?_
        refine s0 (x_assign (v := .string _) rfl) ?_
        refine s0 (x_assign (v := .bool _) rfl) ?_
        refine c_end ?_
        refine n_then ?_
        refine wp_ret (r_then (r_block (r_then (r_then (r_block (r_then ?_))))))
        refine f_rets2 rfl (ro_tmp rfl) (ro_tmp rfl) ?_
        exact ⟨by_no (fun h => h27 ⟨isBits_take (isBits_drop h.1 _) _, by rw [List.length_take]; omega⟩), L⟩
    · refine c_end ?_
      refine n_then ?_
      refine c_false rfl ?_
      refine wp_exit (e_then (e_then (e_here ?_)))
      refine n_then ?_
      refine wp_seq ?_
      refine c_reg ?_
      refine s0 (x_move (v := .slice _ _ _) rfl) ?_
      refine st (x_tostr un22 un5 un9 rfl oz4.sl (fun x hx => bytesl_range (by rw [List.take_of_length_le (by omega)] at hall; exact hall) x (List.mem_of_mem_take hx))) ?_
      refine s0 (x_assign (v := .string _) rfl) ?_
      refine s0 (x_assign (v := .bool _) rfl) ?_
      refine c_end ?_
      refine n_then ?_
      refine wp_ret ?_
      refine f_rets2 rfl (ro_tmp rfl) (ro_tmp rfl) ?_
      have hall2 : isBits xs := by rw [List.take_of_length_le (by omega)] at hall; exact hall
      exact ⟨by_yes ⟨hall2, by omega⟩ (List.take_of_length_le (by rw [bytesl_length]; omega)), L⟩

/-- spec.Stopped -/
theorem s_stopped (p : Option Addr) (xs : List Int) (c : Nat) (w : World) (hp : Sl w p xs.length c 1 (ic xs)) (hl : xs.length ≤ 1099511627000) :
    Calls Try.prog 147 [.slice p xs.length c].toArray w (Ret w (.string (stopped xs))) := by
  have L : Exm [] w w := Exm.rfl'
  refine enter (n := 26) Try.func147 rfl rfl rfl ?_
  refine wp_seq ?_
  refine c_reg ?_
  refine s0 (x_assign (v := .string _) rfl) ?_
  refine c_end ?_
  refine n_then ?_
  refine wp_seq ?_
  refine c_reg ?_
  refine s_bs0 so40 ?_
  intro p6 F6 w1 l2 o6 f6 g6
  have o6 : Own w1 p6 0 0 3 1 (ic []) F6 := o6
  have z_l2 := l2.size
  have L := L.tr l2.up
  refine s0 (x_move (v := .slice _ _ _) rfl) ?_
  refine s_appi (B := w.heap.size) so40 zr3 rfl rfl (xs := _) o6 (hp.ext L) f6 (by omega) (by omega) (by omega) ?_
  intro p8 c8 F8 w3 l4 o8 hn8 k8 f8 g8
  have z_l4 := l4.size
  have L := L.freshL l4 f6 (by omega)
  refine s_bsi (xs := [_]) so40 zr3 (pts_cons rfl pts_nil) rfl rfl rfl ?_
  intro p9 F9 w5 l6 o9 f9 g9
  have z_l6 := l6.size
  have L := L.tr l6.up
  have o8 := o8.ext l6
  have hn9 := o9.n1
  refine s_appi (B := w.heap.size) so40 zr3 rfl rfl (xs := _) o8 o9.sl f8 (by omega) (by omega) (by omega) ?_
  intro p10 c10 F10 w7 l8 o10 hn10 k10 f10 g10
  have z_l8 := l8.size
  have L := L.freshL l8 f8 (by omega)
  have d9_10 : Dj F9 F10 := k10.dj (by first | assumption | exact Dj.symm (by assumption) | exact dj_of f9 g9 f8 g8 (by omega)) g9 (by omega)
  have o9 := o9.exm l8 (by first | assumption | exact Dj.symm (by assumption) | exact dj_of f8 g8 f9 g9 (by omega))
  refine s0 (x_assign (v := .slice _ _ _) rfl) ?_
  refine c_end ?_
  refine n_then ?_
  refine wp_seq ?_
  refine wp_block ?_
  refine c_loop (γ := Nat) (fun k => 8 - k) (fun (k : Nat) E wl => ∃ E0 pz3 cz3 Fz3, E = upd E0 3 (.slice pz3 ((xs ++ [1] ++ List.replicate k 0).length) cz3) ∧ (Exm [] w wl) ∧ (w7.heap.size ≤ wl.heap.size) ∧ (Own wl pz3 ((xs ++ [1] ++ List.replicate k 0).length) cz3 3 1 (ic (xs ++ [1] ++ List.replicate k 0)) Fz3) ∧ (Fr (w.heap.size) Fz3) ∧ (Lt Fz3 wl.heap.size) ∧ (k ≤ (8 - (xs.length + 1) % 8) % 8)) 0 ⟨_, _, _, _, upd_self1 (slice_len (by rw [List.replicate_zero, List.append_nil]; rfl)), L, (by omega), (by rw [List.replicate_zero, List.append_nil]; exact o10), (f10.mono (by omega)), (g10.mono (by omega)), (Nat.zero_le _)⟩ ?_
  rintro k E wl9 ⟨E0, pz3, cz3, Fz3, rfl, L, Lz, oz3, fz3, gz3, hk⟩
  have Lz0 := L.size
  have hlen : (xs ++ [1] ++ List.replicate k 0).length = xs.length + 1 + k := by rw [List.length_append, List.length_append, List.length_replicate]; rfl
  refine wp_seq ?_
  refine wp_seq ?_
  refine c_reg ?_
  refine s0 (x_move (v := .slice _ _ _) rfl) ?_
  refine s0 (x_lensl un40 rfl) ?_
  refine s0 (x_rem rfl rfl (by omega) (by omega)) ?_
  refine sb (x_neq rfl rfl) (fun h14 => ?_) (fun h14 => ?_)
  · refine c_end ?_
    refine n_then ?_
    refine c_true rfl ?_
    refine c_skipn ?_
    refine n_then ?_
    refine wp_block ?_
    refine c_reg ?_
    refine s0 (x_move (v := .slice _ _ _) rfl) ?_
    refine s_bsi (xs := [_]) so40 zr3 (pts_cons rfl pts_nil) rfl rfl rfl ?_
    intro p16 F16 w10 l11 o16 f16 g16
    have z_l11 := l11.size
    have L := L.tr l11.up
    have oz3 := oz3.ext l11
    have hn16 := o16.n1
    refine s_appi (B := w.heap.size) so40 zr3 rfl rfl (xs := _) oz3 o16.sl fz3 (by omega) (by omega) (by omega) ?_
    intro p17 c17 F17 w12 l13 o17 hn17 k17 f17 g17
    have z_l13 := l13.size
    have L := L.freshL l13 fz3 (by omega)
    have d16_17 : Dj F16 F17 := k17.dj (by first | assumption | exact Dj.symm (by assumption) | exact dj_of f16 g16 fz3 gz3 (by omega)) g16 (by omega)
    have o16 := o16.exm l13 (by first | assumption | exact Dj.symm (by assumption) | exact dj_of fz3 gz3 f16 g16 (by omega))
    refine s0 (x_assign (v := .slice _ _ _) rfl) ?_
    refine c_end ?_
    refine n_block ?_
    exact c_round (g' := k + 1) (by omega) ⟨_, _, _, _, upd_self1 (by (rw [List.replicate_succ', ← List.append_assoc]); rfl), L, (by omega), (by (rw [List.replicate_succ', ← List.append_assoc]); exact o17), (f17.mono (by omega)), (g17.mono (by omega)), (by omega)⟩
  · refine c_end ?_
    refine n_then ?_
    refine c_false rfl ?_
    refine wp_exit (e_then (e_then (e_here ?_)))
    refine n_then ?_
    refine wp_seq ?_
    refine c_reg ?_
    refine s0 (x_move (v := .slice _ _ _) rfl) ?_
    refine sr (zcall cl205 rfl) (s_bytesOf _ _ _ _ oz3.sl (by omega)) ?_
    intro w14 l15
    have z_l15 := l15.size
    have L := L.tr l15.up
    have oz3 := oz3.ext l15
    refine s0 (x_move (v := .tuple _) rfl) ?_
    refine s0 (x_extract rfl rfl) ?_
    refine sb (x_extract rfl rfl) (fun h22 => ?_) (fun h22 => ?_)
    · refine s0 (x_assign (v := .string _) rfl) ?_
      refine s0 (x_assign (v := .bool _) rfl) ?_
      refine c_end ?_
      refine n_then ?_
      refine wp_seq ?_
      refine wp_seq ?_
      refine c_reg ?_
      refine s0 (x_move (v := .bool _) rfl) ?_
      refine s0 (x_not rfl) ?_
      refine c_end ?_
      refine n_then ?_
      refine c_false rfl ?_
      refine c_skipn ?_
      refine n_then ?_
      refine wp_seq ?_
      refine c_reg ?_
      refine s0 (x_move (v := .string _) rfl) ?_
      refine s0 (x_assign (v := .string _) rfl) ?_
      refine c_end ?_
      refine n_then ?_
      refine wp_ret ?_
      refine f_ret rfl rfl ?_
      have hke : k = (8 - (xs ++ [1]).length % 8) % 8 := by rw [List.length_append]; show k = (8 - (xs.length + 1) % 8) % 8; omega
      exact ⟨ret_val (show Value.string (bytesStr (xs ++ [1] ++ List.replicate k 0)) = .string (stopped xs) by unfold stopped pad8; rw [← hke]), L⟩
    · refine s0 (x_assign (v := .string _) rfl) ?_
      refine s0 (x_assign (v := .bool _) rfl) ?_
      refine c_end ?_
      refine n_then ?_
      refine wp_seq ?_
      refine wp_seq ?_
      refine c_reg ?_
      refine s0 (x_move (v := .bool _) rfl) ?_
      refine s0 (x_not rfl) ?_
      refine c_end ?_
      refine n_then ?_
      refine c_true rfl ?_
      refine wp_seq ?_
      refine c_reg ?_
      refine s0 (x_assign (v := .string _) rfl) ?_
      refine c_end ?_
      refine n_then ?_
      refine wp_ret (r_then ?_)
      refine f_ret rfl rfl ?_
      have hke : k = (8 - (xs ++ [1]).length % 8) % 8 := by rw [List.length_append]; show k = (8 - (xs.length + 1) % 8) % 8; omega
      exact ⟨ret_val (show Value.string ⟨#[]⟩ = .string (stopped xs) by unfold stopped pad8 bytesStr; rw [← hke, if_neg h22]), L⟩

/-- spec.Unparse -/
theorem s_unparse (a b q : Int) (y z : Bool) (r : Option Addr) (xs : List Int) (e : Nat) (p : Option Addr) (ms : List Mk) (c : Nat) (w : World) (hx : Sl w r xs.length e 1 (ic xs)) (hp : RdMs w p ms c) (hl0 : xs.length ≤ 1099511627776) (hl : ms.length ≤ 1099511627776) (hb : ∀ m ∈ ms, smallM 1099511627776 m) :
    Calls Try.prog 62 [.agg [.int .i64 a, .int .i64 b, .int .i64 q, .bool y, .bool z, .slice r xs.length e, .slice p ms.length c].toArray].toArray w (Ret w (.string (unp a b q y z xs (ms.map Mk.pl)))) := by
  have L : Exm [] w w := Exm.rfl'
  refine enter (n := 31) Try.func62 rfl rfl rfl ?_
  refine wp_seq ?_
  refine c_reg ?_
  refine s_box rfl rfl ?_
  intro b1 w2 lob1 hib1 l3 B1
  have z_l3 := l3.size
  have L := L.tr l3.up
  refine s0 (x_assign (v := .string _) rfl) ?_
  refine c_end ?_
  refine n_then ?_
  refine wp_seq ?_
  refine wp_seq ?_
  refine c_reg ?_
  refine st (x_loadAgB ag85 rfl B1 rfl) ?_
  refine srb (zcall cl145 rfl) (s_streamOk _ _ _ _ _ _ _ _ _ _ _ _ (hx.ext L) (hp.ext L) (by omega) (by omega) hb) (fun h6 w4 l5 => ?_) (fun h6 w4 l5 => ?_)
  · have z_l5 := l5.size
    have L := L.tr l5.up
    have B1 := B1.ext l5
    refine s0 (x_not rfl) ?_
    refine c_end ?_
    refine n_then ?_
    refine c_false rfl ?_
    refine c_skipn ?_
    refine n_then ?_
    refine wp_seq ?_
    have hok := h6
    refine c_reg ?_
    refine s0 (x_fieldAddr fa85_0 rfl) ?_
    refine st (x_loadIn ag42 rfl B1 [.int _ _, .int _ _, .int _ _, .bool _, .bool _, .slice _ _ _] rfl rfl) ?_
    refine sp (zcall cl146 rfl) (s_headerBits _ _ _ _ _ _ _ _ _ (hx.ext L) (by omega)) ?_
    rintro v10 w6 l7 ⟨p10, c10, F10, rfl, o10, f10⟩
    have z_l7 := l7.size
    have L := L.tr l7.up
    have B1 := B1.ext l7
    have g10 := o10.lt
    refine s0 (x_assign (v := .slice _ _ _) rfl) ?_
    refine c_end ?_
    refine n_then ?_
    refine wp_seq ?_
    refine wp_seq ?_
    refine c_reg ?_
    refine s0 (x_assign (v := .int _ _) rfl) ?_
    refine c_end ?_
    refine n_then ?_
    refine wp_block ?_
    refine c_loop (γ := Nat) (fun k => ms.length - k) (fun (k : Nat) E wl => ∃ E0 pz3 cz3 Fz3, E = upd (upd (upd E0 1 (pt b1 0)) 3 (.slice pz3 ((stA a b q y z xs (ms.map Mk.pl) k).length) cz3)) 4 (.int .i64 (k : Int)) ∧ (Exm [] w wl) ∧ (w6.heap.size ≤ wl.heap.size) ∧ (Bx wl b1 [.int .i64 a, .int .i64 b, .int .i64 q, .bool y, .bool z, .slice r xs.length e, .slice p ms.length c] 85) ∧ (Own wl pz3 ((stA a b q y z xs (ms.map Mk.pl) k).length) cz3 3 1 (ic (stA a b q y z xs (ms.map Mk.pl) k)) Fz3) ∧ (Fr (w4.heap.size) Fz3) ∧ (Lt Fz3 wl.heap.size) ∧ (b1 ∉ Fz3) ∧ ((k : Int) ≤ ms.length)) 0 ⟨_, _, _, _, upd_self3 rfl (slice_len (by rw [stA_zero])) rfl, L, (by omega), B1, (own_eq (stA_zero a b q y z xs (ms.map Mk.pl)).symm o10), (f10.mono (by omega)), (g10.mono (by omega)), (by first | assumption | exact nin_of f10 g10 (by omega)), (by omega)⟩ ?_
    rintro k E wl8 ⟨E0, pz3, cz3, Fz3, rfl, L, Lz, B1, oz3, fz3, gz3, ab1_z3, hk⟩
    have Lz0 := L.size
    have hsl := stA_len a b q y z xs (ms.map Mk.pl) k
    have hs16 := many_range hok.1.1
    have hml := hok.2.1; rw [List.length_map] at hml
    refine wp_seq ?_
    refine wp_seq ?_
    refine c_reg ?_
    refine s0 (x_move (v := .int _ _) rfl) ?_
    refine s0 (x_fieldAddr fa85_1 rfl) ?_
    refine st (x_loadB sc83 rfl B1 rfl) ?_
    refine s0 (x_lensl un83 rfl) ?_
    refine sb (x_lss rfl rfl) (fun h15 => ?_) (fun h15 => ?_)
    · refine c_end ?_
      refine n_then ?_
      refine c_true rfl ?_
      refine c_skipn ?_
      refine n_then ?_
      refine wp_seq ?_
      refine wp_block ?_
      have hbm := hb _ (getD_mem (xs := ms) (i := (k : Int)) (by omega) (by omega))
      have hbm1 := hbm.1
      have hbm2 := hbm.2
      have hmb : (mbBits (ms.getD (k : Int).toNat default).eight ((ms.getD (k : Int).toNat default).bs.map Bk.pl) xs).length ≤ 20000 := mbBits_le (ms.getD (k : Int).toNat default).pl xs
      refine c_plan (fun wq => Exm [] wl8 wq) 10 (.cons (0, 2) (.cons (1, 2) (.cons (2, 1) (.cons (3, 2) (.cons (4, 2) (.cons (5, 1) (.cons (6, 2) (.cons (7, 2) (.cons (8, 1) (.cons (9, 0) (.cons (10, 0) (.cons (11, 0) .nil)))))))))))) (by kernel_rfl) (by kernel_rfl) (Exm.drew _) ?_
      obtain ⟨w9, hwd⟩ : ∃ x, x = wl8.drew := ⟨_, rfl⟩
      have l10 : Ext wl8 w9 := by rw [hwd]; exact Exm.drew _
      rw [← hwd]; clear hwd
      have Lq : Exm [] wl8 w9 := l10.up
      have qB1 := B1
      have qoz3 := oz3
      have qL := L
      have z_l10 := l10.size
      have L := L.tr l10.up
      have B1 := B1.ext l10
      have oz3 := oz3.ext l10
      refine p0 rfl (x_move (v := .slice _ _ _) rfl) ?_
      refine p0 rfl (x_fieldAddr fa85_1 rfl) ?_
      refine ps rfl (fun wq hwq => x_loadB sc83 rfl (qB1.ext hwq) rfl) ?_
      refine p0 rfl (x_move (v := .int _ _) rfl) ?_
      refine p0 rfl (x_idx so83 rfl rfl hp.1 (by decide) (by omega) (by omega)) ?_
      refine ps rfl (fun wq hwq => x_ldr mrow_len ag54 rfl ((hp.1.ext qL).ext hwq) (by omega) (by omega)) ?_
      refine p0 rfl (x_fieldAddr fa85_0 rfl) ?_
      refine p0 rfl (x_fieldAddr fa42_5 rfl) ?_
      refine ps rfl (fun wq hwq => x_loadB sc40 rfl (qB1.ext hwq) rfl) ?_
      refine pu rfl ?_ (by rintro ⟨_, _, h, _⟩; cases h)
      refine sp (zcall cl41 rfl) (s_mbBits _ _ _ _ _ _ _ _ ((hp.2 _ (getD_mem (by omega) (by omega))).ext L) (hx.ext L) (by omega) (by assumption) (by omega)) ?_
      rintro v27 w11 l12 ⟨p27, c27, F27, rfl, o27, f27⟩
      have z_l12 := l12.size
      have L := L.tr l12.up
      have Lq := Lq.tr l12.up
      have B1 := B1.ext l12
      have oz3 := oz3.ext l12
      have g27 := o27.lt
      refine c_end ⟨rfl, fun h hS => Lq, ?_⟩
      refine pu rfl ?_ (by rintro ⟨_, _, h, _⟩; cases h)
      refine s_appi (B := w4.heap.size) so40 zr3 rfl rfl (xs := _) oz3 o27.sl fz3 (by omega) (by omega) (by omega) ?_
      intro p28 c28 F28 w13 l14 o28 hn28 k28 f28 g28
      have ab1_28 : b1 ∉ F28 := k28.nin (by first | assumption | exact nin_of fz3 gz3 (by omega)) (by omega)
      have B1 := B1.exm l14 (by first | assumption | exact nin_of fz3 gz3 (by omega))
      have z_l14 := l14.size
      have L := L.freshL l14 fz3 (by omega)
      have d27_28 : Dj F27 F28 := k28.dj (by first | assumption | exact Dj.symm (by assumption) | exact dj_of f27 g27 fz3 gz3 (by omega)) g27 (by omega)
      have o27 := o27.exm l14 (by first | assumption | exact Dj.symm (by assumption) | exact dj_of fz3 gz3 f27 g27 (by omega))
      refine c_end ⟨rfl, fun h hS => absurd h (by decide), ?_⟩
      refine pu rfl ?_ (by rintro ⟨_, _, h, _⟩; cases h)
      refine s0 (x_assign (v := .slice _ _ _) rfl) ?_
      refine c_end ⟨rfl, fun h hS => absurd h (by decide), ?_⟩
      refine p_nil (np_normal ?_)
      refine n_block ?_
      refine n_then ?_
      refine c_reg ?_
      refine s0 (x_move (v := .int _ _) rfl) ?_
      refine s0 (x_add rfl rfl (by omega)) ?_
      refine s0 (x_assign (v := .int _ _) rfl) ?_
      refine c_end ?_
      exact c_round (g' := k + 1) (by omega) ⟨_, _, _, _, upd_self3 rfl (slice_len (by rw [stA_succ (by omega), Int.toNat_natCast])) (vint (by omega)), L, (by omega), B1, (by rw [stA_succ (by omega)]; rw [Int.toNat_natCast] at o28; exact o28), (f28.mono (by omega)), (g28.mono (by omega)), (by first | assumption | exact nin_of f28 g28 (by omega)), (by omega)⟩
    · refine c_end ?_
      refine n_then ?_
      refine c_false rfl ?_
      refine wp_exit (e_then (e_then (e_here ?_)))
      refine n_then ?_
      refine wp_seq ?_
      refine c_reg ?_
      refine s0 (x_move (v := .slice _ _ _) rfl) ?_
      refine sr (zcall cl147 rfl) (s_stopped _ _ _ _ oz3.sl (by omega)) ?_
      intro w15 l16
      have z_l16 := l16.size
      have L := L.tr l16.up
      have B1 := B1.ext l16
      have oz3 := oz3.ext l16
      refine s0 (x_assign (v := .string _) rfl) ?_
      refine c_end ?_
      refine n_then ?_
      refine wp_ret ?_
      refine f_ret rfl rfl ?_
      rw [unp_yes h6 (k := k) (by rw [List.length_map]; omega)]
      exact ⟨rfl, L⟩
  · have z_l5 := l5.size
    have L := L.tr l5.up
    have B1 := B1.ext l5
    refine s0 (x_not rfl) ?_
    refine c_end ?_
    refine n_then ?_
    refine c_true rfl ?_
    refine wp_seq ?_
    refine c_reg ?_
    refine s0 (x_assign (v := .string _) rfl) ?_
    refine c_end ?_
    refine n_then ?_
    refine wp_ret (r_then ?_)
    refine f_ret rfl rfl ?_
    rw [unp_no h6]
    exact ⟨rfl, L⟩

end Go.Proofs.Ytnehdmcilmlchaa
