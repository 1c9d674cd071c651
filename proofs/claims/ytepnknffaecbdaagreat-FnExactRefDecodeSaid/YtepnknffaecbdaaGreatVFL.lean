/- What each function of this part returns, for every argument that meets its premises. -/
import Derived.Test.YtepnknffaecbdaaGreatProg
import Derived.Test.YtepnknffaecbdaaGreatVSxA
import Derived.Test.YtepnknffaecbdaaGreatVTy
import Derived.Test.YtepnknffaecbdaaGreatVPlA
import Derived.Test.YtepnknffaecbdaaGreatVF2
import Derived.Test.YtepnknffaecbdaaGreatVF4
import Derived.Test.YtepnknffaecbdaaGreatVF9
namespace Go.Proofs.YtepnknffaecbdaaGreat
open Go.Sx Go.Pl Go.RowKit
theorem i_unless_t (c : Int) (w : World) :
    Calls Tryz.prog 93 [.bool true, .int .i64 c].toArray w (Ret w (.int .i64 0)) := by
 have L : Exm [] w w := Exm.rfl'
 refine enter (n := 7) Tryz.func93 rfl rfl rfl ?_
 refine wp_seq (c_reg (s0 (xaI rfl) (c_end (n_then (wp_seq (wp_seq (c_reg (s0 (x_move (v := .bool _) rfl) (c_end (n_then (c_true rfl (wp_seq (c_reg ?_)))))))))))))
 refine s0 (xaI rfl) (c_end (n_then ?_))
 refine wp_ret (r_then ?_)
 refine f_ret rfl rfl ?_
 exact ⟨rfl, L⟩

theorem i_unless_f (c : Int) (w : World) :
    Calls Tryz.prog 93 [.bool false, .int .i64 c].toArray w (Ret w (.int .i64 c)) := by
 have L : Exm [] w w := Exm.rfl'
 refine enter (n := 7) Tryz.func93 rfl rfl rfl ?_
 refine wp_seq (c_reg (s0 (xaI rfl) (c_end (n_then (wp_seq (wp_seq (c_reg (s0 (x_move (v := .bool _) rfl) (c_end (n_then (c_false rfl (c_skipn (n_then ?_)))))))))))))
 refine wp_seq (c_reg (s0 (xmI rfl) (s0 (xaI rfl) (c_end (n_then (wp_ret (f_ret rfl rfl ?_)))))))
 exact ⟨rfl, L⟩

theorem i_unless (p : Prop) [Decidable p] (c : Int) (w : World) : Calls Tryz.prog 93 [.bool (decide p), .int .i64 c].toArray w (Ret w (.int .i64 (unl p c))) := by
  by_cases h : p
  · rw [decide_eq_true h, show unl p c = 0 from if_pos h]; exact i_unless_t c w
  · rw [decide_eq_false h, show unl p c = c from if_neg h]; exact i_unless_f c w

theorem i_rhAny (x : Int) (w : World) :
    Calls Tryz.prog 91 [.int .i64 x].toArray w (Ret w (.int .i64 (k0 x))) := by
 have L : Exm [] w w := Exm.rfl'
 refine enter (n := 3) Tryz.func91 rfl rfl rfl ?_
 refine wp_seq (c_reg (s0 (xaI rfl) (c_end (n_then (wp_seq (c_reg (s0 (xaI rfl) (c_end (n_then (wp_ret (f_ret rfl rfl ?_)))))))))))
 exact ⟨rfl, L⟩

theorem i_rhSide (x : Int) (w : World) :
    Calls Tryz.prog 92 [.int .i64 x].toArray w (Ret w (.int .i64 (k3 x))) := by
 have L : Exm [] w w := Exm.rfl'
 refine enter (n := 6) Tryz.func92 rfl rfl rfl ?_
 refine wp_seq (c_reg (s0 (xaI rfl) (c_end (n_then (wp_seq (c_reg (s0 (xmI rfl) (s0 (x_leq rfl rfl) ?_))))))))
 refine sr (zcall cl93 rfl) (i_unless _ _ _) ?_
 intro w1 l2
 have z_l2 := l2.size; have L := L.tr l2.up
 refine s0 (xaI rfl) (c_end (n_then (wp_ret (f_ret rfl rfl ?_))))
 exact ⟨rfl, L⟩

theorem i_rhMagic (x : Int) (w : World) :
    Calls Tryz.prog 96 [.int .i64 x].toArray w (Ret w (.int .i64 (k183 x))) := by
 have L : Exm [] w w := Exm.rfl'
 refine enter (n := 6) Tryz.func96 rfl rfl rfl ?_
 refine wp_seq (c_reg (s0 (xaI rfl) (c_end (n_then (wp_seq (c_reg (s0 (xmI rfl) (s0 (x_eql rfl rfl) ?_))))))))
 refine sr (zcall cl93 rfl) (i_unless _ _ _) ?_
 intro w1 l2
 have z_l2 := l2.size; have L := L.tr l2.up
 refine s0 (xaI rfl) (c_end (n_then (wp_ret (f_ret rfl rfl ?_))))
 exact ⟨rfl, L⟩

theorem i_rhQ (x : Int) (w : World) :
    Calls Tryz.prog 98 [.int .i64 x].toArray w (Ret w (.int .i64 (k51 x))) := by
 have L : Exm [] w w := Exm.rfl'
 refine enter (n := 6) Tryz.func98 rfl rfl rfl ?_
 refine wp_seq (c_reg (s0 (xaI rfl) (c_end (n_then (wp_seq (c_reg (s0 (xmI rfl) (s0 (x_leq rfl rfl) ?_))))))))
 refine sr (zcall cl93 rfl) (i_unless _ _ _) ?_
 intro w1 l2
 have z_l2 := l2.size; have L := L.tr l2.up
 refine s0 (xaI rfl) (c_end (n_then (wp_ret (f_ret rfl rfl ?_))))
 exact ⟨rfl, L⟩

theorem i_rhLens (x : Int) (w : World) (hx : 0 ≤ x ∧ x < 4294967296) :
    Calls Tryz.prog 94 [.int .i64 x].toArray w (RetP w fun v w' => ∃ p c F, v = .slice p (lens6 x 6).length c ∧ Own w' p (lens6 x 6).length c 3 1 (ic (lens6 x 6)) F ∧ Fr w.heap.size F) := by
 have L : Exm [] w w := Exm.rfl'
 refine enter (n := 19) Tryz.func94 rfl rfl rfl ?_
 refine wp_seq (c_reg (s0 (xaS rfl) (c_end (n_then (wp_seq (c_reg (s_bs0 so24 ?_)))))))
 intro p5 F5 w1 l2 o5 f5 g5
 have o5 : Own w1 p5 0 0 3 1 (ic []) F5 := o5; have z_l2 := l2.size; have L := L.tr l2.up
 refine s0 (xaS rfl) (c_end (n_then (wp_seq (wp_seq (c_reg (s0 (xaI rfl) (c_end (n_then (wp_block ?_)))))))))
 refine c_loop (γ := Nat) (fun k => 6 - k) (fun (k : Nat) E wl => ∃ E0 pz3 cz3 Fz3, E = upd (upd (upd E0 0 (.int .i64 x)) 3 (.slice pz3 ((lens6 x k).length) cz3)) 4 (.int .i64 (5 - (k : Int))) ∧ (Exm [] w wl) ∧ (w1.heap.size ≤ wl.heap.size) ∧ (Own wl pz3 ((lens6 x k).length) cz3 3 1 (ic (lens6 x k)) Fz3) ∧ (Fr (w.heap.size) Fz3) ∧ (Lt Fz3 wl.heap.size) ∧ ((k : Int) ≤ 6)) 0 ⟨_, _, _, _, upd_self3 rfl (slice_len rfl) (vint (by omega)), L, (by omega), o5, (f5.mono (by omega)), (g5.mono (by omega)), (by omega)⟩ ?_
 rintro k E wl3 ⟨E0, pz3, cz3, Fz3, rfl, L, Lz, oz3, fz3, gz3, hk⟩
 have Lz0 := L.size; have hl6 := lens6_length x k; have hsh := Int.ediv_nonneg (a := x) (b := 2 ^ (3 * (5 - (k : Int))).toNat) hx.1 (Int.le_of_lt (two_pow_pos _)); have hsd := Int.ediv_le_self (2 ^ (3 * (5 - (k : Int))).toNat) hx.1
 refine wp_seq (wp_seq (c_reg (s0 (xmI rfl) ?_)))
 refine sb (x_geq rfl rfl) (fun h7 => ?_) (fun h7 => ?_)
 ·refine c_end (n_then (c_true rfl (c_skipn (n_then (wp_seq (wp_block (c_reg (s0 (xmS rfl) (s0 (xmI rfl) (s0 (xmI rfl) (s0 (x_mul rfl rfl (by omega)) ?_)))))))))))
  refine s0 (x_shr rfl rfl (by simp only [IntKind.bits]; omega)) ?_
  refine s0 (x_andm 3 rfl rfl (by omega) (by decide) (by omega) (by omega)) ?_
  refine s_bsi (xs := [_]) so24 zr3 (pts_cons rfl pts_nil) rfl rfl rfl ?_
  intro p16 F16 w4 l5 o16 f16 g16
  have z_l5 := l5.size; have L := L.tr l5.up; have oz3 := oz3.ext l5; have hn16 := o16.n1
  refine s_appi (B := w.heap.size) so24 zr3 rfl rfl (xs := _) oz3 o16.sl fz3 (by omega) (by omega) (by omega) ?_
  intro p17 c17 F17 w6 l7 o17 hn17 k17 f17 g17
  have z_l7 := l7.size; have L := L.freshL l7 fz3 (by omega); have d16_17 : Dj F16 F17 := k17.dj (by first|assumption|exact Dj.symm (by assumption)|exact dj_of f16 g16 fz3 gz3 (by omega)) g16 (by omega)
  have o16 := o16.exm l7 (by first|assumption|exact Dj.symm (by assumption)|exact dj_of fz3 gz3 f16 g16 (by omega))
  refine s0 (xaS rfl) (c_end (n_block (n_then (c_reg (s0 (xmI rfl) (s0 (x_sub rfl rfl (by omega)) (s0 (xaI rfl) (c_end ?_))))))))
  exact c_round (g' := k + 1) (by omega) ⟨_, _, _, _, upd_self3 rfl (slice_len (by rw [lens6_succ]; simp only [List.length_append, List.length_cons, List.length_nil])) (vint (by omega)), L, (by omega), (by rw [lens6_succ]; rw [show (3 * (5 - (k : Int))).toNat = 3 * (5 - k) by omega] at o17; exact o17), (f17.mono (by omega)), (g17.mono (by omega)), (by omega)⟩
 ·refine c_end (n_then (c_false rfl ?_))
  refine wp_exit (e_then (e_then (e_here ?_)))
  refine n_then (wp_seq (c_reg (s0 (xmS rfl) (s0 (xaS rfl) (c_end (n_then (wp_ret (f_ret rfl rfl ?_))))))))
  obtain rfl : k = 6 := by omega
  exact ⟨_, rfl, L, _, _, _, rfl, oz3, fz3.mono (by omega)⟩

theorem i_rhCode (x : Int) (bf : Nat) (w : World) (hB : Bx w bf [.func (.func 94) #[] #[]] 121) (hx : 0 ≤ x ∧ x < 4294967296) :
    Calls Tryz.prog 99 [.int .i64 x, pt bf 0].toArray w (Ret w (.int .i64 (kLens x))) := by
 have L : Exm [] w w := Exm.rfl'
 refine enter (n := 9) Tryz.func99 rfl rfl rfl ?_
 refine wp_seq (c_reg (s0 (xaI rfl) (c_end (n_then (wp_seq (c_reg (st (x_loadB sc121 rfl hB rfl) (s0 (xmI rfl) ?_))))))))
 refine sp (zcallv (caps := []) cl94 rfl rfl) (i_rhLens _ _ (by omega)) ?_
 rintro v6 w1 l2 ⟨p6, c6, F6, rfl, o6, f6⟩
 have z_l2 := l2.size; have L := L.tr l2.up; have hB := hB.ext l2; have g6 := o6.lt
 refine sr (zcall cl100 rfl) (i_codeOk _ _ _ _ o6.sl (by rw [lens6_length]; omega)) ?_
 intro w3 l4
 have z_l4 := l4.size; have L := L.tr l4.up; have hB := hB.ext l4
 refine sr (zcall cl93 rfl) (i_unless _ _ _) ?_
 intro w5 l6
 have z_l6 := l6.size; have L := L.tr l6.up; have hB := hB.ext l6
 refine s0 (xaI rfl) (c_end (n_then (wp_ret (f_ret rfl rfl ?_))))
 exact ⟨rfl, L⟩

theorem i_fbits (b : Nat) (s : ByteArray) (f : Fs) (n : Int) (fk : FuncId) (caps : List Value) (chk : Int → Int) (w : World) (hB : Bx w b [.string s, .int .i64 f.a, .int .i64 f.code] 127) (hc : Callable Tryz.prog fk) (hk : ∀ x w', 0 ≤ x ∧ x < 4294967296 → Exm [b] w w' → Calls Tryz.prog fk ([Value.int .i64 x] ++ caps).toArray w' (Ret w' (.int .i64 (chk x)))) (hs : s.size ≤ 1048576) :
    Calls Tryz.prog 95 [pt b 0, .int .i64 n, .func (.func fk) #[] caps.toArray].toArray w (RetM [b] w fun v w' => ∃ (x : Int) (f' : Fs), v = .int .i64 x ∧ x = fbV s f n chk ∧ f' = fbS s f n chk ∧ Bx w' b [.string s, .int .i64 f'.a, .int .i64 f'.code] 127) := by
 have hbz : b < w.heap.size := (Array.getElem?_eq_some_iff.1 hB).1; have L : Exm [b] w w := Exm.rfl'
 refine enter (n := 47) Tryz.func95 rfl rfl rfl ?_
 refine wp_seq (c_reg (s0 (xaI rfl) (c_end (n_then (wp_seq (wp_seq (c_reg (s0 (x_move (v := .pointer _) rfl) (s0 (x_nilCheck rfl) (s0 (x_fieldAddr fa127_1 rfl) (st (x_loadB sc3 rfl hB rfl) ?_)))))))))))
 refine sb (x_neq rfl rfl) (fun h14 => ?_) (fun h14 => ?_)
 ·refine c_end (n_then (c_true rfl (wp_seq (c_reg (s0 (xaI rfl) (c_end (n_then ?_)))))))
  refine wp_ret (r_then ?_)
  refine f_ret rfl rfl ?_
  exact ⟨_, rfl, L, 0, f, rfl, (fb_err h14).2.symm, (fb_err h14).1.symm, hB⟩
 ·refine c_end (n_then (c_false rfl (c_skipn (n_then (wp_seq (c_reg (s0 (x_move (v := .pointer _) rfl) (s0 (x_nilCheck rfl) (s0 (x_fieldAddr fa127_0 rfl) (st (x_loadIn ag79 rfl hB [.string _, .int _ _] rfl rfl) (s0 (xmI rfl) ?_)))))))))))
  refine sr (zcall cl101 rfl) (i_readBits _ _ _ _ (by omega)) ?_
  intro w1 l2
  have z_l2 := l2.size; have L := L.tr l2.up; have hB := hB.ext l2
  refine s0 (x_move (v := .tuple _) rfl) (s0 (x_extract rfl rfl) (s0 (x_extract rfl rfl) ?_))
  refine sb (x_extract rfl rfl) (fun h24 => ?_) (fun h24 => ?_)
  ·refine s_alloc zr79 ?_
   intro b3 w4 lob3 hib3 l5 B3
   have z_l5 := l5.size; have L := L.tr l5.up; have hB := hB.ext l5
   refine s_storeAg rfl sz79 rfl rfl B3 rfl rfl rfl ?_
   intro w6 l7 el7 B3
   have z_l7 := l7.size; have L := L.fresh l7 (by omega); have hB := hB.ne l7 (by omega)
   refine s0 (xaI rfl) (s0 (x_assign (v := .bool _) rfl) (c_end (n_then (wp_seq (wp_block (wp_seq (c_reg (s0 (x_move (v := .bool _) rfl) (s0 (x_not rfl) (s0 (x_assign (v := .bool _) rfl) (c_end (n_then (c_false rfl ?_)))))))))))))
   refine c_reg (s0 (x_move (v := .pointer _) rfl) (s0 (x_move (v := .func _ _ _) rfl) (s0 (xmI rfl) ?_)))
   refine sr (zcallv (caps := caps) hc rfl rfl) (hk _ _ (rbV_range s f.a n) L) ?_
   intro w8 l9
   have z_l9 := l9.size; have L := L.tr l9.up; have hB := hB.ext l9; have B3 := B3.ext l9
   refine s0 (x_nilCheck rfl) (s0 (x_fieldAddr fa127_1 rfl) ?_)
   refine s_store (v := .int _ _) (cs' := [_, _, _]) rfl sz3 rfl rfl rfl rfl hB rfl rfl ?_
   intro w10 l11 el11 hB
   have z_l11 := l11.size; have L := L.within l11 (by simp)
   have B3 := B3.ne l11 (by omega)
   refine c_end (n_block (n_then (wp_seq (wp_seq (c_reg (s0 (x_move (v := .pointer _) rfl) (s0 (x_nilCheck rfl) (s0 (x_fieldAddr fa127_1 rfl) (st (x_loadB sc3 rfl hB rfl) ?_)))))))))
   refine sb (x_neq rfl rfl) (fun h41 => ?_) (fun h41 => ?_)
   ·refine c_end (n_then (c_true rfl (wp_seq (c_reg (s0 (xaI rfl) (c_end (n_then ?_)))))))
    refine wp_ret (r_then ?_)
    refine f_ret rfl rfl ?_
    have e := fb_bad (f := f) (chk := chk) (Classical.not_not.1 h14) h24 h41
    exact ⟨_, rfl, L, 0, _, rfl, e.2.symm, e.1.symm, hB⟩
   ·refine c_end (n_then (c_false rfl (c_skipn (n_then (wp_seq (c_reg (s0 (x_move (v := .pointer _) rfl) (st (x_loadAgB ag79 rfl B3 rfl) (s0 (x_nilCheck rfl) (s0 (x_fieldAddr fa127_0 rfl) ?_))))))))))
    refine s_storeIn (cs' := [_, _, _]) (vs := [.string _, .int _ _]) rfl sz79 rfl rfl hB rfl (Nat.le_of_ble_eq_true rfl) rfl rfl ?_
    intro w12 l13 el13 hB
    have z_l13 := l13.size; have L := L.within l13 (by simp)
    have B3 := B3.ne l13 (by omega)
    refine c_end (n_then (wp_seq (c_reg (s0 (xmI rfl) (s0 (xaI rfl) (c_end (n_then (wp_ret (f_ret rfl rfl ?_)))))))))
    have e := fb_ok (f := f) (chk := chk) (Classical.not_not.1 h14) h24 (Classical.not_not.1 h41)
    exact ⟨_, rfl, L, _, _, rfl, e.2.symm, e.1.symm, bx_eq (by rw [rbAt_ok h24, Classical.not_not.1 h41]) hB⟩
  ·refine s_alloc zr79 ?_
   intro b14 w15 lob14 hib14 l16 B14
   have z_l16 := l16.size; have L := L.tr l16.up; have hB := hB.ext l16
   refine s_storeAg rfl sz79 rfl rfl B14 rfl rfl rfl ?_
   intro w17 l18 el18 B14
   have z_l18 := l18.size; have L := L.fresh l18 (by omega); have hB := hB.ne l18 (by omega)
   refine s0 (xaI rfl) (s0 (x_assign (v := .bool _) rfl) (c_end (n_then (wp_seq (wp_block (wp_seq (c_reg (s0 (x_move (v := .bool _) rfl) (s0 (x_not rfl) (s0 (x_assign (v := .bool _) rfl) (c_end (n_then (c_true rfl ?_)))))))))))))
   refine c_reg (s0 (x_move (v := .pointer _) rfl) (s0 (x_nilCheck rfl) (s0 (x_fieldAddr fa127_1 rfl) ?_)))
   refine s_store (v := .int _ _) (cs' := [_, _, _]) rfl sz3 rfl rfl rfl rfl hB rfl rfl ?_
   intro w19 l20 el20 hB
   have z_l20 := l20.size; have L := L.within l20 (by simp)
   have B14 := B14.ne l20 (by omega)
   refine c_end (n_block (n_then (wp_seq (wp_seq (c_reg (s0 (x_move (v := .pointer _) rfl) (s0 (x_nilCheck rfl) (s0 (x_fieldAddr fa127_1 rfl) (st (x_loadB sc3 rfl hB rfl) ?_)))))))))
   refine sb (x_neq rfl rfl) (fun h41 => ?_) (fun h41 => ?_)
   ·refine c_end (n_then (c_true rfl (wp_seq (c_reg (s0 (xaI rfl) (c_end (n_then ?_)))))))
    refine wp_ret (r_then ?_)
    refine f_ret rfl rfl ?_
    have e := fb_short (f := f) (chk := chk) (Classical.not_not.1 h14) h24
    exact ⟨_, rfl, L, 0, _, rfl, e.2.symm, e.1.symm, hB⟩
   ·exact absurd (by decide) h41

theorem i_fue (b : Nat) (s : ByteArray) (f : Fs) (fk : FuncId) (caps : List Value) (chk : Int → Int) (w : World) (hB : Bx w b [.string s, .int .i64 f.a, .int .i64 f.code] 127) (hc : Callable Tryz.prog fk) (hk : ∀ x w', 0 ≤ x ∧ x < 4294967296 → Exm [b] w w' → Calls Tryz.prog fk ([Value.int .i64 x] ++ caps).toArray w' (Ret w' (.int .i64 (chk x)))) (hs : s.size ≤ 1048576) :
    Calls Tryz.prog 97 [pt b 0, .func (.func fk) #[] caps.toArray].toArray w (RetM [b] w fun v w' => ∃ (x : Int) (f' : Fs), v = .int .i64 x ∧ x = fnV s f chk ∧ f' = fnS s f chk ∧ Bx w' b [.string s, .int .i64 f'.a, .int .i64 f'.code] 127) := by
 have hbz : b < w.heap.size := (Array.getElem?_eq_some_iff.1 hB).1; have L : Exm [b] w w := Exm.rfl'
 refine enter (n := 38) Tryz.func97 rfl rfl rfl ?_
 refine wp_seq (c_reg (s0 (xaI rfl) (c_end (n_then (wp_seq (wp_seq (c_reg (s0 (x_move (v := .pointer _) rfl) (s0 (x_nilCheck rfl) (s0 (x_fieldAddr fa127_1 rfl) (st (x_loadB sc3 rfl hB rfl) ?_)))))))))))
 refine sb (x_neq rfl rfl) (fun h12 => ?_) (fun h12 => ?_)
 ·refine c_end (n_then (c_true rfl (wp_seq (c_reg (s0 (xaI rfl) (c_end (n_then ?_)))))))
  refine wp_ret (r_then ?_)
  refine f_ret rfl rfl ?_
  exact ⟨_, rfl, L, 0, f, rfl, (fn_err h12).2.symm, (fn_err h12).1.symm, hB⟩
 ·refine c_end (n_then (c_false rfl (c_skipn (n_then (wp_seq (c_reg (s0 (x_move (v := .pointer _) rfl) (s0 (x_nilCheck rfl) (s0 (x_fieldAddr fa127_0 rfl) (st (x_loadIn ag79 rfl hB [.string _, .int _ _] rfl rfl) ?_))))))))))
  refine sr (zcall cl158 rfl) (i_ue _ _ _ (by omega)) ?_
  intro w1 l2
  have z_l2 := l2.size; have L := L.tr l2.up; have hB := hB.ext l2
  refine s0 (x_move (v := .tuple _) rfl) (s0 (x_extract rfl rfl) (s0 (x_extract rfl rfl) (s0 (x_extract rfl rfl) (s_alloc zr79 ?_))))
  intro b3 w4 lob3 hib3 l5 B3
  have z_l5 := l5.size; have L := L.tr l5.up; have hB := hB.ext l5
  refine s_storeAg rfl sz79 rfl rfl B3 rfl rfl rfl ?_
  intro w6 l7 el7 B3
  have z_l7 := l7.size; have L := L.fresh l7 (by omega); have hB := hB.ne l7 (by omega)
  refine s0 (xaI rfl) (s0 (xaI rfl) (c_end (n_then (wp_seq (wp_seq (c_reg (s0 (xmI rfl) ?_)))))))
  refine sb (x_eql rfl rfl) (fun h23 => ?_) (fun h23 => ?_)
  ·refine c_end (n_then (c_true rfl (c_reg (s0 (x_move (v := .func _ _ _) rfl) (s0 (xmI rfl) ?_)))))
   refine sr (zcallv (caps := caps) hc rfl rfl) (hk _ _ (by have := ueV_range h23; omega) L) ?_
   intro w8 l9
   have z_l9 := l9.size; have L := L.tr l9.up; have hB := hB.ext l9; have B3 := B3.ext l9
   refine s0 (xaI rfl) (c_end (n_then (wp_seq (wp_seq (c_reg (s0 (x_move (v := .pointer _) rfl) (s0 (xmI rfl) (s0 (x_nilCheck rfl) (s0 (x_fieldAddr fa127_1 rfl) ?_)))))))))
   refine s_store (v := .int _ _) (cs' := [_, _, _]) rfl sz3 rfl rfl rfl rfl hB rfl rfl ?_
   intro w10 l11 el11 hB
   have z_l11 := l11.size; have L := L.within l11 (by simp)
   have B3 := B3.ne l11 (by omega)
   refine c_end (n_then (wp_seq (c_reg (s0 (xmI rfl) ?_))))
   refine sb (x_neq rfl rfl) (fun h32 => ?_) (fun h32 => ?_)
   ·refine c_end (n_then (c_true rfl (wp_seq (c_reg (s0 (xaI rfl) (c_end (n_then ?_)))))))
    refine wp_ret (r_then ?_)
    refine f_ret rfl rfl ?_
    have e := fn_bad (f := f) (chk := chk) (Classical.not_not.1 h12) h23 h32
    exact ⟨_, rfl, L, 0, _, rfl, e.2.symm, e.1.symm, hB⟩
   ·refine c_end (n_then (c_false rfl (c_skipn (n_then (wp_seq (c_reg (s0 (x_move (v := .pointer _) rfl) (st (x_loadAgB ag79 rfl B3 rfl) (s0 (x_nilCheck rfl) (s0 (x_fieldAddr fa127_0 rfl) ?_))))))))))
    refine s_storeIn (cs' := [_, _, _]) (vs := [.string _, .int _ _]) rfl sz79 rfl rfl hB rfl (Nat.le_of_ble_eq_true rfl) rfl rfl ?_
    intro w12 l13 el13 hB
    have z_l13 := l13.size; have L := L.within l13 (by simp)
    have B3 := B3.ne l13 (by omega)
    refine c_end (n_then (wp_seq (c_reg (s0 (xmI rfl) (s0 (xaI rfl) (c_end (n_then (wp_ret (f_ret rfl rfl ?_)))))))))
    have e := fn_ok (f := f) (chk := chk) (Classical.not_not.1 h12) h23 (Classical.not_not.1 h32)
    exact ⟨_, rfl, L, _, _, rfl, e.2.symm, e.1.symm, bx_eq (by rw [Classical.not_not.1 h32]) hB⟩
  ·refine c_end (n_then (c_false rfl (c_skipn (n_then (wp_seq (wp_seq (c_reg (s0 (x_move (v := .pointer _) rfl) (s0 (xmI rfl) (s0 (x_nilCheck rfl) (s0 (x_fieldAddr fa127_1 rfl) ?_)))))))))))
   refine s_store (v := .int _ _) (cs' := [_, _, _]) rfl sz3 rfl rfl rfl rfl hB rfl rfl ?_
   intro w14 l15 el15 hB
   have z_l15 := l15.size; have L := L.within l15 (by simp)
   have B3 := B3.ne l15 (by omega)
   refine c_end (n_then (wp_seq (c_reg (s0 (xmI rfl) ?_))))
   refine sb (x_neq rfl rfl) (fun h32 => ?_) (fun h32 => ?_)
   ·refine c_end (n_then (c_true rfl (wp_seq (c_reg (s0 (xaI rfl) (c_end (n_then ?_)))))))
    refine wp_ret (r_then ?_)
    refine f_ret rfl rfl ?_
    have e := fn_short (f := f) (chk := chk) (Classical.not_not.1 h12) h23
    exact ⟨_, rfl, L, 0, _, rfl, e.2.symm, e.1.symm, hB⟩
   ·exact (h32 h23).elim

set_option maxHeartbeats 1000000 in
theorem i_readHeader (s : ByteArray) (a : Int) (w : World) (hs : s.size ≤ 1048576) :
    Calls Tryz.prog 41 [.agg [.string s, .int .i64 a].toArray].toArray w (RetP w fun v w' => ∃ p c F, v = .tuple [.agg [.string s, .int .i64 (rh6 s a).a].toArray, .agg [.int .i64 (hdW s a), .int .i64 (hdH s a), .int .i64 (hdQ s a), .bool (hdB s a), .bool (hdD s a), .slice p (hdL s a).length c].toArray, .int .i64 (rh6 s a).code].toArray ∧ Own w' p (hdL s a).length c 3 1 (ic (hdL s a)) F ∧ Fr w.heap.size F) := by
 have L : Exm [] w w := Exm.rfl'
 refine enter (n := 67) Tryz.func41 rfl rfl rfl ?_
 refine wp_seq (c_reg (s_box rfl rfl ?_))
 intro b1 w2 lob1 hib1 l3 B1
 have z_l3 := l3.size; have L := L.tr l3.up
 refine s_alloc zr79 ?_
 intro b4 w5 lob4 hib4 l6 B4
 have z_l6 := l6.size; have L := L.tr l6.up; have B1 := B1.ext l6
 refine s_alloc zr26 ?_
 intro b7 w8 lob7 hib7 l9 B7
 have z_l9 := l9.size; have L := L.tr l9.up; have B1 := B1.ext l9; have B4 := B4.ext l9
 refine s0 (xaI rfl) (c_end (n_then (wp_seq (c_reg (st (x_loadAgB ag79 rfl B1 rfl) ?_)))))
 refine s0 (x_build (cs := [.string _, .int _ _, .int .i64 0]) bd127 (pts_cons (v := .agg _) rfl pts_nil) rfl) ?_
 refine s_box rfl rfl ?_
 intro b10 w11 lob10 hib10 l12 B10
 have z_l12 := l12.size; have L := L.tr l12.up; have B1 := B1.ext l12; have B4 := B4.ext l12; have B7 := B7.ext l12
 refine s0 (x_assign (v := .pointer _) rfl) (c_end (n_then (wp_seq (c_reg (s0 (x_assign (v := .func _ _ _) rfl) (c_end (n_then (wp_seq (c_reg (s0 (x_assign (v := .func _ _ _) rfl) (c_end (n_then (wp_seq ?_)))))))))))))
 refine c_reg (s_alloc zr121 ?_)
 intro b13 w14 lob13 hib13 l15 B13
 have z_l15 := l15.size; have L := L.tr l15.up; have B1 := B1.ext l15; have B4 := B4.ext l15; have B7 := B7.ext l15; have B10 := B10.ext l15
 refine s_store (v := .func _ _ _) (cs' := [_]) rfl sz121 rfl rfl rfl rfl B13 rfl rfl ?_
 intro w16 l17 el17 B13
 have z_l17 := l17.size; have L := L.fresh l17 (by omega); have B1 := B1.ne l17 (by omega); have B4 := B4.ne l17 (by omega); have B7 := B7.ne l17 (by omega); have B10 := B10.ne l17 (by omega)
 refine c_end (n_then (wp_seq (c_reg (s0 (x_move (v := .pointer _) rfl) ?_))))
 refine spm (zcall cl95 rfl) (i_fbits b10 _ ⟨a, 0⟩ _ 96 [] k183 _ B10 cl96 (fun x w9 hx9 L9 => i_rhMagic x w9) (by omega)) ?_
 rintro v18 w18 l19 ⟨x18, q18, rfl, hx18, hq18, B10⟩
 have z_l19 := l19.size; have L := L.fresh l19 (by omega); have B1 := B1.ne l19 (by omega); have B4 := B4.ne l19 (by omega); have B7 := B7.ne l19 (by omega); have B13 := B13.ne l19 (by omega)
 refine c_end (n_then (wp_seq (c_reg (s0 (x_move (v := .pointer _) rfl) (s0 (x_move (v := .func _ _ _) rfl) ?_)))))
 refine spm (zcall cl97 rfl) (i_fue b10 _ q18 92 [] k3 _ B10 cl92 (fun x w9 hx9 L9 => i_rhSide x w9) (by omega)) ?_
 rintro v21 w20 l21 ⟨x21, q21, rfl, hx21, hq21, B10⟩
 have z_l21 := l21.size; have L := L.fresh l21 (by omega); have B1 := B1.ne l21 (by omega); have B4 := B4.ne l21 (by omega); have B7 := B7.ne l21 (by omega); have B13 := B13.ne l21 (by omega)
 refine s0 (x_move (v := .pointer _) rfl) (s0 (x_move (v := .func _ _ _) rfl) ?_)
 refine spm (zcall cl97 rfl) (i_fue b10 _ q21 92 [] k3 _ B10 cl92 (fun x w9 hx9 L9 => i_rhSide x w9) (by omega)) ?_
 rintro v24 w22 l23 ⟨x24, q24, rfl, hx24, hq24, B10⟩
 have z_l23 := l23.size; have L := L.fresh l23 (by omega); have B1 := B1.ne l23 (by omega); have B4 := B4.ne l23 (by omega); have B7 := B7.ne l23 (by omega); have B13 := B13.ne l23 (by omega)
 refine s0 (xaI rfl) (s0 (xaI rfl) (c_end (n_then (wp_seq (c_reg (s0 (x_move (v := .pointer _) rfl) ?_))))))
 refine spm (zcall cl95 rfl) (i_fbits b10 _ q24 _ 98 [] k51 _ B10 cl98 (fun x w9 hx9 L9 => i_rhQ x w9) (by omega)) ?_
 rintro v26 w24 l25 ⟨x26, q26, rfl, hx26, hq26, B10⟩
 have z_l25 := l25.size; have L := L.fresh l25 (by omega); have B1 := B1.ne l25 (by omega); have B4 := B4.ne l25 (by omega); have B7 := B7.ne l25 (by omega); have B13 := B13.ne l25 (by omega)
 refine s0 (xaI rfl) (c_end (n_then (wp_seq (c_reg (s0 (x_move (v := .pointer _) rfl) (s0 (x_move (v := .func _ _ _) rfl) ?_))))))
 refine spm (zcall cl95 rfl) (i_fbits b10 _ q26 _ 91 [] k0 _ B10 cl91 (fun x w9 hx9 L9 => i_rhAny x w9) (by omega)) ?_
 rintro v29 w26 l27 ⟨x29, q29, rfl, hx29, hq29, B10⟩
 have z_l27 := l27.size; have L := L.fresh l27 (by omega); have B1 := B1.ne l27 (by omega); have B4 := B4.ne l27 (by omega); have B7 := B7.ne l27 (by omega); have B13 := B13.ne l27 (by omega)
 refine s0 (xaI rfl) (c_end (n_then (wp_seq (c_reg (s0 (x_move (v := .pointer _) rfl) (s0 (x_makeFunc rfl) ?_))))))
 refine spm (zcall cl95 rfl) (i_fbits b10 _ q29 _ 99 [pt b13 0] kLens _ B10 cl99 (fun x w9 hx9 L9 => i_rhCode x _ w9 (B13.ne L9 (by omega)) hx9) (by omega)) ?_
 rintro v32 w28 l29 ⟨x32, q32, rfl, hx32, hq32, B10⟩
 have z_l29 := l29.size; have L := L.fresh l29 (by omega); have B1 := B1.ne l29 (by omega); have B4 := B4.ne l29 (by omega); have B7 := B7.ne l29 (by omega); have B13 := B13.ne l29 (by omega)
 refine s0 (xaI rfl) (c_end (n_then (wp_seq (wp_seq ?_))))
 have e6 : rh6 s a = q32 := by rw [hq32, hq29, hq26, hq24, hq21, hq18]; rfl
 refine c_reg (s0 (x_move (v := .pointer _) rfl) (s0 (x_nilCheck rfl) (s0 (x_fieldAddr fa127_1 rfl) (st (x_loadB sc3 rfl B10 rfl) ?_))))
 refine sb (x_neq rfl rfl) (fun h37 => ?_) (fun h37 => ?_)
 ·refine c_end (n_then (c_true rfl (wp_seq ?_)))
  refine c_plan (fun wq => Exm [b4, b7] w28 wq) 12 (.cons (0, 2) (.cons (1, 2) (.cons (2, 2) (.cons (3, 1) (.cons (4, 2) (.cons (5, 2) (.cons (6, 2) (.cons (7, 2) (.cons (8, 1) (.cons (9, 0) (.cons (10, 0) (.cons (11, 2) .nil)))))))))))) (by kernel_rfl) (by kernel_rfl) (Exm.drew _) ?_
  obtain ⟨w30, hwd⟩ : ∃ x, x = w28.drew := ⟨_, rfl⟩
  have l31 : Ext w28 w30 := by rw [hwd]; exact Exm.drew _
  rw [← hwd]; clear hwd
  have Lq : Exm [b4, b7] w28 w30 := l31.up; have qB10 := B10; have z_l31 := l31.size; have L := L.tr l31.up; have B1 := B1.ext l31; have B4 := B4.ext l31; have B7 := B7.ext l31; have B10 := B10.ext l31; have B13 := B13.ext l31
  refine p0 rfl (x_move (v := .pointer _) rfl) (p0 rfl (x_nilCheck rfl) (p0 rfl (x_fieldAddr fa127_0 rfl) ?_))
  refine ps rfl (fun wq hwq => x_loadIn ag79 rfl (qB10.exm hwq (by simp; omega)) [.string _, .int _ _] rfl rfl) ?_
  refine p0 rfl (x_build (cs := [.int .i64 0, .int .i64 0, .int .i64 0, .bool false, .bool false, .slice none 0 0]) bd26 pts_nil rfl) ?_
  refine p0 rfl (x_move (v := .pointer _) rfl) (p0 rfl (x_nilCheck rfl) (p0 rfl (x_fieldAddr fa127_1 rfl) ?_))
  refine ps rfl (fun wq hwq => x_loadB sc3 rfl (qB10.exm hwq (by simp; omega)) rfl) ?_
  refine pu rfl (s_storeAg rfl sz79 rfl rfl B4 rfl rfl rfl ?_)
  intro w32 l33 el33 B4
  have z_l33 := l33.size; have L := L.fresh l33 (by omega); have Lq := Lq.within l33 (by simp)
  have B1 := B1.ne l33 (by omega); have B7 := B7.ne l33 (by omega); have B10 := B10.ne l33 (by omega); have B13 := B13.ne l33 (by omega)
  refine c_end ⟨rfl, fun h hS => Lq, ?_⟩
  refine pu rfl (s_storeAg rfl sz26 rfl rfl B7 rfl rfl rfl ?_)
  intro w34 l35 el35 B7
  have z_l35 := l35.size; have L := L.fresh l35 (by omega); have Lq := Lq.within l35 (by simp)
  have B1 := B1.ne l35 (by omega); have B4 := B4.ne l35 (by omega); have B10 := B10.ne l35 (by omega); have B13 := B13.ne l35 (by omega)
  refine c_end ⟨rfl, fun h hS => Lq, ?_⟩
  refine p0 rfl (xaI rfl) ?_
  refine p_nil (np_normal ?_)
  refine n_then ?_
  refine wp_ret (r_then ?_)
  refine f_rets3 rfl (ro_cell rfl ag79 B4 rfl) (ro_cell rfl ag26 B7 rfl) (ro_tmp rfl) ?_
  have hne : (rh6 s a).code ≠ 0 := by rw [e6]; exact h37
  obtain ⟨e1, e2, e3, e4, e5, e6p⟩ := hd_no hne
  rw [e1, e2, e3, e4, e5, e6p, e6]
  exact ⟨_, rfl, L, none, 0, [], rfl, Own.nil, Fr.no⟩
 ·refine c_end (n_then (c_false rfl (c_skipn (n_then (wp_seq ?_)))))
  have hr1 : 0 ≤ x21 ∧ x21 ≤ 2147483647 := by rw [hx21]; exact fnV_range _ _ _
  have hr2 : 0 ≤ x24 ∧ x24 ≤ 2147483647 := by rw [hx24]; exact fnV_range _ _ _
  have hr4 : 0 ≤ x29 ∧ x29 < 4294967296 := by rw [hx29]; exact fbV_range _ _ _ _
  have hr6 : 0 ≤ x32 ∧ x32 < 4294967296 := by rw [hx32]; exact fbV_range _ _ _ _
  have hz6 : q32.code = 0 := Classical.not_not.1 h37
  refine c_plan (fun wq => Exm [b4, b7] w28 wq) 23 (.cons (0, 2) (.cons (1, 2) (.cons (2, 2) (.cons (3, 1) (.cons (4, 2) (.cons (5, 2) (.cons (6, 2) (.cons (7, 2) (.cons (8, 2) (.cons (9, 2) (.cons (10, 2) (.cons (11, 2) (.cons (12, 2) (.cons (13, 2) (.cons (14, 2) (.cons (15, 2) (.cons (16, 1) (.cons (17, 2) (.cons (18, 0) (.cons (19, 2) (.cons (20, 0) (.cons (21, 0) (.cons (22, 2) .nil))))))))))))))))))))))) (by kernel_rfl) (by kernel_rfl) (Exm.drew _) ?_
  obtain ⟨w36, hwd⟩ : ∃ x, x = w28.drew := ⟨_, rfl⟩
  have l37 : Ext w28 w36 := by rw [hwd]; exact Exm.drew _
  rw [← hwd]; clear hwd
  have Lq : Exm [b4, b7] w28 w36 := l37.up; have qB10 := B10; have qB13 := B13; have z_l37 := l37.size; have L := L.tr l37.up; have B1 := B1.ext l37; have B4 := B4.ext l37; have B7 := B7.ext l37; have B10 := B10.ext l37; have B13 := B13.ext l37
  refine p0 rfl (x_move (v := .pointer _) rfl) (p0 rfl (x_nilCheck rfl) (p0 rfl (x_fieldAddr fa127_0 rfl) ?_))
  refine ps rfl (fun wq hwq => x_loadIn ag79 rfl (qB10.exm hwq (by simp; omega)) [.string _, .int _ _] rfl rfl) ?_
  refine p0 rfl (xmI rfl) (p0 rfl (x_add rfl rfl (by omega)) (p0 rfl (x_mul rfl rfl (by omega)) (p0 rfl (xmI rfl) (p0 rfl (x_add rfl rfl (by omega)) (p0 rfl (x_mul rfl rfl (by omega)) (p0 rfl (xmI rfl) (p0 rfl (xmI rfl) (p0 rfl (x_geq rfl rfl) (p0 rfl (xmI rfl) (p0 rfl (x_rem rfl rfl (by omega) (by omega)) (p0 rfl (x_eql rfl rfl) ?_)))))))))))
  refine ps rfl (fun wq hwq => x_loadB sc121 rfl (qB13.exm hwq (by simp; omega)) rfl) ?_
  refine p0 rfl (xmI rfl) (pu rfl ?_)
  refine sp (zcallv (caps := []) cl94 rfl rfl) (i_rhLens _ _ hr6) ?_
  rintro v65 w38 l39 ⟨p65, c65, F65, rfl, o65, f65⟩
  have z_l39 := l39.size; have L := L.tr l39.up; have Lq := Lq.tr l39.up; have B1 := B1.ext l39; have B4 := B4.ext l39; have B7 := B7.ext l39; have B10 := B10.ext l39; have B13 := B13.ext l39; have g65 := o65.lt
  refine c_end ⟨rfl, fun h hS => Lq, ?_⟩
  refine p0 rfl (x_build (cs := [.int _ _, .int _ _, .int _ _, .bool _, .bool _, .slice _ _ _]) bd26 (pts_cons (v := .int _ _) rfl (pts_cons (v := .int _ _) rfl (pts_cons (v := .int _ _) rfl (pts_cons (v := .bool _) rfl (pts_cons (v := .bool _) rfl (pts_cons (v := .slice _ _ _) rfl pts_nil)))))) rfl) ?_
  refine pu rfl (s_storeAg rfl sz79 rfl rfl B4 rfl rfl rfl ?_)
  intro w40 l41 el41 B4
  have z_l41 := l41.size; have L := L.fresh l41 (by omega); have Lq := Lq.within l41 (by simp)
  have B1 := B1.ne l41 (by omega); have B7 := B7.ne l41 (by omega); have B10 := B10.ne l41 (by omega); have B13 := B13.ne l41 (by omega); have o65 := o65.ne l41 (by first|assumption|exact nin_of f65 g65 (by omega))
  refine c_end ⟨rfl, fun h hS => Lq, ?_⟩
  refine pu rfl (s_storeAg rfl sz26 rfl rfl B7 rfl rfl rfl ?_)
  intro w42 l43 el43 B7
  have z_l43 := l43.size; have L := L.fresh l43 (by omega); have Lq := Lq.within l43 (by simp)
  have B1 := B1.ne l43 (by omega); have B4 := B4.ne l43 (by omega); have B10 := B10.ne l43 (by omega); have B13 := B13.ne l43 (by omega); have o65 := o65.ne l43 (by first|assumption|exact nin_of f65 g65 (by omega))
  refine c_end ⟨rfl, fun h hS => Lq, ?_⟩
  refine p0 rfl (xaI rfl) ?_
  refine p_nil (np_normal ?_)
  refine n_then (wp_ret (f_rets3 rfl (ro_cell rfl ag79 B4 rfl) (ro_cell rfl ag26 B7 rfl) (ro_tmp rfl) ?_))
  obtain ⟨d1, d2, d3, d4, d5, d6⟩ := hd_yes (s := s) (a := a) (by rw [e6]; exact hz6)
  have w1 : rhW s a = x21 := by rw [hx21, hq18]; rfl
  have w2 : rhH s a = x24 := by rw [hx24, hq21, hq18]; rfl
  have w3 : rhQ s a = x26 := by rw [hx26, hq24, hq21, hq18]; rfl
  have w4 : rhF s a = x29 := by rw [hx29, hq26, hq24, hq21, hq18]; rfl
  have w5 : rhL s a = x32 := by rw [hx32, hq29, hq26, hq24, hq21, hq18]; rfl
  rw [d1, d2, d3, d4, d5, d6, w1, w2, w3, w4, w5, e6, hz6]
  exact ⟨_, rfl, L, _, _, _, rfl, o65, f65.mono (by omega)⟩

theorem s_l22Side (s : ByteArray) (a : Int) (w : World) (hs : s.size ≤ 1048576) :
    Calls Tryz.prog 177 [.agg [.string s, .int .i64 a].toArray].toArray w (RetP w fun v w' => ∃ x : Int, v = .tuple [.agg [.string s, .int .i64 (fnS s ⟨a, 0⟩ k3).a].toArray, .int .i64 x, .int .i64 (fnS s ⟨a, 0⟩ k3).code].toArray ∧ ((fnS s ⟨a, 0⟩ k3).code = 0 → x = 8 * (fnV s ⟨a, 0⟩ k3 + 1))) := by
 have L : Exm [] w w := Exm.rfl'
 refine enter (n := 26) Tryz.func177 rfl rfl rfl ?_
 refine wp_seq (c_reg (s_box rfl rfl ?_))
 intro b1 w2 lob1 hib1 l3 B1
 have z_l3 := l3.size; have L := L.tr l3.up
 refine s_alloc zr79 ?_
 intro b4 w5 lob4 hib4 l6 B4
 have z_l6 := l6.size; have L := L.tr l6.up; have B1 := B1.ext l6
 refine s0 (xaI rfl) (s0 (xaI rfl) (c_end (n_then (wp_seq (c_reg (st (x_loadAgB ag79 rfl B1 rfl) ?_))))))
 refine sr (zcall cl221 rfl) (s_ue _ _ _ (by omega)) ?_
 intro w7 l8
 have z_l8 := l8.size; have L := L.tr l8.up; have B1 := B1.ext l8; have B4 := B4.ext l8
 refine s0 (x_move (v := .tuple _) rfl) (s0 (x_extract rfl rfl) (s0 (x_extract rfl rfl) (s0 (x_extract rfl rfl) (s_alloc zr79 ?_))))
 intro b9 w10 lob9 hib9 l11 B9
 have z_l11 := l11.size; have L := L.tr l11.up; have B1 := B1.ext l11; have B4 := B4.ext l11
 refine s_storeAg rfl sz79 rfl rfl B9 rfl rfl rfl ?_
 intro w12 l13 el13 B9
 have z_l13 := l13.size; have L := L.fresh l13 (by omega); have B1 := B1.ne l13 (by omega); have B4 := B4.ne l13 (by omega)
 refine s0 (xaI rfl) (s0 (xaI rfl) (c_end (n_then (wp_seq (wp_seq (c_reg (s0 (xmI rfl) ?_)))))))
 refine sb (x_eql rfl rfl) (fun h15 => ?_) (fun h15 => ?_)
 ·refine s0 (x_move (v := .bool _) rfl) (gt rfl rfl rfl rfl (s0 (xmI rfl) (gt rfl rfl rfl rfl ?_)))
  refine sb (x_gtr rfl rfl) (fun h18 => ?_) (fun h18 => ?_)
  ·refine s0 (x_pickt (v := .bool _) rfl rfl) (c_end (n_then (c_true rfl (wp_seq (c_reg (st (x_loadAgB ag79 rfl B1 rfl) (s_storeAg rfl sz79 rfl rfl B4 rfl rfl rfl ?_)))))))
   intro w14 l15 el15 B4
   have z_l15 := l15.size; have L := L.fresh l15 (by omega); have B1 := B1.ne l15 (by omega); have B9 := B9.ne l15 (by omega)
   refine s0 (xaI rfl) (s0 (xaI rfl) (c_end (n_then ?_)))
   refine wp_ret (r_then ?_)
   refine f_rets3 rfl (ro_cell rfl ag79 B4 rfl) (ro_tmp rfl) (ro_tmp rfl) ?_
   have e := fn_bad (f := ⟨a, 0⟩) (chk := k3) rfl h15 (by unfold k3 unl; rw [if_neg (by show ¬ ueV s a ≤ 3; omega)]; decide)
   have e2 : k3 (ueV s a) = 3 := by unfold k3 unl; rw [if_neg (by omega)]
   rw [e.1, e2]
   exact ⟨_, rfl, L, _, rfl, fun h => absurd (show (3 : Int) = 0 from h) (by decide)⟩
  ·refine s0 (x_pickt (v := .bool _) rfl rfl) (c_end (n_then (c_false rfl (c_skipn (n_then (wp_seq ?_))))))
   have huv : 0 ≤ ueV s a ∧ ueV s a ≤ 2147483647 := if h : ueE s a = 0 then ueV_range h else by rw [ueV_no h]; omega
   refine c_reg (st (x_loadAgB ag79 rfl B9 rfl) (s0 (xmI rfl) (s0 (x_mul rfl rfl (by omega)) (s0 (x_add rfl rfl (by omega)) (s0 (xmI rfl) (s_storeAg rfl sz79 rfl rfl B4 rfl rfl rfl ?_))))))
   intro w16 l17 el17 B4
   have z_l17 := l17.size; have L := L.fresh l17 (by omega); have B1 := B1.ne l17 (by omega); have B9 := B9.ne l17 (by omega)
   refine s0 (xaI rfl) (s0 (xaI rfl) (c_end (n_then (wp_ret (f_rets3 rfl (ro_cell rfl ag79 B4 rfl) (ro_tmp rfl) (ro_tmp rfl) ?_)))))
   have e := fn_ok (f := ⟨a, 0⟩) (chk := k3) rfl h15 (by unfold k3 unl; rw [if_pos (by show ueV s a ≤ 3; omega)])
   rw [e.1, e.2, h15]
   exact ⟨_, rfl, L, _, rfl, fun _ => by show _ = 8 * (ueV s a + 1); omega⟩
 ·refine s0 (x_move (v := .bool _) rfl) (gf rfl rfl rfl rfl (gf rfl rfl rfl rfl (s0 (x_pickf (v := .bool _) rfl rfl) (c_end (n_then (c_false rfl (c_skipn (n_then (wp_seq ?_)))))))))
  have huv : 0 ≤ ueV s a ∧ ueV s a ≤ 2147483647 := if h : ueE s a = 0 then ueV_range h else by rw [ueV_no h]; omega
  refine c_reg (st (x_loadAgB ag79 rfl B9 rfl) (s0 (xmI rfl) (s0 (x_mul rfl rfl (by omega)) (s0 (x_add rfl rfl (by omega)) (s0 (xmI rfl) (s_storeAg rfl sz79 rfl rfl B4 rfl rfl rfl ?_))))))
  intro w18 l19 el19 B4
  have z_l19 := l19.size; have L := L.fresh l19 (by omega); have B1 := B1.ne l19 (by omega); have B9 := B9.ne l19 (by omega)
  refine s0 (xaI rfl) (s0 (xaI rfl) (c_end (n_then (wp_ret (f_rets3 rfl (ro_cell rfl ag79 B4 rfl) (ro_tmp rfl) (ro_tmp rfl) ?_)))))
  have e := fn_short (f := ⟨a, 0⟩) (chk := k3) rfl h15
  rw [e.1, ueAt_no h15]
  exact ⟨_, rfl, L, _, rfl, fun h => absurd h h15⟩

theorem s_l22Lens (s : ByteArray) (a : Int) (w : World) (hs : s.size ≤ 1048576) :
    Calls Tryz.prog 178 [.agg [.string s, .int .i64 a].toArray].toArray w (RetP w fun v w' => ∃ p c F xs, v = .tuple [.agg [.string s, .int .i64 (fbS s ⟨a, 0⟩ 18 kLens).a].toArray, .slice p xs.length c, .int .i64 (fbS s ⟨a, 0⟩ 18 kLens).code].toArray ∧ Own w' p xs.length c 3 1 (ic xs) F ∧ Fr w.heap.size F ∧ ((fbS s ⟨a, 0⟩ 18 kLens).code = 0 → xs = lens6 (fbV s ⟨a, 0⟩ 18 kLens) 6)) := by
 have L : Exm [] w w := Exm.rfl'
 refine enter (n := 40) Tryz.func178 rfl rfl rfl ?_
 refine wp_seq (c_reg (s_box rfl rfl ?_))
 intro b1 w2 lob1 hib1 l3 B1
 have z_l3 := l3.size; have L := L.tr l3.up
 refine s_alloc zr79 ?_
 intro b4 w5 lob4 hib4 l6 B4
 have z_l6 := l6.size; have L := L.tr l6.up; have B1 := B1.ext l6
 refine s0 (xaS rfl) (s0 (xaI rfl) (c_end (n_then (wp_seq (c_reg (s_bs0 so24 ?_))))))
 intro p10 F10 w7 l8 o10 f10 g10
 have o10 : Own w7 p10 0 0 3 1 (ic []) F10 := o10; have z_l8 := l8.size; have L := L.tr l8.up; have B1 := B1.ext l8; have B4 := B4.ext l8
 refine s0 (xaS rfl) (c_end (n_then (wp_seq (c_reg (st (x_loadAgB ag79 rfl B1 rfl) ?_)))))
 refine sr (zcall cl176 rfl) (s_readBits _ _ _ _ (by omega)) ?_
 intro w9 l10
 have z_l10 := l10.size; have L := L.tr l10.up; have B1 := B1.ext l10; have B4 := B4.ext l10; have o10 := o10.ext l10
 refine s0 (x_move (v := .tuple _) rfl) (s0 (x_extract rfl rfl) (s0 (x_extract rfl rfl) ?_))
 refine sb (x_extract rfl rfl) (fun h16 => ?_) (fun h16 => ?_)
 ·refine s_alloc zr79 ?_
  intro b11 w12 lob11 hib11 l13 B11
  have z_l13 := l13.size; have L := L.tr l13.up; have B1 := B1.ext l13; have B4 := B4.ext l13; have o10 := o10.ext l13
  refine s_storeAg rfl sz79 rfl rfl B11 rfl rfl rfl ?_
  intro w14 l15 el15 B11
  have z_l15 := l15.size; have L := L.fresh l15 (by omega); have B1 := B1.ne l15 (by omega); have B4 := B4.ne l15 (by omega); have o10 := o10.ne l15 (by first|assumption|exact nin_of f10 g10 (by omega))
  refine s0 (xaI rfl) (s0 (x_assign (v := .bool _) rfl) (c_end (n_then (wp_seq (wp_seq (c_reg (s0 (x_move (v := .bool _) rfl) (s0 (x_not rfl) (c_end (n_then (c_false rfl (c_skipn (n_then ?_)))))))))))))
  refine wp_seq (wp_seq ?_)
  obtain ⟨x, hxe⟩ : ∃ x, x = rbV s a 18 := ⟨_, rfl⟩
  have hx : 0 ≤ x ∧ x < 4294967296 := by rw [hxe]; exact rbV_range s a 18
  refine c_reg (s0 (xaI rfl) (c_end (n_then (wp_block ?_))))
  refine c_loop (γ := Nat) (fun k => 6 - k) (fun (k : Nat) E wl => ∃ E0 pz5 cz5 Fz5, E = upd (upd (upd (upd (upd (upd E0 1 (pt b1 0)) 2 (pt b4 0)) 5 (.slice pz5 ((lens6 x k).length) cz5)) 6 (pt b11 0)) 7 (.int .i64 x)) 9 (.int .i64 (5 - (k : Int))) ∧ (Exm [] w wl) ∧ (w14.heap.size ≤ wl.heap.size) ∧ (Bx wl b1 [.string s, .int .i64 a] 79) ∧ (Bx wl b4 [.string .empty, .int .i64 0] 79) ∧ (Bx wl b11 [.string s, .int .i64 (rbAt s a 18)] 79) ∧ (Own wl pz5 ((lens6 x k).length) cz5 3 1 (ic (lens6 x k)) Fz5) ∧ (Fr (w5.heap.size) Fz5) ∧ (Lt Fz5 wl.heap.size) ∧ (b1 ∉ Fz5) ∧ (b4 ∉ Fz5) ∧ (b11 ∉ Fz5) ∧ ((k : Int) ≤ 6)) 0 ⟨_, _, _, _, upd_self6 rfl rfl (slice_len rfl) rfl (vint hxe.symm) (vint (by omega)), L, (by omega), B1, B4, B11, o10, (f10.mono (by omega)), (g10.mono (by omega)), (by first|assumption|exact nin_of f10 g10 (by omega)), (by first|assumption|exact nin_of f10 g10 (by omega)), (by first|assumption|exact nin_of f10 g10 (by omega)), (by omega)⟩ ?_
  rintro k E wl16 ⟨E0, pz5, cz5, Fz5, rfl, L, Lz, B1, B4, B11, oz5, fz5, gz5, ab1_z5, ab4_z5, ab11_z5, hk⟩
  have Lz0 := L.size; have hl6 := lens6_length x k; have hsh := Int.ediv_nonneg (a := x) (b := 2 ^ (3 * (5 - (k : Int))).toNat) hx.1 (Int.le_of_lt (two_pow_pos _)); have hsd := Int.ediv_le_self (2 ^ (3 * (5 - (k : Int))).toNat) hx.1
  refine wp_seq (wp_seq (c_reg (s0 (xmI rfl) ?_)))
  refine sb (x_geq rfl rfl) (fun h22 => ?_) (fun h22 => ?_)
  ·refine c_end (n_then (c_true rfl (c_skipn (n_then (wp_seq (wp_block (c_reg (s0 (xmS rfl) (s0 (xmI rfl) (s0 (xmI rfl) (s0 (x_mul rfl rfl (by omega)) ?_)))))))))))
   refine s0 (x_shr rfl rfl (by simp only [IntKind.bits]; omega)) ?_
   refine s0 (x_andm 3 rfl rfl (by omega) (by decide) (by omega) (by omega)) ?_
   refine s_bsi (xs := [_]) so24 zr3 (pts_cons rfl pts_nil) rfl rfl rfl ?_
   intro p31 F31 w17 l18 o31 f31 g31
   have z_l18 := l18.size; have L := L.tr l18.up; have B1 := B1.ext l18; have B4 := B4.ext l18; have B11 := B11.ext l18; have oz5 := oz5.ext l18; have hn31 := o31.n1
   refine s_appi (B := w5.heap.size) so24 zr3 rfl rfl (xs := _) oz5 o31.sl fz5 (by omega) (by omega) (by omega) ?_
   intro p32 c32 F32 w19 l20 o32 hn32 k32 f32 g32
   have ab1_32 : b1 ∉ F32 := k32.nin (by first|assumption|exact nin_of fz5 gz5 (by omega)) (by omega)
   have B1 := B1.exm l20 (by first|assumption|exact nin_of fz5 gz5 (by omega))
   have ab4_32 : b4 ∉ F32 := k32.nin (by first|assumption|exact nin_of fz5 gz5 (by omega)) (by omega)
   have B4 := B4.exm l20 (by first|assumption|exact nin_of fz5 gz5 (by omega))
   have ab11_32 : b11 ∉ F32 := k32.nin (by first|assumption|exact nin_of fz5 gz5 (by omega)) (by omega)
   have B11 := B11.exm l20 (by first|assumption|exact nin_of fz5 gz5 (by omega))
   have z_l20 := l20.size; have L := L.freshL l20 fz5 (by omega); have d31_32 : Dj F31 F32 := k32.dj (by first|assumption|exact Dj.symm (by assumption)|exact dj_of f31 g31 fz5 gz5 (by omega)) g31 (by omega)
   have o31 := o31.exm l20 (by first|assumption|exact Dj.symm (by assumption)|exact dj_of fz5 gz5 f31 g31 (by omega))
   refine s0 (xaS rfl) (c_end (n_block (n_then (c_reg (s0 (xmI rfl) (s0 (x_sub rfl rfl (by omega)) (s0 (xaI rfl) (c_end ?_))))))))
   exact c_round (g' := k + 1) (by omega) ⟨_, _, _, _, upd_self6 rfl rfl (slice_len (by rw [lens6_succ]; simp only [List.length_append, List.length_cons, List.length_nil])) rfl rfl (vint (by omega)), L, (by omega), B1, B4, B11, (by rw [lens6_succ]; rw [show (3 * (5 - (k : Int))).toNat = 3 * (5 - k) by omega] at o32; exact o32), (f32.mono (by omega)), (g32.mono (by omega)), (by first|assumption|exact nin_of f32 g32 (by omega)), (by first|assumption|exact nin_of f32 g32 (by omega)), (by first|assumption|exact nin_of f32 g32 (by omega)), (by omega)⟩
  ·refine c_end (n_then (c_false rfl ?_))
   refine wp_exit (e_then (e_then (e_here ?_)))
   refine n_then (wp_seq (wp_seq ?_))
   have hl66 := lens6_length x k
   refine c_reg (s0 (xmS rfl) ?_)
   refine srb (zcall cl67 rfl) (s_codeOk _ _ _ _ oz5.sl (by omega)) (fun h34 w21 l22 => ?_) (fun h34 w21 l22 => ?_)
   ·have z_l22 := l22.size
    have L := L.tr l22.up; have B1 := B1.ext l22; have B4 := B4.ext l22; have B11 := B11.ext l22; have oz5 := oz5.ext l22
    refine s0 (x_not rfl) (c_end (n_then (c_false rfl (c_skipn (n_then (wp_seq (c_reg (st (x_loadAgB ag79 rfl B11 rfl) (s0 (xmS rfl) (s_storeAg rfl sz79 rfl rfl B4 rfl rfl rfl ?_))))))))))
    intro w23 l24 el24 B4
    have z_l24 := l24.size; have L := L.fresh l24 (by omega); have B1 := B1.ne l24 (by omega); have B11 := B11.ne l24 (by omega); have oz5 := oz5.ne l24 (by first|assumption|exact nin_of fz5 gz5 (by omega))
    refine s0 (xaS rfl) (s0 (xaI rfl) (c_end (n_then (wp_ret (f_rets3 rfl (ro_cell rfl ag79 B4 rfl) (ro_tmp rfl) (ro_tmp rfl) ?_)))))
    obtain rfl : k = 6 := by omega
    have e3 : kLens (rbV s a 18) = 0 := by unfold kLens unl; rw [← hxe, if_pos h34]
    have e := fb_ok (f := ⟨a, 0⟩) (n := 18) (chk := kLens) rfl h16 e3
    rw [e.1, e.2, rbAt_ok h16]
    exact ⟨_, rfl, L, _, _, _, _, rfl, oz5, fz5.mono (by omega), fun _ => by show lens6 x 6 = lens6 (rbV s a 18) 6; rw [hxe]⟩
   ·have z_l22 := l22.size
    have L := L.tr l22.up; have B1 := B1.ext l22; have B4 := B4.ext l22; have B11 := B11.ext l22; have oz5 := oz5.ext l22
    refine s0 (x_not rfl) (c_end (n_then (c_true rfl (wp_seq (c_reg (st (x_loadAgB ag79 rfl B1 rfl) (s0 (xmS rfl) (s_storeAg rfl sz79 rfl rfl B4 rfl rfl rfl ?_))))))))
    intro w25 l26 el26 B4
    have z_l26 := l26.size; have L := L.fresh l26 (by omega); have B1 := B1.ne l26 (by omega); have B11 := B11.ne l26 (by omega); have oz5 := oz5.ne l26 (by first|assumption|exact nin_of fz5 gz5 (by omega))
    refine s0 (xaS rfl) (s0 (xaI rfl) (c_end (n_then ?_)))
    refine wp_ret (r_then ?_)
    refine f_rets3 rfl (ro_cell rfl ag79 B4 rfl) (ro_tmp rfl) (ro_tmp rfl) ?_
    obtain rfl : k = 6 := by omega
    have e3 : kLens (rbV s a 18) = 4 := by unfold kLens unl; rw [← hxe, if_neg h34]
    have e := fb_bad (f := ⟨a, 0⟩) (n := 18) (chk := kLens) rfl h16 (by show kLens (rbV s a 18) ≠ 0; rw [e3]; decide)
    rw [e.1, e3]
    exact ⟨_, rfl, L, _, _, _, _, rfl, oz5, fz5.mono (by omega), fun h => absurd (show (4 : Int) = 0 from h) (by decide)⟩
 ·refine s_alloc zr79 ?_
  intro b27 w28 lob27 hib27 l29 B27
  have z_l29 := l29.size; have L := L.tr l29.up; have B1 := B1.ext l29; have B4 := B4.ext l29; have o10 := o10.ext l29
  refine s_storeAg rfl sz79 rfl rfl B27 rfl rfl rfl ?_
  intro w30 l31 el31 B27
  have z_l31 := l31.size; have L := L.fresh l31 (by omega); have B1 := B1.ne l31 (by omega); have B4 := B4.ne l31 (by omega); have o10 := o10.ne l31 (by first|assumption|exact nin_of f10 g10 (by omega))
  refine s0 (xaI rfl) (s0 (x_assign (v := .bool _) rfl) (c_end (n_then (wp_seq (wp_seq (c_reg (s0 (x_move (v := .bool _) rfl) (s0 (x_not rfl) (c_end (n_then (c_true rfl (wp_seq (c_reg ?_)))))))))))))
  refine st (x_loadAgB ag79 rfl B1 rfl) (s0 (xmS rfl) (s_storeAg rfl sz79 rfl rfl B4 rfl rfl rfl ?_))
  intro w32 l33 el33 B4
  have z_l33 := l33.size; have L := L.fresh l33 (by omega); have B1 := B1.ne l33 (by omega); have B27 := B27.ne l33 (by omega); have o10 := o10.ne l33 (by first|assumption|exact nin_of f10 g10 (by omega))
  refine s0 (xaS rfl) (s0 (xaI rfl) (c_end (n_then ?_)))
  refine wp_ret (r_then ?_)
  refine f_rets3 rfl (ro_cell rfl ag79 B4 rfl) (ro_tmp rfl) (ro_tmp rfl) ?_
  have e := fb_short (f := ⟨a, 0⟩) (n := 18) (chk := kLens) rfl h16
  rw [e.1]
  exact ⟨_, rfl, L, _, _, _, [], rfl, o10, f10.mono (by omega), fun h => absurd (show (1 : Int) = 0 from h) (by decide)⟩

theorem s_readHeader (s : ByteArray) (a : Int) (w : World) (hs : s.size ≤ 1048576) :
    Calls Tryz.prog 123 [.agg [.string s, .int .i64 a].toArray].toArray w (RetP w fun v w' => ∃ p c F, v = .tuple [.agg [.string s, .int .i64 (rh6 s a).a].toArray, .agg [.int .i64 (hdW s a), .int .i64 (hdH s a), .int .i64 (hdQ s a), .bool (hdB s a), .bool (hdD s a), .slice p (hdL s a).length c].toArray, .int .i64 (rh6 s a).code].toArray ∧ Own w' p (hdL s a).length c 3 1 (ic (hdL s a)) F ∧ Fr w.heap.size F) := by
 have L : Exm [] w w := Exm.rfl'
 refine enter (n := 99) Tryz.func123 rfl rfl rfl ?_
 refine wp_seq (c_reg (s_box rfl rfl ?_))
 intro b1 w2 lob1 hib1 l3 B1
 have z_l3 := l3.size; have L := L.tr l3.up
 refine s_alloc zr79 ?_
 intro b4 w5 lob4 hib4 l6 B4
 have z_l6 := l6.size; have L := L.tr l6.up; have B1 := B1.ext l6
 refine s_alloc zr26 ?_
 intro b7 w8 lob7 hib7 l9 B7
 have z_l9 := l9.size; have L := L.tr l9.up; have B1 := B1.ext l9; have B4 := B4.ext l9
 refine s0 (xaI rfl) (c_end (n_then (wp_seq (c_reg (st (x_loadAgB ag79 rfl B1 rfl) ?_)))))
 refine sr (zcall cl176 rfl) (s_readBits _ _ _ _ (by omega)) ?_
 intro w10 l11
 have z_l11 := l11.size; have L := L.tr l11.up; have B1 := B1.ext l11; have B4 := B4.ext l11; have B7 := B7.ext l11
 refine s0 (x_move (v := .tuple _) rfl) (s0 (x_extract rfl rfl) (s0 (x_extract rfl rfl) ?_))
 refine sb (x_extract rfl rfl) (fun h18 => ?_) (fun h18 => ?_)
 ·refine s_alloc zr79 ?_
  intro b12 w13 lob12 hib12 l14 B12
  have z_l14 := l14.size; have L := L.tr l14.up; have B1 := B1.ext l14; have B4 := B4.ext l14; have B7 := B7.ext l14
  refine s_storeAg rfl sz79 rfl rfl B12 rfl rfl rfl ?_
  intro w15 l16 el16 B12
  have z_l16 := l16.size; have L := L.fresh l16 (by omega); have B1 := B1.ne l16 (by omega); have B4 := B4.ne l16 (by omega); have B7 := B7.ne l16 (by omega)
  refine s0 (xaI rfl) (s0 (x_assign (v := .bool _) rfl) (c_end (n_then (wp_seq (wp_seq (c_reg (s0 (x_move (v := .bool _) rfl) (s0 (x_not rfl) (c_end (n_then (c_false rfl (c_skipn (n_then ?_)))))))))))))
  refine wp_seq (wp_seq (c_reg (s0 (xmI rfl) ?_)))
  refine sb (x_neq rfl rfl) (fun h24 => ?_) (fun h24 => ?_)
  ·refine c_end (n_then (c_true rfl (wp_seq (c_reg (st (x_loadAgB ag79 rfl B1 rfl) ?_)))))
   refine s0 (x_build (cs := [.int .i64 0, .int .i64 0, .int .i64 0, .bool false, .bool false, .slice none 0 0]) bd26 pts_nil rfl) ?_
   refine s_storeAg rfl sz79 rfl rfl B4 rfl rfl rfl ?_
   intro w17 l18 el18 B4
   have z_l18 := l18.size; have L := L.fresh l18 (by omega); have B1 := B1.ne l18 (by omega); have B7 := B7.ne l18 (by omega); have B12 := B12.ne l18 (by omega)
   refine s_storeAg rfl sz26 rfl rfl B7 rfl rfl rfl ?_
   intro w19 l20 el20 B7
   have z_l20 := l20.size; have L := L.fresh l20 (by omega); have B1 := B1.ne l20 (by omega); have B4 := B4.ne l20 (by omega); have B12 := B12.ne l20 (by omega)
   refine s0 (xaI rfl) (c_end (n_then ?_))
   refine wp_ret (r_then ?_)
   refine f_rets3 rfl (ro_cell rfl ag79 B4 rfl) (ro_cell rfl ag26 B7 rfl) (ro_tmp rfl) ?_
   have k1 : k183 (rbV s a 8) = 2 := if_neg h24
   have hs0 : rh1 s a = ⟨a, 2⟩ := (fb_bad (f := ⟨a, 0⟩) rfl h18 (by show k183 (rbV s a 8) ≠ 0; rw [k1]; decide)).1.trans (by rw [show k183 (rbV s (Fs.mk a 0).a 8) = 2 from k1])
   have hne0 : (rh1 s a).code ≠ 0 := by rw [hs0]; show (2 : Int) ≠ 0; decide
   have hx : rh6 s a = _ := (rh_x1 hne0).trans hs0
   have hne : (rh6 s a).code ≠ 0 := by rw [rh_x1 hne0]; exact hne0
   obtain ⟨e1, e2, e3, e4, e5, e6p⟩ := hd_no hne
   rw [e1, e2, e3, e4, e5, e6p, hx]
   exact ⟨_, rfl, L, none, 0, [], rfl, Own.nil, Fr.no⟩
  ·refine c_end (n_then (c_false rfl (c_skipn (n_then (wp_seq ?_)))))
   have k1 : k183 (rbV s a 8) = 0 := if_pos (Classical.not_not.1 h24); have r1 : rh1 s a = ⟨a + 8, 0⟩ := (fb_ok (f := ⟨a, 0⟩) rfl h18 k1).1
   have g1 : (⟨rbAt s a 8, 0⟩ : Fs) = rh1 s a := by rw [rbAt_ok h18, r1]
   have f2 : fnS s ⟨rbAt s a 8, 0⟩ k3 = rh2 s a := by rw [g1]; rfl
   refine c_reg ?_
   refine s0 (x_build (cs := [.int .i64 0, .int .i64 0, .int .i64 0, .bool false, .bool false, .slice none 0 0]) bd26 pts_nil rfl) ?_
   refine s_alloc zr26 ?_
   intro b21 w22 lob21 hib21 l23 B21
   have z_l23 := l23.size; have L := L.tr l23.up; have B1 := B1.ext l23; have B4 := B4.ext l23; have B7 := B7.ext l23; have B12 := B12.ext l23
   refine s_storeAg rfl sz26 rfl rfl B21 rfl rfl rfl ?_
   intro w24 l25 el25 B21
   have z_l25 := l25.size; have L := L.fresh l25 (by omega); have B1 := B1.ne l25 (by omega); have B4 := B4.ne l25 (by omega); have B7 := B7.ne l25 (by omega); have B12 := B12.ne l25 (by omega)
   refine c_end (n_then (wp_seq (c_reg (s0 (xaI rfl) (c_end (n_then (wp_seq (c_reg (st (x_loadAgB ag79 rfl B12 rfl) ?_)))))))))
   refine sp (zcall cl177 rfl) (s_l22Side _ _ _ (by omega)) ?_
   rintro v30 w26 l27 ⟨x30, rfl, hx30⟩
   have z_l27 := l27.size; have L := L.tr l27.up; have B1 := B1.ext l27; have B4 := B4.ext l27; have B7 := B7.ext l27; have B12 := B12.ext l27; have B21 := B21.ext l27
   refine s0 (x_move (v := .tuple _) rfl) (s0 (x_extract rfl rfl) (s0 (x_extract rfl rfl) (s0 (x_extract rfl rfl) (s_storeAg rfl sz79 rfl rfl B12 rfl rfl rfl ?_))))
   intro w28 l29 el29 B12
   have z_l29 := l29.size; have L := L.fresh l29 (by omega); have B1 := B1.ne l29 (by omega); have B4 := B4.ne l29 (by omega); have B7 := B7.ne l29 (by omega); have B21 := B21.ne l29 (by omega)
   refine s0 (x_fieldAddr fa26_0 rfl) ?_
   refine s_store (v := .int _ _) (cs' := [_, _, _, _, _, _]) rfl sz3 rfl rfl rfl rfl B21 rfl rfl ?_
   intro w30 l31 el31 B21
   have z_l31 := l31.size; have L := L.fresh l31 (by omega); have B1 := B1.ne l31 (by omega); have B4 := B4.ne l31 (by omega); have B7 := B7.ne l31 (by omega); have B12 := B12.ne l31 (by omega)
   refine s0 (xaI rfl) (c_end (n_then (wp_seq (wp_seq (c_reg (s0 (xmI rfl) ?_))))))
   refine sb (x_neq rfl rfl) (fun h36 => ?_) (fun h36 => ?_)
   ·refine c_end (n_then (c_true rfl (wp_seq ?_)))
    have hne0 : (rh2 s a).code ≠ 0 := by rw [← f2]; exact h36
    refine c_reg (st (x_loadAgB ag79 rfl B12 rfl) ?_)
    refine s0 (x_build (cs := [.int .i64 0, .int .i64 0, .int .i64 0, .bool false, .bool false, .slice none 0 0]) bd26 pts_nil rfl) ?_
    refine s0 (xmI rfl) (s_storeAg rfl sz79 rfl rfl B4 rfl rfl rfl ?_)
    intro w32 l33 el33 B4
    have z_l33 := l33.size; have L := L.fresh l33 (by omega); have B1 := B1.ne l33 (by omega); have B7 := B7.ne l33 (by omega); have B12 := B12.ne l33 (by omega); have B21 := B21.ne l33 (by omega)
    refine s_storeAg rfl sz26 rfl rfl B7 rfl rfl rfl ?_
    intro w34 l35 el35 B7
    have z_l35 := l35.size; have L := L.fresh l35 (by omega); have B1 := B1.ne l35 (by omega); have B4 := B4.ne l35 (by omega); have B12 := B12.ne l35 (by omega); have B21 := B21.ne l35 (by omega)
    refine s0 (xaI rfl) (c_end (n_then ?_))
    refine wp_ret (r_then ?_)
    refine f_rets3 rfl (ro_cell rfl ag79 B4 rfl) (ro_cell rfl ag26 B7 rfl) (ro_tmp rfl) ?_
    have hx : rh6 s a = _ := (rh_x2 hne0).trans f2.symm
    have hne : (rh6 s a).code ≠ 0 := by rw [rh_x2 hne0]; exact hne0
    obtain ⟨e1, e2, e3, e4, e5, e6p⟩ := hd_no hne
    rw [e1, e2, e3, e4, e5, e6p, hx]
    exact ⟨_, rfl, L, none, 0, [], rfl, Own.nil, Fr.no⟩
   ·refine c_end (n_then (c_false rfl (c_skipn (n_then (wp_seq ?_)))))
    have c2 : (rh2 s a).code = 0 := by rw [← f2]; exact Classical.not_not.1 h36
    have g2 : (⟨(fnS s ⟨rbAt s a 8, 0⟩ k3).a, 0⟩ : Fs) = rh2 s a := by rw [f2]; exact fs_eta c2
    have f3 : fnS s ⟨(fnS s ⟨rbAt s a 8, 0⟩ k3).a, 0⟩ k3 = rh3 s a := by rw [g2]; rfl
    refine c_reg (st (x_loadAgB ag79 rfl B12 rfl) ?_)
    refine sp (zcall cl177 rfl) (s_l22Side _ _ _ (by omega)) ?_
    rintro v42 w36 l37 ⟨x42, rfl, hx42⟩
    have z_l37 := l37.size; have L := L.tr l37.up; have B1 := B1.ext l37; have B4 := B4.ext l37; have B7 := B7.ext l37; have B12 := B12.ext l37; have B21 := B21.ext l37
    refine s0 (x_move (v := .tuple _) rfl) (s0 (x_extract rfl rfl) (s0 (x_extract rfl rfl) (s0 (x_extract rfl rfl) (s_storeAg rfl sz79 rfl rfl B12 rfl rfl rfl ?_))))
    intro w38 l39 el39 B12
    have z_l39 := l39.size; have L := L.fresh l39 (by omega); have B1 := B1.ne l39 (by omega); have B4 := B4.ne l39 (by omega); have B7 := B7.ne l39 (by omega); have B21 := B21.ne l39 (by omega)
    refine s0 (x_fieldAddr fa26_1 rfl) ?_
    refine s_store (v := .int _ _) (cs' := [_, _, _, _, _, _]) rfl sz3 rfl rfl rfl rfl B21 rfl rfl ?_
    intro w40 l41 el41 B21
    have z_l41 := l41.size; have L := L.fresh l41 (by omega); have B1 := B1.ne l41 (by omega); have B4 := B4.ne l41 (by omega); have B7 := B7.ne l41 (by omega); have B12 := B12.ne l41 (by omega)
    refine s0 (xaI rfl) (c_end (n_then (wp_seq (wp_seq (c_reg (s0 (xmI rfl) ?_))))))
    refine sb (x_neq rfl rfl) (fun h48 => ?_) (fun h48 => ?_)
    ·refine c_end (n_then (c_true rfl (wp_seq ?_)))
     have hne0 : (rh3 s a).code ≠ 0 := by rw [← f3]; exact h48
     refine c_reg (st (x_loadAgB ag79 rfl B12 rfl) ?_)
     refine s0 (x_build (cs := [.int .i64 0, .int .i64 0, .int .i64 0, .bool false, .bool false, .slice none 0 0]) bd26 pts_nil rfl) ?_
     refine s0 (xmI rfl) (s_storeAg rfl sz79 rfl rfl B4 rfl rfl rfl ?_)
     intro w42 l43 el43 B4
     have z_l43 := l43.size; have L := L.fresh l43 (by omega); have B1 := B1.ne l43 (by omega); have B7 := B7.ne l43 (by omega); have B12 := B12.ne l43 (by omega); have B21 := B21.ne l43 (by omega)
     refine s_storeAg rfl sz26 rfl rfl B7 rfl rfl rfl ?_
     intro w44 l45 el45 B7
     have z_l45 := l45.size; have L := L.fresh l45 (by omega); have B1 := B1.ne l45 (by omega); have B4 := B4.ne l45 (by omega); have B12 := B12.ne l45 (by omega); have B21 := B21.ne l45 (by omega)
     refine s0 (xaI rfl) (c_end (n_then ?_))
     refine wp_ret (r_then ?_)
     refine f_rets3 rfl (ro_cell rfl ag79 B4 rfl) (ro_cell rfl ag26 B7 rfl) (ro_tmp rfl) ?_
     have hx : rh6 s a = _ := (rh_x3 hne0).trans f3.symm
     have hne : (rh6 s a).code ≠ 0 := by rw [rh_x3 hne0]; exact hne0
     obtain ⟨e1, e2, e3, e4, e5, e6p⟩ := hd_no hne
     rw [e1, e2, e3, e4, e5, e6p, hx]
     exact ⟨_, rfl, L, none, 0, [], rfl, Own.nil, Fr.no⟩
    ·refine c_end (n_then (c_false rfl (c_skipn (n_then (wp_seq ?_)))))
     have c3 : (rh3 s a).code = 0 := by rw [← f3]; exact Classical.not_not.1 h48
     have ga3 : (fnS s ⟨(fnS s ⟨rbAt s a 8, 0⟩ k3).a, 0⟩ k3).a = (rh3 s a).a := by rw [f3]
     refine c_reg (st (x_loadAgB ag79 rfl B12 rfl) ?_)
     refine sr (zcall cl176 rfl) (s_readBits _ _ _ _ (by omega)) ?_
     intro w46 l47
     have z_l47 := l47.size; have L := L.tr l47.up; have B1 := B1.ext l47; have B4 := B4.ext l47; have B7 := B7.ext l47; have B12 := B12.ext l47; have B21 := B21.ext l47
     refine s0 (x_move (v := .tuple _) rfl) (s0 (x_extract rfl rfl) (s0 (x_extract rfl rfl) ?_))
     refine sb (x_extract rfl rfl) (fun h57 => ?_) (fun h57 => ?_)
     ·refine s_alloc zr79 ?_
      intro b48 w49 lob48 hib48 l50 B48
      have z_l50 := l50.size; have L := L.tr l50.up; have B1 := B1.ext l50; have B4 := B4.ext l50; have B7 := B7.ext l50; have B12 := B12.ext l50; have B21 := B21.ext l50
      refine s_storeAg rfl sz79 rfl rfl B48 rfl rfl rfl ?_
      intro w51 l52 el52 B48
      have z_l52 := l52.size; have L := L.fresh l52 (by omega); have B1 := B1.ne l52 (by omega); have B4 := B4.ne l52 (by omega); have B7 := B7.ne l52 (by omega); have B12 := B12.ne l52 (by omega); have B21 := B21.ne l52 (by omega)
      refine s0 (xaI rfl) (s0 (x_assign (v := .bool _) rfl) (c_end (n_then (wp_seq (wp_seq (c_reg (s0 (x_move (v := .bool _) rfl) (s0 (x_not rfl) (c_end (n_then (c_false rfl (c_skipn (n_then ?_)))))))))))))
      refine wp_seq (wp_seq ?_)
      have hv6 := rbV_range s ((fnS s ⟨(fnS s ⟨rbAt s a 8, 0⟩ k3).a, 0⟩ k3).a) 6
      refine c_reg (s0 (xmI rfl) ?_)
      refine sb (x_gtr rfl rfl) (fun h63 => ?_) (fun h63 => ?_)
      ·refine c_end (n_then (c_true rfl (wp_seq (c_reg (st (x_loadAgB ag79 rfl B12 rfl) ?_)))))
       refine s0 (x_build (cs := [.int .i64 0, .int .i64 0, .int .i64 0, .bool false, .bool false, .slice none 0 0]) bd26 pts_nil rfl) ?_
       refine s_storeAg rfl sz79 rfl rfl B4 rfl rfl rfl ?_
       intro w53 l54 el54 B4
       have z_l54 := l54.size; have L := L.fresh l54 (by omega); have B1 := B1.ne l54 (by omega); have B7 := B7.ne l54 (by omega); have B12 := B12.ne l54 (by omega); have B21 := B21.ne l54 (by omega); have B48 := B48.ne l54 (by omega)
       refine s_storeAg rfl sz26 rfl rfl B7 rfl rfl rfl ?_
       intro w55 l56 el56 B7
       have z_l56 := l56.size; have L := L.fresh l56 (by omega); have B1 := B1.ne l56 (by omega); have B4 := B4.ne l56 (by omega); have B12 := B12.ne l56 (by omega); have B21 := B21.ne l56 (by omega); have B48 := B48.ne l56 (by omega)
       refine s0 (xaI rfl) (c_end (n_then ?_))
       refine wp_ret (r_then ?_)
       refine f_rets3 rfl (ro_cell rfl ag79 B4 rfl) (ro_cell rfl ag26 B7 rfl) (ro_tmp rfl) ?_
       have k4 : k51 (rbV s (rh3 s a).a 6) = 3 := by rw [← ga3]; exact if_neg (by omega)
       have hs0 : rh4 s a = ⟨(fnS s ⟨(fnS s ⟨rbAt s a 8, 0⟩ k3).a, 0⟩ k3).a, 3⟩ := (fb_bad c3 (by rw [← ga3]; exact h57) (by rw [k4]; decide)).1.trans (by rw [k4, ga3])
       have hne0 : (rh4 s a).code ≠ 0 := by rw [hs0]; show (3 : Int) ≠ 0; decide
       have hx : rh6 s a = _ := (rh_x4 hne0).trans hs0
       have hne : (rh6 s a).code ≠ 0 := by rw [rh_x4 hne0]; exact hne0
       obtain ⟨e1, e2, e3, e4, e5, e6p⟩ := hd_no hne
       rw [e1, e2, e3, e4, e5, e6p, hx]
       exact ⟨_, rfl, L, none, 0, [], rfl, Own.nil, Fr.no⟩
      ·refine c_end (n_then (c_false rfl (c_skipn (n_then (wp_seq ?_)))))
       have ok4 : rbOk s (rh3 s a).a 6 := by rw [← ga3]; exact h57
       have k4 : k51 (rbV s (rh3 s a).a 6) = 0 := by rw [← ga3]; exact if_pos (by omega)
       have r4 := fb_ok c3 ok4 k4
       have ga4 : rbAt s (fnS s ⟨(fnS s ⟨rbAt s a 8, 0⟩ k3).a, 0⟩ k3).a 6 = (rh4 s a).a := by rw [rbAt_ok h57, ga3]; exact (congrArg Fs.a r4.1).symm
       have c4 : (rh4 s a).code = 0 := congrArg Fs.code r4.1
       refine c_reg (s0 (xmI rfl) (s0 (x_fieldAddr fa26_2 rfl) ?_))
       refine s_store (v := .int _ _) (cs' := [_, _, _, _, _, _]) rfl sz3 rfl rfl rfl rfl B21 rfl rfl ?_
       intro w57 l58 el58 B21
       have z_l58 := l58.size; have L := L.fresh l58 (by omega); have B1 := B1.ne l58 (by omega); have B4 := B4.ne l58 (by omega); have B7 := B7.ne l58 (by omega); have B12 := B12.ne l58 (by omega); have B48 := B48.ne l58 (by omega)
       refine c_end (n_then (wp_seq (c_reg (st (x_loadAgB ag79 rfl B48 rfl) ?_))))
       refine sr (zcall cl176 rfl) (s_readBits _ _ _ _ (by omega)) ?_
       intro w59 l60
       have z_l60 := l60.size; have L := L.tr l60.up; have B1 := B1.ext l60; have B4 := B4.ext l60; have B7 := B7.ext l60; have B12 := B12.ext l60; have B21 := B21.ext l60; have B48 := B48.ext l60
       refine s0 (x_move (v := .tuple _) rfl) (s0 (x_extract rfl rfl) (s0 (x_extract rfl rfl) ?_))
       refine sb (x_extract rfl rfl) (fun h73 => ?_) (fun h73 => ?_)
       ·refine s_alloc zr79 ?_
        intro b61 w62 lob61 hib61 l63 B61
        have z_l63 := l63.size; have L := L.tr l63.up; have B1 := B1.ext l63; have B4 := B4.ext l63; have B7 := B7.ext l63; have B12 := B12.ext l63; have B21 := B21.ext l63; have B48 := B48.ext l63
        refine s_storeAg rfl sz79 rfl rfl B61 rfl rfl rfl ?_
        intro w64 l65 el65 B61
        have z_l65 := l65.size; have L := L.fresh l65 (by omega); have B1 := B1.ne l65 (by omega); have B4 := B4.ne l65 (by omega); have B7 := B7.ne l65 (by omega); have B12 := B12.ne l65 (by omega); have B21 := B21.ne l65 (by omega); have B48 := B48.ne l65 (by omega)
        refine s0 (xaI rfl) (s0 (x_assign (v := .bool _) rfl) (c_end (n_then (wp_seq (wp_seq ?_)))))
        have hv2 := rbV_range s (rbAt s (fnS s ⟨(fnS s ⟨rbAt s a 8, 0⟩ k3).a, 0⟩ k3).a 6) 2
        refine c_reg (s0 (x_move (v := .bool _) rfl) (s0 (x_not rfl) (c_end (n_then (c_false rfl (c_skipn (n_then (wp_seq ?_))))))))
        have ok5 : rbOk s (rh4 s a).a 2 := by rw [← ga4]; exact h73
        have r5 := fb_ok c4 ok5 (show k0 (rbV s (rh4 s a).a 2) = 0 from rfl)
        have ga5 : rbAt s (rbAt s (fnS s ⟨(fnS s ⟨rbAt s a 8, 0⟩ k3).a, 0⟩ k3).a 6) 2 = (rh5 s a).a := by rw [rbAt_ok h73, ga4]; exact (congrArg Fs.a r5.1).symm
        have c5 : (rh5 s a).code = 0 := congrArg Fs.code r5.1
        have g5 : (⟨rbAt s (rbAt s (fnS s ⟨(fnS s ⟨rbAt s a 8, 0⟩ k3).a, 0⟩ k3).a 6) 2, 0⟩ : Fs) = rh5 s a := by rw [ga5]; exact fs_eta c5
        have f6 : fbS s ⟨rbAt s (rbAt s (fnS s ⟨(fnS s ⟨rbAt s a 8, 0⟩ k3).a, 0⟩ k3).a 6) 2, 0⟩ 18 kLens = rh6 s a := by rw [g5]; rfl
        refine c_reg (s0 (xmI rfl) (s0 (x_gtr rfl rfl) (s0 (x_fieldAddr fa26_3 rfl) ?_)))
        refine s_store (v := .bool _) (cs' := [_, _, _, _, _, _]) rfl sz4 rfl rfl rfl rfl B21 rfl rfl ?_
        intro w66 l67 el67 B21
        have z_l67 := l67.size; have L := L.fresh l67 (by omega); have B1 := B1.ne l67 (by omega); have B4 := B4.ne l67 (by omega); have B7 := B7.ne l67 (by omega); have B12 := B12.ne l67 (by omega); have B48 := B48.ne l67 (by omega); have B61 := B61.ne l67 (by omega)
        refine c_end (n_then (wp_seq (c_reg (s0 (xmI rfl) (s0 (x_rem rfl rfl (by omega) (by omega)) (s0 (x_eql rfl rfl) (s0 (x_fieldAddr fa26_4 rfl) ?_)))))))
        refine s_store (v := .bool _) (cs' := [_, _, _, _, _, _]) rfl sz4 rfl rfl rfl rfl B21 rfl rfl ?_
        intro w68 l69 el69 B21
        have z_l69 := l69.size; have L := L.fresh l69 (by omega); have B1 := B1.ne l69 (by omega); have B4 := B4.ne l69 (by omega); have B7 := B7.ne l69 (by omega); have B12 := B12.ne l69 (by omega); have B48 := B48.ne l69 (by omega); have B61 := B61.ne l69 (by omega)
        refine c_end (n_then (wp_seq (c_reg (st (x_loadAgB ag79 rfl B61 rfl) ?_))))
        refine sp (zcall cl178 rfl) (s_l22Lens _ _ _ (by omega)) ?_
        rintro v87 w70 l71 ⟨p87, c87, F87, xs87, rfl, o87, f87, hx87⟩
        have z_l71 := l71.size; have L := L.tr l71.up; have B1 := B1.ext l71; have B4 := B4.ext l71; have B7 := B7.ext l71; have B12 := B12.ext l71; have B21 := B21.ext l71; have B48 := B48.ext l71; have B61 := B61.ext l71; have g87 := o87.lt
        refine s0 (x_move (v := .tuple _) rfl) (s0 (x_extract rfl rfl) (s0 (x_extract rfl rfl) (s0 (x_extract rfl rfl) (s_storeAg rfl sz79 rfl rfl B61 rfl rfl rfl ?_))))
        intro w72 l73 el73 B61
        have z_l73 := l73.size; have L := L.fresh l73 (by omega); have B1 := B1.ne l73 (by omega); have B4 := B4.ne l73 (by omega); have B7 := B7.ne l73 (by omega); have B12 := B12.ne l73 (by omega); have B21 := B21.ne l73 (by omega); have B48 := B48.ne l73 (by omega); have o87 := o87.ne l73 (by first|assumption|exact nin_of f87 g87 (by omega))
        refine s0 (x_fieldAddr fa26_5 rfl) ?_
        refine s_store (v := .slice _ _ _) (cs' := [_, _, _, _, _, _]) rfl sz24 rfl rfl rfl rfl B21 rfl rfl ?_
        intro w74 l75 el75 B21
        have z_l75 := l75.size; have L := L.fresh l75 (by omega); have B1 := B1.ne l75 (by omega); have B4 := B4.ne l75 (by omega); have B7 := B7.ne l75 (by omega); have B12 := B12.ne l75 (by omega); have B48 := B48.ne l75 (by omega); have B61 := B61.ne l75 (by omega); have o87 := o87.ne l75 (by first|assumption|exact nin_of f87 g87 (by omega))
        refine s0 (xaI rfl) (c_end (n_then (wp_seq (wp_seq (c_reg (s0 (xmI rfl) ?_))))))
        refine sb (x_neq rfl rfl) (fun h93 => ?_) (fun h93 => ?_)
        ·refine c_end (n_then (c_true rfl (wp_seq (c_reg (st (x_loadAgB ag79 rfl B61 rfl) ?_)))))
         refine s0 (x_build (cs := [.int .i64 0, .int .i64 0, .int .i64 0, .bool false, .bool false, .slice none 0 0]) bd26 pts_nil rfl) ?_
         refine s0 (xmI rfl) (s_storeAg rfl sz79 rfl rfl B4 rfl rfl rfl ?_)
         intro w76 l77 el77 B4
         have z_l77 := l77.size; have L := L.fresh l77 (by omega); have B1 := B1.ne l77 (by omega); have B7 := B7.ne l77 (by omega); have B12 := B12.ne l77 (by omega); have B21 := B21.ne l77 (by omega); have B48 := B48.ne l77 (by omega); have B61 := B61.ne l77 (by omega); have o87 := o87.ne l77 (by first|assumption|exact nin_of f87 g87 (by omega))
         refine s_storeAg rfl sz26 rfl rfl B7 rfl rfl rfl ?_
         intro w78 l79 el79 B7
         have z_l79 := l79.size; have L := L.fresh l79 (by omega); have B1 := B1.ne l79 (by omega); have B4 := B4.ne l79 (by omega); have B12 := B12.ne l79 (by omega); have B21 := B21.ne l79 (by omega); have B48 := B48.ne l79 (by omega); have B61 := B61.ne l79 (by omega); have o87 := o87.ne l79 (by first|assumption|exact nin_of f87 g87 (by omega))
         refine s0 (xaI rfl) (c_end (n_then ?_))
         refine wp_ret (r_then ?_)
         refine f_rets3 rfl (ro_cell rfl ag79 B4 rfl) (ro_cell rfl ag26 B7 rfl) (ro_tmp rfl) ?_
         have hne : (rh6 s a).code ≠ 0 := by rw [← f6]; exact h93
         obtain ⟨e1, e2, e3, e4, e5, e6⟩ := hd_no hne
         rw [e1, e2, e3, e4, e5, e6, ← f6]
         exact ⟨_, rfl, L, none, 0, [], rfl, Own.nil, Fr.no⟩
        ·refine c_end (n_then (c_false rfl (c_skipn (n_then (wp_seq ?_)))))
         have c6 : (rh6 s a).code = 0 := by rw [← f6]; exact Classical.not_not.1 h93
         refine c_plan (fun wq => Exm [b4, b7] w74 wq) 5 (.cons (0, 1) (.cons (1, 1) (.cons (2, 0) (.cons (3, 0) (.cons (4, 2) .nil))))) (by kernel_rfl) (by kernel_rfl) (Exm.drew _) ?_
         obtain ⟨w80, hwd⟩ : ∃ x, x = w74.drew := ⟨_, rfl⟩
         have l81 : Ext w74 w80 := by rw [hwd]; exact Exm.drew _
         rw [← hwd]; clear hwd
         have Lq : Exm [b4, b7] w74 w80 := l81.up; have qB21 := B21; have qB61 := B61; have z_l81 := l81.size; have L := L.tr l81.up; have B1 := B1.ext l81; have B4 := B4.ext l81; have B7 := B7.ext l81; have B12 := B12.ext l81; have B21 := B21.ext l81; have B48 := B48.ext l81; have B61 := B61.ext l81; have o87 := o87.ext l81
         refine ps rfl (fun wq hwq => x_loadAgB ag79 rfl (qB61.exm hwq (by simp; omega)) rfl) ?_
         refine ps rfl (fun wq hwq => x_loadAgB ag26 rfl (qB21.exm hwq (by simp; omega)) rfl) ?_
         refine pu rfl (s_storeAg rfl sz79 rfl rfl B4 rfl rfl rfl ?_)
         intro w82 l83 el83 B4
         have z_l83 := l83.size; have L := L.fresh l83 (by omega); have Lq := Lq.within l83 (by simp)
         have B1 := B1.ne l83 (by omega); have B7 := B7.ne l83 (by omega); have B12 := B12.ne l83 (by omega); have B21 := B21.ne l83 (by omega); have B48 := B48.ne l83 (by omega); have B61 := B61.ne l83 (by omega); have o87 := o87.ne l83 (by first|assumption|exact nin_of f87 g87 (by omega))
         refine c_end ⟨rfl, fun h hS => Lq, ?_⟩
         refine pu rfl (s_storeAg rfl sz26 rfl rfl B7 rfl rfl rfl ?_)
         intro w84 l85 el85 B7
         have z_l85 := l85.size; have L := L.fresh l85 (by omega); have Lq := Lq.within l85 (by simp)
         have B1 := B1.ne l85 (by omega); have B4 := B4.ne l85 (by omega); have B12 := B12.ne l85 (by omega); have B21 := B21.ne l85 (by omega); have B48 := B48.ne l85 (by omega); have B61 := B61.ne l85 (by omega); have o87 := o87.ne l85 (by first|assumption|exact nin_of f87 g87 (by omega))
         refine c_end ⟨rfl, fun h hS => Lq, ?_⟩
         refine p0 rfl (xaI rfl) ?_
         refine p_nil (np_normal ?_)
         refine n_then (wp_ret (f_rets3 rfl (ro_cell rfl ag79 B4 rfl) (ro_cell rfl ag26 B7 rfl) (ro_tmp rfl) ?_))
         obtain ⟨e1, e2, e3, e4, e5, e6⟩ := hd_yes c6
         have eW : hdW s a = x30 := by rw [e1, hx30 (Classical.not_not.1 h36), g1]; rfl
         have eH : hdH s a = x42 := by rw [e2, hx42 (Classical.not_not.1 h48), g2]; rfl
         have eQ : hdQ s a = rbV s (fnS s ⟨(fnS s ⟨rbAt s a 8, 0⟩ k3).a, 0⟩ k3).a 6 := by rw [e3, ga3]; exact r4.2
         have eF : rhF s a = rbV s (rbAt s (fnS s ⟨(fnS s ⟨rbAt s a 8, 0⟩ k3).a, 0⟩ k3).a 6) 2 := by rw [ga4]; exact r5.2
         have eB : hdB s a = decide (rbV s (rbAt s (fnS s ⟨(fnS s ⟨rbAt s a 8, 0⟩ k3).a, 0⟩ k3).a 6) 2 > 1) := by rw [e4, eF]; exact decide_eq_decide.2 (by omega)
         have eD : hdD s a = decide (rbV s (rbAt s (fnS s ⟨(fnS s ⟨rbAt s a 8, 0⟩ k3).a, 0⟩ k3).a 6) 2 % 2 = 1) := by rw [e5, eF]
         have eL : hdL s a = xs87 := by rw [e6, hx87 (Classical.not_not.1 h93), g5]; rfl
         rw [eW, eH, eQ, eB, eD, eL, c6, ← f6]
         exact ⟨_, rfl, L, _, _, _, rfl, o87, f87.mono (by omega)⟩
       ·refine s_alloc zr79 ?_
        intro b86 w87 lob86 hib86 l88 B86
        have z_l88 := l88.size; have L := L.tr l88.up; have B1 := B1.ext l88; have B4 := B4.ext l88; have B7 := B7.ext l88; have B12 := B12.ext l88; have B21 := B21.ext l88; have B48 := B48.ext l88
        refine s_storeAg rfl sz79 rfl rfl B86 rfl rfl rfl ?_
        intro w89 l90 el90 B86
        have z_l90 := l90.size; have L := L.fresh l90 (by omega); have B1 := B1.ne l90 (by omega); have B4 := B4.ne l90 (by omega); have B7 := B7.ne l90 (by omega); have B12 := B12.ne l90 (by omega); have B21 := B21.ne l90 (by omega); have B48 := B48.ne l90 (by omega)
        refine s0 (xaI rfl) (s0 (x_assign (v := .bool _) rfl) (c_end (n_then (wp_seq (wp_seq ?_)))))
        have hv2 := rbV_range s (rbAt s (fnS s ⟨(fnS s ⟨rbAt s a 8, 0⟩ k3).a, 0⟩ k3).a 6) 2
        refine c_reg (s0 (x_move (v := .bool _) rfl) (s0 (x_not rfl) (c_end (n_then (c_true rfl (wp_seq (c_reg (st (x_loadAgB ag79 rfl B48 rfl) ?_))))))))
        refine s0 (x_build (cs := [.int .i64 0, .int .i64 0, .int .i64 0, .bool false, .bool false, .slice none 0 0]) bd26 pts_nil rfl) ?_
        refine s_storeAg rfl sz79 rfl rfl B4 rfl rfl rfl ?_
        intro w91 l92 el92 B4
        have z_l92 := l92.size; have L := L.fresh l92 (by omega); have B1 := B1.ne l92 (by omega); have B7 := B7.ne l92 (by omega); have B12 := B12.ne l92 (by omega); have B21 := B21.ne l92 (by omega); have B48 := B48.ne l92 (by omega); have B86 := B86.ne l92 (by omega)
        refine s_storeAg rfl sz26 rfl rfl B7 rfl rfl rfl ?_
        intro w93 l94 el94 B7
        have z_l94 := l94.size; have L := L.fresh l94 (by omega); have B1 := B1.ne l94 (by omega); have B4 := B4.ne l94 (by omega); have B12 := B12.ne l94 (by omega); have B21 := B21.ne l94 (by omega); have B48 := B48.ne l94 (by omega); have B86 := B86.ne l94 (by omega)
        refine s0 (xaI rfl) (c_end (n_then ?_))
        refine wp_ret (r_then ?_)
        refine f_rets3 rfl (ro_cell rfl ag79 B4 rfl) (ro_cell rfl ag26 B7 rfl) (ro_tmp rfl) ?_
        have ok4 : rbOk s (rh3 s a).a 6 := by rw [← ga3]; exact h57
        have hs0 : rh5 s a = ⟨rbAt s (fnS s ⟨(fnS s ⟨rbAt s a 8, 0⟩ k3).a, 0⟩ k3).a 6, 1⟩ := by rw [ga4]; exact (fb_short c4 (by rw [← ga4]; exact h73)).1
        have hne0 : (rh5 s a).code ≠ 0 := by rw [hs0]; show (1 : Int) ≠ 0; decide
        have hx : rh6 s a = _ := (rh_x5 hne0).trans hs0
        have hne : (rh6 s a).code ≠ 0 := by rw [rh_x5 hne0]; exact hne0
        obtain ⟨e1, e2, e3, e4, e5, e6p⟩ := hd_no hne
        rw [e1, e2, e3, e4, e5, e6p, hx]
        exact ⟨_, rfl, L, none, 0, [], rfl, Own.nil, Fr.no⟩
     ·refine s_alloc zr79 ?_
      intro b95 w96 lob95 hib95 l97 B95
      have z_l97 := l97.size; have L := L.tr l97.up; have B1 := B1.ext l97; have B4 := B4.ext l97; have B7 := B7.ext l97; have B12 := B12.ext l97; have B21 := B21.ext l97
      refine s_storeAg rfl sz79 rfl rfl B95 rfl rfl rfl ?_
      intro w98 l99 el99 B95
      have z_l99 := l99.size; have L := L.fresh l99 (by omega); have B1 := B1.ne l99 (by omega); have B4 := B4.ne l99 (by omega); have B7 := B7.ne l99 (by omega); have B12 := B12.ne l99 (by omega); have B21 := B21.ne l99 (by omega)
      refine s0 (xaI rfl) (s0 (x_assign (v := .bool _) rfl) (c_end (n_then (wp_seq (wp_seq (c_reg (s0 (x_move (v := .bool _) rfl) (s0 (x_not rfl) (c_end (n_then (c_true rfl (wp_seq (c_reg ?_)))))))))))))
      refine st (x_loadAgB ag79 rfl B12 rfl) ?_
      refine s0 (x_build (cs := [.int .i64 0, .int .i64 0, .int .i64 0, .bool false, .bool false, .slice none 0 0]) bd26 pts_nil rfl) ?_
      refine s_storeAg rfl sz79 rfl rfl B4 rfl rfl rfl ?_
      intro w100 l101 el101 B4
      have z_l101 := l101.size; have L := L.fresh l101 (by omega); have B1 := B1.ne l101 (by omega); have B7 := B7.ne l101 (by omega); have B12 := B12.ne l101 (by omega); have B21 := B21.ne l101 (by omega); have B95 := B95.ne l101 (by omega)
      refine s_storeAg rfl sz26 rfl rfl B7 rfl rfl rfl ?_
      intro w102 l103 el103 B7
      have z_l103 := l103.size; have L := L.fresh l103 (by omega); have B1 := B1.ne l103 (by omega); have B4 := B4.ne l103 (by omega); have B12 := B12.ne l103 (by omega); have B21 := B21.ne l103 (by omega); have B95 := B95.ne l103 (by omega)
      refine s0 (xaI rfl) (c_end (n_then ?_))
      refine wp_ret (r_then ?_)
      refine f_rets3 rfl (ro_cell rfl ag79 B4 rfl) (ro_cell rfl ag26 B7 rfl) (ro_tmp rfl) ?_
      have hs0 : rh4 s a = ⟨(fnS s ⟨(fnS s ⟨rbAt s a 8, 0⟩ k3).a, 0⟩ k3).a, 1⟩ := by rw [ga3]; exact (fb_short c3 (by rw [← ga3]; exact h57)).1
      have hne0 : (rh4 s a).code ≠ 0 := by rw [hs0]; show (1 : Int) ≠ 0; decide
      have hx : rh6 s a = _ := (rh_x4 hne0).trans hs0
      have hne : (rh6 s a).code ≠ 0 := by rw [rh_x4 hne0]; exact hne0
      obtain ⟨e1, e2, e3, e4, e5, e6p⟩ := hd_no hne
      rw [e1, e2, e3, e4, e5, e6p, hx]
      exact ⟨_, rfl, L, none, 0, [], rfl, Own.nil, Fr.no⟩
 ·refine s_alloc zr79 ?_
  intro b104 w105 lob104 hib104 l106 B104
  have z_l106 := l106.size; have L := L.tr l106.up; have B1 := B1.ext l106; have B4 := B4.ext l106; have B7 := B7.ext l106
  refine s_storeAg rfl sz79 rfl rfl B104 rfl rfl rfl ?_
  intro w107 l108 el108 B104
  have z_l108 := l108.size; have L := L.fresh l108 (by omega); have B1 := B1.ne l108 (by omega); have B4 := B4.ne l108 (by omega); have B7 := B7.ne l108 (by omega)
  refine s0 (xaI rfl) (s0 (x_assign (v := .bool _) rfl) (c_end (n_then (wp_seq (wp_seq (c_reg (s0 (x_move (v := .bool _) rfl) (s0 (x_not rfl) (c_end (n_then (c_true rfl (wp_seq (c_reg ?_)))))))))))))
  refine st (x_loadAgB ag79 rfl B1 rfl) ?_
  refine s0 (x_build (cs := [.int .i64 0, .int .i64 0, .int .i64 0, .bool false, .bool false, .slice none 0 0]) bd26 pts_nil rfl) ?_
  refine s_storeAg rfl sz79 rfl rfl B4 rfl rfl rfl ?_
  intro w109 l110 el110 B4
  have z_l110 := l110.size; have L := L.fresh l110 (by omega); have B1 := B1.ne l110 (by omega); have B7 := B7.ne l110 (by omega); have B104 := B104.ne l110 (by omega)
  refine s_storeAg rfl sz26 rfl rfl B7 rfl rfl rfl ?_
  intro w111 l112 el112 B7
  have z_l112 := l112.size; have L := L.fresh l112 (by omega); have B1 := B1.ne l112 (by omega); have B4 := B4.ne l112 (by omega); have B104 := B104.ne l112 (by omega)
  refine s0 (xaI rfl) (c_end (n_then ?_))
  refine wp_ret (r_then ?_)
  refine f_rets3 rfl (ro_cell rfl ag79 B4 rfl) (ro_cell rfl ag26 B7 rfl) (ro_tmp rfl) ?_
  have hs0 : rh1 s a = ⟨a, 1⟩ := (fb_short (f := ⟨a, 0⟩) rfl h18).1
  have hne0 : (rh1 s a).code ≠ 0 := by rw [hs0]; show (1 : Int) ≠ 0; decide
  have hx : rh6 s a = _ := (rh_x1 hne0).trans hs0
  have hne : (rh6 s a).code ≠ 0 := by rw [rh_x1 hne0]; exact hne0
  obtain ⟨e1, e2, e3, e4, e5, e6p⟩ := hd_no hne
  rw [e1, e2, e3, e4, e5, e6p, hx]
  exact ⟨_, rfl, L, none, 0, [], rfl, Own.nil, Fr.no⟩

end Go.Proofs.YtepnknffaecbdaaGreat
