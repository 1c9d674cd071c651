/- What each function of this part returns, for every argument that meets its premises. -/
import Derived.Test.YtepnknffaecbdaaGreatProg
import Derived.Test.YtepnknffaecbdaaGreatVSxA
import Derived.Test.YtepnknffaecbdaaGreatVTy
import Derived.Test.YtepnknffaecbdaaGreatVPlA
import Derived.Test.YtepnknffaecbdaaGreatVF2
import Derived.Test.YtepnknffaecbdaaGreatVF4
import Derived.Test.YtepnknffaecbdaaGreatVF9
namespace Go.Proofs.YtepnknffaecbdaaGreat
open Go.Sx Go.Pl Go.RowKit
theorem i_unless_t (c : Int) (w : World) :
    Calls Tryz.prog 93 [.bool true, .int .i64 c].toArray w (Ret w (.int .i64 0)) := by
 have L : Exm [] w w := Exm.rfl'
 refine enter (n := 7) Tryz.func93 rfl rfl rfl ?_
 refine wp_seq (c_reg (s0 (xaI rfl) (c_end (n_then (wp_seq (wp_seq (c_reg (s0 (x_move (v := .bool _) rfl) (c_end (n_then (c_true rfl (wp_seq (c_reg ?_)))))))))))))
 refine s0 (xaI rfl) (c_end (n_then ?_))
 refine wp_ret (r_then ?_)
 refine f_ret rfl rfl ?_
 exact ⟨rfl, L⟩

theorem i_unless_f (c : Int) (w : World) :
    Calls Tryz.prog 93 [.bool false, .int .i64 c].toArray w (Ret w (.int .i64 c)) := by
 have L : Exm [] w w := Exm.rfl'
 refine enter (n := 7) Tryz.func93 rfl rfl rfl ?_
 refine wp_seq (c_reg (s0 (xaI rfl) (c_end (n_then (wp_seq (wp_seq (c_reg (s0 (x_move (v := .bool _) rfl) (c_end (n_then (c_false rfl (c_skipn (n_then ?_)))))))))))))
 refine wp_seq (c_reg (s0 (xmI rfl) (s0 (xaI rfl) (c_end (n_then (wp_ret (f_ret rfl rfl ?_)))))))
 exact ⟨rfl, L⟩

theorem i_unless (p : Prop) [Decidable p] (c : Int) (w : World) : Calls Tryz.prog 93 [.bool (decide p), .int .i64 c].toArray w (Ret w (.int .i64 (unl p c))) := by
  by_cases h : p
  · rw [decide_eq_true h, show unl p c = 0 from if_pos h]; exact i_unless_t c w
  · rw [decide_eq_false h, show unl p c = c from if_neg h]; exact i_unless_f c w

theorem i_rhAny (x : Int) (w : World) :
    Calls Tryz.prog 91 [.int .i64 x].toArray w (Ret w (.int .i64 (k0 x))) := by
 have L : Exm [] w w := Exm.rfl'
 refine enter (n := 3) Tryz.func91 rfl rfl rfl ?_
 refine wp_seq (c_reg (s0 (xaI rfl) (c_end (n_then (wp_seq (c_reg (s0 (xaI rfl) (c_end (n_then (wp_ret (f_ret rfl rfl ?_)))))))))))
 exact ⟨rfl, L⟩

theorem i_rhSide (x : Int) (w : World) :
    Calls Tryz.prog 92 [.int .i64 x].toArray w (Ret w (.int .i64 (k3 x))) := by
 have L : Exm [] w w := Exm.rfl'
 refine enter (n := 6) Tryz.func92 rfl rfl rfl ?_
 refine wp_seq (c_reg (s0 (xaI rfl) (c_end (n_then (wp_seq (c_reg (s0 (xmI rfl) (s0 (x_leq rfl rfl) ?_))))))))
 refine sr (zcall cl93 rfl) (i_unless _ _ _) ?_
 intro w1 l2
 have z_l2 := l2.size; have L := L.tr l2.up
 refine s0 (xaI rfl) (c_end (n_then (wp_ret (f_ret rfl rfl ?_))))
 exact ⟨rfl, L⟩

theorem i_rhMagic (x : Int) (w : World) :
    Calls Tryz.prog 96 [.int .i64 x].toArray w (Ret w (.int .i64 (k183 x))) := by
 have L : Exm [] w w := Exm.rfl'
 refine enter (n := 6) Tryz.func96 rfl rfl rfl ?_
 refine wp_seq (c_reg (s0 (xaI rfl) (c_end (n_then (wp_seq (c_reg (s0 (xmI rfl) (s0 (x_eql rfl rfl) ?_))))))))
 refine sr (zcall cl93 rfl) (i_unless _ _ _) ?_
 intro w1 l2
 have z_l2 := l2.size; have L := L.tr l2.up
 refine s0 (xaI rfl) (c_end (n_then (wp_ret (f_ret rfl rfl ?_))))
 exact ⟨rfl, L⟩

theorem i_rhQ (x : Int) (w : World) :
    Calls Tryz.prog 98 [.int .i64 x].toArray w (Ret w (.int .i64 (k51 x))) := by
 have L : Exm [] w w := Exm.rfl'
 refine enter (n := 6) Tryz.func98 rfl rfl rfl ?_
 refine wp_seq (c_reg (s0 (xaI rfl) (c_end (n_then (wp_seq (c_reg (s0 (xmI rfl) (s0 (x_leq rfl rfl) ?_))))))))
 refine sr (zcall cl93 rfl) (i_unless _ _ _) ?_
 intro w1 l2
 have z_l2 := l2.size; have L := L.tr l2.up
 refine s0 (xaI rfl) (c_end (n_then (wp_ret (f_ret rfl rfl ?_))))
 exact ⟨rfl, L⟩

theorem i_rhLens (x : Int) (w : World) (hx : 0 ≤ x ∧ x < 4294967296) :
    Calls Tryz.prog 94 [.int .i64 x].toArray w (RetP w fun v w' => ∃ p c F, v = .slice p (lens6 x 6).length c ∧ Own w' p (lens6 x 6).length c 3 1 (ic (lens6 x 6)) F ∧ Fr w.heap.size F) := by
 have L : Exm [] w w := Exm.rfl'
 refine enter (n := 19) Tryz.func94 rfl rfl rfl ?_
 refine wp_seq (c_reg (s0 (xaS rfl) (c_end (n_then (wp_seq (c_reg (s_bs0 so24 ?_)))))))
 intro p5 F5 w1 l2 o5 f5 g5
 have o5 : Own w1 p5 0 0 3 1 (ic []) F5 := o5; have z_l2 := l2.size; have L := L.tr l2.up
 refine s0 (xaS rfl) (c_end (n_then (wp_seq (wp_seq (c_reg (s0 (xaI rfl) (c_end (n_then (wp_block ?_)))))))))
 refine c_loop (γ := Nat) (fun k => 6 - k) (fun (k : Nat) E wl => ∃ E0 pz3 cz3 Fz3, E = upd (upd (upd E0 0 (.int .i64 x)) 3 (.slice pz3 ((lens6 x k).length) cz3)) 4 (.int .i64 (5 - (k : Int))) ∧ (Exm [] w wl) ∧ (w1.heap.size ≤ wl.heap.size) ∧ (Own wl pz3 ((lens6 x k).length) cz3 3 1 (ic (lens6 x k)) Fz3) ∧ (Fr (w.heap.size) Fz3) ∧ (Lt Fz3 wl.heap.size) ∧ ((k : Int) ≤ 6)) 0 ⟨_, _, _, _, upd_self3 rfl (slice_len rfl) (vint (by omega)), L, (by omega), o5, (f5.mono (by omega)), (g5.mono (by omega)), (by omega)⟩ ?_
 rintro k E wl3 ⟨E0, pz3, cz3, Fz3, rfl, L, Lz, oz3, fz3, gz3, hk⟩
 have Lz0 := L.size; have hl6 := lens6_length x k; have hsh := Int.ediv_nonneg (a := x) (b := 2 ^ (3 * (5 - (k : Int))).toNat) hx.1 (Int.le_of_lt (two_pow_pos _)); have hsd := Int.ediv_le_self (2 ^ (3 * (5 - (k : Int))).toNat) hx.1
 refine wp_seq (wp_seq (c_reg (s0 (xmI rfl) ?_)))
 refine sb (x_geq rfl rfl) (fun h7 => ?_) (fun h7 => ?_)
 ·refine c_end (n_then (c_true rfl (c_skipn (n_then (wp_seq (wp_block (c_reg (s0 (xmS rfl) (s0 (xmI rfl) (s0 (xmI rfl) (s0 (x_mul rfl rfl (by omega)) ?_)))))))))))
  refine s0 (x_shr rfl rfl (by simp only [IntKind.bits]; omega)) ?_
  refine s0 (x_andm 3 rfl rfl (by omega) (by decide) (by omega) (by omega)) ?_
  refine s_bsi (xs := [_]) so24 zr3 (pts_cons rfl pts_nil) rfl rfl rfl ?_
  intro p16 F16 w4 l5 o16 f16 g16
  have z_l5 := l5.size; have L := L.tr l5.up; have oz3 := oz3.ext l5; have hn16 := o16.n1
  refine s_appi (B := w.heap.size) so24 zr3 rfl rfl (xs := _) oz3 o16.sl fz3 (by omega) (by omega) (by omega) ?_
  intro p17 c17 F17 w6 l7 o17 hn17 k17 f17 g17
  have z_l7 := l7.size; have L := L.freshL l7 fz3 (by omega); have d16_17 : Dj F16 F17 := k17.dj (by first|assumption|exact Dj.symm (by assumption)|exact dj_of f16 g16 fz3 gz3 (by omega)) g16 (by omega)
  have o16 := o16.exm l7 (by first|assumption|exact Dj.symm (by assumption)|exact dj_of fz3 gz3 f16 g16 (by omega))
  refine s0 (xaS rfl) (c_end (n_block (n_then (c_reg (s0 (xmI rfl) (s0 (x_sub rfl rfl (by omega)) (s0 (xaI rfl) (c_end ?_))))))))
  exact c_round (g' := k + 1) (by omega) ⟨_, _, _, _, upd_self3 rfl (slice_len (by rw [lens6_succ]; simp only [List.length_append, List.length_cons, List.length_nil])) (vint (by omega)), L, (by omega), (by rw [lens6_succ]; rw [show (3 * (5 - (k : Int))).toNat = 3 * (5 - k) by omega] at o17; exact o17), (f17.mono (by omega)), (g17.mono (by omega)), (by omega)⟩
 ·refine c_end (n_then (c_false rfl ?_))
  refine wp_exit (e_then (e_then (e_here ?_)))
  refine n_then (wp_seq (c_reg (s0 (xmS rfl) (s0 (xaS rfl) (c_end (n_then (wp_ret (f_ret rfl rfl ?_))))))))
  obtain rfl : k = 6 := by omega
  exact ⟨_, rfl, L, _, _, _, rfl, oz3, fz3.mono (by omega)⟩

theorem i_rhCode (x : Int) (bf : Nat) (w : World) (hB : Bx w bf [.func (.func 94) #[] #[]] 121) (hx : 0 ≤ x ∧ x < 4294967296) :
    Calls Tryz.prog 99 [.int .i64 x, pt bf 0].toArray w (Ret w (.int .i64 (kLens x))) := by
 have L : Exm [] w w := Exm.rfl'
 refine enter (n := 9) Tryz.func99 rfl rfl rfl ?_
 refine wp_seq (c_reg (s0 (xaI rfl) (c_end (n_then (wp_seq (c_reg (st (x_loadB sc121 rfl hB rfl) (s0 (xmI rfl) ?_))))))))
 refine sp (zcallv (caps := []) cl94 rfl rfl) (i_rhLens _ _ (by omega)) ?_
 rintro v6 w1 l2 ⟨p6, c6, F6, rfl, o6, f6⟩
 have z_l2 := l2.size; have L := L.tr l2.up; have hB := hB.ext l2; have g6 := o6.lt
 refine sr (zcall cl100 rfl) (i_codeOk _ _ _ _ o6.sl (by rw [lens6_length]; omega)) ?_
 intro w3 l4
 have z_l4 := l4.size; have L := L.tr l4.up; have hB := hB.ext l4
 refine sr (zcall cl93 rfl) (i_unless _ _ _) ?_
 intro w5 l6
 have z_l6 := l6.size; have L := L.tr l6.up; have hB := hB.ext l6
 refine s0 (xaI rfl) (c_end (n_then (wp_ret (f_ret rfl rfl ?_))))
 exact ⟨rfl, L⟩

theorem i_fbits (b : Nat) (s : ByteArray) (f : Fs) (n : Int) (fk : FuncId) (caps : List Value) (chk : Int → Int) (w : World) (hB : Bx w b [.string s, .int .i64 f.a, .int .i64 f.code] 127) (hc : Callable Tryz.prog fk) (hk : ∀ x w', 0 ≤ x ∧ x < 4294967296 → Exm [b] w w' → Calls Tryz.prog fk ([Value.int .i64 x] ++ caps).toArray w' (Ret w' (.int .i64 (chk x)))) (hs : s.size ≤ 1048576) :
    Calls Tryz.prog 95 [pt b 0, .int .i64 n, .func (.func fk) #[] caps.toArray].toArray w (RetM [b] w fun v w' => ∃ (x : Int) (f' : Fs), v = .int .i64 x ∧ x = fbV s f n chk ∧ f' = fbS s f n chk ∧ Bx w' b [.string s, .int .i64 f'.a, .int .i64 f'.code] 127) := by
 have hbz : b < w.heap.size := (Array.getElem?_eq_some_iff.1 hB).1; have L : Exm [b] w w := Exm.rfl'
 refine enter (n := 47) Tryz.func95 rfl rfl rfl ?_
 refine wp_seq (c_reg (s0 (xaI rfl) (c_end (n_then (wp_seq (wp_seq (c_reg (s0 (x_move (v := .pointer _) rfl) (s0 (x_nilCheck rfl) (s0 (x_fieldAddr fa127_1 rfl) (st (x_loadB sc3 rfl hB rfl) ?_)))))))))))
 refine sb (x_neq rfl rfl) (fun h14 => ?_) (fun h14 => ?_)
 ·refine c_end (n_then (c_true rfl (wp_seq (c_reg (s0 (xaI rfl) (c_end (n_then ?_)))))))
  refine wp_ret (r_then ?_)
  refine f_ret rfl rfl ?_
  exact ⟨_, rfl, L, 0, f, rfl, (fb_err h14).2.symm, (fb_err h14).1.symm, hB⟩
 ·refine c_end (n_then (c_false rfl (c_skipn (n_then (wp_seq (c_reg (s0 (x_move (v := .pointer _) rfl) (s0 (x_nilCheck rfl) (s0 (x_fieldAddr fa127_0 rfl) (st (x_loadIn ag79 rfl hB [.string _, .int _ _] rfl rfl) (s0 (xmI rfl) ?_)))))))))))
  refine sr (zcall cl101 rfl) (i_readBits _ _ _ _ (by omega)) ?_
  intro w1 l2
  have z_l2 := l2.size; have L := L.tr l2.up; have hB := hB.ext l2
  refine s0 (x_move (v := .tuple _) rfl) (s0 (x_extract rfl rfl) (s0 (x_extract rfl rfl) ?_))
  refine sb (x_extract rfl rfl) (fun h24 => ?_) (fun h24 => ?_)
  ·refine s_alloc zr79 ?_
   intro b3 w4 lob3 hib3 l5 B3
   have z_l5 := l5.size; have L := L.tr l5.up; have hB := hB.ext l5
   refine s_storeAg rfl sz79 rfl rfl B3 rfl rfl rfl ?_
   intro w6 l7 el7 B3
   have z_l7 := l7.size; have L := L.fresh l7 (by omega); have hB := hB.ne l7 (by omega)
   refine s0 (xaI rfl) (s0 (x_assign (v := .bool _) rfl) (c_end (n_then (wp_seq (wp_block (wp_seq (c_reg (s0 (x_move (v := .bool _) rfl) (s0 (x_not rfl) (s0 (x_assign (v := .bool _) rfl) (c_end (n_then (c_false rfl ?_)))))))))))))
   refine c_reg (s0 (x_move (v := .pointer _) rfl) (s0 (x_move (v := .func _ _ _) rfl) (s0 (xmI rfl) ?_)))
   refine sr (zcallv (caps := caps) hc rfl rfl) (hk _ _ (rbV_range s f.a n) L) ?_
   intro w8 l9
   have z_l9 := l9.size; have L := L.tr l9.up; have hB := hB.ext l9; have B3 := B3.ext l9
   refine s0 (x_nilCheck rfl) (s0 (x_fieldAddr fa127_1 rfl) ?_)
   refine s_store (v := .int _ _) (cs' := [_, _, _]) rfl sz3 rfl rfl rfl rfl hB rfl rfl ?_
   intro w10 l11 el11 hB
   have z_l11 := l11.size; have L := L.within l11 (by simp)
   have B3 := B3.ne l11 (by omega)
   refine c_end (n_block (n_then (wp_seq (wp_seq (c_reg (s0 (x_move (v := .pointer _) rfl) (s0 (x_nilCheck rfl) (s0 (x_fieldAddr fa127_1 rfl) (st (x_loadB sc3 rfl hB rfl) ?_)))))))))
   refine sb (x_neq rfl rfl) (fun h41 => ?_) (fun h41 => ?_)
   ·refine c_end (n_then (c_true rfl (wp_seq (c_reg (s0 (xaI rfl) (c_end (n_then ?_)))))))
    refine wp_ret (r_then ?_)
    refine f_ret rfl rfl ?_
    have e := fb_bad (f := f) (chk := chk) (Classical.not_not.1 h14) h24 h41
    exact ⟨_, rfl, L, 0, _, rfl, e.2.symm, e.1.symm, hB⟩
   ·refine c_end (n_then (c_false rfl (c_skipn (n_then (wp_seq (c_reg (s0 (x_move (v := .pointer _) rfl) (st (x_loadAgB ag79 rfl B3 rfl) (s0 (x_nilCheck rfl) (s0 (x_fieldAddr fa127_0 rfl) ?_))))))))))
    refine s_storeIn (cs' := [_, _, _]) (vs := [.string _, .int _ _]) rfl sz79 rfl rfl hB rfl (Nat.le_of_ble_eq_true rfl) rfl rfl ?_
    intro w12 l13 el13 hB
    have z_l13 := l13.size; have L := L.within l13 (by simp)
    have B3 := B3.ne l13 (by omega)
    refine c_end (n_then (wp_seq (c_reg (s0 (xmI rfl) (s0 (xaI rfl) (c_end (n_then (wp_ret (f_ret rfl rfl ?_)))))))))
    have e := fb_ok (f := f) (chk := chk) (Classical.not_not.1 h14) h24 (Classical.not_not.1 h41)
    exact ⟨_, rfl, L, _, _, rfl, e.2.symm, e.1.symm, bx_eq (by rw [rbAt_ok h24, Classical.not_not.1 h41]) hB⟩
  ·refine s_alloc zr79 ?_
   intro b14 w15 lob14 hib14 l16 B14
   have z_l16 := l16.size; have L := L.tr l16.up; have hB := hB.ext l16
   refine s_storeAg rfl sz79 rfl rfl B14 rfl rfl rfl ?_
   intro w17 l18 el18 B14
   have z_l18 := l18.size; have L := L.fresh l18 (by omega); have hB := hB.ne l18 (by omega)
   refine s0 (xaI rfl) (s0 (x_assign (v := .bool _) rfl) (c_end (n_then (wp_seq (wp_block (wp_seq (c_reg (s0 (x_move (v := .bool _) rfl) (s0 (x_not rfl) (s0 (x_assign (v := .bool _) rfl) (c_end (n_then (c_true rfl ?_)))))))))))))
   refine c_reg (s0 (x_move (v := .pointer _) rfl) (s0 (x_nilCheck rfl) (s0 (x_fieldAddr fa127_1 rfl) ?_)))
   refine s_store (v := .int _ _) (cs' := [_, _, _]) rfl sz3 rfl rfl rfl rfl hB rfl rfl ?_
   intro w19 l20 el20 hB
   have z_l20 := l20.size; have L := L.within l20 (by simp)
   have B14 := B14.ne l20 (by omega)
   refine c_end (n_block (n_then (wp_seq (wp_seq (c_reg (s0 (x_move (v := .pointer _) rfl) (s0 (x_nilCheck rfl) (s0 (x_fieldAddr fa127_1 rfl) (st (x_loadB sc3 rfl hB rfl) ?_)))))))))
   refine sb (x_neq rfl rfl) (fun h41 => ?_) (fun h41 => ?_)
   ·refine c_end (n_then (c_true rfl (wp_seq (c_reg (s0 (xaI rfl) (c_end (n_then ?_)))))))
    refine wp_ret (r_then ?_)
    refine f_ret rfl rfl ?_
    have e := fb_short (f := f) (chk := chk) (Classical.not_not.1 h14) h24
    exact ⟨_, rfl, L, 0, _, rfl, e.2.symm, e.1.symm, hB⟩
   ·exact absurd (by decide) h41

theorem i_fue (b : Nat) (s : ByteArray) (f : Fs) (fk : FuncId) (caps : List Value) (chk : Int → Int) (w : World) (hB : Bx w b [.string s, .int .i64 f.a, .int .i64 f.code] 127) (hc : Callable Tryz.prog fk) (hk : ∀ x w', 0 ≤ x ∧ x < 4294967296 → Exm [b] w w' → Calls Tryz.prog fk ([Value.int .i64 x] ++ caps).toArray w' (Ret w' (.int .i64 (chk x)))) (hs : s.size ≤ 1048576) :
    Calls Tryz.prog 97 [pt b 0, .func (.func fk) #[] caps.toArray].toArray w (RetM [b] w fun v w' => ∃ (x : Int) (f' : Fs), v = .int .i64 x ∧ x = fnV s f chk ∧ f' = fnS s f chk ∧ Bx w' b [.string s, .int .i64 f'.a, .int .i64 f'.code] 127) := by
 have hbz : b < w.heap.size := (Array.getElem?_eq_some_iff.1 hB).1; have L : Exm [b] w w := Exm.rfl'
 refine enter (n := 38) Tryz.func97 rfl rfl rfl ?_
 refine wp_seq (c_reg (s0 (xaI rfl) (c_end (n_then (wp_seq (wp_seq (c_reg (s0 (x_move (v := .pointer _) rfl) (s0 (x_nilCheck rfl) (s0 (x_fieldAddr fa127_1 rfl) (st (x_loadB sc3 rfl hB rfl) ?_)))))))))))
 refine sb (x_neq rfl rfl) (fun h12 => ?_) (fun h12 => ?_)
 ·refine c_end (n_then (c_true rfl (wp_seq (c_reg (s0 (xaI rfl) (c_end (n_then ?_)))))))
  refine wp_ret (r_then ?_)
  refine f_ret rfl rfl ?_
  exact ⟨_, rfl, L, 0, f, rfl, (fn_err h12).2.symm, (fn_err h12).1.symm, hB⟩
 ·refine c_end (n_then (c_false rfl (c_skipn (n_then (wp_seq (c_reg (s0 (x_move (v := .pointer _) rfl) (s0 (x_nilCheck rfl) (s0 (x_fieldAddr fa127_0 rfl) (st (x_loadIn ag79 rfl hB [.string _, .int _ _] rfl rfl) ?_))))))))))
  refine sr (zcall cl158 rfl) (i_ue _ _ _ (by omega)) ?_
  intro w1 l2
  have z_l2 := l2.size; have L := L.tr l2.up; have hB := hB.ext l2
  refine s0 (x_move (v := .tuple _) rfl) (s0 (x_extract rfl rfl) (s0 (x_extract rfl rfl) (s0 (x_extract rfl rfl) (s_alloc zr79 ?_))))
  intro b3 w4 lob3 hib3 l5 B3
  have z_l5 := l5.size; have L := L.tr l5.up; have hB := hB.ext l5
  refine s_storeAg rfl sz79 rfl rfl B3 rfl rfl rfl ?_
  intro w6 l7 el7 B3
  have z_l7 := l7.size; have L := L.fresh l7 (by omega); have hB := hB.ne l7 (by omega)
  refine s0 (xaI rfl) (s0 (xaI rfl) (c_end (n_then (wp_seq (wp_seq (c_reg (s0 (xmI rfl) ?_)))))))
  refine sb (x_eql rfl rfl) (fun h23 => ?_) (fun h23 => ?_)
  ·refine c_end (n_then (c_true rfl (c_reg (s0 (x_move (v := .func _ _ _) rfl) (s0 (xmI rfl) ?_)))))
   refine sr (zcallv (caps := caps) hc rfl rfl) (hk _ _ (by have := ueV_range h23; omega) L) ?_
   intro w8 l9
   have z_l9 := l9.size; have L := L.tr l9.up; have hB := hB.ext l9; have B3 := B3.ext l9
   refine s0 (xaI rfl) (c_end (n_then (wp_seq (wp_seq (c_reg (s0 (x_move (v := .pointer _) rfl) (s0 (xmI rfl) (s0 (x_nilCheck rfl) (s0 (x_fieldAddr fa127_1 rfl) ?_)))))))))
   refine s_store (v := .int _ _) (cs' := [_, _, _]) rfl sz3 rfl rfl rfl rfl hB rfl rfl ?_
   intro w10 l11 el11 hB
   have z_l11 := l11.size; have L := L.within l11 (by simp)
   have B3 := B3.ne l11 (by omega)
   refine c_end (n_then (wp_seq (c_reg (s0 (xmI rfl) ?_))))
   refine sb (x_neq rfl rfl) (fun h32 => ?_) (fun h32 => ?_)
   ·refine c_end (n_then (c_true rfl (wp_seq (c_reg (s0 (xaI rfl) (c_end (n_then ?_)))))))
    refine wp_ret (r_then ?_)
    refine f_ret rfl rfl ?_
    have e := fn_bad (f := f) (chk := chk) (Classical.not_not.1 h12) h23 h32
    exact ⟨_, rfl, L, 0, _, rfl, e.2.symm, e.1.symm, hB⟩
   ·refine c_end (n_then (c_false rfl (c_skipn (n_then (wp_seq (c_reg (s0 (x_move (v := .pointer _) rfl) (st (x_loadAgB ag79 rfl B3 rfl) (s0 (x_nilCheck rfl) (s0 (x_fieldAddr fa127_0 rfl) ?_))))))))))
    refine s_storeIn (cs' := [_, _, _]) (vs := [.string _, .int _ _]) rfl sz79 rfl rfl hB rfl (Nat.le_of_ble_eq_true rfl) rfl rfl ?_
    intro w12 l13 el13 hB
    have z_l13 := l13.size; have L := L.within l13 (by simp)
    have B3 := B3.ne l13 (by omega)
    refine c_end (n_then (wp_seq (c_reg (s0 (xmI rfl) (s0 (xaI rfl) (c_end (n_then (wp_ret (f_ret rfl rfl ?_)))))))))
    have e := fn_ok (f := f) (chk := chk) (Classical.not_not.1 h12) h23 (Classical.not_not.1 h32)
    exact ⟨_, rfl, L, _, _, rfl, e.2.symm, e.1.symm, bx_eq (by rw [Classical.not_not.1 h32]) hB⟩
  ·refine c_end (n_then (c_false rfl (c_skipn (n_then (wp_seq (wp_seq (c_reg (s0 (x_move (v := .pointer _) rfl) (s0 (xmI rfl) (s0 (x_nilCheck rfl) (s0 (x_fieldAddr fa127_1 rfl) ?_)))))))))))
   refine s_store (v := .int _ _) (cs' := [_, _, _]) rfl sz3 rfl rfl rfl rfl hB rfl rfl ?_
   intro w14 l15 el15 hB
   have z_l15 := l15.size; have L := L.within l15 (by simp)
   have B3 := B3.ne l15 (by omega)
   refine c_end (n_then (wp_seq (c_reg (s0 (xmI rfl) ?_))))
   refine sb (x_neq rfl rfl) (fun h32 => ?_) (fun h32 => ?_)
   ·refine c_end (n_then (c_true rfl (wp_seq (c_reg (s0 (xaI rfl) (c_end (n_then ?_)))))))
    refine wp_ret (r_then ?_)
    refine f_ret rfl rfl ?_
    have e := fn_short (f := f) (chk := chk) (Classical.not_not.1 h12) h23
    exact ⟨_, rfl, L, 0, _, rfl, e.2.symm, e.1.symm, hB⟩
   ·exact (h32 h23).elim

set_option maxHeartbeats 1000000 in
theorem i_readHeader (s : ByteArray) (a : Int) (w : World) (hs : s.size ≤ 1048576) :
    Calls Tryz.prog 41 [.agg [.string s, .int .i64 a].toArray].toArray w (RetP w fun v w' => ∃ p c F, v = .tuple [.agg [.string s, .int .i64 (rh6 s a).a].toArray, .agg [.int .i64 (hdW s a), .int .i64 (hdH s a), .int .i64 (hdQ s a), .bool (hdB s a), .bool (hdD s a), .slice p (hdL s a).length c].toArray, .int .i64 (rh6 s a).code].toArray ∧ Own w' p (hdL s a).length c 3 1 (ic (hdL s a)) F ∧ Fr w.heap.size F) := by
 have L : Exm [] w w := Exm.rfl'
 refine enter (n := 67) Tryz.func41 rfl rfl rfl ?_
 refine wp_seq (c_reg (s_box rfl rfl ?_))
 intro b1 w2 lob1 hib1 l3 B1
 have z_l3 := l3.size; have L := L.tr l3.up
 refine s_alloc zr79 ?_
 intro b4 w5 lob4 hib4 l6 B4
 have z_l6 := l6.size; have L := L.tr l6.up; have B1 := B1.ext l6
 refine s_alloc zr26 ?_
 intro b7 w8 lob7 hib7 l9 B7
 have z_l9 := l9.size; have L := L.tr l9.up; have B1 := B1.ext l9; have B4 := B4.ext l9
 refine s0 (xaI rfl) (c_end (n_then (wp_seq (c_reg (st (x_loadAgB ag79 rfl B1 rfl) ?_)))))
 refine s0 (x_build (cs := [.string _, .int _ _, .int .i64 0]) bd127 (pts_cons (v := .agg _) rfl pts_nil) rfl) ?_
 refine s_box rfl rfl ?_
 intro b10 w11 lob10 hib10 l12 B10
 have z_l12 := l12.size; have L := L.tr l12.up; have B1 := B1.ext l12; have B4 := B4.ext l12; have B7 := B7.ext l12
 refine s0 (x_assign (v := .pointer _) rfl) (c_end (n_then (wp_seq (c_reg (s0 (x_assign (v := .func _ _ _) rfl) (c_end (n_then (wp_seq (c_reg (s0 (x_assign (v := .func _ _ _) rfl) (c_end (n_then (wp_seq ?_)))))))))))))
 refine c_reg (s_alloc zr121 ?_)
 intro b13 w14 lob13 hib13 l15 B13
 have z_l15 := l15.size; have L := L.tr l15.up; have B1 := B1.ext l15; have B4 := B4.ext l15; have B7 := B7.ext l15; have B10 := B10.ext l15
 refine s_store (v := .func _ _ _) (cs' := [_]) rfl sz121 rfl rfl rfl rfl B13 rfl rfl ?_
 intro w16 l17 el17 B13
 have z_l17 := l17.size; have L := L.fresh l17 (by omega); have B1 := B1.ne l17 (by omega); have B4 := B4.ne l17 (by omega); have B7 := B7.ne l17 (by omega); have B10 := B10.ne l17 (by omega)
 refine c_end (n_then (wp_seq (c_reg (s0 (x_move (v := .pointer _) rfl) ?_))))
 refine spm (zcall cl95 rfl) (i_fbits b10 _ ⟨a, 0⟩ _ 96 [] k183 _ B10 cl96 (fun x w9 hx9 L9 => i_rhMagic x w9) (by omega)) ?_
 rintro v18 w18 l19 ⟨x18, q18, rfl, hx18, hq18, B10⟩
 have z_l19 := l19.size; have L := L.fresh l19 (by omega); have B1 := B1.ne l19 (by omega); have B4 := B4.ne l19 (by omega); have B7 := B7.ne l19 (by omega); have B13 := B13.ne l19 (by omega)
 refine c_end (n_then (wp_seq (c_reg (s0 (x_move (v := .pointer _) rfl) (s0 (x_move (v := .func _ _ _) rfl) ?_)))))
 refine spm (zcall cl97 rfl) (i_fue b10 _ q18 92 [] k3 _ B10 cl92 (fun x w9 hx9 L9 => i_rhSide x w9) (by omega)) ?_
 rintro v21 w20 l21 ⟨x21, q21, rfl, hx21, hq21, B10⟩
 have z_l21 := l21.size; have L := L.fresh l21 (by omega); have B1 := B1.ne l21 (by omega); have B4 := B4.ne l21 (by omega); have B7 := B7.ne l21 (by omega); have B13 := B13.ne l21 (by omega)
 refine s0 (x_move (v := .pointer _) rfl) (s0 (x_move (v := .func _ _ _) rfl) ?_)
 refine spm (zcall cl97 rfl) (i_fue b10 _ q21 92 [] k3 _ B10 cl92 (fun x w9 hx9 L9 => i_rhSide x w9) (by omega)) ?_
 rintro v24 w22 l23 ⟨x24, q24, rfl, hx24, hq24, B10⟩
 have z_l23 := l23.size; have L := L.fresh l23 (by omega); have B1 := B1.ne l23 (by omega); have B4 := B4.ne l23 (by omega); have B7 := B7.ne l23 (by omega); have B13 := B13.ne l23 (by omega)
 refine s0 (xaI rfl) (s0 (xaI rfl) (c_end (n_then (wp_seq (c_reg (s0 (x_move (v := .pointer _) rfl) ?_))))))
 refine spm (zcall cl95 rfl) (i_fbits b10 _ q24 _ 98 [] k51 _ B10 cl98 (fun x w9 hx9 L9 => i_rhQ x w9) (by omega)) ?_
 rintro v26 w24 l25 ⟨x26, q26, rfl, hx26, hq26, B10⟩
 have z_l25 := l25.size; have L := L.fresh l25 (by omega); have B1 := B1.ne l25 (by omega); have B4 := B4.ne l25 (by omega); have B7 := B7.ne l25 (by omega); have B13 := B13.ne l25 (by omega)
 refine s0 (xaI rfl) (c_end (n_then (wp_seq (c_reg (s0 (x_move (v := .pointer _) rfl) (s0 (x_move (v := .func _ _ _) rfl) ?_))))))
 refine spm (zcall cl95 rfl) (i_fbits b10 _ q26 _ 91 [] k0 _ B10 cl91 (fun x w9 hx9 L9 => i_rhAny x w9) (by omega)) ?_
 rintro v29 w26 l27 ⟨x29, q29, rfl, hx29, hq29, B10⟩
 have z_l27 := l27.size; have L := L.fresh l27 (by omega); have B1 := B1.ne l27 (by omega); have B4 := B4.ne l27 (by omega); have B7 := B7.ne l27 (by omega); have B13 := B13.ne l27 (by omega)
 refine s0 (xaI rfl) (c_end (n_then (wp_seq (c_reg (s0 (x_move (v := .pointer _) rfl) (s0 (x_makeFunc rfl) ?_))))))
 refine spm (zcall cl95 rfl) (i_fbits b10 _ q29 _ 99 [pt b13 0] kLens _ B10 cl99 (fun x w9 hx9 L9 => i_rhCode x _ w9 (B13.ne L9 (by omega)) hx9) (by omega)) ?_
 rintro v32 w28 l29 ⟨x32, q32, rfl, hx32, hq32, B10⟩
 have z_l29 := l29.size; have L := L.fresh l29 (by omega); have B1 := B1.ne l29 (by omega); have B4 := B4.ne l29 (by omega); have B7 := B7.ne l29 (by omega); have B13 := B13.ne l29 (by omega)
 refine s0 (xaI rfl) (c_end (n_then (wp_seq (wp_seq ?_))))
 have e6 : rh6 s a = q32 := by rw [hq32, hq29, hq26, hq24, hq21, hq18]; rfl
 refine c_reg (s0 (x_move (v := .pointer _) rfl) (s0 (x_nilCheck rfl) (s0 (x_fieldAddr fa127_1 rfl) (st (x_loadB sc3 rfl B10 rfl) ?_))))
 refine sb (x_neq rfl rfl) (fun h37 => ?_) (fun h37 => ?_)
 ·refine c_end (n_then (c_true rfl (wp_seq ?_)))
  refine c_plan (fun wq => Exm [b4, b7] w28 wq) 12 (.cons (0, 2) (.cons (1, 2) (.cons (2, 2) (.cons (3, 1) (.cons (4, 2) (.cons (5, 2) (.cons (6, 2) (.cons (7, 2) (.cons (8, 1) (.cons (9, 0) (.cons (10, 0) (.cons (11, 2) .nil)))))))))))) (by kernel_rfl) (by kernel_rfl) (Exm.drew _) ?_
  obtain ⟨w30, hwd⟩ : ∃ x, x = w28.drew := ⟨_, rfl⟩
  have l31 : Ext w28 w30 := by rw [hwd]; exact Exm.drew _
  rw [← hwd]; clear hwd
  have Lq : Exm [b4, b7] w28 w30 := l31.up; have qB10 := B10; have z_l31 := l31.size; have L := L.tr l31.up; have B1 := B1.ext l31; have B4 := B4.ext l31; have B7 := B7.ext l31; have B10 := B10.ext l31; have B13 := B13.ext l31
  refine p0 rfl (x_move (v := .pointer _) rfl) (p0 rfl (x_nilCheck rfl) (p0 rfl (x_fieldAddr fa127_0 rfl) ?_))
  refine ps rfl (fun wq hwq => x_loadIn ag79 rfl (qB10.exm hwq (by simp; omega)) [.string _, .int _ _] rfl rfl) ?_
  refine p0 rfl (x_build (cs := [.int .i64 0, .int .i64 0, .int .i64 0, .bool false, .bool false, .slice none 0 0]) bd26 pts_nil rfl) ?_
  refine p0 rfl (x_move (v := .pointer _) rfl) (p0 rfl (x_nilCheck rfl) (p0 rfl (x_fieldAddr fa127_1 rfl) ?_))
  refine ps rfl (fun wq hwq => x_loadB sc3 rfl (qB10.exm hwq (by simp; omega)) rfl) ?_
  refine pu rfl (s_storeAg rfl sz79 rfl rfl B4 rfl rfl rfl ?_)
  intro w32 l33 el33 B4
  have z_l33 := l33.size; have L := L.fresh l33 (by omega); have Lq := Lq.within l33 (by simp)
  have B1 := B1.ne l33 (by omega); have B7 := B7.ne l33 (by omega); have B10 := B10.ne l33 (by omega); have B13 := B13.ne l33 (by omega)
  refine c_end ⟨rfl, fun h hS => Lq, ?_⟩
  refine pu rfl (s_storeAg rfl sz26 rfl rfl B7 rfl rfl rfl ?_)
  intro w34 l35 el35 B7
  have z_l35 := l35.size; have L := L.fresh l35 (by omega); have Lq := Lq.within l35 (by simp)
  have B1 := B1.ne l35 (by omega); have B4 := B4.ne l35 (by omega); have B10 := B10.ne l35 (by omega); have B13 := B13.ne l35 (by omega)
  refine c_end ⟨rfl, fun h hS => Lq, ?_⟩
  refine p0 rfl (xaI rfl) ?_
  refine p_nil (np_normal ?_)
  refine n_then ?_
  refine wp_ret (r_then ?_)
  refine f_rets3 rfl (ro_cell rfl ag79 B4 rfl) (ro_cell rfl ag26 B7 rfl) (ro_tmp rfl) ?_
  have hne : (rh6 s a).code ≠ 0 := by rw [e6]; exact h37
  obtain ⟨e1, e2, e3, e4, e5, e6p⟩ := hd_no hne
  rw [e1, e2, e3, e4, e5, e6p, e6]
  exact ⟨_, rfl, L, none, 0, [], rfl, Own.nil, Fr.no⟩
 ·refine c_end (n_then (c_false rfl (c_skipn (n_then (wp_seq ?_)))))
  have hr1 : 0 ≤ x21 ∧ x21 ≤ 2147483647 := by rw [hx21]; exact fnV_range _ _ _
  have hr2 : 0 ≤ x24 ∧ x24 ≤ 2147483647 := by rw [hx24]; exact fnV_range _ _ _
  have hr4 : 0 ≤ x29 ∧ x29 < 4294967296 := by rw [hx29]; exact fbV_range _ _ _ _
  have hr6 : 0 ≤ x32 ∧ x32 < 4294967296 := by rw [hx32]; exact fbV_range _ _ _ _
  have hz6 : q32.code = 0 := Classical.not_not.1 h37
  refine c_plan (fun wq => Exm [b4, b7] w28 wq) 23 (.cons (0, 2) (.cons (1, 2) (.cons (2, 2) (.cons (3, 1) (.cons (4, 2) (.cons (5, 2) (.cons (6, 2) (.cons (7, 2) (.cons (8, 2) (.cons (9, 2) (.cons (10, 2) (.cons (11, 2) (.cons (12, 2) (.cons (13, 2) (.cons (14, 2) (.cons (15, 2) (.cons (16, 1) (.cons (17, 2) (.cons (18, 0) (.cons (19, 2) (.cons (20, 0) (.cons (21, 0) (.cons (22, 2) .nil))))))))))))))))))))))) (by kernel_rfl) (by kernel_rfl) (Exm.drew _) ?_
  obtain ⟨w36, hwd⟩ : ∃ x, x = w28.drew := ⟨_, rfl⟩
  have l37 : Ext w28 w36 := by rw [hwd]; exact Exm.drew _
  rw [← hwd]; clear hwd
  have Lq : Exm [b4, b7] w28 w36 := l37.up; have qB10 := B10; have qB13 := B13; have z_l37 := l37.size; have L := L.tr l37.up; have B1 := B1.ext l37; have B4 := B4.ext l37; have B7 := B7.ext l37; have B10 := B10.ext l37; have B13 := B13.ext l37
  refine p0 rfl (x_move (v := .pointer _) rfl) (p0 rfl (x_nilCheck rfl) (p0 rfl (x_fieldAddr fa127_0 rfl) ?_))
  refine ps rfl (fun wq hwq => x_loadIn ag79 rfl (qB10.exm hwq (by simp; omega)) [.string _, .int _ _] rfl rfl) ?_
  refine p0 rfl (xmI rfl) (p0 rfl (x_add rfl rfl (by omega)) (p0 rfl (x_mul rfl rfl (by omega)) (p0 rfl (xmI rfl) (p0 rfl (x_add rfl rfl (by omega)) (p0 rfl (x_mul rfl rfl (by omega)) (p0 rfl (xmI rfl) (p0 rfl (xmI rfl) (p0 rfl (x_geq rfl rfl) (p0 rfl (xmI rfl) (p0 rfl (x_rem rfl rfl (by omega) (by omega)) (p0 rfl (x_eql rfl rfl) ?_)))))))))))
  refine ps rfl (fun wq hwq => x_loadB sc121 rfl (qB13.exm hwq (by simp; omega)) rfl) ?_
  refine p0 rfl (xmI rfl) (pu rfl ?_)
  refine sp (zcallv (caps := []) cl94 rfl rfl) (i_rhLens _ _ hr6) ?_
  rintro v65 w38 l39 ⟨p65, c65, F65, rfl, o65, f65⟩
  have z_l39 := l39.size; have L := L.tr l39.up; have Lq := Lq.tr l39.up; have B1 := B1.ext l39; have B4 := B4.ext l39; have B7 := B7.ext l39; have B10 := B10.ext l39; have B13 := B13.ext l39; have g65 := o65.lt
  refine c_end ⟨rfl, fun h hS => Lq, ?_⟩
  refine p0 rfl (x_build (cs := [.int _ _, .int _ _, .int _ _, .bool _, .bool _, .slice _ _ _]) bd26 (pts_cons (v := .int _ _) rfl (pts_cons (v := .int _ _) rfl (pts_cons (v := .int _ _) rfl (pts_cons (v := .bool _) rfl (pts_cons (v := .bool _) rfl (pts_cons (v := .slice _ _ _) rfl pts_nil)))))) rfl) ?_
  refine pu rfl (s_storeAg rfl sz79 rfl rfl B4 rfl rfl rfl ?_)
  intro w40 l41 el41 B4
  have z_l41 := l41.size; have L := L.fresh l41 (by omega); have Lq := Lq.within l41 (by simp)
  have B1 := B1.ne l41 (by omega); have B7 := B7.ne l41 (by omega); have B10 := B10.ne l41 (by omega); have B13 := B13.ne l41 (by omega); have o65 := o65.ne l41 (by first|assumption|exact nin_of f65 g65 (by omega))
  refine c_end ⟨rfl, fun h hS => Lq, ?_⟩
  refine pu rfl (s_storeAg rfl sz26 rfl rfl B7 rfl rfl rfl ?_)
  intro w42 l43 el43 B7
  have z_l43 := l43.size; have L := L.fresh l43 (by omega); have Lq := Lq.within l43 (by simp)
  have B1 := B1.ne l43 (by omega); have B4 := B4.ne l43 (by omega); have B10 := B10.ne l43 (by omega); have B13 := B13.ne l43 (by omega); have o65 := o65.ne l43 (by first|assumption|exact nin_of f65 g65 (by omega))
  refine c_end ⟨rfl, fun h hS => Lq, ?_⟩
  refine p0 rfl (xaI rfl) ?_
  refine p_nil (np_normal ?_)
  refine n_then (wp_ret (f_rets3 rfl (ro_cell rfl ag79 B4 rfl) (ro_cell rfl ag26 B7 rfl) (ro_tmp rfl) ?_))
  obtain ⟨d1, d2, d3, d4, d5, d6⟩ := hd_yes (s := s) (a := a) (by rw [e6]; exact hz6)
  have w1 : rhW s a = x21 := by rw [hx21, hq18]; rfl
  have w2 : rhH s a = x24 := by rw [hx24, hq21, hq18]; rfl
  have w3 : rhQ s a = x26 := by rw [hx26, hq24, hq21, hq18]; rfl
  have w4 : rhF s a = x29 := by rw [hx29, hq26, hq24, hq21, hq18]; rfl
  have w5 : rhL s a = x32 := by rw [hx32, hq29, hq26, hq24, hq21, hq18]; rfl
  rw [d1, d2, d3, d4, d5, d6, w1, w2, w3, w4, w5, e6, hz6]
  exact ⟨_, rfl, L, _, _, _, rfl, o65, f65.mono (by omega)⟩

end Go.Proofs.YtepnknffaecbdaaGreat
