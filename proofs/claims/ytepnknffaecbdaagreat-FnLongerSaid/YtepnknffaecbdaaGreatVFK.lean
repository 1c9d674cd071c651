/- What each function of this part returns, for every argument that meets its premises. -/
import Derived.Test.YtepnknffaecbdaaGreatProg
import Derived.Test.YtepnknffaecbdaaGreatVSxA
import Derived.Test.YtepnknffaecbdaaGreatVTy
import Derived.Test.YtepnknffaecbdaaGreatVPlA
import Derived.Test.YtepnknffaecbdaaGreatVF9
import Derived.Test.YtepnknffaecbdaaGreatVFB
import Derived.Test.YtepnknffaecbdaaGreatVFJ
namespace Go.Proofs.YtepnknffaecbdaaGreat
open Go.Sx Go.Pl Go.RowKit
theorem s_blockBits (m : Int) (q : Option Addr) (ys : List Int) (d : Nat) (n : Int) (p : Option Addr) (xs : List Int) (c : Nat) (w : World) (hp : Sl w p xs.length c 1 (ic xs)) (hl : xs.length ≤ 1099511627776) (hq : Sl w q ys.length d 1 (ic ys)) (hl2 : ys.length ≤ 1099511627776) :
    Calls Tryz.prog 89 [.agg [.int .i64 m, .slice q ys.length d].toArray, .slice p xs.length c, .int .i64 n].toArray w (RetP w fun v w' => ∃ p c F, v = .slice p (blockBits m ys xs n).length c ∧ Own w' p (blockBits m ys xs n).length c 3 1 (ic (blockBits m ys xs n)) F ∧ Fr w.heap.size F) := by
 have hpl := pairs_len ys; have hsl := symBits_le xs m; have L : Exm [] w w := Exm.rfl'
 refine enter (n := 61) Tryz.func89 rfl rfl rfl ?_
 refine wp_seq (c_reg (s_box rfl rfl ?_))
 intro b1 w2 lob1 hib1 l3 B1
 have z_l3 := l3.size; have L := L.tr l3.up
 refine s0 (xaS rfl) (c_end (n_then (wp_seq (c_reg (s_bs0 so24 ?_)))))
 intro p10 F10 w4 l5 o10 f10 g10
 have o10 : Own w4 p10 0 0 3 1 (ic []) F10 := o10; have z_l5 := l5.size; have L := L.tr l5.up; have B1 := B1.ext l5
 refine s0 (xaS rfl) (c_end (n_then (wp_seq (wp_seq (c_reg (st (x_loadAgB ag71 rfl B1 rfl) (s0 (xmS rfl) (s0 (xmI rfl) ?_))))))))
 refine srb (zcall cl68 rfl) (s_blockOk _ _ _ _ _ _ _ _ _ (hp.ext L) (by omega) (hq.ext L) (by omega)) (fun h14 w6 l7 => ?_) (fun h14 w6 l7 => ?_)
 ·have z_l7 := l7.size
  have L := L.tr l7.up; have B1 := B1.ext l7; have o10 := o10.ext l7
  refine s0 (x_not rfl) (c_end (n_then (c_false rfl (c_skipn (n_then (wp_seq (c_reg (s0 (xmS rfl) (s0 (x_fieldAddr fa71_0 rfl) (st (x_loadB sc3 rfl B1 rfl) ?_))))))))))
  refine sp (zcall cl132 rfl) (s_symBits _ _ _ _ _ (hp.ext L) (by omega)) ?_
  rintro v20 w8 l9 ⟨p20, c20, F20, rfl, o20, f20⟩
  have z_l9 := l9.size; have L := L.tr l9.up; have B1 := B1.ext l9; have o10 := o10.ext l9; have g20 := o20.lt
  refine s0 (xaS rfl) (c_end (n_then (wp_seq (c_reg (s0 (x_fieldAddr fa71_1 rfl) (st (x_loadB sc24 rfl B1 rfl) ?_))))))
  refine sp (zcall cl155 rfl) (s_pairsOf _ _ _ _ (hq.ext L) (by omega)) ?_
  rintro v23 w10 l11 ⟨p23, c23, F23, rfl, o23, f23⟩
  have z_l11 := l11.size; have L := L.tr l11.up; have B1 := B1.ext l11; have o10 := o10.ext l11; have o20 := o20.ext l11; have g23 := o23.lt
  refine s0 (xaS rfl) (c_end (n_then (wp_seq (wp_seq (c_reg (s0 (xmS rfl) (s0 (x_lensl un163 rfl) ?_)))))))
  refine sb (x_eql rfl rfl) (fun h26 => ?_) (fun h26 => ?_)
  ·refine c_end (n_then (c_true rfl (wp_seq (c_reg (s0 (xmS rfl) ?_)))))
   refine s_bsi (xs := [_]) so24 zr3 (pts_cons rfl pts_nil) rfl rfl rfl ?_
   intro p28 F28 w12 l13 o28 f28 g28
   have z_l13 := l13.size; have L := L.tr l13.up; have B1 := B1.ext l13; have o10 := o10.ext l13; have o20 := o20.ext l13; have o23 := o23.ext l13; have hn28 := o28.n1
   refine s_appi (B := w6.heap.size) so24 zr3 rfl rfl (xs := _) o20 o28.sl f20 (by omega) (by omega) (by omega) ?_
   intro p29 c29 F29 w14 l15 o29 hn29 k29 f29 g29
   have ab1_29 : b1 ∉ F29 := k29.nin (by first|assumption|exact nin_of f20 g20 (by omega)) (by omega)
   have B1 := B1.exm l15 (by first|assumption|exact nin_of f20 g20 (by omega))
   have z_l15 := l15.size; have L := L.freshL l15 f20 (by omega); have d10_29 : Dj F10 F29 := k29.dj (by first|assumption|exact Dj.symm (by assumption)|exact dj_of f10 g10 f20 g20 (by omega)) g10 (by omega)
   have o10 := o10.exm l15 (by first|assumption|exact Dj.symm (by assumption)|exact dj_of f20 g20 f10 g10 (by omega))
   have d23_29 : Dj F23 F29 := k29.dj (by first|assumption|exact Dj.symm (by assumption)|exact dj_of f23 g23 f20 g20 (by omega)) g23 (by omega)
   have o23 := o23.exm l15 (by first|assumption|exact Dj.symm (by assumption)|exact dj_of f20 g20 f23 g23 (by omega))
   have d28_29 : Dj F28 F29 := k29.dj (by first|assumption|exact Dj.symm (by assumption)|exact dj_of f28 g28 f20 g20 (by omega)) g28 (by omega)
   have o28 := o28.exm l15 (by first|assumption|exact Dj.symm (by assumption)|exact dj_of f20 g20 f28 g28 (by omega))
   refine s0 (xaS rfl) (c_end (n_then ?_))
   refine wp_ret (r_then ?_)
   refine f_ret rfl rfl ?_
   rw [block_none h14 (by omega)]
   exact ⟨_, rfl, L, _, _, _, rfl, o29, f29.mono (by omega)⟩
  ·refine c_end (n_then (c_false rfl (c_skipn (n_then (wp_seq ?_)))))
   have hul := ueBits_le (((pairsOf ys).length : Int) - 1)
   refine c_reg (s0 (xmS rfl) ?_)
   refine s_bsi (xs := [_]) so24 zr3 (pts_cons rfl pts_nil) rfl rfl rfl ?_
   intro p31 F31 w16 l17 o31 f31 g31
   have z_l17 := l17.size; have L := L.tr l17.up; have B1 := B1.ext l17; have o10 := o10.ext l17; have o20 := o20.ext l17; have o23 := o23.ext l17; have hn31 := o31.n1
   refine s_appi (B := w6.heap.size) so24 zr3 rfl rfl (xs := _) o20 o31.sl f20 (by omega) (by omega) (by omega) ?_
   intro p32 c32 F32 w18 l19 o32 hn32 k32 f32 g32
   have ab1_32 : b1 ∉ F32 := k32.nin (by first|assumption|exact nin_of f20 g20 (by omega)) (by omega)
   have B1 := B1.exm l19 (by first|assumption|exact nin_of f20 g20 (by omega))
   have z_l19 := l19.size; have L := L.freshL l19 f20 (by omega); have d10_32 : Dj F10 F32 := k32.dj (by first|assumption|exact Dj.symm (by assumption)|exact dj_of f10 g10 f20 g20 (by omega)) g10 (by omega)
   have o10 := o10.exm l19 (by first|assumption|exact Dj.symm (by assumption)|exact dj_of f20 g20 f10 g10 (by omega))
   have d23_32 : Dj F23 F32 := k32.dj (by first|assumption|exact Dj.symm (by assumption)|exact dj_of f23 g23 f20 g20 (by omega)) g23 (by omega)
   have o23 := o23.exm l19 (by first|assumption|exact Dj.symm (by assumption)|exact dj_of f20 g20 f23 g23 (by omega))
   have d31_32 : Dj F31 F32 := k32.dj (by first|assumption|exact Dj.symm (by assumption)|exact dj_of f31 g31 f20 g20 (by omega)) g31 (by omega)
   have o31 := o31.exm l19 (by first|assumption|exact Dj.symm (by assumption)|exact dj_of f20 g20 f31 g31 (by omega))
   refine s0 (xmS rfl) (s0 (x_lensl un163 rfl) (s0 (x_sub rfl rfl (by omega)) ?_))
   refine sp (zcall cl87 rfl) (s_ueBits _ _) ?_
   rintro v36 w20 l21 ⟨p36, c36, F36, rfl, o36, f36⟩
   have z_l21 := l21.size; have L := L.tr l21.up; have B1 := B1.ext l21; have o10 := o10.ext l21; have o23 := o23.ext l21; have o31 := o31.ext l21; have o32 := o32.ext l21; have g36 := o36.lt
   refine s_appi (B := w6.heap.size) so24 zr3 rfl rfl (xs := _) o32 o36.sl f32 (by omega) (by omega) (by omega) ?_
   intro p37 c37 F37 w22 l23 o37 hn37 k37 f37 g37
   have ab1_37 : b1 ∉ F37 := k37.nin (by first|assumption|exact nin_of f32 g32 (by omega)) (by omega)
   have B1 := B1.exm l23 (by first|assumption|exact nin_of f32 g32 (by omega))
   have z_l23 := l23.size; have L := L.freshL l23 f32 (by omega); have d10_37 : Dj F10 F37 := k37.dj (by first|assumption|exact Dj.symm (by assumption)|exact dj_of f10 g10 f32 g32 (by omega)) g10 (by omega)
   have o10 := o10.exm l23 (by first|assumption|exact Dj.symm (by assumption)|exact dj_of f32 g32 f10 g10 (by omega))
   have d23_37 : Dj F23 F37 := k37.dj (by first|assumption|exact Dj.symm (by assumption)|exact dj_of f23 g23 f32 g32 (by omega)) g23 (by omega)
   have o23 := o23.exm l23 (by first|assumption|exact Dj.symm (by assumption)|exact dj_of f32 g32 f23 g23 (by omega))
   have d31_37 : Dj F31 F37 := k37.dj (by first|assumption|exact Dj.symm (by assumption)|exact dj_of f31 g31 f32 g32 (by omega)) g31 (by omega)
   have o31 := o31.exm l23 (by first|assumption|exact Dj.symm (by assumption)|exact dj_of f32 g32 f31 g31 (by omega))
   have d36_37 : Dj F36 F37 := k37.dj (by first|assumption|exact Dj.symm (by assumption)|exact dj_of f36 g36 f32 g32 (by omega)) g36 (by omega)
   have o36 := o36.exm l23 (by first|assumption|exact Dj.symm (by assumption)|exact dj_of f32 g32 f36 g36 (by omega))
   refine s0 (xaS rfl) (c_end (n_then (wp_seq (wp_seq (c_reg (s0 (xaI rfl) (c_end (n_then (wp_block ?_)))))))))
   refine c_loop (γ := Nat) (fun k => (pairsOf ys).length - k) (fun (k : Nat) E wl => ∃ E0 pz7 cz7 Fz7, E = upd (upd (upd E0 7 (.slice pz7 ((blockA m ys xs ++ ((pairsOf ys).take k).flatMap pairBits).length) cz7)) 8 (.slice p23 (pairsOf ys).length c23)) 9 (.int .i64 (k : Int)) ∧ (Exm [] w wl) ∧ (w22.heap.size ≤ wl.heap.size) ∧ (Bx wl b1 [.int .i64 m, .slice q ys.length d] 71) ∧ (Own wl p23 (pairsOf ys).length c23 166 2 ((pairsOf ys).flatMap erow) F23) ∧ (Own wl pz7 ((blockA m ys xs ++ ((pairsOf ys).take k).flatMap pairBits).length) cz7 3 1 (ic (blockA m ys xs ++ ((pairsOf ys).take k).flatMap pairBits)) Fz7) ∧ (Fr (w6.heap.size) Fz7) ∧ (Lt Fz7 wl.heap.size) ∧ (b1 ∉ Fz7) ∧ (Dj F23 Fz7) ∧ ((k : Int) ≤ (pairsOf ys).length)) 0 ⟨_, _, _, _, upd_self3 (slice_len (by simp [blockA])) rfl rfl, L, (by omega), B1, o23, (own_eq (by simp [blockA]) o37), (f37.mono (by omega)), (g37.mono (by omega)), (by first|assumption|exact nin_of f37 g37 (by omega)), (by first|assumption|exact Dj.symm (by assumption)|exact dj_of f23 g23 f37 g37 (by omega)), (by omega)⟩ ?_
   rintro k E wl24 ⟨E0, pz7, cz7, Fz7, rfl, L, Lz, B1, o23, oz7, fz7, gz7, ab1_z7, d23_z7, hk⟩
   have Lz0 := L.size; have hal := blockA_len m ys xs; have hpb := pairsBits_len ys k
   have hxl : (blockA m ys xs ++ ((pairsOf ys).take k).flatMap pairBits).length ≤ 100 + 62 * k := by rw [List.length_append]; omega
   refine wp_seq (wp_seq (c_reg (s0 (xmI rfl) (s0 (xmS rfl) (s0 (x_lensl un163 rfl) ?_)))))
   refine sb (x_lss rfl rfl) (fun h41 => ?_) (fun h41 => ?_)
   ·refine c_end (n_then (c_true rfl (c_skipn (n_then (wp_seq (wp_block ?_))))))
    have hpk := pairs_get (ys := ys) k (by omega); have hpk1 := hpk.1; have hpk2 := hpk.2.1; have hu1 := ueBits_le ((pairsOf ys).getD (k : Int).toNat default).1; have hu2 := ueBits_le (numOf ((pairsOf ys).getD (k : Int).toNat default).2)
    refine c_plan (fun wq => Exm Fz7 wl24 wq) 15 (.cons (0, 2) (.cons (1, 2) (.cons (2, 2) (.cons (3, 2) (.cons (4, 2) (.cons (5, 1) (.cons (8, 2) (.cons (9, 2) (.cons (10, 2) (.cons (11, 2) (.cons (12, 1) (.cons (6, 0) (.cons (7, 0) (.cons (13, 0) (.cons (14, 0) (.cons (15, 0) (.cons (16, 0) .nil))))))))))))))))) (by kernel_rfl) (by kernel_rfl) (Exm.drew _) ?_
    obtain ⟨w25, hwd⟩ : ∃ x, x = wl24.drew := ⟨_, rfl⟩
    have l26 : Ext wl24 w25 := by rw [hwd]; exact Exm.drew _
    rw [← hwd]; clear hwd
    have Lq : Exm Fz7 wl24 w25 := l26.up; have qo23 := o23; have z_l26 := l26.size; have L := L.tr l26.up; have B1 := B1.ext l26; have o23 := o23.ext l26; have oz7 := oz7.ext l26
    refine p0 rfl (xmS rfl) (p0 rfl (xmS rfl) (p0 rfl (xmI rfl) (p0 rfl (x_idx so163 rfl rfl o23.sl (by decide) (by omega) (by omega)) (p0 rfl (x_fieldAddr fa166_0 rfl) ?_))))
    refine ps rfl (fun wq hwq => x_ldf (u := .int _ _) erow_len sc3 rfl (qo23.exm hwq (by first|assumption|exact Dj.symm (by assumption)|exact dj_of fz7 gz7 f23 g23 (by omega))).sl (by omega) (by omega) (by decide) rfl) ?_
    refine p0 rfl (xmS rfl) (p0 rfl (xmI rfl) (p0 rfl (x_idx so163 rfl rfl o23.sl (by decide) (by omega) (by omega)) (p0 rfl (x_fieldAddr fa166_1 rfl) ?_)))
    refine ps rfl (fun wq hwq => x_ldf (u := .int _ _) erow_len sc3 rfl (qo23.exm hwq (by first|assumption|exact Dj.symm (by assumption)|exact dj_of fz7 gz7 f23 g23 (by omega))).sl (by omega) (by omega) (by decide) rfl) ?_
    refine pu rfl ?_
    refine sp (zcall cl87 rfl) (s_ueBits _ _) ?_
    rintro v50 w27 l28 ⟨p50, c50, F50, rfl, o50, f50⟩
    have z_l28 := l28.size; have L := L.tr l28.up; have Lq := Lq.tr l28.up; have B1 := B1.ext l28; have o23 := o23.ext l28; have oz7 := oz7.ext l28; have g50 := o50.lt
    refine c_end ⟨rfl, fun h hS => Lq, ?_⟩
    refine pu rfl (s_appi (B := w6.heap.size) so24 zr3 rfl rfl (xs := _) oz7 o50.sl fz7 (by omega) (by omega) (by omega) ?_)
    intro p51 c51 F51 w29 l30 o51 hn51 k51 f51 g51
    have ab1_51 : b1 ∉ F51 := k51.nin (by first|assumption|exact nin_of fz7 gz7 (by omega)) (by omega)
    have B1 := B1.exm l30 (by first|assumption|exact nin_of fz7 gz7 (by omega))
    have z_l30 := l30.size; have L := L.freshL l30 fz7 (by omega); have Lq := Lq.withinL l30 (by simp)
    have d23_51 : Dj F23 F51 := k51.dj (by first|assumption|exact Dj.symm (by assumption)|exact dj_of f23 g23 fz7 gz7 (by omega)) g23 (by omega)
    have o23 := o23.exm l30 (by first|assumption|exact Dj.symm (by assumption)|exact dj_of fz7 gz7 f23 g23 (by omega))
    have d50_51 : Dj F50 F51 := k51.dj (by first|assumption|exact Dj.symm (by assumption)|exact dj_of f50 g50 fz7 gz7 (by omega)) g50 (by omega)
    have o50 := o50.exm l30 (by first|assumption|exact Dj.symm (by assumption)|exact dj_of fz7 gz7 f50 g50 (by omega))
    refine c_end ⟨rfl, fun h hS => Lq, ?_⟩
    refine pu rfl ?_
    refine sr (zcall cl156 rfl) (s_numOfLevel _ _ (by rw [Int.toNat_natCast]; omega)) ?_
    intro w31 l32
    have z_l32 := l32.size; have L := L.tr l32.up; have Lq := Lq.tr l32.up; have B1 := B1.ext l32; have o23 := o23.ext l32; have o50 := o50.ext l32; have o51 := o51.ext l32
    refine c_end ⟨rfl, fun h hS => Lq, ?_⟩
    refine pu rfl ?_
    refine sp (zcall cl87 rfl) (s_ueBits _ _) ?_
    rintro v58 w33 l34 ⟨p58, c58, F58, rfl, o58, f58⟩
    have z_l34 := l34.size; have L := L.tr l34.up; have Lq := Lq.tr l34.up; have B1 := B1.ext l34; have o23 := o23.ext l34; have o50 := o50.ext l34; have o51 := o51.ext l34; have g58 := o58.lt
    refine c_end ⟨rfl, fun h hS => Lq, ?_⟩
    refine pu rfl (s_appi (B := w6.heap.size) so24 zr3 rfl rfl (xs := _) o51 o58.sl f51 (by omega) (by omega) (by omega) ?_)
    intro p59 c59 F59 w35 l36 o59 hn59 k59 f59 g59
    have ab1_59 : b1 ∉ F59 := k59.nin (by first|assumption|exact nin_of f51 g51 (by omega)) (by omega)
    have B1 := B1.exm l36 (by first|assumption|exact nin_of f51 g51 (by omega))
    have z_l36 := l36.size; have L := L.freshL l36 f51 (by omega); have d23_59 : Dj F23 F59 := k59.dj (by first|assumption|exact Dj.symm (by assumption)|exact dj_of f23 g23 f51 g51 (by omega)) g23 (by omega)
    have o23 := o23.exm l36 (by first|assumption|exact Dj.symm (by assumption)|exact dj_of f51 g51 f23 g23 (by omega))
    have d50_59 : Dj F50 F59 := k59.dj (by first|assumption|exact Dj.symm (by assumption)|exact dj_of f50 g50 f51 g51 (by omega)) g50 (by omega)
    have o50 := o50.exm l36 (by first|assumption|exact Dj.symm (by assumption)|exact dj_of f51 g51 f50 g50 (by omega))
    have d58_59 : Dj F58 F59 := k59.dj (by first|assumption|exact Dj.symm (by assumption)|exact dj_of f58 g58 f51 g51 (by omega)) g58 (by omega)
    have o58 := o58.exm l36 (by first|assumption|exact Dj.symm (by assumption)|exact dj_of f51 g51 f58 g58 (by omega))
    refine c_end ⟨rfl, fun h hS => absurd h (by decide), ?_⟩
    refine pu rfl (s0 (xaS rfl) ?_)
    refine c_end ⟨rfl, fun h hS => absurd h (by decide), ?_⟩
    refine p_nil (np_normal ?_)
    refine n_block (n_then (c_reg (s0 (xmI rfl) (s0 (x_add rfl rfl (by omega)) (s0 (xaI rfl) (c_end ?_))))))
    have hcc : blockA m ys xs ++ ((pairsOf ys).take k).flatMap pairBits ++ ueBits ((pairsOf ys).getD (k : Int).toNat default).1 ++ ueBits (numOf ((pairsOf ys).getD (k : Int).toNat default).2) = blockA m ys xs ++ ((pairsOf ys).take (k + 1)).flatMap pairBits := by rw [flat_take_succ _ _ (by omega), Int.toNat_natCast]; simp [pairBits]
    exact c_round (g' := k + 1) (by omega) ⟨_, _, _, _, upd_self3 (slice_len (congrArg List.length hcc.symm)) rfl (vint (by omega)), L, (by omega), B1, o23, (own_eq hcc o59), (f59.mono (by omega)), (g59.mono (by omega)), (by first|assumption|exact nin_of f59 g59 (by omega)), (by first|assumption|exact Dj.symm (by assumption)|exact dj_of f23 g23 f59 g59 (by omega)), (by omega)⟩
   ·refine c_end (n_then (c_false rfl ?_))
    refine wp_exit (e_then (e_then (e_here ?_)))
    refine n_then (wp_seq (c_reg (s0 (xmS rfl) (s0 (xaS rfl) (c_end (n_then (wp_ret (f_ret rfl rfl ?_))))))))
    rw [block_some h14 (by omega) (k := k) (by omega)]
    exact ⟨_, rfl, L, _, _, _, rfl, oz7, fz7.mono (by omega)⟩
 ·have z_l7 := l7.size
  have L := L.tr l7.up; have o10 := o10.ext l7
  refine s0 (x_not rfl) (c_end (n_then (c_true rfl (wp_seq (c_reg (s0 (xmS rfl) (s0 (xaS rfl) (c_end (n_then ?_)))))))))
  refine wp_ret (r_then ?_)
  refine f_ret rfl rfl ?_
  rw [blockBits_no h14]
  exact ⟨_, rfl, L, _, _, _, rfl, o10, f10.mono (by omega)⟩

end Go.Proofs.YtepnknffaecbdaaGreat
