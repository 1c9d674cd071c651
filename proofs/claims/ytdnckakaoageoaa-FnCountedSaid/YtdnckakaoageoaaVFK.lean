/- What each function of this part returns, for every argument that meets its premises. -/
import Derived.Test.YtdnckakaoageoaaProg
import Derived.Test.YtdnckakaoageoaaVSxF
import Derived.Test.YtdnckakaoageoaaVPlY
import Derived.Test.YtdnckakaoageoaaVF1
import Derived.Test.YtdnckakaoageoaaVF9
import Derived.Test.YtdnckakaoageoaaVFB
import Derived.Test.YtdnckakaoageoaaVFC
import Derived.Test.YtdnckakaoageoaaVFJ
namespace Go.Proofs.Ytdnckakaoageoaa
open Go.Sx Go.Pl Go.RowKit
theorem ag81FK : Ag Try.prog 81 2 := ⟨⟨_, Try.underlying81⟩, by kernel_rfl⟩
theorem ag90FK : Ag Try.prog 90 2 := ⟨⟨_, Try.underlying90⟩, by kernel_rfl⟩
theorem cl121FK : Callable Try.prog 121 := callable Try.func121 (by kernel_rfl) rfl
theorem cl148FK : Callable Try.prog 148 := callable Try.func148 (by kernel_rfl) rfl
theorem cl58FK : Callable Try.prog 58 := callable Try.func58 (by kernel_rfl) rfl
theorem cl60FK : Callable Try.prog 60 := callable Try.func60 (by kernel_rfl) rfl
theorem cl95FK : Callable Try.prog 95 := callable Try.func95 (by kernel_rfl) rfl
theorem cl97FK : Callable Try.prog 97 := callable Try.func97 (by kernel_rfl) rfl
theorem fa81_0FK : FieldAt Try.prog 81 0 0 := ⟨_, _, Try.underlying81, rfl, rfl, ⟨0, by unfold Sz; kernel_rfl⟩⟩
theorem fa81_1FK : FieldAt Try.prog 81 1 1 := ⟨_, _, Try.underlying81, rfl, rfl, ⟨0, by unfold Sz; kernel_rfl⟩⟩
theorem fa90_0FK : FieldAt Try.prog 90 0 0 := ⟨_, _, Try.underlying90, rfl, rfl, ⟨0, by unfold Sz; kernel_rfl⟩⟩
theorem fa90_1FK : FieldAt Try.prog 90 1 1 := ⟨_, _, Try.underlying90, rfl, rfl, ⟨0, by unfold Sz; kernel_rfl⟩⟩
theorem sc22FK : Sc Try.prog 22 := ⟨(.slice 3), by kernel_rfl, trivial⟩
theorem sc3FK : Sc Try.prog 3 := ⟨(.int .i64), by kernel_rfl, trivial⟩
theorem so183FK : SliceOf Try.prog 183 22 1 24 := ⟨by kernel_rfl, by kernel_rfl⟩
theorem so22FK : SliceOf Try.prog 22 3 1 8 := ⟨by kernel_rfl, by kernel_rfl⟩
theorem so86FK : SliceOf Try.prog 86 90 2 16 := ⟨by kernel_rfl, by kernel_rfl⟩
theorem sz90FK : Sz Try.prog 90 2 := by unfold Sz; kernel_rfl
theorem un86FK : Try.prog.underlying 86 = some (.slice 90) := by kernel_rfl
theorem zr22FK : ZeroV Try.prog 22 [.slice none 0 0] := by unfold ZeroV; kernel_rfl
theorem zr3FK : ZeroV Try.prog 3 [.int .i64 0] := by unfold ZeroV; kernel_rfl
theorem zr90FK : ZeroV Try.prog 90 [.int .i64 0, .int .i64 0] := by unfold ZeroV; kernel_rfl
/-- impl.BlockBits -/
theorem i_blockBits (m : Int) (q : Option Addr) (ys : List Int) (d : Nat) (n : Int) (p : Option Addr) (xs : List Int) (c : Nat) (w : World) (hp : Sl w p xs.length c 1 (ic xs)) (hl : xs.length ≤ 1099511627776) (hq : Sl w q ys.length d 1 (ic ys)) (hl2 : ys.length ≤ 1099511627776) :
    Calls Try.prog 56 [.agg [.int .i64 m, .slice q ys.length d].toArray, .slice p xs.length c, .int .i64 n].toArray w (RetP w fun v w' => ∃ p c F, v = .slice p (blockBits m ys xs n).length c ∧ Own w' p (blockBits m ys xs n).length c 3 1 (ic (blockBits m ys xs n)) F ∧ Fr w.heap.size F) := by
  have hpl := pairs_len ys
  have hsl := symBits_le xs m
  have L : Exm [] w w := Exm.rfl'
  refine enter (n := 55) Try.func56 rfl rfl rfl ?_
  refine wp_seq ?_
  refine c_reg ?_
  refine s_box rfl rfl ?_
  intro b1 w2 lob1 hib1 l3 B1
  have z_l3 := l3.size
  have L := L.tr l3.up
  refine s0 (x_assign (v := .slice _ _ _) rfl) ?_
  refine c_end ?_
  refine n_then ?_
  refine wp_seq ?_
  refine wp_seq ?_
  refine c_reg ?_
  refine st (x_loadAgB ag81FK rfl B1 rfl) ?_
  refine s0 (x_move (v := .slice _ _ _) rfl) ?_
  refine s0 (x_move (v := .int _ _) rfl) ?_
  refine srb (zcall cl121FK rfl) (i_blockOk _ _ _ _ _ _ _ _ _ (hp.ext L) (by omega) (hq.ext L) (by omega)) (fun h14 w4 l5 => ?_) (fun h14 w4 l5 => ?_)
  · have z_l5 := l5.size
    have L := L.tr l5.up
    have B1 := B1.ext l5
    refine s0 (x_not rfl) ?_
    refine c_end ?_
    refine n_then ?_
    refine c_false rfl ?_
    refine c_skipn ?_
    refine n_then ?_
    refine wp_seq ?_
    refine c_plan (fun wq => Exm [] w4 wq) 9 (.cons (0, 2) (.cons (1, 2) (.cons (2, 1) (.cons (4, 2) (.cons (5, 1) (.cons (3, 0) (.cons (6, 0) (.cons (7, 2) (.cons (8, 2) .nil))))))))) (by kernel_rfl) (by kernel_rfl) (Exm.drew _) ?_
    obtain ⟨w6, hwd⟩ : ∃ x, x = w4.drew := ⟨_, rfl⟩
    have l7 : Ext w4 w6 := by rw [hwd]; exact Exm.drew _
    rw [← hwd]; clear hwd
    have Lq : Exm [] w4 w6 := l7.up
    have qB1 := B1
    have qL := L
    have z_l7 := l7.size
    have L := L.tr l7.up
    have B1 := B1.ext l7
    refine p0 rfl (x_move (v := .slice _ _ _) rfl) ?_
    refine p0 rfl (x_fieldAddr fa81_0FK rfl) ?_
    refine ps rfl (fun wq hwq => x_loadB sc3FK rfl (qB1.ext hwq) rfl) ?_
    refine p0 rfl (x_fieldAddr fa81_1FK rfl) ?_
    refine ps rfl (fun wq hwq => x_loadB sc22FK rfl (qB1.ext hwq) rfl) ?_
    refine pu rfl ?_ (by rintro ⟨_, _, h, _⟩; cases h)
    refine sp (zcall cl148FK rfl) (i_symBits _ _ _ _ _ (hp.ext L) (by omega)) ?_
    rintro v19 w8 l9 ⟨p19, c19, F19, rfl, o19, f19⟩
    have z_l9 := l9.size
    have L := L.tr l9.up
    have Lq := Lq.tr l9.up
    have B1 := B1.ext l9
    have g19 := o19.lt
    refine c_end ⟨rfl, fun h hS => Lq, ?_⟩
    refine pu rfl ?_ (by rintro ⟨_, _, h, _⟩; cases h)
    refine sp (zcall cl58FK rfl) (i_pairsOf _ _ _ _ (hq.ext L) (by omega)) ?_
    rintro v22 w10 l11 ⟨p22, c22, F22, rfl, o22, f22⟩
    have z_l11 := l11.size
    have L := L.tr l11.up
    have Lq := Lq.tr l11.up
    have B1 := B1.ext l11
    have o19 := o19.ext l11
    have g22 := o22.lt
    refine c_end ⟨rfl, fun h hS => Lq, ?_⟩
    refine p0 rfl (x_assign (v := .slice _ _ _) rfl) ?_
    refine p0 rfl (x_assign (v := .slice _ _ _) rfl) ?_
    refine p_nil (np_normal ?_)
    refine n_then ?_
    refine wp_seq ?_
    refine wp_seq ?_
    refine c_reg ?_
    refine s0 (x_move (v := .slice _ _ _) rfl) ?_
    refine s0 (x_lensl un86FK rfl) ?_
    refine sb (x_eql rfl rfl) (fun h25 => ?_) (fun h25 => ?_)
    · refine c_end ?_
      refine n_then ?_
      refine c_true rfl ?_
      refine wp_seq ?_
      refine c_reg ?_
      refine s0 (x_move (v := .slice _ _ _) rfl) ?_
      refine s_bsi (xs := [_]) so22FK zr3FK (pts_cons rfl pts_nil) rfl rfl rfl ?_
      intro p27 F27 w12 l13 o27 f27 g27
      have z_l13 := l13.size
      have L := L.tr l13.up
      have B1 := B1.ext l13
      have o19 := o19.ext l13
      have o22 := o22.ext l13
      have hn27 := o27.n1
      refine s_appi (B := w6.heap.size) so22FK zr3FK rfl rfl (xs := _) o19 o27.sl f19 (by omega) (by omega) (by omega) ?_
      intro p28 c28 F28 w14 l15 o28 hn28 k28 f28 g28
      have ab1_28 : b1 ∉ F28 := k28.nin (by first | assumption | exact nin_of f19 g19 (by omega)) (by omega)
      have B1 := B1.exm l15 (by first | assumption | exact nin_of f19 g19 (by omega))
      have z_l15 := l15.size
      have L := L.freshL l15 f19 (by omega)
      have d22_28 : Dj F22 F28 := k28.dj (by first | assumption | exact Dj.symm (by assumption) | exact dj_of f22 g22 f19 g19 (by omega)) g22 (by omega)
      have o22 := o22.exm l15 (by first | assumption | exact Dj.symm (by assumption) | exact dj_of f19 g19 f22 g22 (by omega))
      have d27_28 : Dj F27 F28 := k28.dj (by first | assumption | exact Dj.symm (by assumption) | exact dj_of f27 g27 f19 g19 (by omega)) g27 (by omega)
      have o27 := o27.exm l15 (by first | assumption | exact Dj.symm (by assumption) | exact dj_of f19 g19 f27 g27 (by omega))
      refine s0 (x_assign (v := .slice _ _ _) rfl) ?_
      refine c_end ?_
      refine n_then ?_
      refine wp_ret (r_then ?_)
      refine f_ret rfl rfl ?_
      rw [block_none h14 (by omega)]
      exact ⟨_, rfl, L, _, _, _, rfl, o28, f28.mono (by omega)⟩
    · refine c_end ?_
      refine n_then ?_
      refine c_false rfl ?_
      refine c_skipn ?_
      refine n_then ?_
      refine wp_seq ?_
      have hul := ueBits_le (((pairsOf ys).length : Int) - 1)
      refine c_reg ?_
      refine s0 (x_move (v := .slice _ _ _) rfl) ?_
      refine s_bsi (xs := [_]) so22FK zr3FK (pts_cons rfl pts_nil) rfl rfl rfl ?_
      intro p30 F30 w16 l17 o30 f30 g30
      have z_l17 := l17.size
      have L := L.tr l17.up
      have B1 := B1.ext l17
      have o19 := o19.ext l17
      have o22 := o22.ext l17
      have hn30 := o30.n1
      refine s0 (x_move (v := .slice _ _ _) rfl) ?_
      refine s0 (x_lensl un86FK rfl) ?_
      refine s0 (x_sub rfl rfl (by omega)) ?_
      refine sp (zcall cl97FK rfl) (i_ueBits _ _) ?_
      rintro v34 w18 l19 ⟨p34, c34, F34, rfl, o34, f34⟩
      have z_l19 := l19.size
      have L := L.tr l19.up
      have B1 := B1.ext l19
      have o19 := o19.ext l19
      have o22 := o22.ext l19
      have o30 := o30.ext l19
      have g34 := o34.lt
      refine s_bsr (g := fun x : Li => .slice x.p x.xs.length x.c) (xs := [⟨p19, symBits xs m, c19, F19⟩, ⟨p30, [1], 1, F30⟩, ⟨p34, ueBits (((pairsOf ys).length : Int) - 1), c34, F34⟩]) (fun _ => rfl) lrow_len so183FK zr22FK (pts_cons rfl (pts_cons rfl (pts_cons rfl pts_nil))) rfl rfl rfl ?_
      intro p35 F35 w20 l21 o35 f35 g35
      have z_l21 := l21.size
      have L := L.tr l21.up
      have B1 := B1.ext l21
      have o19 := o19.ext l21
      have o22 := o22.ext l21
      have o30 := o30.ext l21
      have o34 := o34.ext l21
      have hn35 := o35.nr lrow_len (by decide)
      refine sp (zcall cl95FK rfl) (g_concat _ _ _ _ _ ⟨o35.sl, three o19.sl o30.sl o34.sl⟩ (by omega) (three (by show (symBits xs m).length ≤ 65536; omega) (by show 1 ≤ 65536; omega) (by show (ueBits (((pairsOf ys).length : Int) - 1)).length ≤ 65536; omega))) ?_
      rintro v36 w22 l23 ⟨p36, c36, F36, rfl, o36, f36⟩
      have z_l23 := l23.size
      have L := L.tr l23.up
      have B1 := B1.ext l23
      have o19 := o19.ext l23
      have o22 := o22.ext l23
      have o30 := o30.ext l23
      have o34 := o34.ext l23
      have o35 := o35.ext l23
      have g36 := o36.lt
      refine s0 (x_assign (v := .slice _ _ _) rfl) ?_
      refine c_end ?_
      refine n_then ?_
      refine wp_seq ?_
      refine wp_seq ?_
      have hjo : ([⟨p19, symBits xs m, c19, F19⟩, ⟨p30, [1], 1, F30⟩, ⟨p34, ueBits (((pairsOf ys).length : Int) - 1), c34, F34⟩] : List Li).flatMap Li.xs = blockA m ys xs ++ ((pairsOf ys).take 0).flatMap pairBits := by rw [flat3]; simp [blockA]
      refine c_reg ?_
      refine s0 (x_move (v := .slice _ _ _) rfl) ?_
      refine s0 (x_lensl un86FK rfl) ?_
      refine s0 (x_move (v := .int _ _) rfl) ?_
      refine c_end ?_
      refine n_then ?_
      refine wp_block ?_
      refine c_loop (γ := Nat) (fun k => (pairsOf ys).length - k) (fun (k : Nat) E wl => ∃ E0 pz7 cz7 Fz7, E = upd (upd (upd (upd E0 7 (.slice pz7 ((blockA m ys xs ++ ((pairsOf ys).take k).flatMap pairBits).length) cz7)) 37 (.slice p22 (pairsOf ys).length c22)) 38 (.int .i64 (pairsOf ys).length)) 39 (.int .i64 (k : Int)) ∧ (Exm [] w wl) ∧ (w22.heap.size ≤ wl.heap.size) ∧ (Bx wl b1 [.int .i64 m, .slice q ys.length d] 81) ∧ (Own wl p22 (pairsOf ys).length c22 90 2 ((pairsOf ys).flatMap erow) F22) ∧ (Own wl pz7 ((blockA m ys xs ++ ((pairsOf ys).take k).flatMap pairBits).length) cz7 3 1 (ic (blockA m ys xs ++ ((pairsOf ys).take k).flatMap pairBits)) Fz7) ∧ (Fr (w20.heap.size) Fz7) ∧ (Lt Fz7 wl.heap.size) ∧ (b1 ∉ Fz7) ∧ (Dj F22 Fz7) ∧ ((k : Int) ≤ (pairsOf ys).length)) 0 ⟨_, _, _, _, upd_self4 (slice_len (congrArg List.length hjo.symm)) rfl rfl rfl, L, (by omega), B1, o22, (own_eq hjo o36), (f36.mono (by omega)), (g36.mono (by omega)), (by first | assumption | exact nin_of f36 g36 (by omega)), (by first | assumption | exact Dj.symm (by assumption) | exact dj_of f22 g22 f36 g36 (by omega)), (by omega)⟩ ?_
      rintro k E wl24 ⟨E0, pz7, cz7, Fz7, rfl, L, Lz, B1, o22, oz7, fz7, gz7, ab1_z7, d22_z7, hk⟩
      have Lz0 := L.size
      have hal := blockA_len m ys xs
      have hpb := pairsBits_len ys k
      have hxl : (blockA m ys xs ++ ((pairsOf ys).take k).flatMap pairBits).length ≤ 100 + 62 * k := by rw [List.length_append]; omega
      refine wp_seq ?_
      refine c_reg ?_
      refine sb (x_lss rfl rfl) (fun h40 => ?_) (fun h40 => ?_)
      · refine c_end ?_
        refine n_then ?_
        refine wp_seq ?_
        refine c_true rfl ?_
        refine c_skipn ?_
        refine n_then ?_
        refine wp_seq ?_
        refine wp_block ?_
        refine wp_seq ?_
        refine c_reg ?_
        refine s0 (x_idx so86FK rfl rfl o22.sl (by decide) (by omega) (by omega)) ?_
        refine st (x_ldr erow_len ag90FK rfl o22.sl (by omega) (by omega)) ?_
        refine s_alloc zr90FK ?_
        intro b25 w26 lob25 hib25 l27 B25
        have z_l27 := l27.size
        have L := L.tr l27.up
        have B1 := B1.ext l27
        have o22 := o22.ext l27
        have oz7 := oz7.ext l27
        refine s_storeAg rfl sz90FK rfl rfl B25 rfl rfl rfl ?_
        intro w28 l29 el29 B25
        have z_l29 := l29.size
        have L := L.fresh l29 (by omega)
        have B1 := B1.ne l29 (by omega)
        have o22 := o22.ne l29 (by first | assumption | exact nin_of f22 g22 (by omega))
        have oz7 := oz7.ne l29 (by first | assumption | exact nin_of fz7 gz7 (by omega))
        refine c_end ?_
        refine n_then ?_
        have hpk := pairs_get (ys := ys) k (by omega)
        have hpk1 := hpk.1
        have hpk2 := hpk.2.1
        have hu1 := ueBits_le ((pairsOf ys).getD (k : Int).toNat default).1
        have hu2 := ueBits_le (numOf ((pairsOf ys).getD (k : Int).toNat default).2)
        refine c_plan (fun wq => Exm [] w28 wq) 11 (.cons (0, 2) (.cons (1, 2) (.cons (2, 1) (.cons (4, 2) (.cons (5, 1) (.cons (3, 0) (.cons (6, 0) (.cons (7, 0) (.cons (8, 0) (.cons (9, 0) (.cons (10, 2) .nil))))))))))) (by kernel_rfl) (by kernel_rfl) (Exm.drew _) ?_
        obtain ⟨w30, hwd⟩ : ∃ x, x = w28.drew := ⟨_, rfl⟩
        have l31 : Ext w28 w30 := by rw [hwd]; exact Exm.drew _
        rw [← hwd]; clear hwd
        have Lq : Exm [] w28 w30 := l31.up
        have qB1 := B1
        have qB25 := B25
        have qo22 := o22
        have qoz7 := oz7
        have qL := L
        have z_l31 := l31.size
        have L := L.tr l31.up
        have B1 := B1.ext l31
        have B25 := B25.ext l31
        have o22 := o22.ext l31
        have oz7 := oz7.ext l31
        refine p0 rfl (x_move (v := .slice _ _ _) rfl) ?_
        refine p0 rfl (x_fieldAddr fa90_0FK rfl) ?_
        refine ps rfl (fun wq hwq => x_loadB sc3FK rfl (qB25.ext hwq) rfl) ?_
        refine p0 rfl (x_fieldAddr fa90_1FK rfl) ?_
        refine ps rfl (fun wq hwq => x_loadB sc3FK rfl (qB25.ext hwq) rfl) ?_
        refine pu rfl ?_ (by rintro ⟨_, _, h, _⟩; cases h)
        refine sp (zcall cl97FK rfl) (i_ueBits _ _) ?_
        rintro v46 w32 l33 ⟨p46, c46, F46, rfl, o46, f46⟩
        have z_l33 := l33.size
        have L := L.tr l33.up
        have Lq := Lq.tr l33.up
        have B1 := B1.ext l33
        have B25 := B25.ext l33
        have o22 := o22.ext l33
        have oz7 := oz7.ext l33
        have g46 := o46.lt
        refine c_end ⟨rfl, fun h hS => Lq, ?_⟩
        refine pu rfl ?_ (by rintro ⟨_, _, h, _⟩; cases h)
        refine sr (zcall cl60FK rfl) (i_numOfLevel _ _ (by rw [Int.toNat_natCast]; omega)) ?_
        intro w34 l35
        have z_l35 := l35.size
        have L := L.tr l35.up
        have Lq := Lq.tr l35.up
        have B1 := B1.ext l35
        have B25 := B25.ext l35
        have o22 := o22.ext l35
        have oz7 := oz7.ext l35
        have o46 := o46.ext l35
        refine c_end ⟨rfl, fun h hS => Lq, ?_⟩
        refine pu rfl ?_ (by rintro ⟨_, _, h, _⟩; cases h)
        refine sp (zcall cl97FK rfl) (i_ueBits _ _) ?_
        rintro v50 w36 l37 ⟨p50, c50, F50, rfl, o50, f50⟩
        have z_l37 := l37.size
        have L := L.tr l37.up
        have Lq := Lq.tr l37.up
        have B1 := B1.ext l37
        have B25 := B25.ext l37
        have o22 := o22.ext l37
        have oz7 := oz7.ext l37
        have o46 := o46.ext l37
        have g50 := o50.lt
        refine c_end ⟨rfl, fun h hS => Lq, ?_⟩
        refine pu rfl ?_ (by rintro ⟨_, _, h, _⟩; cases h)
        refine s_bsr (g := fun x : Li => .slice x.p x.xs.length x.c) (xs := [⟨pz7, blockA m ys xs ++ ((pairsOf ys).take k).flatMap pairBits, cz7, Fz7⟩, ⟨p46, ueBits ((pairsOf ys).getD (k : Int).toNat default).1, c46, F46⟩, ⟨p50, ueBits (numOf ((pairsOf ys).getD (k : Int).toNat default).2), c50, F50⟩]) (fun _ => rfl) lrow_len so183FK zr22FK (pts_cons rfl (pts_cons rfl (pts_cons rfl pts_nil))) rfl rfl rfl ?_
        intro p51 F51 w38 l39 o51 f51 g51
        have z_l39 := l39.size
        have L := L.tr l39.up
        have Lq := Lq.tr l39.up
        have B1 := B1.ext l39
        have B25 := B25.ext l39
        have o22 := o22.ext l39
        have oz7 := oz7.ext l39
        have o46 := o46.ext l39
        have o50 := o50.ext l39
        have hn51 := o51.nr lrow_len (by decide)
        refine c_end ⟨rfl, fun h hS => Lq, ?_⟩
        refine pu rfl ?_ (by rintro ⟨_, _, h, _⟩; cases h)
        refine sp (zcall cl95FK rfl) (g_concat _ _ _ _ _ ⟨o51.sl, three oz7.sl o46.sl o50.sl⟩ (by omega) (three (by show (blockA m ys xs ++ ((pairsOf ys).take k).flatMap pairBits).length ≤ 65536; omega) (by show (ueBits ((pairsOf ys).getD (k : Int).toNat default).1).length ≤ 65536; omega) (by show (ueBits (numOf ((pairsOf ys).getD (k : Int).toNat default).2)).length ≤ 65536; omega))) ?_
        rintro v52 w40 l41 ⟨p52, c52, F52, rfl, o52, f52⟩
        have z_l41 := l41.size
        have L := L.tr l41.up
        have Lq := Lq.tr l41.up
        have B1 := B1.ext l41
        have B25 := B25.ext l41
        have o22 := o22.ext l41
        have oz7 := oz7.ext l41
        have o46 := o46.ext l41
        have o50 := o50.ext l41
        have o51 := o51.ext l41
        have g52 := o52.lt
        refine c_end ⟨rfl, fun h hS => Lq, ?_⟩
        refine p0 rfl (x_assign (v := .slice _ _ _) rfl) ?_
        refine p_nil (np_normal ?_)
        refine n_block ?_
        refine n_then ?_
        refine c_reg ?_
        refine s0 (x_add rfl rfl (by omega)) ?_
        refine s0 (x_move (v := .int _ _) rfl) ?_
        refine c_end ?_
        have hcc : ([⟨pz7, blockA m ys xs ++ ((pairsOf ys).take k).flatMap pairBits, cz7, Fz7⟩, ⟨p46, ueBits ((pairsOf ys).getD (k : Int).toNat default).1, c46, F46⟩, ⟨p50, ueBits (numOf ((pairsOf ys).getD (k : Int).toNat default).2), c50, F50⟩] : List Li).flatMap Li.xs = blockA m ys xs ++ ((pairsOf ys).take (k + 1)).flatMap pairBits := by rw [flat3, flat_take_succ _ _ (by omega), Int.toNat_natCast]; simp [pairBits]
        exact c_round (g' := k + 1) (by omega) ⟨_, _, _, _, upd_self4 (slice_len (congrArg List.length hcc.symm)) rfl rfl (vint (by omega)), L, (by omega), B1, o22, (own_eq hcc o52), (f52.mono (by omega)), (g52.mono (by omega)), (by first | assumption | exact nin_of f52 g52 (by omega)), (by first | assumption | exact Dj.symm (by assumption) | exact dj_of f22 g22 f52 g52 (by omega)), (by omega)⟩
      · refine c_end ?_
        refine n_then ?_
        refine wp_seq ?_
        refine c_false rfl ?_
        refine wp_exit (e_then (e_then (e_here ?_)))
        refine n_then ?_
        refine wp_seq ?_
        refine c_reg ?_
        refine s0 (x_move (v := .slice _ _ _) rfl) ?_
        refine s0 (x_assign (v := .slice _ _ _) rfl) ?_
        refine c_end ?_
        refine n_then ?_
        refine wp_ret ?_
        refine f_ret rfl rfl ?_
        rw [block_some h14 (by omega) (k := k) (by omega)]
        exact ⟨_, rfl, L, _, _, _, rfl, oz7, fz7.mono (by omega)⟩
  · have z_l5 := l5.size
    have L := L.tr l5.up
    have B1 := B1.ext l5
    refine s0 (x_not rfl) ?_
    refine c_end ?_
    refine n_then ?_
    refine c_true rfl ?_
    refine wp_seq ?_
    refine c_reg ?_
    refine s0 (x_assign (v := .slice _ _ _) rfl) ?_
    refine c_end ?_
    refine n_then ?_
    refine wp_ret (r_then ?_)
    refine f_ret rfl rfl ?_
    rw [blockBits_no h14]
    exact ⟨_, rfl, L, none, 0, [], rfl, Own.nil, Fr.no⟩

end Go.Proofs.Ytdnckakaoageoaa
