/- What each function of this part returns, for every argument that meets its premises. -/
import Derived.Test.YtnehdmcilmlchaaProg
import Derived.Test.YtnehdmcilmlchaaSxF
import Derived.Test.YtnehdmcilmlchaaPlY
import Derived.Test.YtnehdmcilmlchaaF1
import Derived.Test.YtnehdmcilmlchaaF2
import Derived.Test.YtnehdmcilmlchaaF3
import Derived.Test.YtnehdmcilmlchaaF9
import Derived.Test.YtnehdmcilmlchaaFB
import Derived.Test.YtnehdmcilmlchaaFC
import Derived.Test.YtnehdmcilmlchaaFD
import Derived.Test.YtnehdmcilmlchaaFJ
namespace Go.Proofs.Ytnehdmcilmlchaa
open Go.Sx Go.Pl Go.RowKit
theorem ag111FK : Ag Try.prog 111 2 := ⟨⟨_, Try.underlying111⟩, by kernel_rfl⟩
theorem ag128FK : Ag Try.prog 128 2 := ⟨⟨_, Try.underlying128⟩, by kernel_rfl⟩
theorem ag207FK : Ag Try.prog 207 2 := ⟨⟨_, Try.underlying207⟩, by kernel_rfl⟩
theorem ag25FK : Ag Try.prog 25 4 := ⟨⟨_, Try.underlying25⟩, by kernel_rfl⟩
theorem ag35FK : Ag Try.prog 35 2 := ⟨⟨_, Try.underlying35⟩, by kernel_rfl⟩
theorem bd35FK : Built Try.prog 35 [.string .empty, .int .i64 0] #[(0, 1), (1, 1)] := ⟨_, Try.underlying35, by unfold ZeroV; kernel_rfl, fun w => by kernel_rfl⟩
theorem cl100FK : Callable Try.prog 100 := callable Try.func100 (by kernel_rfl) rfl
theorem cl17FK : Callable Try.prog 17 := callable Try.func17 (by kernel_rfl) rfl
theorem cl172FK : Callable Try.prog 172 := callable Try.func172 (by kernel_rfl) rfl
theorem cl19FK : Callable Try.prog 19 := callable Try.func19 (by kernel_rfl) rfl
theorem cl191FK : Callable Try.prog 191 := callable Try.func191 (by kernel_rfl) rfl
theorem cl192FK : Callable Try.prog 192 := callable Try.func192 (by kernel_rfl) rfl
theorem cl193FK : Callable Try.prog 193 := callable Try.func193 (by kernel_rfl) rfl
theorem cl194FK : Callable Try.prog 194 := callable Try.func194 (by kernel_rfl) rfl
theorem cl197FK : Callable Try.prog 197 := callable Try.func197 (by kernel_rfl) rfl
theorem cl198FK : Callable Try.prog 198 := callable Try.func198 (by kernel_rfl) rfl
theorem cl199FK : Callable Try.prog 199 := callable Try.func199 (by kernel_rfl) rfl
theorem cl20FK : Callable Try.prog 20 := callable Try.func20 (by kernel_rfl) rfl
theorem cl200FK : Callable Try.prog 200 := callable Try.func200 (by kernel_rfl) rfl
theorem cl201FK : Callable Try.prog 201 := callable Try.func201 (by kernel_rfl) rfl
theorem cl202FK : Callable Try.prog 202 := callable Try.func202 (by kernel_rfl) rfl
theorem cl21FK : Callable Try.prog 21 := callable Try.func21 (by kernel_rfl) rfl
theorem cl37FK : Callable Try.prog 37 := callable Try.func37 (by kernel_rfl) rfl
theorem cl83FK : Callable Try.prog 83 := callable Try.func83 (by kernel_rfl) rfl
theorem cl86FK : Callable Try.prog 86 := callable Try.func86 (by kernel_rfl) rfl
theorem cl87FK : Callable Try.prog 87 := callable Try.func87 (by kernel_rfl) rfl
theorem cl88FK : Callable Try.prog 88 := callable Try.func88 (by kernel_rfl) rfl
theorem cl89FK : Callable Try.prog 89 := callable Try.func89 (by kernel_rfl) rfl
theorem cl90FK : Callable Try.prog 90 := callable Try.func90 (by kernel_rfl) rfl
theorem cl95FK : Callable Try.prog 95 := callable Try.func95 (by kernel_rfl) rfl
theorem cl97FK : Callable Try.prog 97 := callable Try.func97 (by kernel_rfl) rfl
theorem cl98FK : Callable Try.prog 98 := callable Try.func98 (by kernel_rfl) rfl
theorem cl99FK : Callable Try.prog 99 := callable Try.func99 (by kernel_rfl) rfl
theorem fa111_0FK : FieldAt Try.prog 111 0 0 := ⟨_, _, Try.underlying111, rfl, rfl, ⟨0, by unfold Sz; kernel_rfl⟩⟩
theorem fa111_1FK : FieldAt Try.prog 111 1 1 := ⟨_, _, Try.underlying111, rfl, rfl, ⟨0, by unfold Sz; kernel_rfl⟩⟩
theorem fa128_0FK : FieldAt Try.prog 128 0 0 := ⟨_, _, Try.underlying128, rfl, rfl, ⟨0, by unfold Sz; kernel_rfl⟩⟩
theorem fa128_1FK : FieldAt Try.prog 128 1 1 := ⟨_, _, Try.underlying128, rfl, rfl, ⟨0, by unfold Sz; kernel_rfl⟩⟩
theorem fa207_0FK : FieldAt Try.prog 207 0 0 := ⟨_, _, Try.underlying207, rfl, rfl, ⟨0, by unfold Sz; kernel_rfl⟩⟩
theorem fa207_1FK : FieldAt Try.prog 207 1 1 := ⟨_, _, Try.underlying207, rfl, rfl, ⟨0, by unfold Sz; kernel_rfl⟩⟩
theorem fa25_0FK : FieldAt Try.prog 25 0 0 := ⟨_, _, Try.underlying25, rfl, rfl, ⟨0, by unfold Sz; kernel_rfl⟩⟩
theorem fa35_1FK : FieldAt Try.prog 35 1 1 := ⟨_, _, Try.underlying35, rfl, rfl, ⟨0, by unfold Sz; kernel_rfl⟩⟩
theorem sc3FK : Sc Try.prog 3 := ⟨(.int .i64), by kernel_rfl, trivial⟩
theorem sc40FK : Sc Try.prog 40 := ⟨(.slice 3), by kernel_rfl, trivial⟩
theorem sc9FK : Sc Try.prog 9 := ⟨.string, by kernel_rfl, trivial⟩
theorem so204FK : SliceOf Try.prog 204 207 2 16 := ⟨by kernel_rfl, by kernel_rfl⟩
theorem so223FK : SliceOf Try.prog 223 40 1 24 := ⟨by kernel_rfl, by kernel_rfl⟩
theorem so26FK : SliceOf Try.prog 26 128 2 16 := ⟨by kernel_rfl, by kernel_rfl⟩
theorem so40FK : SliceOf Try.prog 40 3 1 8 := ⟨by kernel_rfl, by kernel_rfl⟩
theorem sz128FK : Sz Try.prog 128 2 := by unfold Sz; kernel_rfl
theorem sz207FK : Sz Try.prog 207 2 := by unfold Sz; kernel_rfl
theorem sz25FK : Sz Try.prog 25 4 := by unfold Sz; kernel_rfl
theorem sz35FK : Sz Try.prog 35 2 := by unfold Sz; kernel_rfl
theorem un204FK : Try.prog.underlying 204 = some (.slice 207) := by kernel_rfl
theorem un26FK : Try.prog.underlying 26 = some (.slice 128) := by kernel_rfl
theorem un9FK : Try.prog.underlying 9 = some .string := by kernel_rfl
theorem zr128FK : ZeroV Try.prog 128 [.int .i64 0, .int .i64 0] := by unfold ZeroV; kernel_rfl
theorem zr207FK : ZeroV Try.prog 207 [.int .i64 0, .int .i64 0] := by unfold ZeroV; kernel_rfl
theorem zr25FK : ZeroV Try.prog 25 [.string .empty, .int .i64 0, .int .i64 0, .int .i64 0] := by unfold ZeroV; kernel_rfl
theorem zr3FK : ZeroV Try.prog 3 [.int .i64 0] := by unfold ZeroV; kernel_rfl
theorem zr35FK : ZeroV Try.prog 35 [.string .empty, .int .i64 0] := by unfold ZeroV; kernel_rfl
theorem zr40FK : ZeroV Try.prog 40 [.slice none 0 0] := by unfold ZeroV; kernel_rfl
/-- impl.BlockBits -/
theorem i_blockBits (m : Int) (q : Option Addr) (ys : List Int) (d : Nat) (n : Int) (p : Option Addr) (xs : List Int) (c : Nat) (w : World) (hp : Sl w p xs.length c 1 (ic xs)) (hl : xs.length ≤ 1099511627776) (hq : Sl w q ys.length d 1 (ic ys)) (hl2 : ys.length ≤ 1099511627776) :
    Calls Try.prog 134 [.agg [.int .i64 m, .slice q ys.length d].toArray, .slice p xs.length c, .int .i64 n].toArray w (RetP w fun v w' => ∃ p c F, v = .slice p (blockBits m ys xs n).length c ∧ Own w' p (blockBits m ys xs n).length c 3 1 (ic (blockBits m ys xs n)) F ∧ Fr w.heap.size F) := by
  have hpl := pairs_len ys
  have hsl := symBits_le xs m
  have L : Exm [] w w := Exm.rfl'
  refine enter (n := 55) Try.func134 rfl rfl rfl ?_
  refine wp_seq ?_
  refine c_reg ?_
  refine s_box rfl rfl ?_
  intro b1 w2 lob1 hib1 l3 B1
  have z_l3 := l3.size
  have L := L.tr l3.up
  refine s0 (x_assign (v := .slice _ _ _) rfl) ?_
  refine c_end ?_
  refine n_then ?_
  refine wp_seq ?_
  refine wp_seq ?_
  refine c_reg ?_
  refine st (x_loadAgB ag111FK rfl B1 rfl) ?_
  refine s0 (x_move (v := .slice _ _ _) rfl) ?_
  refine s0 (x_move (v := .int _ _) rfl) ?_
  refine srb (zcall cl197FK rfl) (i_blockOk _ _ _ _ _ _ _ _ _ (hp.ext L) (by omega) (hq.ext L) (by omega)) (fun h14 w4 l5 => ?_) (fun h14 w4 l5 => ?_)
  · have z_l5 := l5.size
    have L := L.tr l5.up
    have B1 := B1.ext l5
    refine s0 (x_not rfl) ?_
    refine c_end ?_
    refine n_then ?_
    refine c_false rfl ?_
    refine c_skipn ?_
    refine n_then ?_
    refine wp_seq ?_
    refine c_plan (fun wq => Exm [] w4 wq) 9 (.cons (0, 2) (.cons (1, 2) (.cons (2, 1) (.cons (4, 2) (.cons (5, 1) (.cons (3, 0) (.cons (6, 0) (.cons (7, 2) (.cons (8, 2) .nil))))))))) (by kernel_rfl) (by kernel_rfl) (Exm.drew _) ?_
    obtain ⟨w6, hwd⟩ : ∃ x, x = w4.drew := ⟨_, rfl⟩
    have l7 : Ext w4 w6 := by rw [hwd]; exact Exm.drew _
    rw [← hwd]; clear hwd
    have Lq : Exm [] w4 w6 := l7.up
    have qB1 := B1
    have qL := L
    have z_l7 := l7.size
    have L := L.tr l7.up
    have B1 := B1.ext l7
    refine p0 rfl (x_move (v := .slice _ _ _) rfl) ?_
    refine p0 rfl (x_fieldAddr fa111_0FK rfl) ?_
    refine ps rfl (fun wq hwq => x_loadB sc3FK rfl (qB1.ext hwq) rfl) ?_
    refine p0 rfl (x_fieldAddr fa111_1FK rfl) ?_
    refine ps rfl (fun wq hwq => x_loadB sc40FK rfl (qB1.ext hwq) rfl) ?_
    refine pu rfl ?_ (by rintro ⟨_, _, h, _⟩; cases h)
    refine sp (zcall cl198FK rfl) (i_symBits _ _ _ _ _ (hp.ext L) (by omega)) ?_
    rintro v19 w8 l9 ⟨p19, c19, F19, rfl, o19, f19⟩
    have z_l9 := l9.size
    have L := L.tr l9.up
    have Lq := Lq.tr l9.up
    have B1 := B1.ext l9
    have g19 := o19.lt
    refine c_end ⟨rfl, fun h hS => Lq, ?_⟩
    refine pu rfl ?_ (by rintro ⟨_, _, h, _⟩; cases h)
    refine sp (zcall cl199FK rfl) (i_pairsOf _ _ _ _ (hq.ext L) (by omega)) ?_
    rintro v22 w10 l11 ⟨p22, c22, F22, rfl, o22, f22⟩
    have z_l11 := l11.size
    have L := L.tr l11.up
    have Lq := Lq.tr l11.up
    have B1 := B1.ext l11
    have o19 := o19.ext l11
    have g22 := o22.lt
    refine c_end ⟨rfl, fun h hS => Lq, ?_⟩
    refine p0 rfl (x_assign (v := .slice _ _ _) rfl) ?_
    refine p0 rfl (x_assign (v := .slice _ _ _) rfl) ?_
    refine p_nil (np_normal ?_)
    refine n_then ?_
    refine wp_seq ?_
    refine wp_seq ?_
    refine c_reg ?_
    refine s0 (x_move (v := .slice _ _ _) rfl) ?_
    refine s0 (x_lensl un204FK rfl) ?_
    refine sb (x_eql rfl rfl) (fun h25 => ?_) (fun h25 => ?_)
    · refine c_end ?_
      refine n_then ?_
      refine c_true rfl ?_
      refine wp_seq ?_
      refine c_reg ?_
      refine s0 (x_move (v := .slice _ _ _) rfl) ?_
      refine s_bsi (xs := [_]) so40FK zr3FK (pts_cons rfl pts_nil) rfl rfl rfl ?_
      intro p27 F27 w12 l13 o27 f27 g27
      have z_l13 := l13.size
      have L := L.tr l13.up
      have B1 := B1.ext l13
      have o19 := o19.ext l13
      have o22 := o22.ext l13
      have hn27 := o27.n1
      refine s_appi (B := w6.heap.size) so40FK zr3FK rfl rfl (xs := _) o19 o27.sl f19 (by omega) (by omega) (by omega) ?_
      intro p28 c28 F28 w14 l15 o28 hn28 k28 f28 g28
      have ab1_28 : b1 ∉ F28 := k28.nin (by first | assumption | exact nin_of f19 g19 (by omega)) (by omega)
      have B1 := B1.exm l15 (by first | assumption | exact nin_of f19 g19 (by omega))
      have z_l15 := l15.size
      have L := L.freshL l15 f19 (by omega)
      have d22_28 : Dj F22 F28 := k28.dj (by first | assumption | exact Dj.symm (by assumption) | exact dj_of f22 g22 f19 g19 (by omega)) g22 (by omega)
      have o22 := o22.exm l15 (by first | assumption | exact Dj.symm (by assumption) | exact dj_of f19 g19 f22 g22 (by omega))
      have d27_28 : Dj F27 F28 := k28.dj (by first | assumption | exact Dj.symm (by assumption) | exact dj_of f27 g27 f19 g19 (by omega)) g27 (by omega)
      have o27 := o27.exm l15 (by first | assumption | exact Dj.symm (by assumption) | exact dj_of f19 g19 f27 g27 (by omega))
      refine s0 (x_assign (v := .slice _ _ _) rfl) ?_
      refine c_end ?_
      refine n_then ?_
      refine wp_ret (r_then ?_)
      refine f_ret rfl rfl ?_
      rw [block_none h14 (by omega)]
      exact ⟨_, rfl, L, _, _, _, rfl, o28, f28.mono (by omega)⟩
    · refine c_end ?_
      refine n_then ?_
      refine c_false rfl ?_
      refine c_skipn ?_
      refine n_then ?_
      refine wp_seq ?_
      have hul := ueBits_le (((pairsOf ys).length : Int) - 1)
      refine c_reg ?_
      refine s0 (x_move (v := .slice _ _ _) rfl) ?_
      refine s_bsi (xs := [_]) so40FK zr3FK (pts_cons rfl pts_nil) rfl rfl rfl ?_
      intro p30 F30 w16 l17 o30 f30 g30
      have z_l17 := l17.size
      have L := L.tr l17.up
      have B1 := B1.ext l17
      have o19 := o19.ext l17
      have o22 := o22.ext l17
      have hn30 := o30.n1
      refine s0 (x_move (v := .slice _ _ _) rfl) ?_
      refine s0 (x_lensl un204FK rfl) ?_
      refine s0 (x_sub rfl rfl (by omega)) ?_
      refine sp (zcall cl201FK rfl) (i_ueBits _ _) ?_
      rintro v34 w18 l19 ⟨p34, c34, F34, rfl, o34, f34⟩
      have z_l19 := l19.size
      have L := L.tr l19.up
      have B1 := B1.ext l19
      have o19 := o19.ext l19
      have o22 := o22.ext l19
      have o30 := o30.ext l19
      have g34 := o34.lt
      refine s_bsr (g := fun x : Li => .slice x.p x.xs.length x.c) (xs := [⟨p19, symBits xs m, c19, F19⟩, ⟨p30, [1], 1, F30⟩, ⟨p34, ueBits (((pairsOf ys).length : Int) - 1), c34, F34⟩]) (fun _ => rfl) lrow_len so223FK zr40FK (pts_cons rfl (pts_cons rfl (pts_cons rfl pts_nil))) rfl rfl rfl ?_
      intro p35 F35 w20 l21 o35 f35 g35
      have z_l21 := l21.size
      have L := L.tr l21.up
      have B1 := B1.ext l21
      have o19 := o19.ext l21
      have o22 := o22.ext l21
      have o30 := o30.ext l21
      have o34 := o34.ext l21
      have hn35 := o35.nr lrow_len (by decide)
      refine sp (zcall cl200FK rfl) (g_concat _ _ _ _ _ ⟨o35.sl, three o19.sl o30.sl o34.sl⟩ (by omega) (three (by show (symBits xs m).length ≤ 65536; omega) (by show 1 ≤ 65536; omega) (by show (ueBits (((pairsOf ys).length : Int) - 1)).length ≤ 65536; omega))) ?_
      rintro v36 w22 l23 ⟨p36, c36, F36, rfl, o36, f36⟩
      have z_l23 := l23.size
      have L := L.tr l23.up
      have B1 := B1.ext l23
      have o19 := o19.ext l23
      have o22 := o22.ext l23
      have o30 := o30.ext l23
      have o34 := o34.ext l23
      have o35 := o35.ext l23
      have g36 := o36.lt
      refine s0 (x_assign (v := .slice _ _ _) rfl) ?_
      refine c_end ?_
      refine n_then ?_
      refine wp_seq ?_
      refine wp_seq ?_
      have hjo : ([⟨p19, symBits xs m, c19, F19⟩, ⟨p30, [1], 1, F30⟩, ⟨p34, ueBits (((pairsOf ys).length : Int) - 1), c34, F34⟩] : List Li).flatMap Li.xs = blockA m ys xs ++ ((pairsOf ys).take 0).flatMap pairBits := by rw [flat3]; simp [blockA]
      refine c_reg ?_
      refine s0 (x_move (v := .slice _ _ _) rfl) ?_
      refine s0 (x_lensl un204FK rfl) ?_
      refine s0 (x_move (v := .int _ _) rfl) ?_
      refine c_end ?_
      refine n_then ?_
      refine wp_block ?_
      refine c_loop (γ := Nat) (fun k => (pairsOf ys).length - k) (fun (k : Nat) E wl => ∃ E0 pz7 cz7 Fz7, E = upd (upd (upd (upd E0 7 (.slice pz7 ((blockA m ys xs ++ ((pairsOf ys).take k).flatMap pairBits).length) cz7)) 37 (.slice p22 (pairsOf ys).length c22)) 38 (.int .i64 (pairsOf ys).length)) 39 (.int .i64 (k : Int)) ∧ (Exm [] w wl) ∧ (w22.heap.size ≤ wl.heap.size) ∧ (Bx wl b1 [.int .i64 m, .slice q ys.length d] 111) ∧ (Own wl p22 (pairsOf ys).length c22 207 2 ((pairsOf ys).flatMap erow) F22) ∧ (Own wl pz7 ((blockA m ys xs ++ ((pairsOf ys).take k).flatMap pairBits).length) cz7 3 1 (ic (blockA m ys xs ++ ((pairsOf ys).take k).flatMap pairBits)) Fz7) ∧ (Fr (w20.heap.size) Fz7) ∧ (Lt Fz7 wl.heap.size) ∧ (b1 ∉ Fz7) ∧ (Dj F22 Fz7) ∧ ((k : Int) ≤ (pairsOf ys).length)) 0 ⟨_, _, _, _, upd_self4 (slice_len (congrArg List.length hjo.symm)) rfl rfl rfl, L, (by omega), B1, o22, (own_eq hjo o36), (f36.mono (by omega)), (g36.mono (by omega)), (by first | assumption | exact nin_of f36 g36 (by omega)), (by first | assumption | exact Dj.symm (by assumption) | exact dj_of f22 g22 f36 g36 (by omega)), (by omega)⟩ ?_
      rintro k E wl24 ⟨E0, pz7, cz7, Fz7, rfl, L, Lz, B1, o22, oz7, fz7, gz7, ab1_z7, d22_z7, hk⟩
      have Lz0 := L.size
      have hal := blockA_len m ys xs
      have hpb := pairsBits_len ys k
      have hxl : (blockA m ys xs ++ ((pairsOf ys).take k).flatMap pairBits).length ≤ 100 + 62 * k := by rw [List.length_append]; omega
      refine wp_seq ?_
      refine c_reg ?_
      refine sb (x_lss rfl rfl) (fun h40 => ?_) (fun h40 => ?_)
      · refine c_end ?_
        refine n_then ?_
        refine wp_seq ?_
        refine c_true rfl ?_
        refine c_skipn ?_
        refine n_then ?_
        refine wp_seq ?_
        refine wp_block ?_
        refine wp_seq ?_
        refine c_reg ?_
        refine s0 (x_idx so204FK rfl rfl o22.sl (by decide) (by omega) (by omega)) ?_
        refine st (x_ldr erow_len ag207FK rfl o22.sl (by omega) (by omega)) ?_
        refine s_alloc zr207FK ?_
        intro b25 w26 lob25 hib25 l27 B25
        have z_l27 := l27.size
        have L := L.tr l27.up
        have B1 := B1.ext l27
        have o22 := o22.ext l27
        have oz7 := oz7.ext l27
        refine s_storeAg rfl sz207FK rfl rfl B25 rfl rfl rfl ?_
        intro w28 l29 el29 B25
        have z_l29 := l29.size
        have L := L.fresh l29 (by omega)
        have B1 := B1.ne l29 (by omega)
        have o22 := o22.ne l29 (by first | assumption | exact nin_of f22 g22 (by omega))
        have oz7 := oz7.ne l29 (by first | assumption | exact nin_of fz7 gz7 (by omega))
        refine c_end ?_
        refine n_then ?_
        have hpk := pairs_get (ys := ys) k (by omega)
        have hpk1 := hpk.1
        have hpk2 := hpk.2.1
        have hu1 := ueBits_le ((pairsOf ys).getD (k : Int).toNat default).1
        have hu2 := ueBits_le (numOf ((pairsOf ys).getD (k : Int).toNat default).2)
        refine c_plan (fun wq => Exm [] w28 wq) 11 (.cons (0, 2) (.cons (1, 2) (.cons (2, 1) (.cons (4, 2) (.cons (5, 1) (.cons (3, 0) (.cons (6, 0) (.cons (7, 0) (.cons (8, 0) (.cons (9, 0) (.cons (10, 2) .nil))))))))))) (by kernel_rfl) (by kernel_rfl) (Exm.drew _) ?_
        obtain ⟨w30, hwd⟩ : ∃ x, x = w28.drew := ⟨_, rfl⟩
        have l31 : Ext w28 w30 := by rw [hwd]; exact Exm.drew _
        rw [← hwd]; clear hwd
        have Lq : Exm [] w28 w30 := l31.up
        have qB1 := B1
        have qB25 := B25
        have qo22 := o22
        have qoz7 := oz7
        have qL := L
        have z_l31 := l31.size
        have L := L.tr l31.up
        have B1 := B1.ext l31
        have B25 := B25.ext l31
        have o22 := o22.ext l31
        have oz7 := oz7.ext l31
        refine p0 rfl (x_move (v := .slice _ _ _) rfl) ?_
        refine p0 rfl (x_fieldAddr fa207_0FK rfl) ?_
        refine ps rfl (fun wq hwq => x_loadB sc3FK rfl (qB25.ext hwq) rfl) ?_
        refine p0 rfl (x_fieldAddr fa207_1FK rfl) ?_
        refine ps rfl (fun wq hwq => x_loadB sc3FK rfl (qB25.ext hwq) rfl) ?_
        refine pu rfl ?_ (by rintro ⟨_, _, h, _⟩; cases h)
        refine sp (zcall cl201FK rfl) (i_ueBits _ _) ?_
        rintro v46 w32 l33 ⟨p46, c46, F46, rfl, o46, f46⟩
        have z_l33 := l33.size
        have L := L.tr l33.up
        have Lq := Lq.tr l33.up
        have B1 := B1.ext l33
        have B25 := B25.ext l33
        have o22 := o22.ext l33
        have oz7 := oz7.ext l33
        have g46 := o46.lt
        refine c_end ⟨rfl, fun h hS => Lq, ?_⟩
        refine pu rfl ?_ (by rintro ⟨_, _, h, _⟩; cases h)
        refine sr (zcall cl202FK rfl) (i_numOfLevel _ _ (by rw [Int.toNat_natCast]; omega)) ?_
        intro w34 l35
        have z_l35 := l35.size
        have L := L.tr l35.up
        have Lq := Lq.tr l35.up
        have B1 := B1.ext l35
        have B25 := B25.ext l35
        have o22 := o22.ext l35
        have oz7 := oz7.ext l35
        have o46 := o46.ext l35
        refine c_end ⟨rfl, fun h hS => Lq, ?_⟩
        refine pu rfl ?_ (by rintro ⟨_, _, h, _⟩; cases h)
        refine sp (zcall cl201FK rfl) (i_ueBits _ _) ?_
        rintro v50 w36 l37 ⟨p50, c50, F50, rfl, o50, f50⟩
        have z_l37 := l37.size
        have L := L.tr l37.up
        have Lq := Lq.tr l37.up
        have B1 := B1.ext l37
        have B25 := B25.ext l37
        have o22 := o22.ext l37
        have oz7 := oz7.ext l37
        have o46 := o46.ext l37
        have g50 := o50.lt
        refine c_end ⟨rfl, fun h hS => Lq, ?_⟩
        refine pu rfl ?_ (by rintro ⟨_, _, h, _⟩; cases h)
        refine s_bsr (g := fun x : Li => .slice x.p x.xs.length x.c) (xs := [⟨pz7, blockA m ys xs ++ ((pairsOf ys).take k).flatMap pairBits, cz7, Fz7⟩, ⟨p46, ueBits ((pairsOf ys).getD (k : Int).toNat default).1, c46, F46⟩, ⟨p50, ueBits (numOf ((pairsOf ys).getD (k : Int).toNat default).2), c50, F50⟩]) (fun _ => rfl) lrow_len so223FK zr40FK (pts_cons rfl (pts_cons rfl (pts_cons rfl pts_nil))) rfl rfl rfl ?_
        intro p51 F51 w38 l39 o51 f51 g51
        have z_l39 := l39.size
        have L := L.tr l39.up
        have Lq := Lq.tr l39.up
        have B1 := B1.ext l39
        have B25 := B25.ext l39
        have o22 := o22.ext l39
        have oz7 := oz7.ext l39
        have o46 := o46.ext l39
        have o50 := o50.ext l39
        have hn51 := o51.nr lrow_len (by decide)
        refine c_end ⟨rfl, fun h hS => Lq, ?_⟩
        refine pu rfl ?_ (by rintro ⟨_, _, h, _⟩; cases h)
        refine sp (zcall cl200FK rfl) (g_concat _ _ _ _ _ ⟨o51.sl, three oz7.sl o46.sl o50.sl⟩ (by omega) (three (by show (blockA m ys xs ++ ((pairsOf ys).take k).flatMap pairBits).length ≤ 65536; omega) (by show (ueBits ((pairsOf ys).getD (k : Int).toNat default).1).length ≤ 65536; omega) (by show (ueBits (numOf ((pairsOf ys).getD (k : Int).toNat default).2)).length ≤ 65536; omega))) ?_
        rintro v52 w40 l41 ⟨p52, c52, F52, rfl, o52, f52⟩
        have z_l41 := l41.size
        have L := L.tr l41.up
        have Lq := Lq.tr l41.up
        have B1 := B1.ext l41
        have B25 := B25.ext l41
        have o22 := o22.ext l41
        have oz7 := oz7.ext l41
        have o46 := o46.ext l41
        have o50 := o50.ext l41
        have o51 := o51.ext l41
        have g52 := o52.lt
        refine c_end ⟨rfl, fun h hS => Lq, ?_⟩
        refine p0 rfl (x_assign (v := .slice _ _ _) rfl) ?_
        refine p_nil (np_normal ?_)
        refine n_block ?_
        refine n_then ?_
        refine c_reg ?_
        refine s0 (x_add rfl rfl (by omega)) ?_
        refine s0 (x_move (v := .int _ _) rfl) ?_
        refine c_end ?_
        have hcc : ([⟨pz7, blockA m ys xs ++ ((pairsOf ys).take k).flatMap pairBits, cz7, Fz7⟩, ⟨p46, ueBits ((pairsOf ys).getD (k : Int).toNat default).1, c46, F46⟩, ⟨p50, ueBits (numOf ((pairsOf ys).getD (k : Int).toNat default).2), c50, F50⟩] : List Li).flatMap Li.xs = blockA m ys xs ++ ((pairsOf ys).take (k + 1)).flatMap pairBits := by rw [flat3, flat_take_succ _ _ (by omega), Int.toNat_natCast]; simp [pairBits]
        exact c_round (g' := k + 1) (by omega) ⟨_, _, _, _, upd_self4 (slice_len (congrArg List.length hcc.symm)) rfl rfl (vint (by omega)), L, (by omega), B1, o22, (own_eq hcc o52), (f52.mono (by omega)), (g52.mono (by omega)), (by first | assumption | exact nin_of f52 g52 (by omega)), (by first | assumption | exact Dj.symm (by assumption) | exact dj_of f22 g22 f52 g52 (by omega)), (by omega)⟩
      · refine c_end ?_
        refine n_then ?_
        refine wp_seq ?_
        refine c_false rfl ?_
        refine wp_exit (e_then (e_then (e_here ?_)))
        refine n_then ?_
        refine wp_seq ?_
        refine c_reg ?_
        refine s0 (x_move (v := .slice _ _ _) rfl) ?_
        refine s0 (x_assign (v := .slice _ _ _) rfl) ?_
        refine c_end ?_
        refine n_then ?_
        refine wp_ret ?_
        refine f_ret rfl rfl ?_
        rw [block_some h14 (by omega) (k := k) (by omega)]
        exact ⟨_, rfl, L, _, _, _, rfl, oz7, fz7.mono (by omega)⟩
  · have z_l5 := l5.size
    have L := L.tr l5.up
    have B1 := B1.ext l5
    refine s0 (x_not rfl) ?_
    refine c_end ?_
    refine n_then ?_
    refine c_true rfl ?_
    refine wp_seq ?_
    refine c_reg ?_
    refine s0 (x_assign (v := .slice _ _ _) rfl) ?_
    refine c_end ?_
    refine n_then ?_
    refine wp_ret (r_then ?_)
    refine f_ret rfl rfl ?_
    rw [blockBits_no h14]
    exact ⟨_, rfl, L, none, 0, [], rfl, Own.nil, Fr.no⟩

/-- spec.BlockBits -/
theorem s_blockBits (m : Int) (q : Option Addr) (ys : List Int) (d : Nat) (n : Int) (p : Option Addr) (xs : List Int) (c : Nat) (w : World) (hp : Sl w p xs.length c 1 (ic xs)) (hl : xs.length ≤ 1099511627776) (hq : Sl w q ys.length d 1 (ic ys)) (hl2 : ys.length ≤ 1099511627776) :
    Calls Try.prog 130 [.agg [.int .i64 m, .slice q ys.length d].toArray, .slice p xs.length c, .int .i64 n].toArray w (RetP w fun v w' => ∃ p c F, v = .slice p (blockBits m ys xs n).length c ∧ Own w' p (blockBits m ys xs n).length c 3 1 (ic (blockBits m ys xs n)) F ∧ Fr w.heap.size F) := by
  have hpl := pairs_len ys
  have hsl := symBits_le xs m
  have L : Exm [] w w := Exm.rfl'
  refine enter (n := 61) Try.func130 rfl rfl rfl ?_
  refine wp_seq ?_
  refine c_reg ?_
  refine s_box rfl rfl ?_
  intro b1 w2 lob1 hib1 l3 B1
  have z_l3 := l3.size
  have L := L.tr l3.up
  refine s0 (x_assign (v := .slice _ _ _) rfl) ?_
  refine c_end ?_
  refine n_then ?_
  refine wp_seq ?_
  refine c_reg ?_
  refine s_bs0 so40FK ?_
  intro p10 F10 w4 l5 o10 f10 g10
  have o10 : Own w4 p10 0 0 3 1 (ic []) F10 := o10
  have z_l5 := l5.size
  have L := L.tr l5.up
  have B1 := B1.ext l5
  refine s0 (x_assign (v := .slice _ _ _) rfl) ?_
  refine c_end ?_
  refine n_then ?_
  refine wp_seq ?_
  refine wp_seq ?_
  refine c_reg ?_
  refine st (x_loadAgB ag111FK rfl B1 rfl) ?_
  refine s0 (x_move (v := .slice _ _ _) rfl) ?_
  refine s0 (x_move (v := .int _ _) rfl) ?_
  refine srb (zcall cl191FK rfl) (s_blockOk _ _ _ _ _ _ _ _ _ (hp.ext L) (by omega) (hq.ext L) (by omega)) (fun h14 w6 l7 => ?_) (fun h14 w6 l7 => ?_)
  · have z_l7 := l7.size
    have L := L.tr l7.up
    have B1 := B1.ext l7
    have o10 := o10.ext l7
    refine s0 (x_not rfl) ?_
    refine c_end ?_
    refine n_then ?_
    refine c_false rfl ?_
    refine c_skipn ?_
    refine n_then ?_
    refine wp_seq ?_
    refine c_reg ?_
    refine s0 (x_move (v := .slice _ _ _) rfl) ?_
    refine s0 (x_fieldAddr fa111_0FK rfl) ?_
    refine st (x_loadB sc3FK rfl B1 rfl) ?_
    refine sp (zcall cl192FK rfl) (s_symBits _ _ _ _ _ (hp.ext L) (by omega)) ?_
    rintro v20 w8 l9 ⟨p20, c20, F20, rfl, o20, f20⟩
    have z_l9 := l9.size
    have L := L.tr l9.up
    have B1 := B1.ext l9
    have o10 := o10.ext l9
    have g20 := o20.lt
    refine s0 (x_assign (v := .slice _ _ _) rfl) ?_
    refine c_end ?_
    refine n_then ?_
    refine wp_seq ?_
    refine c_reg ?_
    refine s0 (x_fieldAddr fa111_1FK rfl) ?_
    refine st (x_loadB sc40FK rfl B1 rfl) ?_
    refine sp (zcall cl193FK rfl) (s_pairsOf _ _ _ _ (hq.ext L) (by omega)) ?_
    rintro v23 w10 l11 ⟨p23, c23, F23, rfl, o23, f23⟩
    have z_l11 := l11.size
    have L := L.tr l11.up
    have B1 := B1.ext l11
    have o10 := o10.ext l11
    have o20 := o20.ext l11
    have g23 := o23.lt
    refine s0 (x_assign (v := .slice _ _ _) rfl) ?_
    refine c_end ?_
    refine n_then ?_
    refine wp_seq ?_
    refine wp_seq ?_
    refine c_reg ?_
    refine s0 (x_move (v := .slice _ _ _) rfl) ?_
    refine s0 (x_lensl un204FK rfl) ?_
    refine sb (x_eql rfl rfl) (fun h26 => ?_) (fun h26 => ?_)
    · refine c_end ?_
      refine n_then ?_
      refine c_true rfl ?_
      refine wp_seq ?_
      refine c_reg ?_
      refine s0 (x_move (v := .slice _ _ _) rfl) ?_
      refine s_bsi (xs := [_]) so40FK zr3FK (pts_cons rfl pts_nil) rfl rfl rfl ?_
      intro p28 F28 w12 l13 o28 f28 g28
      have z_l13 := l13.size
      have L := L.tr l13.up
      have B1 := B1.ext l13
      have o10 := o10.ext l13
      have o20 := o20.ext l13
      have o23 := o23.ext l13
      have hn28 := o28.n1
      refine s_appi (B := w6.heap.size) so40FK zr3FK rfl rfl (xs := _) o20 o28.sl f20 (by omega) (by omega) (by omega) ?_
      intro p29 c29 F29 w14 l15 o29 hn29 k29 f29 g29
      have ab1_29 : b1 ∉ F29 := k29.nin (by first | assumption | exact nin_of f20 g20 (by omega)) (by omega)
      have B1 := B1.exm l15 (by first | assumption | exact nin_of f20 g20 (by omega))
      have z_l15 := l15.size
      have L := L.freshL l15 f20 (by omega)
      have d10_29 : Dj F10 F29 := k29.dj (by first | assumption | exact Dj.symm (by assumption) | exact dj_of f10 g10 f20 g20 (by omega)) g10 (by omega)
      have o10 := o10.exm l15 (by first | assumption | exact Dj.symm (by assumption) | exact dj_of f20 g20 f10 g10 (by omega))
      have d23_29 : Dj F23 F29 := k29.dj (by first | assumption | exact Dj.symm (by assumption) | exact dj_of f23 g23 f20 g20 (by omega)) g23 (by omega)
      have o23 := o23.exm l15 (by first | assumption | exact Dj.symm (by assumption) | exact dj_of f20 g20 f23 g23 (by omega))
      have d28_29 : Dj F28 F29 := k29.dj (by first | assumption | exact Dj.symm (by assumption) | exact dj_of f28 g28 f20 g20 (by omega)) g28 (by omega)
      have o28 := o28.exm l15 (by first | assumption | exact Dj.symm (by assumption) | exact dj_of f20 g20 f28 g28 (by omega))
      refine s0 (x_assign (v := .slice _ _ _) rfl) ?_
      refine c_end ?_
      refine n_then ?_
      refine wp_ret (r_then ?_)
      refine f_ret rfl rfl ?_
      rw [block_none h14 (by omega)]
      exact ⟨_, rfl, L, _, _, _, rfl, o29, f29.mono (by omega)⟩
    · refine c_end ?_
      refine n_then ?_
      refine c_false rfl ?_
      refine c_skipn ?_
      refine n_then ?_
      refine wp_seq ?_
      have hul := ueBits_le (((pairsOf ys).length : Int) - 1)
      refine c_reg ?_
      refine s0 (x_move (v := .slice _ _ _) rfl) ?_
      refine s_bsi (xs := [_]) so40FK zr3FK (pts_cons rfl pts_nil) rfl rfl rfl ?_
      intro p31 F31 w16 l17 o31 f31 g31
      have z_l17 := l17.size
      have L := L.tr l17.up
      have B1 := B1.ext l17
      have o10 := o10.ext l17
      have o20 := o20.ext l17
      have o23 := o23.ext l17
      have hn31 := o31.n1
      refine s_appi (B := w6.heap.size) so40FK zr3FK rfl rfl (xs := _) o20 o31.sl f20 (by omega) (by omega) (by omega) ?_
      intro p32 c32 F32 w18 l19 o32 hn32 k32 f32 g32
      have ab1_32 : b1 ∉ F32 := k32.nin (by first | assumption | exact nin_of f20 g20 (by omega)) (by omega)
      have B1 := B1.exm l19 (by first | assumption | exact nin_of f20 g20 (by omega))
      have z_l19 := l19.size
      have L := L.freshL l19 f20 (by omega)
      have d10_32 : Dj F10 F32 := k32.dj (by first | assumption | exact Dj.symm (by assumption) | exact dj_of f10 g10 f20 g20 (by omega)) g10 (by omega)
      have o10 := o10.exm l19 (by first | assumption | exact Dj.symm (by assumption) | exact dj_of f20 g20 f10 g10 (by omega))
      have d23_32 : Dj F23 F32 := k32.dj (by first | assumption | exact Dj.symm (by assumption) | exact dj_of f23 g23 f20 g20 (by omega)) g23 (by omega)
      have o23 := o23.exm l19 (by first | assumption | exact Dj.symm (by assumption) | exact dj_of f20 g20 f23 g23 (by omega))
      have d31_32 : Dj F31 F32 := k32.dj (by first | assumption | exact Dj.symm (by assumption) | exact dj_of f31 g31 f20 g20 (by omega)) g31 (by omega)
      have o31 := o31.exm l19 (by first | assumption | exact Dj.symm (by assumption) | exact dj_of f20 g20 f31 g31 (by omega))
      refine s0 (x_move (v := .slice _ _ _) rfl) ?_
      refine s0 (x_lensl un204FK rfl) ?_
      refine s0 (x_sub rfl rfl (by omega)) ?_
      refine sp (zcall cl172FK rfl) (s_ueBits _ _) ?_
      rintro v36 w20 l21 ⟨p36, c36, F36, rfl, o36, f36⟩
      have z_l21 := l21.size
      have L := L.tr l21.up
      have B1 := B1.ext l21
      have o10 := o10.ext l21
      have o23 := o23.ext l21
      have o31 := o31.ext l21
      have o32 := o32.ext l21
      have g36 := o36.lt
      refine s_appi (B := w6.heap.size) so40FK zr3FK rfl rfl (xs := _) o32 o36.sl f32 (by omega) (by omega) (by omega) ?_
      intro p37 c37 F37 w22 l23 o37 hn37 k37 f37 g37
      have ab1_37 : b1 ∉ F37 := k37.nin (by first | assumption | exact nin_of f32 g32 (by omega)) (by omega)
      have B1 := B1.exm l23 (by first | assumption | exact nin_of f32 g32 (by omega))
      have z_l23 := l23.size
      have L := L.freshL l23 f32 (by omega)
      have d10_37 : Dj F10 F37 := k37.dj (by first | assumption | exact Dj.symm (by assumption) | exact dj_of f10 g10 f32 g32 (by omega)) g10 (by omega)
      have o10 := o10.exm l23 (by first | assumption | exact Dj.symm (by assumption) | exact dj_of f32 g32 f10 g10 (by omega))
      have d23_37 : Dj F23 F37 := k37.dj (by first | assumption | exact Dj.symm (by assumption) | exact dj_of f23 g23 f32 g32 (by omega)) g23 (by omega)
      have o23 := o23.exm l23 (by first | assumption | exact Dj.symm (by assumption) | exact dj_of f32 g32 f23 g23 (by omega))
      have d31_37 : Dj F31 F37 := k37.dj (by first | assumption | exact Dj.symm (by assumption) | exact dj_of f31 g31 f32 g32 (by omega)) g31 (by omega)
      have o31 := o31.exm l23 (by first | assumption | exact Dj.symm (by assumption) | exact dj_of f32 g32 f31 g31 (by omega))
      have d36_37 : Dj F36 F37 := k37.dj (by first | assumption | exact Dj.symm (by assumption) | exact dj_of f36 g36 f32 g32 (by omega)) g36 (by omega)
      have o36 := o36.exm l23 (by first | assumption | exact Dj.symm (by assumption) | exact dj_of f32 g32 f36 g36 (by omega))
      refine s0 (x_assign (v := .slice _ _ _) rfl) ?_
      refine c_end ?_
      refine n_then ?_
      refine wp_seq ?_
      refine wp_seq ?_
      refine c_reg ?_
      refine s0 (x_assign (v := .int _ _) rfl) ?_
      refine c_end ?_
      refine n_then ?_
      refine wp_block ?_
      refine c_loop (γ := Nat) (fun k => (pairsOf ys).length - k) (fun (k : Nat) E wl => ∃ E0 pz7 cz7 Fz7, E = upd (upd (upd E0 7 (.slice pz7 ((blockA m ys xs ++ ((pairsOf ys).take k).flatMap pairBits).length) cz7)) 8 (.slice p23 (pairsOf ys).length c23)) 9 (.int .i64 (k : Int)) ∧ (Exm [] w wl) ∧ (w22.heap.size ≤ wl.heap.size) ∧ (Bx wl b1 [.int .i64 m, .slice q ys.length d] 111) ∧ (Own wl p23 (pairsOf ys).length c23 207 2 ((pairsOf ys).flatMap erow) F23) ∧ (Own wl pz7 ((blockA m ys xs ++ ((pairsOf ys).take k).flatMap pairBits).length) cz7 3 1 (ic (blockA m ys xs ++ ((pairsOf ys).take k).flatMap pairBits)) Fz7) ∧ (Fr (w6.heap.size) Fz7) ∧ (Lt Fz7 wl.heap.size) ∧ (b1 ∉ Fz7) ∧ (Dj F23 Fz7) ∧ ((k : Int) ≤ (pairsOf ys).length)) 0 ⟨_, _, _, _, upd_self3 (slice_len (by simp [blockA])) rfl rfl, L, (by omega), B1, o23, (own_eq (by simp [blockA]) o37), (f37.mono (by omega)), (g37.mono (by omega)), (by first | assumption | exact nin_of f37 g37 (by omega)), (by first | assumption | exact Dj.symm (by assumption) | exact dj_of f23 g23 f37 g37 (by omega)), (by omega)⟩ ?_
      rintro k E wl24 ⟨E0, pz7, cz7, Fz7, rfl, L, Lz, B1, o23, oz7, fz7, gz7, ab1_z7, d23_z7, hk⟩
      have Lz0 := L.size
      have hal := blockA_len m ys xs
      have hpb := pairsBits_len ys k
      have hxl : (blockA m ys xs ++ ((pairsOf ys).take k).flatMap pairBits).length ≤ 100 + 62 * k := by rw [List.length_append]; omega
      refine wp_seq ?_
      refine wp_seq ?_
      refine c_reg ?_
      refine s0 (x_move (v := .int _ _) rfl) ?_
      refine s0 (x_move (v := .slice _ _ _) rfl) ?_
      refine s0 (x_lensl un204FK rfl) ?_
      refine sb (x_lss rfl rfl) (fun h41 => ?_) (fun h41 => ?_)
      · refine c_end ?_
        refine n_then ?_
        refine c_true rfl ?_
        refine c_skipn ?_
        refine n_then ?_
        refine wp_seq ?_
        refine wp_block ?_
        have hpk := pairs_get (ys := ys) k (by omega)
        have hpk1 := hpk.1
        have hpk2 := hpk.2.1
        have hu1 := ueBits_le ((pairsOf ys).getD (k : Int).toNat default).1
        have hu2 := ueBits_le (numOf ((pairsOf ys).getD (k : Int).toNat default).2)
        refine c_plan (fun wq => Exm Fz7 wl24 wq) 15 (.cons (0, 2) (.cons (1, 2) (.cons (2, 2) (.cons (3, 2) (.cons (4, 2) (.cons (5, 1) (.cons (8, 2) (.cons (9, 2) (.cons (10, 2) (.cons (11, 2) (.cons (12, 1) (.cons (6, 0) (.cons (7, 0) (.cons (13, 0) (.cons (14, 0) (.cons (15, 0) (.cons (16, 0) .nil))))))))))))))))) (by kernel_rfl) (by kernel_rfl) (Exm.drew _) ?_
        obtain ⟨w25, hwd⟩ : ∃ x, x = wl24.drew := ⟨_, rfl⟩
        have l26 : Ext wl24 w25 := by rw [hwd]; exact Exm.drew _
        rw [← hwd]; clear hwd
        have Lq : Exm Fz7 wl24 w25 := l26.up
        have qf := fz7
        have qB1 := B1
        have qo23 := o23
        have qoz7 := oz7
        have qL := L
        have z_l26 := l26.size
        have L := L.tr l26.up
        have B1 := B1.ext l26
        have o23 := o23.ext l26
        have oz7 := oz7.ext l26
        refine p0 rfl (x_move (v := .slice _ _ _) rfl) ?_
        refine p0 rfl (x_move (v := .slice _ _ _) rfl) ?_
        refine p0 rfl (x_move (v := .int _ _) rfl) ?_
        refine p0 rfl (x_idx so204FK rfl rfl o23.sl (by decide) (by omega) (by omega)) ?_
        refine p0 rfl (x_fieldAddr fa207_0FK rfl) ?_
        refine ps rfl (fun wq hwq => x_ldf (u := .int _ _) erow_len sc3FK rfl (qo23.exm hwq (by first | assumption | exact Dj.symm (by assumption) | exact dj_of fz7 gz7 f23 g23 (by omega))).sl (by omega) (by omega) (by decide) rfl) ?_
        refine p0 rfl (x_move (v := .slice _ _ _) rfl) ?_
        refine p0 rfl (x_move (v := .int _ _) rfl) ?_
        refine p0 rfl (x_idx so204FK rfl rfl o23.sl (by decide) (by omega) (by omega)) ?_
        refine p0 rfl (x_fieldAddr fa207_1FK rfl) ?_
        refine ps rfl (fun wq hwq => x_ldf (u := .int _ _) erow_len sc3FK rfl (qo23.exm hwq (by first | assumption | exact Dj.symm (by assumption) | exact dj_of fz7 gz7 f23 g23 (by omega))).sl (by omega) (by omega) (by decide) rfl) ?_
        refine pu rfl ?_ (by rintro ⟨_, _, h, _⟩; cases h)
        refine sp (zcall cl172FK rfl) (s_ueBits _ _) ?_
        rintro v50 w27 l28 ⟨p50, c50, F50, rfl, o50, f50⟩
        have z_l28 := l28.size
        have L := L.tr l28.up
        have Lq := Lq.tr l28.up
        have B1 := B1.ext l28
        have o23 := o23.ext l28
        have oz7 := oz7.ext l28
        have g50 := o50.lt
        refine c_end ⟨rfl, fun h hS => Lq, ?_⟩
        refine pu rfl ?_ (by rintro ⟨_, _, h, _⟩; cases h)
        refine s_appi (B := w6.heap.size) so40FK zr3FK rfl rfl (xs := _) oz7 o50.sl fz7 (by omega) (by omega) (by omega) ?_
        intro p51 c51 F51 w29 l30 o51 hn51 k51 f51 g51
        have ab1_51 : b1 ∉ F51 := k51.nin (by first | assumption | exact nin_of fz7 gz7 (by omega)) (by omega)
        have B1 := B1.exm l30 (by first | assumption | exact nin_of fz7 gz7 (by omega))
        have z_l30 := l30.size
        have L := L.freshL l30 fz7 (by omega)
        have Lq := Lq.withinL l30 (by simp)
        have d23_51 : Dj F23 F51 := k51.dj (by first | assumption | exact Dj.symm (by assumption) | exact dj_of f23 g23 fz7 gz7 (by omega)) g23 (by omega)
        have o23 := o23.exm l30 (by first | assumption | exact Dj.symm (by assumption) | exact dj_of fz7 gz7 f23 g23 (by omega))
        have d50_51 : Dj F50 F51 := k51.dj (by first | assumption | exact Dj.symm (by assumption) | exact dj_of f50 g50 fz7 gz7 (by omega)) g50 (by omega)
        have o50 := o50.exm l30 (by first | assumption | exact Dj.symm (by assumption) | exact dj_of fz7 gz7 f50 g50 (by omega))
        refine c_end ⟨rfl, fun h hS => Lq, ?_⟩
        refine pu rfl ?_ (by rintro ⟨_, _, h, _⟩; cases h)
        refine sr (zcall cl194FK rfl) (s_numOfLevel _ _ (by rw [Int.toNat_natCast]; omega)) ?_
        intro w31 l32
        have z_l32 := l32.size
        have L := L.tr l32.up
        have Lq := Lq.tr l32.up
        have B1 := B1.ext l32
        have o23 := o23.ext l32
        have o50 := o50.ext l32
        have o51 := o51.ext l32
        refine c_end ⟨rfl, fun h hS => Lq, ?_⟩
        refine pu rfl ?_ (by rintro ⟨_, _, h, _⟩; cases h)
        refine sp (zcall cl172FK rfl) (s_ueBits _ _) ?_
        rintro v58 w33 l34 ⟨p58, c58, F58, rfl, o58, f58⟩
        have z_l34 := l34.size
        have L := L.tr l34.up
        have Lq := Lq.tr l34.up
        have B1 := B1.ext l34
        have o23 := o23.ext l34
        have o50 := o50.ext l34
        have o51 := o51.ext l34
        have g58 := o58.lt
        refine c_end ⟨rfl, fun h hS => Lq, ?_⟩
        refine pu rfl ?_ (by rintro ⟨_, _, h, _⟩; cases h)
        refine s_appi (B := w6.heap.size) so40FK zr3FK rfl rfl (xs := _) o51 o58.sl f51 (by omega) (by omega) (by omega) ?_
        intro p59 c59 F59 w35 l36 o59 hn59 k59 f59 g59
        have ab1_59 : b1 ∉ F59 := k59.nin (by first | assumption | exact nin_of f51 g51 (by omega)) (by omega)
        have B1 := B1.exm l36 (by first | assumption | exact nin_of f51 g51 (by omega))
        have z_l36 := l36.size
        have L := L.freshL l36 f51 (by omega)
        have d23_59 : Dj F23 F59 := k59.dj (by first | assumption | exact Dj.symm (by assumption) | exact dj_of f23 g23 f51 g51 (by omega)) g23 (by omega)
        have o23 := o23.exm l36 (by first | assumption | exact Dj.symm (by assumption) | exact dj_of f51 g51 f23 g23 (by omega))
        have d50_59 : Dj F50 F59 := k59.dj (by first | assumption | exact Dj.symm (by assumption) | exact dj_of f50 g50 f51 g51 (by omega)) g50 (by omega)
        have o50 := o50.exm l36 (by first | assumption | exact Dj.symm (by assumption) | exact dj_of f51 g51 f50 g50 (by omega))
        have d58_59 : Dj F58 F59 := k59.dj (by first | assumption | exact Dj.symm (by assumption) | exact dj_of f58 g58 f51 g51 (by omega)) g58 (by omega)
        have o58 := o58.exm l36 (by first | assumption | exact Dj.symm (by assumption) | exact dj_of f51 g51 f58 g58 (by omega))
        refine c_end ⟨rfl, fun h hS => absurd h (by decide), ?_⟩
        refine pu rfl ?_ (by rintro ⟨_, _, h, _⟩; cases h)
        refine s0 (x_assign (v := .slice _ _ _) rfl) ?_
        refine c_end ⟨rfl, fun h hS => absurd h (by decide), ?_⟩
        refine p_nil (np_normal ?_)
        refine n_block ?_
        refine n_then ?_
        refine c_reg ?_
        refine s0 (x_move (v := .int _ _) rfl) ?_
        refine s0 (x_add rfl rfl (by omega)) ?_
        refine s0 (x_assign (v := .int _ _) rfl) ?_
        refine c_end ?_
        have hcc : blockA m ys xs ++ ((pairsOf ys).take k).flatMap pairBits ++ ueBits ((pairsOf ys).getD (k : Int).toNat default).1 ++ ueBits (numOf ((pairsOf ys).getD (k : Int).toNat default).2) = blockA m ys xs ++ ((pairsOf ys).take (k + 1)).flatMap pairBits := by rw [flat_take_succ _ _ (by omega), Int.toNat_natCast]; simp [pairBits]
        exact c_round (g' := k + 1) (by omega) ⟨_, _, _, _, upd_self3 (slice_len (congrArg List.length hcc.symm)) rfl (vint (by omega)), L, (by omega), B1, o23, (own_eq hcc o59), (f59.mono (by omega)), (g59.mono (by omega)), (by first | assumption | exact nin_of f59 g59 (by omega)), (by first | assumption | exact Dj.symm (by assumption) | exact dj_of f23 g23 f59 g59 (by omega)), (by omega)⟩
      · refine c_end ?_
        refine n_then ?_
        refine c_false rfl ?_
        refine wp_exit (e_then (e_then (e_here ?_)))
        refine n_then ?_
        refine wp_seq ?_
        refine c_reg ?_
        refine s0 (x_move (v := .slice _ _ _) rfl) ?_
        refine s0 (x_assign (v := .slice _ _ _) rfl) ?_
        refine c_end ?_
        refine n_then ?_
        refine wp_ret ?_
        refine f_ret rfl rfl ?_
        rw [block_some h14 (by omega) (k := k) (by omega)]
        exact ⟨_, rfl, L, _, _, _, rfl, oz7, fz7.mono (by omega)⟩
  · have z_l7 := l7.size
    have L := L.tr l7.up
    have B1 := B1.ext l7
    have o10 := o10.ext l7
    refine s0 (x_not rfl) ?_
    refine c_end ?_
    refine n_then ?_
    refine c_true rfl ?_
    refine wp_seq ?_
    refine c_reg ?_
    refine s0 (x_move (v := .slice _ _ _) rfl) ?_
    refine s0 (x_assign (v := .slice _ _ _) rfl) ?_
    refine c_end ?_
    refine n_then ?_
    refine wp_ret (r_then ?_)
    refine f_ret rfl rfl ?_
    rw [blockBits_no h14]
    exact ⟨_, rfl, L, _, _, _, rfl, o10, f10.mono (by omega)⟩

/-- laws.markBlock -/
theorem l_markBlock (m : Int) (pA : Option Addr) (n c : Nat) (xs : List Int) (k : Int) (FA : List Nat) (w : World) (oA : Own w pA n c 3 1 (ic xs) FA) (hl : n ≤ 1099511627776) (hk : 0 ≤ k ∧ k ≤ 1099511627776) :
    Calls Try.prog 76 [.agg [.int .i64 m, .slice pA n c].toArray, .int .i64 k].toArray w (RetM FA w fun v w' => v = .int .i64 (k + n) ∧ Own w' pA n c 3 1 (ic (mkI k n)) FA) := by
  obtain rfl : n = xs.length := oA.n1
  have fA : Fr 0 FA := fun _ _ => Nat.zero_le _
  have gA := oA.lt
  have hnA := oA.n1
  have L : Exm FA w w := Exm.rfl'
  refine enter (n := 10) Try.func76 rfl rfl rfl ?_
  refine wp_seq ?_
  refine c_reg ?_
  refine s_box rfl rfl ?_
  intro b1 w2 lob1 hib1 l3 B1
  have z_l3 := l3.size
  have L := L.tr l3.up
  have oA := oA.ext l3
  refine s0 (x_assign (v := .int _ _) rfl) ?_
  refine c_end ?_
  refine n_then ?_
  refine wp_seq ?_
  refine c_reg ?_
  refine s0 (x_fieldAddr fa111_1FK rfl) ?_
  refine st (x_loadB sc40FK rfl B1 rfl) ?_
  refine s0 (x_move (v := .int _ _) rfl) ?_
  refine spm (zcall cl37FK rfl) (l_markIntS _ _ _ _ _ _ oA (by omega) (by omega)) ?_
  rintro v8 w4 l5 ⟨rfl, oA⟩
  have z_l5 := l5.size
  have L := L.withinL l5 (by simp)
  have B1 := B1.exm l5 (by first | assumption | exact nin_of fA gA (by omega))
  refine s0 (x_assign (v := .int _ _) rfl) ?_
  refine c_end ?_
  refine n_then ?_
  refine wp_seq ?_
  refine c_reg ?_
  refine s0 (x_move (v := .int _ _) rfl) ?_
  refine s0 (x_assign (v := .int _ _) rfl) ?_
  refine c_end ?_
  refine n_then ?_
  refine wp_ret ?_
  refine f_ret rfl rfl ?_
  exact ⟨_, rfl, L, rfl, oA⟩

theorem fu_no {s : ByteArray} {ca : Ca} {t : List (Int × Int)} {e : Int} (h : fuE s ca t = e) (he : e ≠ 0) : Ending.returned (.tuple [.agg [.string s, .int .i64 (ca).pos, .int .i64 (ca).word, .int .i64 (ca).hv].toArray, .int .i64 0, .int .i64 e].toArray) = .returned (.tuple [.agg [.string s, .int .i64 (fuC s ca t).pos, .int .i64 (fuC s ca t).word, .int .i64 (fuC s ca t).hv].toArray, .int .i64 (fuV s ca t), .int .i64 (fuE s ca t)].toArray) := by
  subst h; simp only [fuC, fuV, if_neg he]
theorem fu_yes {s : ByteArray} {ca : Ca} {t : List (Int × Int)} {a v : Int} (h : fuE s ca t = 0) (ha : a = fuAt s ca t) (hv : v = if fuHit s ca t then (t.getD (fuIx s ca) default).2 else ueV s (8 * ca.pos - ca.hv)) : Ending.returned (.tuple [.agg [.string s, .int .i64 (settledAt s a).pos, .int .i64 (settledAt s a).word, .int .i64 (settledAt s a).hv].toArray, .int .i64 v, .int .i64 0].toArray) = .returned (.tuple [.agg [.string s, .int .i64 (fuC s ca t).pos, .int .i64 (fuC s ca t).word, .int .i64 (fuC s ca t).hv].toArray, .int .i64 (fuV s ca t), .int .i64 (fuE s ca t)].toArray) := by
  subst ha hv; simp only [fuC, fuV, h, if_pos]
theorem fuE_bad {s : ByteArray} {c : Ca} {t : List (Int × Int)} (h : ¬ caOk s c) : fuE s c t = 1 := by unfold fuE; rw [if_pos h]
theorem fuE_hit {s : ByteArray} {c : Ca} {t : List (Int × Int)} (h : caOk s c) (h1 : fuHit s c t) : fuE s c t = if 8 * c.pos - c.hv + (t.getD (fuIx s c) default).1 > 8 * s.size then 1 else 0 := by unfold fuE; rw [if_neg (fun h2 => h2 h), if_pos h1]
theorem fuE_miss {s : ByteArray} {c : Ca} {t : List (Int × Int)} (h : caOk s c) (h1 : ¬ fuHit s c t) : fuE s c t = ueE s (8 * c.pos - c.hv) := by unfold fuE; rw [if_neg (fun h2 => h2 h), if_neg h1]
theorem fuAt_hit {s : ByteArray} {c : Ca} {t : List (Int × Int)} (h1 : fuHit s c t) : fuAt s c t = 8 * c.pos - c.hv + (t.getD (fuIx s c) default).1 := by unfold fuAt; rw [if_pos h1]
theorem fuAt_miss {s : ByteArray} {c : Ca} {t : List (Int × Int)} (h1 : ¬ fuHit s c t) : fuAt s c t = ueAt s (8 * c.pos - c.hv) := by unfold fuAt; rw [if_neg h1]

/-- spec.l7Reader -/
theorem s_l7Reader (s : ByteArray) (c : Ca) (w : World) (hs : s.size ≤ 1048576) :
    Calls Try.prog 100 [.agg [.string s, .int .i64 (c).pos, .int .i64 (c).word, .int .i64 (c).hv].toArray].toArray w (Ret w (.agg [.string s, .int .i64 (placeOf s c)].toArray)) := by
  have L : Exm [] w w := Exm.rfl'
  refine enter (n := 8) Try.func100 rfl rfl rfl ?_
  refine wp_seq ?_
  refine c_reg ?_
  refine s_box rfl rfl ?_
  intro b1 w2 lob1 hib1 l3 B1
  have z_l3 := l3.size
  have L := L.tr l3.up
  refine s_alloc zr35FK ?_
  intro b4 w5 lob4 hib4 l6 B4
  have z_l6 := l6.size
  have L := L.tr l6.up
  have B1 := B1.ext l6
  refine c_end ?_
  refine n_then ?_
  refine wp_seq ?_
  refine c_plan (fun wq => Exm [b4] w5 wq) 6 (.cons (0, 2) (.cons (1, 1) (.cons (2, 1) (.cons (3, 0) (.cons (4, 2) (.cons (5, 0) .nil)))))) (by kernel_rfl) (by kernel_rfl) (Exm.drew _) ?_
  obtain ⟨w7, hwd⟩ : ∃ x, x = w5.drew := ⟨_, rfl⟩
  have l8 : Ext w5 w7 := by rw [hwd]; exact Exm.drew _
  rw [← hwd]; clear hwd
  have Lq : Exm [b4] w5 w7 := l8.up
  have qB1 := B1
  have qB4 := B4
  have qL := L
  have z_l8 := l8.size
  have L := L.tr l8.up
  have B1 := B1.ext l8
  have B4 := B4.ext l8
  refine p0 rfl (x_fieldAddr fa25_0FK rfl) ?_
  refine ps rfl (fun wq hwq => x_loadB sc9FK rfl (qB1.ne hwq (by omega)) rfl) ?_
  refine ps rfl (fun wq hwq => x_loadAgB ag25FK rfl (qB1.ne hwq (by omega)) rfl) ?_
  refine pu rfl ?_ (by rintro ⟨_, _, h, _⟩; cases h)
  refine sr (zcall cl20FK rfl) (s_place _ _ _ (by omega)) ?_
  intro w9 l10
  have z_l10 := l10.size
  have L := L.tr l10.up
  have Lq := Lq.tr l10.up
  have B1 := B1.ext l10
  have B4 := B4.ext l10
  refine c_end ⟨rfl, fun h hS => Lq, ?_⟩
  refine p0 rfl (x_build (cs := [.string _, .int _ _]) bd35FK (pts_cons (v := .string _) rfl (pts_cons (v := .int _ _) rfl pts_nil)) rfl) ?_
  refine pu rfl ?_ (by rintro ⟨_, _, h, _⟩; cases h)
  refine s_storeAg rfl sz35FK rfl rfl B4 rfl rfl rfl ?_
  intro w11 l12 el12 B4
  have z_l12 := l12.size
  have L := L.fresh l12 (by omega)
  have Lq := Lq.within l12 (by simp)
  have B1 := B1.ne l12 (by omega)
  refine c_end ⟨rfl, fun h hS => Lq, ?_⟩
  refine p_nil (np_normal ?_)
  refine n_then ?_
  refine wp_ret ?_
  refine f_retc rfl rfl ag35FK B4 rfl ?_
  exact ⟨rfl, L⟩

/-- impl.FastUe -/
theorem i_fastUe (s : ByteArray) (ca : Ca) (p : Option Addr) (t : List (Int × Int)) (c : Nat) (w : World) (hs : s.size ≤ 1048576) (hp : Sl w p t.length c 2 (t.flatMap erow)) (hl : t.length ≤ 1099511627776) :
    Calls Try.prog 13 [.agg [.string s, .int .i64 (ca).pos, .int .i64 (ca).word, .int .i64 (ca).hv].toArray, .slice p t.length c].toArray w (Ret w (.tuple [.agg [.string s, .int .i64 (fuC s ca t).pos, .int .i64 (fuC s ca t).word, .int .i64 (fuC s ca t).hv].toArray, .int .i64 (fuV s ca t), .int .i64 (fuE s ca t)].toArray)) := by
  have L : Exm [] w w := Exm.rfl'
  refine enter (n := 69) Try.func13 rfl rfl rfl ?_
  refine wp_seq ?_
  refine c_reg ?_
  refine s_box rfl rfl ?_
  intro b1 w2 lob1 hib1 l3 B1
  have z_l3 := l3.size
  have L := L.tr l3.up
  refine s_alloc zr25FK ?_
  intro b4 w5 lob4 hib4 l6 B4
  have z_l6 := l6.size
  have L := L.tr l6.up
  have B1 := B1.ext l6
  refine s0 (x_assign (v := .int _ _) rfl) ?_
  refine s0 (x_assign (v := .int _ _) rfl) ?_
  refine c_end ?_
  refine n_then ?_
  refine wp_seq ?_
  refine wp_seq ?_
  refine c_reg ?_
  refine st (x_loadAgB ag25FK rfl B1 rfl) ?_
  refine srb (zcall cl86FK rfl) (i_cacheOk _ _ _ _ _ (by omega)) (fun h13 w7 l8 => ?_) (fun h13 w7 l8 => ?_)
  · have z_l8 := l8.size
    have L := L.tr l8.up
    have B1 := B1.ext l8
    have B4 := B4.ext l8
    refine s0 (x_not rfl) ?_
    refine c_end ?_
    refine n_then ?_
    refine c_false rfl ?_
    refine c_skipn ?_
    refine n_then ?_
    refine wp_seq ?_
    have hpl := place_of h13
    have hin := place_in h13
    rw [← hpl] at hin
    have hue := ueAt_in hin
    refine c_reg ?_
    refine st (x_loadAgB ag25FK rfl B1 rfl) ?_
    refine sr (zcall cl21FK rfl) (i_place _ _ _ (by omega)) ?_
    intro w9 l10
    have z_l10 := l10.size
    have L := L.tr l10.up
    have B1 := B1.ext l10
    have B4 := B4.ext l10
    refine s0 (x_assign (v := .int _ _) rfl) ?_
    refine c_end ?_
    refine n_then ?_
    refine wp_seq ?_
    refine wp_seq ?_
    refine c_reg ?_
    refine s0 (x_move (v := .slice _ _ _) rfl) ?_
    refine s0 (x_lensl un26FK rfl) ?_
    refine sb (x_eql rfl rfl) (fun h20 => ?_) (fun h20 => ?_)
    · refine c_end ?_
      refine n_then ?_
      refine c_true rfl ?_
      refine wp_seq ?_
      have h9 : 0 ≤ bitsOf s (placeOf s ca) (9 : Int).toNat ∧ bitsOf s (placeOf s ca) (9 : Int).toNat < 512 := bitsOf_range s (placeOf s ca) 9
      have ht : t.length = 512 := by omega
      refine c_reg ?_
      refine s0 (x_move (v := .slice _ _ _) rfl) ?_
      refine s0 (x_fieldAddr fa25_0FK rfl) ?_
      refine st (x_loadB sc9FK rfl B1 rfl) ?_
      refine s0 (x_move (v := .int _ _) rfl) ?_
      refine sr (zcall cl87FK rfl) (i_bits _ _ _ _ (by omega) (by omega) (by omega)) ?_
      intro w11 l12
      have z_l12 := l12.size
      have L := L.tr l12.up
      have B1 := B1.ext l12
      have B4 := B4.ext l12
      refine s0 (x_idx so26FK rfl rfl hp (by decide) (by omega) (by omega)) ?_
      refine st (x_ldr erow_len ag128FK rfl (hp.ext L) (by omega) (by omega)) ?_
      refine s_alloc zr128FK ?_
      intro b13 w14 lob13 hib13 l15 B13
      have z_l15 := l15.size
      have L := L.tr l15.up
      have B1 := B1.ext l15
      have B4 := B4.ext l15
      refine s_storeAg rfl sz128FK rfl rfl B13 rfl rfl rfl ?_
      intro w16 l17 el17 B13
      have z_l17 := l17.size
      have L := L.fresh l17 (by omega)
      have B1 := B1.ne l17 (by omega)
      have B4 := B4.ne l17 (by omega)
      refine c_end ?_
      refine n_then ?_
      refine wp_seq ?_
      refine c_reg ?_
      refine s0 (x_fieldAddr fa128_0FK rfl) ?_
      refine st (x_loadB sc3FK rfl B13 rfl) ?_
      refine srb (zcall cl88FK rfl) (i_within _ _ _ _) (fun h30 w18 l19 => ?_) (fun h30 w18 l19 => ?_)
      · have z_l19 := l19.size
        have L := L.tr l19.up
        have B1 := B1.ext l19
        have B4 := B4.ext l19
        have B13 := B13.ext l19
        refine c_end ?_
        refine n_then ?_
        refine c_true rfl ?_
        refine wp_seq ?_
        refine wp_seq ?_
        have hhit : fuHit s ca t := ⟨by omega, by rw [hpl] at h30; exact h30⟩
        have hfa := fuAt_hit hhit
        have hfe := fuE_hit h13 hhit
        refine c_reg ?_
        refine s0 (x_move (v := .int _ _) rfl) ?_
        refine s0 (x_fieldAddr fa128_0FK rfl) ?_
        refine st (x_loadB sc3FK rfl B13 rfl) ?_
        refine s0 (x_add rfl rfl (by omega)) ?_
        refine s0 (x_fieldAddr fa25_0FK rfl) ?_
        refine st (x_loadB sc9FK rfl B1 rfl) ?_
        refine s0 (x_len un9FK rfl) ?_
        refine s0 (x_mul rfl rfl (by omega)) ?_
        refine sb (x_gtr rfl rfl) (fun h39 => ?_) (fun h39 => ?_)
        · refine c_end ?_
          refine n_then ?_
          refine c_true rfl ?_
          refine wp_seq ?_
          refine c_reg ?_
          refine st (x_loadAgB ag25FK rfl B1 rfl) ?_
          refine s_storeAg rfl sz25FK rfl rfl B4 rfl rfl rfl ?_
          intro w20 l21 el21 B4
          have z_l21 := l21.size
          have L := L.fresh l21 (by omega)
          have B1 := B1.ne l21 (by omega)
          have B13 := B13.ne l21 (by omega)
          refine s0 (x_assign (v := .int _ _) rfl) ?_
          refine s0 (x_assign (v := .int _ _) rfl) ?_
          refine c_end ?_
          refine n_then ?_
          refine wp_ret (r_then (r_then ?_))
          refine f_rets3 rfl (ro_cell rfl ag25FK B4 rfl) (ro_tmp rfl) (ro_tmp rfl) ?_
          rw [hpl] at h39
          exact ⟨fu_no (hfe.trans (if_pos h39)) (by decide), L⟩
        · refine c_end ?_
          refine n_then ?_
          refine c_false rfl ?_
          refine c_skipn ?_
          refine n_then ?_
          refine wp_seq ?_
          refine c_plan (fun wq => Exm [b4] w18 wq) 12 (.cons (0, 2) (.cons (1, 1) (.cons (2, 2) (.cons (3, 2) (.cons (4, 1) (.cons (5, 2) (.cons (7, 2) (.cons (8, 1) (.cons (6, 0) (.cons (9, 0) (.cons (10, 2) (.cons (11, 2) .nil)))))))))))) (by kernel_rfl) (by kernel_rfl) (Exm.drew _) ?_
          obtain ⟨w22, hwd⟩ : ∃ x, x = w18.drew := ⟨_, rfl⟩
          have l23 : Ext w18 w22 := by rw [hwd]; exact Exm.drew _
          rw [← hwd]; clear hwd
          have Lq : Exm [b4] w18 w22 := l23.up
          have qB1 := B1
          have qB4 := B4
          have qB13 := B13
          have qL := L
          have z_l23 := l23.size
          have L := L.tr l23.up
          have B1 := B1.ext l23
          have B4 := B4.ext l23
          have B13 := B13.ext l23
          refine p0 rfl (x_fieldAddr fa25_0FK rfl) ?_
          refine ps rfl (fun wq hwq => x_loadB sc9FK rfl (qB1.ne hwq (by omega)) rfl) ?_
          refine p0 rfl (x_move (v := .int _ _) rfl) ?_
          refine p0 rfl (x_fieldAddr fa128_0FK rfl) ?_
          refine ps rfl (fun wq hwq => x_loadB sc3FK rfl (qB13.ne hwq (by omega)) rfl) ?_
          refine p0 rfl (x_add rfl rfl (by omega)) ?_
          refine p0 rfl (x_fieldAddr fa128_1FK rfl) ?_
          refine ps rfl (fun wq hwq => x_loadB sc3FK rfl (qB13.ne hwq (by omega)) rfl) ?_
          refine pu rfl ?_ (by rintro ⟨_, _, h, _⟩; cases h)
          refine sr (zcall cl89FK rfl) (i_settledAt _ _ _ (by omega) (by omega)) ?_
          intro w24 l25
          have z_l25 := l25.size
          have L := L.tr l25.up
          have Lq := Lq.tr l25.up
          have B1 := B1.ext l25
          have B4 := B4.ext l25
          have B13 := B13.ext l25
          refine c_end ⟨rfl, fun h hS => Lq, ?_⟩
          refine pu rfl ?_ (by rintro ⟨_, _, h, _⟩; cases h)
          refine s_storeAg rfl sz25FK rfl rfl B4 rfl rfl rfl ?_
          intro w26 l27 el27 B4
          have z_l27 := l27.size
          have L := L.fresh l27 (by omega)
          have Lq := Lq.within l27 (by simp)
          have B1 := B1.ne l27 (by omega)
          have B13 := B13.ne l27 (by omega)
          refine c_end ⟨rfl, fun h hS => Lq, ?_⟩
          refine p0 rfl (x_assign (v := .int _ _) rfl) ?_
          refine p0 rfl (x_assign (v := .int _ _) rfl) ?_
          refine p_nil (np_normal ?_)
          refine n_then ?_
          refine wp_ret (r_then ?_)
          refine f_rets3 rfl (ro_cell rfl ag25FK B4 rfl) (ro_tmp rfl) (ro_tmp rfl) ?_
          rw [hpl] at h39
          exact ⟨fu_yes (hfe.trans (if_neg h39)) (by rw [hfa, hpl]; rfl) (by rw [if_pos hhit, hpl]; rfl), L⟩
      · have z_l19 := l19.size
        have L := L.tr l19.up
        have B1 := B1.ext l19
        have B4 := B4.ext l19
        have B13 := B13.ext l19
        refine c_end ?_
        refine n_then ?_
        refine c_false rfl ?_
        refine c_skipn ?_
        refine n_then ?_
        refine wp_seq ?_
        have hmis : ¬ fuHit s ca t := fun h => h30 (by rw [hpl]; exact h.2)
        refine c_reg ?_
        refine s0 (x_fieldAddr fa25_0FK rfl) ?_
        refine st (x_loadB sc9FK rfl B1 rfl) ?_
        refine s0 (x_move (v := .int _ _) rfl) ?_
        refine s0 (x_build (cs := [.string _, .int _ _]) bd35FK (pts_cons (v := .string _) rfl (pts_cons (v := .int _ _) rfl pts_nil)) rfl) ?_
        refine sr (zcall cl90FK rfl) (i_ue _ _ _ (by omega)) ?_
        intro w28 l29
        have z_l29 := l29.size
        have L := L.tr l29.up
        have B1 := B1.ext l29
        have B4 := B4.ext l29
        have B13 := B13.ext l29
        refine s0 (x_move (v := .tuple _) rfl) ?_
        refine s0 (x_extract rfl rfl) ?_
        refine s0 (x_extract rfl rfl) ?_
        refine s0 (x_extract rfl rfl) ?_
        refine s_alloc zr35FK ?_
        intro b30 w31 lob30 hib30 l32 B30
        have z_l32 := l32.size
        have L := L.tr l32.up
        have B1 := B1.ext l32
        have B4 := B4.ext l32
        have B13 := B13.ext l32
        refine s_storeAg rfl sz35FK rfl rfl B30 rfl rfl rfl ?_
        intro w33 l34 el34 B30
        have z_l34 := l34.size
        have L := L.fresh l34 (by omega)
        have B1 := B1.ne l34 (by omega)
        have B4 := B4.ne l34 (by omega)
        have B13 := B13.ne l34 (by omega)
        refine s0 (x_assign (v := .int _ _) rfl) ?_
        refine s0 (x_assign (v := .int _ _) rfl) ?_
        refine c_end ?_
        refine n_then ?_
        refine wp_seq ?_
        refine wp_seq ?_
        refine c_reg ?_
        refine s0 (x_move (v := .int _ _) rfl) ?_
        refine sb (x_neq rfl rfl) (fun h60 => ?_) (fun h60 => ?_)
        · refine c_end ?_
          refine n_then ?_
          refine c_true rfl ?_
          refine wp_seq ?_
          refine c_reg ?_
          refine st (x_loadAgB ag25FK rfl B1 rfl) ?_
          refine s0 (x_move (v := .int _ _) rfl) ?_
          refine s_storeAg rfl sz25FK rfl rfl B4 rfl rfl rfl ?_
          intro w35 l36 el36 B4
          have z_l36 := l36.size
          have L := L.fresh l36 (by omega)
          have B1 := B1.ne l36 (by omega)
          have B13 := B13.ne l36 (by omega)
          have B30 := B30.ne l36 (by omega)
          refine s0 (x_assign (v := .int _ _) rfl) ?_
          refine s0 (x_assign (v := .int _ _) rfl) ?_
          refine c_end ?_
          refine n_then ?_
          refine wp_ret (r_then ?_)
          refine f_rets3 rfl (ro_cell rfl ag25FK B4 rfl) (ro_tmp rfl) (ro_tmp rfl) ?_
          have hfe := fuE_miss h13 hmis
          rw [← hpl] at hfe
          exact ⟨fu_no hfe h60, L⟩
        · refine c_end ?_
          refine n_then ?_
          refine c_false rfl ?_
          refine c_skipn ?_
          refine n_then ?_
          refine wp_seq ?_
          refine c_reg ?_
          refine s0 (x_fieldAddr fa25_0FK rfl) ?_
          refine st (x_loadB sc9FK rfl B1 rfl) ?_
          refine s0 (x_fieldAddr fa35_1FK rfl) ?_
          refine st (x_loadB sc3FK rfl B30 rfl) ?_
          refine sr (zcall cl89FK rfl) (i_settledAt _ _ _ (by omega) (by omega)) ?_
          intro w37 l38
          have z_l38 := l38.size
          have L := L.tr l38.up
          have B1 := B1.ext l38
          have B4 := B4.ext l38
          have B13 := B13.ext l38
          have B30 := B30.ext l38
          refine s0 (x_move (v := .int _ _) rfl) ?_
          refine s_storeAg rfl sz25FK rfl rfl B4 rfl rfl rfl ?_
          intro w39 l40 el40 B4
          have z_l40 := l40.size
          have L := L.fresh l40 (by omega)
          have B1 := B1.ne l40 (by omega)
          have B13 := B13.ne l40 (by omega)
          have B30 := B30.ne l40 (by omega)
          refine s0 (x_assign (v := .int _ _) rfl) ?_
          refine s0 (x_assign (v := .int _ _) rfl) ?_
          refine c_end ?_
          refine n_then ?_
          refine wp_ret ?_
          refine f_rets3 rfl (ro_cell rfl ag25FK B4 rfl) (ro_tmp rfl) (ro_tmp rfl) ?_
          have hfe := fuE_miss h13 hmis
          have hfa := fuAt_miss hmis
          rw [← hpl] at hfe hfa
          exact ⟨fu_yes (hfe.trans (Classical.not_not.1 h60)) hfa.symm (by rw [if_neg hmis, hpl]), L⟩
    · refine c_end ?_
      refine n_then ?_
      refine c_false rfl ?_
      refine c_skipn ?_
      refine n_then ?_
      refine wp_seq ?_
      have hmis : ¬ fuHit s ca t := fun h => h20 (by have := h.1; omega)
      refine c_reg ?_
      refine s0 (x_fieldAddr fa25_0FK rfl) ?_
      refine st (x_loadB sc9FK rfl B1 rfl) ?_
      refine s0 (x_move (v := .int _ _) rfl) ?_
      refine s0 (x_build (cs := [.string _, .int _ _]) bd35FK (pts_cons (v := .string _) rfl (pts_cons (v := .int _ _) rfl pts_nil)) rfl) ?_
      refine sr (zcall cl90FK rfl) (i_ue _ _ _ (by omega)) ?_
      intro w41 l42
      have z_l42 := l42.size
      have L := L.tr l42.up
      have B1 := B1.ext l42
      have B4 := B4.ext l42
      refine s0 (x_move (v := .tuple _) rfl) ?_
      refine s0 (x_extract rfl rfl) ?_
      refine s0 (x_extract rfl rfl) ?_
      refine s0 (x_extract rfl rfl) ?_
      refine s_alloc zr35FK ?_
      intro b43 w44 lob43 hib43 l45 B43
      have z_l45 := l45.size
      have L := L.tr l45.up
      have B1 := B1.ext l45
      have B4 := B4.ext l45
      refine s_storeAg rfl sz35FK rfl rfl B43 rfl rfl rfl ?_
      intro w46 l47 el47 B43
      have z_l47 := l47.size
      have L := L.fresh l47 (by omega)
      have B1 := B1.ne l47 (by omega)
      have B4 := B4.ne l47 (by omega)
      refine s0 (x_assign (v := .int _ _) rfl) ?_
      refine s0 (x_assign (v := .int _ _) rfl) ?_
      refine c_end ?_
      refine n_then ?_
      refine wp_seq ?_
      refine wp_seq ?_
      refine c_reg ?_
      refine s0 (x_move (v := .int _ _) rfl) ?_
      refine sb (x_neq rfl rfl) (fun h60 => ?_) (fun h60 => ?_)
      · refine c_end ?_
        refine n_then ?_
        refine c_true rfl ?_
        refine wp_seq ?_
        refine c_reg ?_
        refine st (x_loadAgB ag25FK rfl B1 rfl) ?_
        refine s0 (x_move (v := .int _ _) rfl) ?_
        refine s_storeAg rfl sz25FK rfl rfl B4 rfl rfl rfl ?_
        intro w48 l49 el49 B4
        have z_l49 := l49.size
        have L := L.fresh l49 (by omega)
        have B1 := B1.ne l49 (by omega)
        have B43 := B43.ne l49 (by omega)
        refine s0 (x_assign (v := .int _ _) rfl) ?_
        refine s0 (x_assign (v := .int _ _) rfl) ?_
        refine c_end ?_
        refine n_then ?_
        refine wp_ret (r_then ?_)
        refine f_rets3 rfl (ro_cell rfl ag25FK B4 rfl) (ro_tmp rfl) (ro_tmp rfl) ?_
        have hfe := fuE_miss h13 hmis
        rw [← hpl] at hfe
        exact ⟨fu_no hfe h60, L⟩
      · refine c_end ?_
        refine n_then ?_
        refine c_false rfl ?_
        refine c_skipn ?_
        refine n_then ?_
        refine wp_seq ?_
        refine c_reg ?_
        refine s0 (x_fieldAddr fa25_0FK rfl) ?_
        refine st (x_loadB sc9FK rfl B1 rfl) ?_
        refine s0 (x_fieldAddr fa35_1FK rfl) ?_
        refine st (x_loadB sc3FK rfl B43 rfl) ?_
        refine sr (zcall cl89FK rfl) (i_settledAt _ _ _ (by omega) (by omega)) ?_
        intro w50 l51
        have z_l51 := l51.size
        have L := L.tr l51.up
        have B1 := B1.ext l51
        have B4 := B4.ext l51
        have B43 := B43.ext l51
        refine s0 (x_move (v := .int _ _) rfl) ?_
        refine s_storeAg rfl sz25FK rfl rfl B4 rfl rfl rfl ?_
        intro w52 l53 el53 B4
        have z_l53 := l53.size
        have L := L.fresh l53 (by omega)
        have B1 := B1.ne l53 (by omega)
        have B43 := B43.ne l53 (by omega)
        refine s0 (x_assign (v := .int _ _) rfl) ?_
        refine s0 (x_assign (v := .int _ _) rfl) ?_
        refine c_end ?_
        refine n_then ?_
        refine wp_ret ?_
        refine f_rets3 rfl (ro_cell rfl ag25FK B4 rfl) (ro_tmp rfl) (ro_tmp rfl) ?_
        have hfe := fuE_miss h13 hmis
        have hfa := fuAt_miss hmis
        rw [← hpl] at hfe hfa
        exact ⟨fu_yes (hfe.trans (Classical.not_not.1 h60)) hfa.symm (by rw [if_neg hmis, hpl]), L⟩
  · have z_l8 := l8.size
    have L := L.tr l8.up
    have B1 := B1.ext l8
    have B4 := B4.ext l8
    refine s0 (x_not rfl) ?_
    refine c_end ?_
    refine n_then ?_
    refine c_true rfl ?_
    refine wp_seq ?_
    refine c_reg ?_
    refine st (x_loadAgB ag25FK rfl B1 rfl) ?_
    refine s_storeAg rfl sz25FK rfl rfl B4 rfl rfl rfl ?_
    intro w54 l55 el55 B4
    have z_l55 := l55.size
    have L := L.fresh l55 (by omega)
    have B1 := B1.ne l55 (by omega)
    refine s0 (x_assign (v := .int _ _) rfl) ?_
    refine s0 (x_assign (v := .int _ _) rfl) ?_
    refine c_end ?_
    refine n_then ?_
    refine wp_ret (r_then ?_)
    refine f_rets3 rfl (ro_cell rfl ag25FK B4 rfl) (ro_tmp rfl) (ro_tmp rfl) ?_
    exact ⟨fu_no (fuE_bad h13) (by decide), L⟩

/-- spec.FastUe -/
theorem s_fastUe (s : ByteArray) (ca : Ca) (p : Option Addr) (t : List (Int × Int)) (c : Nat) (w : World) (hs : s.size ≤ 1048576) (hp : Sl w p t.length c 2 (t.flatMap erow)) (hl : t.length ≤ 1099511627776) :
    Calls Try.prog 18 [.agg [.string s, .int .i64 (ca).pos, .int .i64 (ca).word, .int .i64 (ca).hv].toArray, .slice p t.length c].toArray w (Ret w (.tuple [.agg [.string s, .int .i64 (fuC s ca t).pos, .int .i64 (fuC s ca t).word, .int .i64 (fuC s ca t).hv].toArray, .int .i64 (fuV s ca t), .int .i64 (fuE s ca t)].toArray)) := by
  have L : Exm [] w w := Exm.rfl'
  refine enter (n := 72) Try.func18 rfl rfl rfl ?_
  refine wp_seq ?_
  refine c_reg ?_
  refine s_box rfl rfl ?_
  intro b1 w2 lob1 hib1 l3 B1
  have z_l3 := l3.size
  have L := L.tr l3.up
  refine s_alloc zr25FK ?_
  intro b4 w5 lob4 hib4 l6 B4
  have z_l6 := l6.size
  have L := L.tr l6.up
  have B1 := B1.ext l6
  refine s0 (x_assign (v := .int _ _) rfl) ?_
  refine s0 (x_assign (v := .int _ _) rfl) ?_
  refine c_end ?_
  refine n_then ?_
  refine wp_seq ?_
  refine wp_seq ?_
  refine c_reg ?_
  refine st (x_loadAgB ag25FK rfl B1 rfl) ?_
  refine srb (zcall cl17FK rfl) (s_cacheOk _ _ _ _ _ (by omega)) (fun h15 w7 l8 => ?_) (fun h15 w7 l8 => ?_)
  · have z_l8 := l8.size
    have L := L.tr l8.up
    have B1 := B1.ext l8
    have B4 := B4.ext l8
    refine s0 (x_not rfl) ?_
    refine c_end ?_
    refine n_then ?_
    refine c_false rfl ?_
    refine c_skipn ?_
    refine n_then ?_
    refine wp_seq ?_
    have hpl := place_of h15
    have hin := place_in h15
    rw [← hpl] at hin
    have hue := ueAt_in hin
    refine c_reg ?_
    refine st (x_loadAgB ag25FK rfl B1 rfl) ?_
    refine sr (zcall cl97FK rfl) (s_peek _ ca _ _ (by omega)) ?_
    intro w9 l10
    have z_l10 := l10.size
    have L := L.tr l10.up
    have B1 := B1.ext l10
    have B4 := B4.ext l10
    refine s0 (x_move (v := .tuple _) rfl) ?_
    refine s0 (x_extract rfl rfl) ?_
    refine s0 (x_extract rfl rfl) ?_
    refine s_alloc zr25FK ?_
    intro b11 w12 lob11 hib11 l13 B11
    have z_l13 := l13.size
    have L := L.tr l13.up
    have B1 := B1.ext l13
    have B4 := B4.ext l13
    refine s_storeAg rfl sz25FK rfl rfl B11 rfl rfl rfl ?_
    intro w14 l15 el15 B11
    have z_l15 := l15.size
    have L := L.fresh l15 (by omega)
    have B1 := B1.ne l15 (by omega)
    have B4 := B4.ne l15 (by omega)
    refine s0 (x_assign (v := .int _ _) rfl) ?_
    refine c_end ?_
    refine n_then ?_
    refine wp_seq ?_
    refine wp_seq ?_
    have hpk := fu_peek h15
    have hix : (peekV s ca 9).toNat = fuIx s ca := by omega
    refine c_reg ?_
    refine s0 (x_move (v := .slice _ _ _) rfl) ?_
    refine s0 (x_lensl un26FK rfl) ?_
    refine sb (x_eql rfl rfl) (fun h25 => ?_) (fun h25 => ?_)
    · refine s0 (x_move (v := .bool _) rfl) ?_
      refine gt rfl rfl rfl rfl ?_
      refine s0 (x_move (v := .slice _ _ _) rfl) ?_
      refine gt rfl rfl rfl rfl ?_
      refine s0 (x_move (v := .int _ _) rfl) ?_
      refine gt rfl rfl rfl rfl ?_
      refine s0 (x_idx so26FK rfl rfl hp (by decide) (by omega) (by omega)) ?_
      refine gt rfl rfl rfl rfl ?_
      refine s0 (x_fieldAddr fa128_0FK rfl) ?_
      refine gt rfl rfl rfl rfl ?_
      refine st (x_ldf (u := .int _ _) erow_len sc3FK rfl (hp.ext L) (by omega) (by omega) (by decide) rfl) ?_
      refine gt rfl rfl rfl rfl ?_
      refine srb (zcall cl95FK rfl) (s_l1In _ _ _ _) (fun h32 w16 l17 => ?_) (fun h32 w16 l17 => ?_)
      · have z_l17 := l17.size
        have L := L.tr l17.up
        have B1 := B1.ext l17
        have B4 := B4.ext l17
        have B11 := B11.ext l17
        refine s0 (x_pickt (v := .bool _) rfl rfl) ?_
        refine c_end ?_
        refine n_then ?_
        refine c_true rfl ?_
        refine wp_seq ?_
        have ht : t.length = 512 := by omega
        have hhit : fuHit s ca t := ⟨by omega, by rw [← hix]; exact h32⟩
        have hfa := fuAt_hit hhit
        have hfe := fuE_hit h15 hhit
        have hq := fu_skip h15 h32
        refine c_plan (fun wq => Exm [] w16 wq) 13 (.cons (0, 1) (.cons (1, 2) (.cons (2, 2) (.cons (3, 2) (.cons (4, 2) (.cons (5, 1) (.fork 6 10 (.cons (7, 2) (.cons (8, 2) (.cons (9, 2) (.cons (10, 0) (.cons (11, 0) (.cons (12, 2) .nil)))))) (.cons (6, 0) (.cons (7, 2) (.cons (8, 2) (.cons (9, 2) (.cons (11, 0) (.cons (12, 2) .nil))))))))))))) (by kernel_rfl) (by kernel_rfl) (Exm.drew _) ?_
        obtain ⟨w18, hwd⟩ : ∃ x, x = w16.drew := ⟨_, rfl⟩
        have l19 : Ext w16 w18 := by rw [hwd]; exact Exm.drew _
        rw [← hwd]; clear hwd
        have Lq : Exm [] w16 w18 := l19.up
        have qB1 := B1
        have qB4 := B4
        have qB11 := B11
        have qL := L
        have z_l19 := l19.size
        have L := L.tr l19.up
        have B1 := B1.ext l19
        have B4 := B4.ext l19
        have B11 := B11.ext l19
        refine ps rfl (fun wq hwq => x_loadAgB ag25FK rfl (qB11.ext hwq) rfl) ?_
        refine p0 rfl (x_move (v := .slice _ _ _) rfl) ?_
        refine p0 rfl (x_move (v := .int _ _) rfl) ?_
        refine p0 rfl (x_idx so26FK rfl rfl hp (by decide) (by omega) (by omega)) ?_
        refine p0 rfl (x_fieldAddr fa128_0FK rfl) ?_
        refine ps rfl (fun wq hwq => x_ldf (u := .int _ _) erow_len sc3FK rfl ((hp.ext qL).ext hwq) (by omega) (by omega) (by decide) rfl) ?_
        refine pfork ?_ ?_
        · refine pu rfl ?_ (by rintro ⟨_, _, h, _⟩; cases h)
          refine sr (zcall cl98FK rfl) (s_skip _ (peekC s ca 9) _ _ (by omega)) ?_
          intro w20 l21
          have z_l21 := l21.size
          have L := L.tr l21.up
          have Lq := Lq.tr l21.up
          have B1 := B1.ext l21
          have B4 := B4.ext l21
          have B11 := B11.ext l21
          refine c_end ⟨rfl, fun h hS => Lq, ?_⟩
          refine p0 rfl (x_move (v := .tuple _) rfl) ?_
          refine p0 rfl (x_extract rfl rfl) ?_
          refine pb rfl (x_extract rfl rfl) (fun h43 => ?_) (fun h43 => ?_)
          · refine pu rfl ?_ (by rintro ⟨_, _, h, _⟩; cases h)
            refine s_alloc zr25FK ?_
            intro b22 w23 lob22 hib22 l24 B22
            have z_l24 := l24.size
            have L := L.tr l24.up
            have Lq := Lq.tr l24.up
            have B1 := B1.ext l24
            have B4 := B4.ext l24
            have B11 := B11.ext l24
            refine c_end ⟨rfl, fun h hS => Lq, ?_⟩
            refine pu rfl ?_ (by rintro ⟨_, _, h, _⟩; cases h)
            refine s_storeAg rfl sz25FK rfl rfl B22 rfl rfl rfl ?_
            intro w25 l26 el26 B22
            have z_l26 := l26.size
            have L := L.fresh l26 (by omega)
            have Lq := Lq.fresh l26 (by omega)
            have B1 := B1.ne l26 (by omega)
            have B4 := B4.ne l26 (by omega)
            have B11 := B11.ne l26 (by omega)
            refine c_end ⟨rfl, fun h hS => Lq, ?_⟩
            refine p0 rfl (x_assign (v := .bool _) rfl) ?_
            refine p_nil (np_normal ?_)
            refine n_then ?_
            refine wp_seq ?_
            refine wp_seq ?_
            refine c_reg ?_
            refine s0 (x_move (v := .bool _) rfl) ?_
            refine s0 (x_not rfl) ?_
            refine c_end ?_
            refine n_then ?_
            refine c_false rfl ?_
            refine c_skipn ?_
            refine n_then ?_
            refine wp_seq ?_
            refine c_plan (fun wq => Exm [b4] w25 wq) 10 (.cons (0, 1) (.cons (2, 2) (.cons (3, 2) (.cons (4, 2) (.cons (5, 2) (.cons (6, 1) (.cons (1, 0) (.cons (7, 0) (.cons (8, 2) (.cons (9, 2) .nil)))))))))) (by kernel_rfl) (by kernel_rfl) (Exm.drew _) ?_
            obtain ⟨w27, hwd⟩ : ∃ x, x = w25.drew := ⟨_, rfl⟩
            have l28 : Ext w25 w27 := by rw [hwd]; exact Exm.drew _
            rw [← hwd]; clear hwd
            have Lq : Exm [b4] w25 w27 := l28.up
            have qB1 := B1
            have qB4 := B4
            have qB11 := B11
            have qB22 := B22
            have qL := L
            have z_l28 := l28.size
            have L := L.tr l28.up
            have B1 := B1.ext l28
            have B4 := B4.ext l28
            have B11 := B11.ext l28
            have B22 := B22.ext l28
            refine ps rfl (fun wq hwq => x_loadAgB ag25FK rfl (qB22.ne hwq (by omega)) rfl) ?_
            refine p0 rfl (x_move (v := .slice _ _ _) rfl) ?_
            refine p0 rfl (x_move (v := .int _ _) rfl) ?_
            refine p0 rfl (x_idx so26FK rfl rfl hp (by decide) (by omega) (by omega)) ?_
            refine p0 rfl (x_fieldAddr fa128_1FK rfl) ?_
            refine ps rfl (fun wq hwq => x_ldf (u := .int _ _) erow_len sc3FK rfl (hp.ext (qL.fresh hwq (by omega))) (by omega) (by omega) (by decide) rfl) ?_
            refine pu rfl ?_ (by rintro ⟨_, _, h, _⟩; cases h)
            refine sr (zcall cl99FK rfl) (s_settle _ (skC s (peekC s ca 9) (t.getD (peekV s ca 9).toNat default).1) _ (by omega)) ?_
            intro w29 l30
            have z_l30 := l30.size
            have L := L.tr l30.up
            have Lq := Lq.tr l30.up
            have B1 := B1.ext l30
            have B4 := B4.ext l30
            have B11 := B11.ext l30
            have B22 := B22.ext l30
            refine c_end ⟨rfl, fun h hS => Lq, ?_⟩
            refine pu rfl ?_ (by rintro ⟨_, _, h, _⟩; cases h)
            refine s_storeAg rfl sz25FK rfl rfl B4 rfl rfl rfl ?_
            intro w31 l32 el32 B4
            have z_l32 := l32.size
            have L := L.fresh l32 (by omega)
            have Lq := Lq.within l32 (by simp)
            have B1 := B1.ne l32 (by omega)
            have B11 := B11.ne l32 (by omega)
            have B22 := B22.ne l32 (by omega)
            refine c_end ⟨rfl, fun h hS => Lq, ?_⟩
            refine p0 rfl (x_assign (v := .int _ _) rfl) ?_
            refine p0 rfl (x_assign (v := .int _ _) rfl) ?_
            refine p_nil (np_normal ?_)
            refine n_then ?_
            refine wp_ret (r_then ?_)
            refine f_rets3 rfl (ro_cell rfl ag25FK B4 rfl) (ro_tmp rfl) (ro_tmp rfl) ?_
            rw [hix] at h43 hq
            exact ⟨by rw [hix, hq.2 h43]; exact fu_yes (by rw [hfe, if_neg (by have := hq.1.1 h43; omega)]) hfa.symm (by rw [if_pos hhit]), L⟩
          · refine pu rfl ?_ (by rintro ⟨_, _, h, _⟩; cases h)
            refine s_alloc zr25FK ?_
            intro b33 w34 lob33 hib33 l35 B33
            have z_l35 := l35.size
            have L := L.tr l35.up
            have Lq := Lq.tr l35.up
            have B1 := B1.ext l35
            have B4 := B4.ext l35
            have B11 := B11.ext l35
            refine c_end ⟨rfl, fun h hS => Lq, ?_⟩
            refine pu rfl ?_ (by rintro ⟨_, _, h, _⟩; cases h)
            refine s_storeAg rfl sz25FK rfl rfl B33 rfl rfl rfl ?_
            intro w36 l37 el37 B33
            have z_l37 := l37.size
            have L := L.fresh l37 (by omega)
            have Lq := Lq.fresh l37 (by omega)
            have B1 := B1.ne l37 (by omega)
            have B4 := B4.ne l37 (by omega)
            have B11 := B11.ne l37 (by omega)
            refine c_end ⟨rfl, fun h hS => Lq, ?_⟩
            refine p0 rfl (x_assign (v := .bool _) rfl) ?_
            refine p_nil (np_normal ?_)
            refine n_then ?_
            refine wp_seq ?_
            refine wp_seq ?_
            refine c_reg ?_
            refine s0 (x_move (v := .bool _) rfl) ?_
            refine s0 (x_not rfl) ?_
            refine c_end ?_
            refine n_then ?_
            refine c_true rfl ?_
            refine wp_seq ?_
            refine c_reg ?_
            refine st (x_loadAgB ag25FK rfl B1 rfl) ?_
            refine s_storeAg rfl sz25FK rfl rfl B4 rfl rfl rfl ?_
            intro w38 l39 el39 B4
            have z_l39 := l39.size
            have L := L.fresh l39 (by omega)
            have B1 := B1.ne l39 (by omega)
            have B11 := B11.ne l39 (by omega)
            have B33 := B33.ne l39 (by omega)
            refine s0 (x_assign (v := .int _ _) rfl) ?_
            refine s0 (x_assign (v := .int _ _) rfl) ?_
            refine c_end ?_
            refine n_then ?_
            refine wp_ret (r_then (r_then ?_))
            refine f_rets3 rfl (ro_cell rfl ag25FK B4 rfl) (ro_tmp rfl) (ro_tmp rfl) ?_
            rw [hix] at h43 hq
            exact ⟨fu_no (by rw [hfe, if_pos (Int.not_le.1 fun h5 => h43 (hq.1.2 h5))]) (by decide), L⟩
        · refine pu rfl ?_ (by rintro ⟨_, _, h, _⟩; cases h)
          refine s_alloc zr25FK ?_
          intro b40 w41 lob40 hib40 l42 B40
          have z_l42 := l42.size
          have L := L.tr l42.up
          have Lq := Lq.tr l42.up
          have B1 := B1.ext l42
          have B4 := B4.ext l42
          have B11 := B11.ext l42
          refine c_end ⟨rfl, fun h hS => Lq, ?_⟩
          refine pu rfl ?_ (by rintro ⟨_, _, h, _⟩; cases h)
          refine sr (zcall cl98FK rfl) (s_skip _ (peekC s ca 9) _ _ (by omega)) ?_
          intro w43 l44
          have z_l44 := l44.size
          have L := L.tr l44.up
          have Lq := Lq.tr l44.up
          have B1 := B1.ext l44
          have B4 := B4.ext l44
          have B11 := B11.ext l44
          have B40 := B40.ext l44
          refine c_end ⟨rfl, fun h hS => Lq, ?_⟩
          refine p0 rfl (x_move (v := .tuple _) rfl) ?_
          refine p0 rfl (x_extract rfl rfl) ?_
          refine pb rfl (x_extract rfl rfl) (fun h43 => ?_) (fun h43 => ?_)
          · refine pu rfl ?_ (by rintro ⟨_, _, h, _⟩; cases h)
            refine s_storeAg rfl sz25FK rfl rfl B40 rfl rfl rfl ?_
            intro w45 l46 el46 B40
            have z_l46 := l46.size
            have L := L.fresh l46 (by omega)
            have Lq := Lq.fresh l46 (by omega)
            have B1 := B1.ne l46 (by omega)
            have B4 := B4.ne l46 (by omega)
            have B11 := B11.ne l46 (by omega)
            refine c_end ⟨rfl, fun h hS => Lq, ?_⟩
            refine p0 rfl (x_assign (v := .bool _) rfl) ?_
            refine p_nil (np_normal ?_)
            refine n_then ?_
            refine wp_seq ?_
            refine wp_seq ?_
            refine c_reg ?_
            refine s0 (x_move (v := .bool _) rfl) ?_
            refine s0 (x_not rfl) ?_
            refine c_end ?_
            refine n_then ?_
            refine c_false rfl ?_
            refine c_skipn ?_
            refine n_then ?_
            refine wp_seq ?_
            refine c_plan (fun wq => Exm [b4] w45 wq) 10 (.cons (0, 1) (.cons (2, 2) (.cons (3, 2) (.cons (4, 2) (.cons (5, 2) (.cons (6, 1) (.cons (1, 0) (.cons (7, 0) (.cons (8, 2) (.cons (9, 2) .nil)))))))))) (by kernel_rfl) (by kernel_rfl) (Exm.drew _) ?_
            obtain ⟨w47, hwd⟩ : ∃ x, x = w45.drew := ⟨_, rfl⟩
            have l48 : Ext w45 w47 := by rw [hwd]; exact Exm.drew _
            rw [← hwd]; clear hwd
            have Lq : Exm [b4] w45 w47 := l48.up
            have qB1 := B1
            have qB4 := B4
            have qB11 := B11
            have qB40 := B40
            have qL := L
            have z_l48 := l48.size
            have L := L.tr l48.up
            have B1 := B1.ext l48
            have B4 := B4.ext l48
            have B11 := B11.ext l48
            have B40 := B40.ext l48
            refine ps rfl (fun wq hwq => x_loadAgB ag25FK rfl (qB40.ne hwq (by omega)) rfl) ?_
            refine p0 rfl (x_move (v := .slice _ _ _) rfl) ?_
            refine p0 rfl (x_move (v := .int _ _) rfl) ?_
            refine p0 rfl (x_idx so26FK rfl rfl hp (by decide) (by omega) (by omega)) ?_
            refine p0 rfl (x_fieldAddr fa128_1FK rfl) ?_
            refine ps rfl (fun wq hwq => x_ldf (u := .int _ _) erow_len sc3FK rfl (hp.ext (qL.fresh hwq (by omega))) (by omega) (by omega) (by decide) rfl) ?_
            refine pu rfl ?_ (by rintro ⟨_, _, h, _⟩; cases h)
            refine sr (zcall cl99FK rfl) (s_settle _ (skC s (peekC s ca 9) (t.getD (peekV s ca 9).toNat default).1) _ (by omega)) ?_
            intro w49 l50
            have z_l50 := l50.size
            have L := L.tr l50.up
            have Lq := Lq.tr l50.up
            have B1 := B1.ext l50
            have B4 := B4.ext l50
            have B11 := B11.ext l50
            have B40 := B40.ext l50
            refine c_end ⟨rfl, fun h hS => Lq, ?_⟩
            refine pu rfl ?_ (by rintro ⟨_, _, h, _⟩; cases h)
            refine s_storeAg rfl sz25FK rfl rfl B4 rfl rfl rfl ?_
            intro w51 l52 el52 B4
            have z_l52 := l52.size
            have L := L.fresh l52 (by omega)
            have Lq := Lq.within l52 (by simp)
            have B1 := B1.ne l52 (by omega)
            have B11 := B11.ne l52 (by omega)
            have B40 := B40.ne l52 (by omega)
            refine c_end ⟨rfl, fun h hS => Lq, ?_⟩
            refine p0 rfl (x_assign (v := .int _ _) rfl) ?_
            refine p0 rfl (x_assign (v := .int _ _) rfl) ?_
            refine p_nil (np_normal ?_)
            refine n_then ?_
            refine wp_ret (r_then ?_)
            refine f_rets3 rfl (ro_cell rfl ag25FK B4 rfl) (ro_tmp rfl) (ro_tmp rfl) ?_
            rw [hix] at h43 hq
            exact ⟨by rw [hix, hq.2 h43]; exact fu_yes (by rw [hfe, if_neg (by have := hq.1.1 h43; omega)]) hfa.symm (by rw [if_pos hhit]), L⟩
          · refine pu rfl ?_ (by rintro ⟨_, _, h, _⟩; cases h)
            refine s_storeAg rfl sz25FK rfl rfl B40 rfl rfl rfl ?_
            intro w53 l54 el54 B40
            have z_l54 := l54.size
            have L := L.fresh l54 (by omega)
            have Lq := Lq.fresh l54 (by omega)
            have B1 := B1.ne l54 (by omega)
            have B4 := B4.ne l54 (by omega)
            have B11 := B11.ne l54 (by omega)
            refine c_end ⟨rfl, fun h hS => Lq, ?_⟩
            refine p0 rfl (x_assign (v := .bool _) rfl) ?_
            refine p_nil (np_normal ?_)
            refine n_then ?_
            refine wp_seq ?_
            refine wp_seq ?_
            refine c_reg ?_
            refine s0 (x_move (v := .bool _) rfl) ?_
            refine s0 (x_not rfl) ?_
            refine c_end ?_
            refine n_then ?_
            refine c_true rfl ?_
            refine wp_seq ?_
            refine c_reg ?_
            refine st (x_loadAgB ag25FK rfl B1 rfl) ?_
            refine s_storeAg rfl sz25FK rfl rfl B4 rfl rfl rfl ?_
            intro w55 l56 el56 B4
            have z_l56 := l56.size
            have L := L.fresh l56 (by omega)
            have B1 := B1.ne l56 (by omega)
            have B11 := B11.ne l56 (by omega)
            have B40 := B40.ne l56 (by omega)
            refine s0 (x_assign (v := .int _ _) rfl) ?_
            refine s0 (x_assign (v := .int _ _) rfl) ?_
            refine c_end ?_
            refine n_then ?_
            refine wp_ret (r_then (r_then ?_))
            refine f_rets3 rfl (ro_cell rfl ag25FK B4 rfl) (ro_tmp rfl) (ro_tmp rfl) ?_
            rw [hix] at h43 hq
            exact ⟨fu_no (by rw [hfe, if_pos (Int.not_le.1 fun h5 => h43 (hq.1.2 h5))]) (by decide), L⟩
      · have z_l17 := l17.size
        have L := L.tr l17.up
        have B1 := B1.ext l17
        have B4 := B4.ext l17
        have B11 := B11.ext l17
        refine s0 (x_pickt (v := .bool _) rfl rfl) ?_
        refine c_end ?_
        refine n_then ?_
        refine c_false rfl ?_
        refine c_skipn ?_
        refine n_then ?_
        refine wp_seq ?_
        have hmis : ¬ fuHit s ca t := fun h => h32 (by rw [hix]; exact h.2)
        refine c_reg ?_
        refine st (x_loadAgB ag25FK rfl B1 rfl) ?_
        refine sr (zcall cl100FK rfl) (s_l7Reader _ ca _ (by omega)) ?_
        intro w57 l58
        have z_l58 := l58.size
        have L := L.tr l58.up
        have B1 := B1.ext l58
        have B4 := B4.ext l58
        have B11 := B11.ext l58
        refine sr (zcall cl19FK rfl) (s_ue _ _ _ (by omega)) ?_
        intro w59 l60
        have z_l60 := l60.size
        have L := L.tr l60.up
        have B1 := B1.ext l60
        have B4 := B4.ext l60
        have B11 := B11.ext l60
        refine s0 (x_move (v := .tuple _) rfl) ?_
        refine s0 (x_extract rfl rfl) ?_
        refine s0 (x_extract rfl rfl) ?_
        refine s0 (x_extract rfl rfl) ?_
        refine s_alloc zr35FK ?_
        intro b61 w62 lob61 hib61 l63 B61
        have z_l63 := l63.size
        have L := L.tr l63.up
        have B1 := B1.ext l63
        have B4 := B4.ext l63
        have B11 := B11.ext l63
        refine s_storeAg rfl sz35FK rfl rfl B61 rfl rfl rfl ?_
        intro w64 l65 el65 B61
        have z_l65 := l65.size
        have L := L.fresh l65 (by omega)
        have B1 := B1.ne l65 (by omega)
        have B4 := B4.ne l65 (by omega)
        have B11 := B11.ne l65 (by omega)
        refine s0 (x_assign (v := .int _ _) rfl) ?_
        refine s0 (x_assign (v := .int _ _) rfl) ?_
        refine c_end ?_
        refine n_then ?_
        refine wp_seq ?_
        refine wp_seq ?_
        refine c_reg ?_
        refine s0 (x_move (v := .int _ _) rfl) ?_
        refine sb (x_neq rfl rfl) (fun h62 => ?_) (fun h62 => ?_)
        · refine c_end ?_
          refine n_then ?_
          refine c_true rfl ?_
          refine wp_seq ?_
          refine c_reg ?_
          refine st (x_loadAgB ag25FK rfl B1 rfl) ?_
          refine s0 (x_move (v := .int _ _) rfl) ?_
          refine s_storeAg rfl sz25FK rfl rfl B4 rfl rfl rfl ?_
          intro w66 l67 el67 B4
          have z_l67 := l67.size
          have L := L.fresh l67 (by omega)
          have B1 := B1.ne l67 (by omega)
          have B11 := B11.ne l67 (by omega)
          have B61 := B61.ne l67 (by omega)
          refine s0 (x_assign (v := .int _ _) rfl) ?_
          refine s0 (x_assign (v := .int _ _) rfl) ?_
          refine c_end ?_
          refine n_then ?_
          refine wp_ret (r_then ?_)
          refine f_rets3 rfl (ro_cell rfl ag25FK B4 rfl) (ro_tmp rfl) (ro_tmp rfl) ?_
          have hfe := fuE_miss h15 hmis
          rw [← hpl] at hfe
          exact ⟨fu_no hfe h62, L⟩
        · refine c_end ?_
          refine n_then ?_
          refine c_false rfl ?_
          refine c_skipn ?_
          refine n_then ?_
          refine wp_seq ?_
          refine c_reg ?_
          refine s0 (x_fieldAddr fa25_0FK rfl) ?_
          refine st (x_loadB sc9FK rfl B1 rfl) ?_
          refine s0 (x_fieldAddr fa35_1FK rfl) ?_
          refine st (x_loadB sc3FK rfl B61 rfl) ?_
          refine sr (zcall cl83FK rfl) (s_l7At _ _ _ (by omega) (by omega)) ?_
          intro w68 l69
          have z_l69 := l69.size
          have L := L.tr l69.up
          have B1 := B1.ext l69
          have B4 := B4.ext l69
          have B11 := B11.ext l69
          have B61 := B61.ext l69
          refine s0 (x_move (v := .int _ _) rfl) ?_
          refine s0 (x_move (v := .int _ _) rfl) ?_
          refine s_storeAg rfl sz25FK rfl rfl B4 rfl rfl rfl ?_
          intro w70 l71 el71 B4
          have z_l71 := l71.size
          have L := L.fresh l71 (by omega)
          have B1 := B1.ne l71 (by omega)
          have B11 := B11.ne l71 (by omega)
          have B61 := B61.ne l71 (by omega)
          refine s0 (x_assign (v := .int _ _) rfl) ?_
          refine s0 (x_assign (v := .int _ _) rfl) ?_
          refine c_end ?_
          refine n_then ?_
          refine wp_ret ?_
          refine f_rets3 rfl (ro_cell rfl ag25FK B4 rfl) (ro_tmp rfl) (ro_tmp rfl) ?_
          have hfe := fuE_miss h15 hmis
          have hfa := fuAt_miss hmis
          rw [← hpl] at hfe hfa
          have h0 := Classical.not_not.1 h62
          exact ⟨by rw [h0]; exact fu_yes (hfe.trans h0) hfa.symm (by rw [if_neg hmis, hpl]), L⟩
    · refine s0 (x_move (v := .bool _) rfl) ?_
      refine gf rfl rfl rfl rfl ?_
      refine gf rfl rfl rfl rfl ?_
      refine gf rfl rfl rfl rfl ?_
      refine gf rfl rfl rfl rfl ?_
      refine gf rfl rfl rfl rfl ?_
      refine gf rfl rfl rfl rfl ?_
      refine s0 (x_pickf (v := .bool _) rfl rfl) ?_
      refine c_end ?_
      refine n_then ?_
      refine c_false rfl ?_
      refine c_skipn ?_
      refine n_then ?_
      refine wp_seq ?_
      have hmis : ¬ fuHit s ca t := fun h => h25 (by have := h.1; omega)
      refine c_reg ?_
      refine st (x_loadAgB ag25FK rfl B1 rfl) ?_
      refine sr (zcall cl100FK rfl) (s_l7Reader _ ca _ (by omega)) ?_
      intro w72 l73
      have z_l73 := l73.size
      have L := L.tr l73.up
      have B1 := B1.ext l73
      have B4 := B4.ext l73
      have B11 := B11.ext l73
      refine sr (zcall cl19FK rfl) (s_ue _ _ _ (by omega)) ?_
      intro w74 l75
      have z_l75 := l75.size
      have L := L.tr l75.up
      have B1 := B1.ext l75
      have B4 := B4.ext l75
      have B11 := B11.ext l75
      refine s0 (x_move (v := .tuple _) rfl) ?_
      refine s0 (x_extract rfl rfl) ?_
      refine s0 (x_extract rfl rfl) ?_
      refine s0 (x_extract rfl rfl) ?_
      refine s_alloc zr35FK ?_
      intro b76 w77 lob76 hib76 l78 B76
      have z_l78 := l78.size
      have L := L.tr l78.up
      have B1 := B1.ext l78
      have B4 := B4.ext l78
      have B11 := B11.ext l78
      refine s_storeAg rfl sz35FK rfl rfl B76 rfl rfl rfl ?_
      intro w79 l80 el80 B76
      have z_l80 := l80.size
      have L := L.fresh l80 (by omega)
      have B1 := B1.ne l80 (by omega)
      have B4 := B4.ne l80 (by omega)
      have B11 := B11.ne l80 (by omega)
      refine s0 (x_assign (v := .int _ _) rfl) ?_
      refine s0 (x_assign (v := .int _ _) rfl) ?_
      refine c_end ?_
      refine n_then ?_
      refine wp_seq ?_
      refine wp_seq ?_
      refine c_reg ?_
      refine s0 (x_move (v := .int _ _) rfl) ?_
      refine sb (x_neq rfl rfl) (fun h62 => ?_) (fun h62 => ?_)
      · refine c_end ?_
        refine n_then ?_
        refine c_true rfl ?_
        refine wp_seq ?_
        refine c_reg ?_
        refine st (x_loadAgB ag25FK rfl B1 rfl) ?_
        refine s0 (x_move (v := .int _ _) rfl) ?_
        refine s_storeAg rfl sz25FK rfl rfl B4 rfl rfl rfl ?_
        intro w81 l82 el82 B4
        have z_l82 := l82.size
        have L := L.fresh l82 (by omega)
        have B1 := B1.ne l82 (by omega)
        have B11 := B11.ne l82 (by omega)
        have B76 := B76.ne l82 (by omega)
        refine s0 (x_assign (v := .int _ _) rfl) ?_
        refine s0 (x_assign (v := .int _ _) rfl) ?_
        refine c_end ?_
        refine n_then ?_
        refine wp_ret (r_then ?_)
        refine f_rets3 rfl (ro_cell rfl ag25FK B4 rfl) (ro_tmp rfl) (ro_tmp rfl) ?_
        have hfe := fuE_miss h15 hmis
        rw [← hpl] at hfe
        exact ⟨fu_no hfe h62, L⟩
      · refine c_end ?_
        refine n_then ?_
        refine c_false rfl ?_
        refine c_skipn ?_
        refine n_then ?_
        refine wp_seq ?_
        refine c_reg ?_
        refine s0 (x_fieldAddr fa25_0FK rfl) ?_
        refine st (x_loadB sc9FK rfl B1 rfl) ?_
        refine s0 (x_fieldAddr fa35_1FK rfl) ?_
        refine st (x_loadB sc3FK rfl B76 rfl) ?_
        refine sr (zcall cl83FK rfl) (s_l7At _ _ _ (by omega) (by omega)) ?_
        intro w83 l84
        have z_l84 := l84.size
        have L := L.tr l84.up
        have B1 := B1.ext l84
        have B4 := B4.ext l84
        have B11 := B11.ext l84
        have B76 := B76.ext l84
        refine s0 (x_move (v := .int _ _) rfl) ?_
        refine s0 (x_move (v := .int _ _) rfl) ?_
        refine s_storeAg rfl sz25FK rfl rfl B4 rfl rfl rfl ?_
        intro w85 l86 el86 B4
        have z_l86 := l86.size
        have L := L.fresh l86 (by omega)
        have B1 := B1.ne l86 (by omega)
        have B11 := B11.ne l86 (by omega)
        have B76 := B76.ne l86 (by omega)
        refine s0 (x_assign (v := .int _ _) rfl) ?_
        refine s0 (x_assign (v := .int _ _) rfl) ?_
        refine c_end ?_
        refine n_then ?_
        refine wp_ret ?_
        refine f_rets3 rfl (ro_cell rfl ag25FK B4 rfl) (ro_tmp rfl) (ro_tmp rfl) ?_
        have hfe := fuE_miss h15 hmis
        have hfa := fuAt_miss hmis
        rw [← hpl] at hfe hfa
        have h0 := Classical.not_not.1 h62
        exact ⟨by rw [h0]; exact fu_yes (hfe.trans h0) hfa.symm (by rw [if_neg hmis, hpl]), L⟩
  · have z_l8 := l8.size
    have L := L.tr l8.up
    have B1 := B1.ext l8
    have B4 := B4.ext l8
    refine s0 (x_not rfl) ?_
    refine c_end ?_
    refine n_then ?_
    refine c_true rfl ?_
    refine wp_seq ?_
    refine c_reg ?_
    refine st (x_loadAgB ag25FK rfl B1 rfl) ?_
    refine s_storeAg rfl sz25FK rfl rfl B4 rfl rfl rfl ?_
    intro w87 l88 el88 B4
    have z_l88 := l88.size
    have L := L.fresh l88 (by omega)
    have B1 := B1.ne l88 (by omega)
    refine s0 (x_assign (v := .int _ _) rfl) ?_
    refine s0 (x_assign (v := .int _ _) rfl) ?_
    refine c_end ?_
    refine n_then ?_
    refine wp_ret (r_then ?_)
    refine f_rets3 rfl (ro_cell rfl ag25FK B4 rfl) (ro_tmp rfl) (ro_tmp rfl) ?_
    exact ⟨fu_no (fuE_bad h15) (by decide), L⟩

end Go.Proofs.Ytnehdmcilmlchaa
