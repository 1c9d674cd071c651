/- What each function of this part returns, for every argument that meets its premises. -/
import Derived.Test.YtnehdmcilmlchaaProg
import Derived.Test.YtnehdmcilmlchaaVSxF
import Derived.Test.YtnehdmcilmlchaaVPlX
import Derived.Test.YtnehdmcilmlchaaVF2
import Derived.Test.YtnehdmcilmlchaaVF8
namespace Go.Proofs.Ytnehdmcilmlchaa
open Go.Sx Go.Pl Go.RowKit
theorem bd128F9 : Built Try.prog 128 [.int .i64 0, .int .i64 0] #[(0, 1), (1, 1)] := ⟨_, Try.underlying128, by unfold ZeroV; kernel_rfl, fun w => by kernel_rfl⟩
theorem bd35F9 : Built Try.prog 35 [.string .empty, .int .i64 0] #[(0, 1), (1, 1)] := ⟨_, Try.underlying35, by unfold ZeroV; kernel_rfl, fun w => by kernel_rfl⟩
theorem cl179F9 : Callable Try.prog 179 := callable Try.func179 (by kernel_rfl) rfl
theorem cl90F9 : Callable Try.prog 90 := callable Try.func90 (by kernel_rfl) rfl
theorem cl91F9 : Callable Try.prog 91 := callable Try.func91 (by kernel_rfl) rfl
theorem cl92F9 : Callable Try.prog 92 := callable Try.func92 (by kernel_rfl) rfl
theorem fa35_1F9 : FieldAt Try.prog 35 1 1 := ⟨_, _, Try.underlying35, rfl, rfl, ⟨0, by unfold Sz; kernel_rfl⟩⟩
theorem sc3F9 : Sc Try.prog 3 := ⟨(.int .i64), by kernel_rfl, trivial⟩
theorem so26F9 : SliceOf Try.prog 26 128 2 16 := ⟨by kernel_rfl, by kernel_rfl⟩
theorem so40F9 : SliceOf Try.prog 40 3 1 8 := ⟨by kernel_rfl, by kernel_rfl⟩
theorem sz128F9 : Sz Try.prog 128 2 := by unfold Sz; kernel_rfl
theorem sz35F9 : Sz Try.prog 35 2 := by unfold Sz; kernel_rfl
theorem un26F9 : Try.prog.underlying 26 = some (.slice 128) := by kernel_rfl
theorem un3F9 : Try.prog.underlying 3 = some (.int .i64) := by kernel_rfl
theorem zr128F9 : ZeroV Try.prog 128 [.int .i64 0, .int .i64 0] := by unfold ZeroV; kernel_rfl
theorem zr3F9 : ZeroV Try.prog 3 [.int .i64 0] := by unfold ZeroV; kernel_rfl
theorem zr35F9 : ZeroV Try.prog 35 [.string .empty, .int .i64 0] := by unfold ZeroV; kernel_rfl
theorem slice_len {p : Option Addr} {n m c : Nat} (h : m = n) : Value.slice p n c = .slice p m c := by rw [h]
theorem uet_yes {k : Nat} {s : ByteArray} (hs : s = packs (bitsl (k : Int) 9 ++ List.replicate 7 0)) (h1 : ueE s 0 = 0) (h2 : ueAt s 0 ≤ 9) : ueEnt k = (ueAt s 0, ueV s 0) := by
  subst hs; unfold ueEnt; rw [if_pos ⟨h1, h2⟩]
theorem uet_no {k : Nat} {s : ByteArray} (hs : s = packs (bitsl (k : Int) 9 ++ List.replicate 7 0)) (h : ¬ (ueE s 0 = 0 ∧ ueAt s 0 ≤ 9)) : ueEnt k = (0, 0) := by
  subst hs; unfold ueEnt; rw [if_neg h]

/-- impl.UeTable -/
theorem i_ueTable (w : World) :
    Calls Try.prog 14 [].toArray w (RetP w fun v w' => ∃ xs, xs = ueTab ∧ ∃ p c F, v = .slice p (xs).length c ∧ Own w' p (xs).length c 128 2 ((xs).flatMap erow) F ∧ Fr w.heap.size F) := by
  have L : Exm [] w w := Exm.rfl'
  refine enter (n := 44) Try.func14 rfl rfl rfl ?_
  refine wp_seq ?_
  refine c_reg ?_
  refine s0 (x_assign (v := .slice _ _ _) rfl) ?_
  refine c_end ?_
  refine n_then ?_
  refine wp_seq ?_
  refine c_reg ?_
  refine s_maker (0, 0) erow_len so26F9 zr128F9 rfl rfl (by omega) (by omega) (by omega) ?_
  intro p8 F8 w1 l2 o8 f8 g8
  have z_l2 := l2.size
  have L := L.tr l2.up
  have hn8 := o8.nr erow_len (by decide)
  refine s0 (x_assign (v := .slice _ _ _) rfl) ?_
  refine c_end ?_
  refine n_then ?_
  refine wp_seq ?_
  refine wp_seq ?_
  refine c_reg ?_
  refine s0 (x_move (v := .slice _ _ _) rfl) ?_
  refine s0 (x_lensl un26F9 rfl) ?_
  refine s0 (x_move (v := .int _ _) rfl) ?_
  refine c_end ?_
  refine n_then ?_
  refine wp_block ?_
  refine c_loop (γ := Nat) (fun k => 512 - k) (fun (k : Nat) E wl => ∃ E0 pz1 cz1 Fz1, E = upd (upd (upd E0 1 (.slice pz1 (512) cz1)) 10 (.int .i64 512)) 11 (.int .i64 (k : Int)) ∧ (Exm [] w wl) ∧ (w1.heap.size ≤ wl.heap.size) ∧ (Own wl pz1 (512) cz1 128 2 ((ueU k).flatMap erow) Fz1) ∧ (Fr (w.heap.size) Fz1) ∧ (Lt Fz1 wl.heap.size) ∧ ((k : Int) ≤ 512)) 0 ⟨_, _, _, _, upd_self3 rfl rfl rfl, L, (by omega), (by rw [ueU_zero]; exact o8), (f8.mono (by omega)), (g8.mono (by omega)), (by omega)⟩ ?_
  rintro k E wl3 ⟨E0, pz1, cz1, Fz1, rfl, L, Lz, oz1, fz1, gz1, hk⟩
  have Lz0 := L.size
  have hlen : k ≤ 512 → (ueU k).length = 512 := ueU_length
  refine wp_seq ?_
  refine c_reg ?_
  refine sb (x_lss rfl rfl) (fun h12 => ?_) (fun h12 => ?_)
  · refine c_end ?_
    refine n_then ?_
    refine wp_seq ?_
    refine c_true rfl ?_
    refine c_skipn ?_
    refine n_then ?_
    refine wp_seq ?_
    refine wp_block ?_
    refine wp_seq ?_
    refine c_reg ?_
    refine s0 (x_move (v := .int _ _) rfl) ?_
    refine s0 (x_assign (v := .int _ _) rfl) ?_
    refine c_end ?_
    refine n_then ?_
    refine wp_seq ?_
    have hlen := hlen (by omega)
    have hbl := (bitsIn_len (k : Int) 9).1
    have hbo : bitOk 9 (k : Int) := ⟨by decide, by omega, Int.ediv_eq_zero_of_lt (by omega) (by show (k : Int) < 2 ^ (9 : Int).toNat; have : (2 : Int) ^ (9 : Int).toNat = 512 := rfl; omega)⟩
    have hbe : bitsIn (k : Int) 9 = bitsl (k : Int) 9 := by unfold bitsIn; rw [if_pos hbo]; rfl
    refine c_reg ?_
    refine s0 (x_move (v := .int _ _) rfl) ?_
    refine sp (zcall cl92F9 rfl) (i_bitsIn _ _ _ (by omega) (by omega)) ?_
    rintro v16 w4 l5 ⟨p16, c16, F16, rfl, o16, f16⟩
    have z_l5 := l5.size
    have L := L.tr l5.up
    have oz1 := oz1.ext l5
    have g16 := o16.lt
    refine s_appz (B := wl3.heap.size) so40F9 zr3F9 un3F9 rfl rfl (xs := _) o16 f16 (by omega) (by omega) (by omega) (by omega) ?_
    intro p17 c17 F17 w6 l7 o17 hn17 k17 f17 g17
    have z_l7 := l7.size
    have L := L.freshL l7 f16 (by omega)
    have dz1_17 : Dj Fz1 F17 := k17.dj (by first | assumption | exact Dj.symm (by assumption) | exact dj_of fz1 gz1 f16 g16 (by omega)) gz1 (by omega)
    have oz1 := oz1.exm l7 (by first | assumption | exact Dj.symm (by assumption) | exact dj_of f16 g16 fz1 gz1 (by omega))
    refine sr (zcall cl91F9 rfl) (i_bytesOf _ _ _ _ o17.sl (by omega)) ?_
    intro w8 l9
    have z_l9 := l9.size
    have L := L.tr l9.up
    have oz1 := oz1.ext l9
    have o17 := o17.ext l9
    refine s0 (x_move (v := .tuple _) rfl) ?_
    refine s0 (x_extract rfl rfl) ?_
    refine s0 (x_extract rfl rfl) ?_
    refine s0 (x_assign (v := .string _) rfl) ?_
    refine s0 (x_assign (v := .bool _) rfl) ?_
    refine c_end ?_
    refine n_then ?_
    refine wp_seq ?_
    have hby : byOk (bitsl (k : Int) 9 ++ List.replicate 7 0) := ⟨isBits_app.2 ⟨bitsl_bits _ _, fun x hx => .inl (List.eq_of_mem_replicate hx)⟩, by rw [List.length_append, bitsl_length, List.length_replicate]⟩
    have hbs : bytesStr (bitsIn (k : Int) 9 ++ List.replicate (7 : Int).toNat 0) = packs (bitsl (k : Int) 9 ++ List.replicate 7 0) := by rw [hbe]; unfold bytesStr; exact if_pos hby
    have hsz : (bytesStr (bitsIn (k : Int) 9 ++ List.replicate (7 : Int).toNat 0)).size ≤ 1048576 := by rw [hbs, packs_size, List.length_append, bitsl_length, List.length_replicate]; decide
    refine c_reg ?_
    refine s0 (x_move (v := .string _) rfl) ?_
    refine s0 (x_build (cs := [.string _, .int .i64 0]) bd35F9 (pts_cons (v := .string _) rfl pts_nil) rfl) ?_
    refine sr (zcall cl90F9 rfl) (i_ue _ _ _ (by omega)) ?_
    intro w10 l11
    have z_l11 := l11.size
    have L := L.tr l11.up
    have oz1 := oz1.ext l11
    have o17 := o17.ext l11
    refine s0 (x_move (v := .tuple _) rfl) ?_
    refine s0 (x_extract rfl rfl) ?_
    refine s0 (x_extract rfl rfl) ?_
    refine s0 (x_extract rfl rfl) ?_
    refine s_alloc zr35F9 ?_
    intro b12 w13 lob12 hib12 l14 B12
    have z_l14 := l14.size
    have L := L.tr l14.up
    have oz1 := oz1.ext l14
    have o17 := o17.ext l14
    refine s_storeAg rfl sz35F9 rfl rfl B12 rfl rfl rfl ?_
    intro w15 l16 el16 B12
    have z_l16 := l16.size
    have L := L.fresh l16 (by omega)
    have oz1 := oz1.ne l16 (by first | assumption | exact nin_of fz1 gz1 (by omega))
    have o17 := o17.ne l16 (by first | assumption | exact nin_of f17 g17 (by omega))
    refine s0 (x_assign (v := .int _ _) rfl) ?_
    refine s0 (x_assign (v := .int _ _) rfl) ?_
    refine c_end ?_
    refine n_then ?_
    refine wp_seq ?_
    refine c_reg ?_
    refine s0 (x_move (v := .int _ _) rfl) ?_
    refine sb (x_eql rfl rfl) (fun h29 => ?_) (fun h29 => ?_)
    · refine s0 (x_move (v := .bool _) rfl) ?_
      refine gt rfl rfl rfl rfl ?_
      refine s0 (x_fieldAddr fa35_1F9 rfl) ?_
      refine gt rfl rfl rfl rfl ?_
      refine st (x_loadB sc3F9 rfl B12 rfl) ?_
      refine gt rfl rfl rfl rfl ?_
      refine sb (x_leq rfl rfl) (fun h33 => ?_) (fun h33 => ?_)
      · refine s0 (x_pickt (v := .bool _) rfl rfl) ?_
        refine c_end ?_
        refine n_then ?_
        refine c_true rfl ?_
        refine c_reg ?_
        refine s0 (x_move (v := .slice _ _ _) rfl) ?_
        refine s0 (x_move (v := .int _ _) rfl) ?_
        refine s0 (x_fieldAddr fa35_1F9 rfl) ?_
        refine st (x_loadB sc3F9 rfl B12 rfl) ?_
        refine s0 (x_move (v := .int _ _) rfl) ?_
        refine s0 (x_build (cs := [.int _ _, .int _ _]) bd128F9 (pts_cons (v := .int _ _) rfl (pts_cons (v := .int _ _) rfl pts_nil)) rfl) ?_
        refine s0 (x_idx so26F9 rfl rfl oz1.sl (by decide) (by omega) (by omega)) ?_
        refine s_stor (v := (_, _)) erow_len erow_one rfl sz128F9 rfl rfl (by decide) oz1 (by omega) (by omega) ?_
        intro w17 l18 el18 oz1
        have z_l18 := l18.size
        have L := L.freshL l18 fz1 (by omega)
        have B12 := B12.exm l18 (by first | assumption | exact nin_of fz1 gz1 (by omega))
        have o17 := o17.exm l18 (by first | assumption | exact Dj.symm (by assumption) | exact dj_of fz1 gz1 f17 g17 (by omega))
        have hnl18 := oz1.nr erow_len (by decide)
        refine c_end ?_
        refine n_block ?_
        refine n_then ?_
        refine c_reg ?_
        refine s0 (x_add rfl rfl (by omega)) ?_
        refine s0 (x_move (v := .int _ _) rfl) ?_
        refine c_end ?_
        exact c_round (g' := k + 1) (by omega) ⟨_, _, _, _, upd_self3 (by (skip); rfl) rfl (vint (by omega)), L, (by omega), (by (first | (rw [ueU_succ (by omega), uet_yes hbs h29 h33]) | (rw [ueU_skip (by omega) (uet_no hbs (fun h => h33 h.2))]) | (rw [ueU_skip (by omega) (uet_no hbs (fun h => h29 h.1))])); exact oz1), (fz1.mono (by omega)), (gz1.mono (by omega)), (by omega)⟩
      · refine s0 (x_pickt (v := .bool _) rfl rfl) ?_
        refine c_end ?_
        refine n_then ?_
        refine c_false rfl ?_
        refine c_skipn ?_
        refine n_block ?_
        refine n_then ?_
        refine c_reg ?_
        refine s0 (x_add rfl rfl (by omega)) ?_
        refine s0 (x_move (v := .int _ _) rfl) ?_
        refine c_end ?_
        exact c_round (g' := k + 1) (by omega) ⟨_, _, _, _, upd_self3 (by (skip); rfl) rfl (vint (by omega)), L, (by omega), (by (first | (rw [ueU_succ (by omega), uet_yes hbs h29 h33]) | (rw [ueU_skip (by omega) (uet_no hbs (fun h => h33 h.2))]) | (rw [ueU_skip (by omega) (uet_no hbs (fun h => h29 h.1))])); exact oz1), (fz1.mono (by omega)), (gz1.mono (by omega)), (by omega)⟩
    · refine s0 (x_move (v := .bool _) rfl) ?_
      refine gf rfl rfl rfl rfl ?_
      refine gf rfl rfl rfl rfl ?_
      refine gf rfl rfl rfl rfl ?_
      refine s0 (x_pickf (v := .bool _) rfl rfl) ?_
      refine c_end ?_
      refine n_then ?_
      refine c_false rfl ?_
      refine c_skipn ?_
      refine n_block ?_
      refine n_then ?_
      refine c_reg ?_
      refine s0 (x_add rfl rfl (by omega)) ?_
      refine s0 (x_move (v := .int _ _) rfl) ?_
      refine c_end ?_
      exact c_round (g' := k + 1) (by omega) ⟨_, _, _, _, upd_self3 (by (skip); rfl) rfl (vint (by omega)), L, (by omega), (by (first | (rw [ueU_succ (by omega), uet_yes hbs h29 h33]) | (rw [ueU_skip (by omega) (uet_no hbs (fun h => h33 h.2))]) | (rw [ueU_skip (by omega) (uet_no hbs (fun h => h29 h.1))])); exact oz1), (fz1.mono (by omega)), (gz1.mono (by omega)), (by omega)⟩
  · refine c_end ?_
    refine n_then ?_
    refine wp_seq ?_
    refine c_false rfl ?_
    refine wp_exit (e_then (e_then (e_here ?_)))
    refine n_then ?_
    refine wp_seq ?_
    refine c_reg ?_
    refine s0 (x_move (v := .slice _ _ _) rfl) ?_
    refine s0 (x_assign (v := .slice _ _ _) rfl) ?_
    refine c_end ?_
    refine n_then ?_
    refine wp_ret ?_
    refine f_ret rfl rfl ?_
    have hl512 := hlen (by omega)
    obtain rfl : k = 512 := by omega
    obtain ⟨xs, hxs⟩ : ∃ xs, xs = ueU 512 := ⟨_, rfl⟩
    rw [← hxs] at hl512 oz1
    exact ⟨_, rfl, L, xs, hxs.trans ueU_end, _, _, _, slice_len hl512, by rw [hl512]; exact oz1, fz1⟩

theorem ue_small {n : Nat} (h : n ≤ 30) : 1 ≤ ueSize n ∧ ueSize n ≤ 9 ∧ ((n : Int) + 1) * 2 ^ (9 - ueSize n).toNat + 2 ^ (9 - ueSize n).toNat ≤ 512 := by
  have h1 := ueSize_small ⟨n, by omega⟩
  refine ⟨h1.1, h1.2.1, ?_⟩
  have h2 := h1.2.2
  have e : (((n + 1) * 2 ^ (9 - ueSize (n : Int)).toNat + 2 ^ (9 - ueSize (n : Int)).toNat : Nat) : Int) ≤ 512 := Int.ofNat_le.2 h2
  simpa using e
theorem nat_idx (n k e : Nat) : (((n : Int) + 1) * 2 ^ e + (k : Int)).toNat = (n + 1) * 2 ^ e + k := by
  have : (((n + 1) * 2 ^ e + k : Nat) : Int) = ((n : Int) + 1) * 2 ^ e + k := by simp
  omega
theorem ue_stop {n : Nat} (h : n ≤ 31) : ueSize n ≤ 9 ↔ n ≤ 30 := by
  rcases Nat.lt_or_ge n 31 with h1 | h1
  · have := ue_small (n := n) (by omega); omega
  · obtain rfl : n = 31 := by omega
    have := ueSize_31
    constructor
    · intro h2; rw [show ((31 : Nat) : Int) = 31 from rfl, this] at h2; omega
    · intro h2; omega

/-- spec.UeTable -/
theorem s_ueTable (w : World) :
    Calls Try.prog 94 [].toArray w (RetP w fun v w' => ∃ xs, xs = ueTab ∧ ∃ p c F, v = .slice p (xs).length c ∧ Own w' p (xs).length c 128 2 ((xs).flatMap erow) F ∧ Fr w.heap.size F) := by
  have L : Exm [] w w := Exm.rfl'
  refine enter (n := 35) Try.func94 rfl rfl rfl ?_
  refine wp_seq ?_
  refine c_reg ?_
  refine s0 (x_assign (v := .slice _ _ _) rfl) ?_
  refine c_end ?_
  refine n_then ?_
  refine wp_seq ?_
  refine c_reg ?_
  refine s_maker (0, 0) erow_len so26F9 zr128F9 rfl rfl (by omega) (by omega) (by omega) ?_
  intro p6 F6 w1 l2 o6 f6 g6
  have z_l2 := l2.size
  have L := L.tr l2.up
  have hn6 := o6.nr erow_len (by decide)
  refine s0 (x_assign (v := .slice _ _ _) rfl) ?_
  refine c_end ?_
  refine n_then ?_
  refine wp_seq ?_
  refine wp_seq ?_
  refine c_reg ?_
  refine s0 (x_assign (v := .int _ _) rfl) ?_
  refine c_end ?_
  refine n_then ?_
  refine wp_block ?_
  refine c_loop (γ := Nat) (fun n => 31 - n) (fun (n : Nat) E wl => ∃ E0 pz1 cz1 Fz1, E = upd (upd E0 1 (.slice pz1 (512) cz1)) 2 (.int .i64 (n : Int)) ∧ (Exm [] w wl) ∧ (w1.heap.size ≤ wl.heap.size) ∧ (Own wl pz1 (512) cz1 128 2 ((ueT n).flatMap erow) Fz1) ∧ (Fr (w.heap.size) Fz1) ∧ (Lt Fz1 wl.heap.size) ∧ (n ≤ 31)) 0 ⟨_, _, _, _, upd_self2 rfl rfl, L, (by omega), o6, (f6.mono (by omega)), (g6.mono (by omega)), (by omega)⟩ ?_
  rintro n E wl3 ⟨E0, pz1, cz1, Fz1, rfl, L, Lz, oz1, fz1, gz1, hn⟩
  have Lz0 := L.size
  have hs := ue_stop hn
  have hlen := ueT_length n
  refine wp_seq ?_
  refine wp_seq ?_
  refine c_reg ?_
  refine s0 (x_move (v := .int _ _) rfl) ?_
  refine sr (zcall cl179F9 rfl) (s_ueSize _ _) ?_
  intro w4 l5
  have z_l5 := l5.size
  have L := L.tr l5.up
  have oz1 := oz1.ext l5
  refine sb (x_leq rfl rfl) (fun h9 => ?_) (fun h9 => ?_)
  · refine c_end ?_
    refine n_then ?_
    refine c_true rfl ?_
    refine c_skipn ?_
    refine n_then ?_
    refine wp_seq ?_
    refine wp_block ?_
    refine wp_seq ?_
    have hus := ue_small (n := n) (by omega)
    have hp0 := two_pow_pos (9 - ueSize (n : Int)).toNat
    have hp9 := two_pow_le (n := (9 - ueSize (n : Int)).toNat) (m := 8) (by omega)
    have e8 : (2 : Int) ^ 8 = 256 := rfl
    refine c_reg ?_
    refine s0 (x_move (v := .int _ _) rfl) ?_
    refine sr (zcall cl179F9 rfl) (s_ueSize _ _) ?_
    intro w6 l7
    have z_l7 := l7.size
    have L := L.tr l7.up
    have oz1 := oz1.ext l7
    refine s0 (x_sub rfl rfl (by omega)) ?_
    refine s0 (x_assign (v := .int _ _) rfl) ?_
    refine c_end ?_
    refine n_then ?_
    refine wp_seq ?_
    refine c_reg ?_
    refine s0 (x_move (v := .int _ _) rfl) ?_
    refine s0 (x_add rfl rfl (by omega)) ?_
    refine s0 (x_move (v := .int _ _) rfl) ?_
    refine s0 (x_shl rfl rfl (by omega) (by have := Int.mul_nonneg (a := (n : Int) + 1) (b := 2 ^ (9 - ueSize (n : Int)).toNat) (by omega) (by omega); omega)) ?_
    refine s0 (x_assign (v := .int _ _) rfl) ?_
    refine c_end ?_
    refine n_then ?_
    refine wp_seq ?_
    refine c_reg ?_
    refine s0 (x_assign (v := .int _ _) rfl) ?_
    refine c_end ?_
    refine n_then ?_
    refine wp_block ?_
    refine c_loop (γ := Nat) (fun k => 2 ^ (9 - ueSize (n : Int)).toNat - k) (fun (k : Nat) E wl => ∃ E0 pz1 cz1 Fz1, E = upd (upd (upd (upd (upd E0 1 (.slice pz1 (512) cz1)) 2 (.int .i64 (n : Int))) 3 (.int .i64 (9 - ueSize n))) 4 (.int .i64 (((n : Int) + 1) * 2 ^ (9 - ueSize n).toNat))) 5 (.int .i64 (k : Int)) ∧ (Exm [] w wl) ∧ (w6.heap.size ≤ wl.heap.size) ∧ (Own wl pz1 (512) cz1 128 2 ((ueFill (ueT n) n k).flatMap erow) Fz1) ∧ (Fr (w.heap.size) Fz1) ∧ (Lt Fz1 wl.heap.size) ∧ (k ≤ 2 ^ (9 - ueSize (n : Int)).toNat)) 0 ⟨_, _, _, _, upd_self5 rfl rfl rfl rfl rfl, L, (by omega), oz1, (fz1.mono (by omega)), (gz1.mono (by omega)), (Nat.zero_le _)⟩ ?_
    rintro k E wl8 ⟨E0, pz1, cz1, Fz1, rfl, L, Lz, oz1, fz1, gz1, hk⟩
    have Lz0 := L.size
    have hfl := ueFill_length (ueT n) n k
    have hcast : ((2 ^ (9 - ueSize (n : Int)).toNat : Nat) : Int) = 2 ^ (9 - ueSize (n : Int)).toNat := by simp
    refine wp_seq ?_
    refine wp_seq ?_
    refine c_reg ?_
    refine s0 (x_move (v := .int _ _) rfl) ?_
    refine s0 (x_move (v := .int _ _) rfl) ?_
    refine s0 (x_shl rfl rfl (by omega) (by omega)) ?_
    refine sb (x_lss rfl rfl) (fun h22 => ?_) (fun h22 => ?_)
    · refine c_end ?_
      refine n_then ?_
      refine c_true rfl ?_
      refine c_skipn ?_
      refine n_then ?_
      refine wp_seq ?_
      refine wp_block ?_
      have hmu := Int.mul_nonneg (a := (n : Int) + 1) (b := 2 ^ (9 - ueSize (n : Int)).toNat) (by omega) (by omega)
      have hcast2 := nat_idx n k (9 - ueSize (n : Int)).toNat
      refine c_reg ?_
      refine s0 (x_move (v := .slice _ _ _) rfl) ?_
      refine s0 (x_move (v := .int _ _) rfl) ?_
      refine s0 (x_move (v := .int _ _) rfl) ?_
      refine s0 (x_add rfl rfl (by omega)) ?_
      refine s0 (x_move (v := .int _ _) rfl) ?_
      refine sr (zcall cl179F9 rfl) (s_ueSize _ _) ?_
      intro w9 l10
      have z_l10 := l10.size
      have L := L.tr l10.up
      have oz1 := oz1.ext l10
      refine s0 (x_move (v := .int _ _) rfl) ?_
      refine s0 (x_build (cs := [.int _ _, .int _ _]) bd128F9 (pts_cons (v := .int _ _) rfl (pts_cons (v := .int _ _) rfl pts_nil)) rfl) ?_
      refine s0 (x_idx so26F9 rfl rfl oz1.sl (by decide) (by omega) (by omega)) ?_
      refine s_stor (v := (_, _)) erow_len erow_one rfl sz128F9 rfl rfl (by decide) oz1 (by omega) (by omega) ?_
      intro w11 l12 el12 oz1
      have z_l12 := l12.size
      have L := L.freshL l12 fz1 (by omega)
      have hnl12 := oz1.nr erow_len (by decide)
      refine c_end ?_
      refine n_block ?_
      refine n_then ?_
      refine c_reg ?_
      refine s0 (x_move (v := .int _ _) rfl) ?_
      refine s0 (x_add rfl rfl (by omega)) ?_
      refine s0 (x_assign (v := .int _ _) rfl) ?_
      refine c_end ?_
      exact c_round (g' := k + 1) (by omega) ⟨_, _, _, _, upd_self5 (by (skip); rfl) rfl rfl rfl (vint (by omega)), L, (by omega), (by ((rw [hcast2] at oz1; rw [show ueFill (ueT n) n (k + 1) = _ from rfl])); exact oz1), (fz1.mono (by omega)), (gz1.mono (by omega)), (by omega)⟩
    · refine c_end ?_
      refine n_then ?_
      refine c_false rfl ?_
      refine wp_exit (e_then (e_then (e_here ?_)))
      refine n_block ?_
      refine n_then ?_
      refine c_reg ?_
      refine s0 (x_move (v := .int _ _) rfl) ?_
      refine s0 (x_add rfl rfl (by omega)) ?_
      refine s0 (x_assign (v := .int _ _) rfl) ?_
      refine c_end ?_
      exact c_round (g' := n + 1) (by omega) ⟨_, _, _, _, upd_self2 (by (skip); rfl) (vint (by omega)), L, (by omega), (by (rw [ueT, show 2 ^ (9 - ueSize (n : Int)).toNat = k by omega]); exact oz1), (fz1.mono (by omega)), (gz1.mono (by omega)), (by omega)⟩
  · refine c_end ?_
    refine n_then ?_
    refine c_false rfl ?_
    refine wp_exit (e_then (e_then (e_here ?_)))
    refine n_then ?_
    refine wp_seq ?_
    refine c_reg ?_
    refine s0 (x_move (v := .slice _ _ _) rfl) ?_
    refine s0 (x_assign (v := .slice _ _ _) rfl) ?_
    refine c_end ?_
    refine n_then ?_
    refine wp_ret ?_
    refine f_ret rfl rfl ?_
    obtain rfl : n = 31 := by omega
    obtain ⟨xs, hxs⟩ : ∃ xs, xs = ueT 31 := ⟨_, rfl⟩
    rw [← hxs] at hlen oz1
    exact ⟨_, rfl, L, xs, hxs.trans ueT_tab, _, _, _, slice_len hlen, by rw [hlen]; exact oz1, fz1⟩

end Go.Proofs.Ytnehdmcilmlchaa
