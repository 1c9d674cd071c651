/- What each function of this part returns, for every argument that meets its premises. -/
import Derived.Test.YtdnckakaoageoaaProg
import Derived.Test.YtdnckakaoageoaaVSxF
import Derived.Test.YtdnckakaoageoaaVPlY
import Derived.Test.YtdnckakaoageoaaVF4
import Derived.Test.YtdnckakaoageoaaVF8
import Derived.Test.YtdnckakaoageoaaVFB
namespace Go.Proofs.Ytdnckakaoageoaa
open Go.Sx Go.Pl Go.RowKit
theorem bd151FD : Built Try.prog 151 [.int .i64 0, .int .i64 0] #[(0, 1), (1, 1)] := ⟨_, Try.underlying151, by unfold ZeroV; kernel_rfl, fun w => by kernel_rfl⟩
theorem bd42FD : Built Try.prog 42 [.string .empty, .int .i64 0] #[(0, 1), (1, 1)] := ⟨_, Try.underlying42, by unfold ZeroV; kernel_rfl, fun w => by kernel_rfl⟩
theorem cl146FD : Callable Try.prog 146 := callable Try.func146 (by kernel_rfl) rfl
theorem cl62FD : Callable Try.prog 62 := callable Try.func62 (by kernel_rfl) rfl
theorem fa42_1FD : FieldAt Try.prog 42 1 1 := ⟨_, _, Try.underlying42, rfl, rfl, ⟨0, by unfold Sz; kernel_rfl⟩⟩
theorem sc3FD : Sc Try.prog 3 := ⟨(.int .i64), by kernel_rfl, trivial⟩
theorem so34FD : SliceOf Try.prog 34 5 1 1 := ⟨by kernel_rfl, by kernel_rfl⟩
theorem so68FD : SliceOf Try.prog 68 151 2 16 := ⟨by kernel_rfl, by kernel_rfl⟩
theorem sz42FD : Sz Try.prog 42 2 := by unfold Sz; kernel_rfl
theorem un34FD : Try.prog.underlying 34 = some (.slice 5) := by kernel_rfl
theorem un5FD : Try.prog.underlying 5 = some (.int .u8) := by kernel_rfl
theorem un9FD : Try.prog.underlying 9 = some .string := by kernel_rfl
theorem us3FD : (Try.prog.underlying 3).isSome = true := by kernel_rfl
theorem zr151FD : ZeroV Try.prog 151 [.int .i64 0, .int .i64 0] := by unfold ZeroV; kernel_rfl
theorem zr42FD : ZeroV Try.prog 42 [.string .empty, .int .i64 0] := by unfold ZeroV; kernel_rfl
theorem zr5FD : ZeroV Try.prog 5 [.int .u8 0] := by unfold ZeroV; kernel_rfl
/-- impl.SymTable -/
theorem i_symTable (p : Option Addr) (xs : List Int) (c : Nat) (w : World) (hp : Sl w p xs.length c 1 (ic xs)) (hl : xs.length ≤ 1099511627776) :
    Calls Try.prog 70 [.slice p xs.length c].toArray w (RetP w fun v w' => ∃ p c F, v = .slice p (symTab xs).length c ∧ Own w' p (symTab xs).length c 151 2 ((symTab xs).flatMap erow) F ∧ Fr w.heap.size F) := by
  have L : Exm [] w w := Exm.rfl'
  refine enter (n := 36) Try.func70 rfl rfl rfl ?_
  refine wp_seq ?_
  refine c_reg ?_
  refine s0 (x_assign (v := .slice _ _ _) rfl) ?_
  refine c_end ?_
  refine n_then ?_
  refine wp_seq ?_
  refine wp_seq ?_
  refine c_reg ?_
  refine s0 (x_move (v := .slice _ _ _) rfl) ?_
  refine srb (zcall cl146FD rfl) (i_codeOk _ _ _ _ (hp.ext L) (by omega)) (fun h9 w1 l2 => ?_) (fun h9 w1 l2 => ?_)
  · have z_l2 := l2.size
    have L := L.tr l2.up
    refine s0 (x_not rfl) ?_
    refine c_end ?_
    refine n_then ?_
    refine c_false rfl ?_
    refine c_skipn ?_
    refine n_then ?_
    refine wp_seq ?_
    refine c_reg ?_
    refine s_bs0 so68FD ?_
    intro p11 F11 w3 l4 o11 f11 g11
    have o11 : Own w3 p11 0 0 151 2 (([] : List _).flatMap erow) F11 := o11
    have z_l4 := l4.size
    have L := L.tr l4.up
    refine s0 (x_assign (v := .slice _ _ _) rfl) ?_
    refine c_end ?_
    refine n_then ?_
    refine wp_seq ?_
    refine wp_seq ?_
    refine c_reg ?_
    refine s0 (x_move (v := .int _ _) rfl) ?_
    refine c_end ?_
    refine n_then ?_
    refine wp_block ?_
    refine c_loop (γ := Nat) (fun k => 128 - k) (fun (k : Nat) E wl => ∃ E0 pz3 cz3 Fz3, E = upd (upd (upd E0 0 (.slice p xs.length c)) 3 (.slice pz3 (((List.range k).map (symEnt xs)).length) cz3)) 12 (.int .i64 (k : Int)) ∧ (Exm [] w wl) ∧ (w3.heap.size ≤ wl.heap.size) ∧ (Own wl pz3 (((List.range k).map (symEnt xs)).length) cz3 151 2 (((List.range k).map (symEnt xs)).flatMap erow) Fz3) ∧ (Fr (w1.heap.size) Fz3) ∧ (Lt Fz3 wl.heap.size) ∧ ((k : Int) ≤ 128)) 0 ⟨_, _, _, _, upd_self3 rfl rfl rfl, L, (by omega), o11, (f11.mono (by omega)), (g11.mono (by omega)), (by omega)⟩ ?_
    rintro k E wl5 ⟨E0, pz3, cz3, Fz3, rfl, L, Lz, oz3, fz3, gz3, hk⟩
    have Lz0 := L.size
    have hlen : ((List.range k).map (symEnt xs)).length = k := by rw [List.length_map, List.length_range]
    refine wp_seq ?_
    refine c_reg ?_
    refine sb (x_lss rfl rfl) (fun h13 => ?_) (fun h13 => ?_)
    · refine c_end ?_
      refine n_then ?_
      refine wp_seq ?_
      refine c_true rfl ?_
      refine c_skipn ?_
      refine n_then ?_
      refine wp_seq ?_
      refine wp_block ?_
      refine wp_seq ?_
      refine c_reg ?_
      refine s0 (x_move (v := .int _ _) rfl) ?_
      refine s0 (x_assign (v := .int _ _) rfl) ?_
      refine c_end ?_
      refine n_then ?_
      refine wp_seq ?_
      have hb7 := byte7 (k := k) (by omega)
      have hse := sym_byteE h9 (k := k) (by omega)
      refine c_reg ?_
      refine s0 (x_move (v := .int _ _) rfl) ?_
      refine s0 (x_shlc 1 2 rfl rfl (by decide) (by decide) (by omega)) ?_
      refine s0 (x_convk us3FD un5FD rfl) ?_
      refine s_bsb (xs := [_]) so34FD zr5FD (pts_cons rfl pts_nil) rfl rfl rfl ?_
      intro p19 F19 w6 l7 o19 f19 g19
      have z_l7 := l7.size
      have L := L.tr l7.up
      have oz3 := oz3.ext l7
      have hn19 := o19.nb
      refine st (x_tostr un34FD un5FD un9FD rfl o19.sl (by intro x hx; simp only [List.mem_cons, List.not_mem_nil, or_false] at hx; subst hx; rw [wrap_u8]; omega)) ?_
      refine s0 (x_build (cs := [.string _, .int .i64 0]) bd42FD (pts_cons (v := .string _) rfl pts_nil) rfl) ?_
      refine s0 (x_move (v := .slice _ _ _) rfl) ?_
      refine sr (zcall cl62FD rfl) (i_readSym _ _ _ _ _ _ (hp.ext L) (by omega) (by omega)) ?_
      intro w8 l9
      have z_l9 := l9.size
      have L := L.tr l9.up
      have oz3 := oz3.ext l9
      have o19 := o19.ext l9
      refine s0 (x_move (v := .tuple _) rfl) ?_
      refine s0 (x_extract rfl rfl) ?_
      refine s0 (x_extract rfl rfl) ?_
      refine s0 (x_extract rfl rfl) ?_
      refine s_alloc zr42FD ?_
      intro b10 w11 lob10 hib10 l12 B10
      have z_l12 := l12.size
      have L := L.tr l12.up
      have oz3 := oz3.ext l12
      have o19 := o19.ext l12
      refine s_storeAg rfl sz42FD rfl rfl B10 rfl rfl rfl ?_
      intro w13 l14 el14 B10
      have z_l14 := l14.size
      have L := L.fresh l14 (by omega)
      have oz3 := oz3.ne l14 (by first | assumption | exact nin_of fz3 gz3 (by omega))
      have o19 := o19.ne l14 (by first | assumption | exact nin_of f19 g19 (by omega))
      refine s0 (x_assign (v := .int _ _) rfl) ?_
      refine s0 (x_assign (v := .int _ _) rfl) ?_
      refine c_end ?_
      refine n_then ?_
      refine c_reg ?_
      refine s0 (x_move (v := .slice _ _ _) rfl) ?_
      refine s0 (x_fieldAddr fa42_1FD rfl) ?_
      refine st (x_loadB sc3FD rfl B10 rfl) ?_
      refine s0 (x_move (v := .int _ _) rfl) ?_
      refine s0 (x_build (cs := [.int _ _, .int _ _]) bd151FD (pts_cons (v := .int _ _) rfl (pts_cons (v := .int _ _) rfl pts_nil)) rfl) ?_
      refine s_bsr (g := fun x => .agg (erow x).toArray) (xs := [(_, _)]) (fun _ => rfl) erow_len so68FD zr151FD (pts_cons rfl pts_nil) rfl rfl rfl ?_
      intro p32 F32 w15 l16 o32 f32 g32
      have z_l16 := l16.size
      have L := L.tr l16.up
      have B10 := B10.ext l16
      have oz3 := oz3.ext l16
      have o19 := o19.ext l16
      have hn32 := o32.nr erow_len (by decide)
      refine s_appr (B := w1.heap.size) (f := erow) erow_len erow_one (by decide) so68FD zr151FD rfl rfl rfl oz3 o32.sl fz3 (by omega) (by omega) (by omega) ?_
      intro p33 c33 F33 w17 l18 o33 hn33 k33 f33 g33
      have ab10_33 : b10 ∉ F33 := k33.nin (by first | assumption | exact nin_of fz3 gz3 (by omega)) (by omega)
      have B10 := B10.exm l18 (by first | assumption | exact nin_of fz3 gz3 (by omega))
      have z_l18 := l18.size
      have L := L.freshL l18 fz3 (by omega)
      have d19_33 : Dj F19 F33 := k33.dj (by first | assumption | exact Dj.symm (by assumption) | exact dj_of f19 g19 fz3 gz3 (by omega)) g19 (by omega)
      have o19 := o19.exm l18 (by first | assumption | exact Dj.symm (by assumption) | exact dj_of fz3 gz3 f19 g19 (by omega))
      have d32_33 : Dj F32 F33 := k33.dj (by first | assumption | exact Dj.symm (by assumption) | exact dj_of f32 g32 fz3 gz3 (by omega)) g32 (by omega)
      have o32 := o32.exm l18 (by first | assumption | exact Dj.symm (by assumption) | exact dj_of fz3 gz3 f32 g32 (by omega))
      refine s0 (x_assign (v := .slice _ _ _) rfl) ?_
      refine c_end ?_
      refine n_block ?_
      refine n_then ?_
      refine c_reg ?_
      refine s0 (x_add rfl rfl (by omega)) ?_
      refine s0 (x_move (v := .int _ _) rfl) ?_
      refine c_end ?_
      exact c_round (g' := k + 1) (by omega) ⟨_, _, _, _, upd_self3 rfl (by (rw [List.range_succ, List.map_append, List.map_cons, List.map_nil, ← hse]); rfl) (vint (by omega)), L, (by omega), (by (rw [List.range_succ, List.map_append, List.map_cons, List.map_nil, ← hse]); exact o33), (f33.mono (by omega)), (g33.mono (by omega)), (by omega)⟩
    · refine c_end ?_
      refine n_then ?_
      refine wp_seq ?_
      refine c_false rfl ?_
      refine wp_exit (e_then (e_then (e_here ?_)))
      refine n_then ?_
      refine wp_seq ?_
      refine c_reg ?_
      refine s0 (x_move (v := .slice _ _ _) rfl) ?_
      refine s0 (x_assign (v := .slice _ _ _) rfl) ?_
      refine c_end ?_
      refine n_then ?_
      refine wp_ret ?_
      refine f_ret rfl rfl ?_
      obtain rfl : k = 128 := by omega
      rw [← symTab_yes h9] at oz3
      have hl128 := symTab_len h9
      obtain ⟨ys, hys⟩ : ∃ ys, ys = symTab xs := ⟨_, rfl⟩
      rw [← symTab_yes h9] at *
      exact ⟨_, rfl, L, _, _, _, rfl, oz3, fz3.mono (by omega)⟩
  · have z_l2 := l2.size
    have L := L.tr l2.up
    refine s0 (x_not rfl) ?_
    refine c_end ?_
    refine n_then ?_
    refine c_true rfl ?_
    refine wp_seq ?_
    refine c_reg ?_
    refine s0 (x_assign (v := .slice _ _ _) rfl) ?_
    refine c_end ?_
    refine n_then ?_
    refine wp_ret (r_then ?_)
    refine f_ret rfl rfl ?_
    rw [symTab_no h9]
    exact ⟨_, rfl, L, none, 0, [], rfl, Own.nil, Fr.no⟩

end Go.Proofs.Ytdnckakaoageoaa
