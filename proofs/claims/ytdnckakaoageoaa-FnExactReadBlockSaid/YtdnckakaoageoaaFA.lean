/- What each function of this part returns, for every argument that meets its premises. -/
import Derived.Test.YtdnckakaoageoaaF9
namespace Go.Proofs.Ytdnckakaoageoaa
open Go.Sx Go.Pl Go.RowKit
theorem ag157 : Ag Try.prog 157 2 := ⟨⟨_, Try.underlying157⟩, by kernel_rfl⟩
theorem cl129 : Callable Try.prog 129 := callable Try.func129 (by kernel_rfl) rfl
theorem fa157_0 : FieldAt Try.prog 157 0 0 := ⟨_, _, Try.underlying157, rfl, rfl, ⟨0, by unfold Sz; kernel_rfl⟩⟩
theorem fa157_1 : FieldAt Try.prog 157 1 1 := ⟨_, _, Try.underlying157, rfl, rfl, ⟨0, by unfold Sz; kernel_rfl⟩⟩
theorem so61 : SliceOf Try.prog 61 157 2 16 := ⟨by kernel_rfl, by kernel_rfl⟩
theorem sz151 : Sz Try.prog 151 2 := by unfold Sz; kernel_rfl
theorem un61 : Try.prog.underlying 61 = some (.slice 157) := by kernel_rfl
theorem zr151 : ZeroV Try.prog 151 [.int .i64 0, .int .i64 0] := by unfold ZeroV; kernel_rfl
theorem app_byte {xs : List Int} {a : Int} (h : ∀ x ∈ xs, 0 ≤ x ∧ x ≤ 255) : ∀ x ∈ xs ++ [IntKind.u8.wrap a], 0 ≤ x ∧ x ≤ 255 := by
  intro x hx
  rcases List.mem_append.1 hx with h1 | h1
  · exact h x h1
  · simp at h1; subst h1; rw [wrap_u8]; omega

theorem ent_eq {k : Nat} {xs ys : List (Int × Int)} (h : ¬ ¬ ((xs.getD (k : Int).toNat default).1 = (ys.getD (k : Int).toNat default).1 ∧ (xs.getD (k : Int).toNat default).2 = (ys.getD (k : Int).toNat default).2 ∧ True)) : xs.getD k default = ys.getD k default := by
  have h := Classical.not_not.1 h
  simp only [Int.toNat_natCast] at h
  exact Prod.ext h.1 h.2.1
theorem ueTab_len {xs : List (Int × Int)} (h : xs = ueTab) : xs.length = 512 := by rw [h]; unfold ueTab; rw [List.length_map, List.length_range]

/-- laws.szEntryS -/
theorem l_szEntryS (p : Option Addr) (n c : Nat) (left : Int) (w : World) (hs : n ≤ 9223372036854775807) (hl : 0 ≤ left ∧ left ≤ 9223372036854775807) :
    Calls Try.prog 42 [.slice p n c, .int .i64 left].toArray w (Ret w (.int .i64 (szOf left n))) := by
  have L : Exm [] w w := Exm.rfl'
  refine enter (n := 12) Try.func42 rfl rfl rfl ?_
  refine wp_seq ?_
  refine c_reg ?_
  refine s0 (x_assign (v := .int _ _) rfl) ?_
  refine c_end ?_
  refine n_then ?_
  refine wp_seq ?_
  refine c_reg ?_
  refine s0 (x_move (v := .int _ _) rfl) ?_
  refine s0 (x_move (v := .slice _ _ _) rfl) ?_
  refine s0 (x_lensl un61 rfl) ?_
  refine s0 (x_sub rfl rfl (by omega)) ?_
  refine s0 (x_assign (v := .int _ _) rfl) ?_
  refine c_end ?_
  refine n_then ?_
  refine wp_seq ?_
  refine wp_seq ?_
  refine c_reg ?_
  refine s0 (x_move (v := .int _ _) rfl) ?_
  refine sb (x_lss rfl rfl) (fun h10 => ?_) (fun h10 => ?_)
  · refine c_end ?_
    refine n_then ?_
    refine c_true rfl ?_
    refine wp_seq ?_
    refine c_reg ?_
    refine s0 (x_assign (v := .int _ _) rfl) ?_
    refine c_end ?_
    refine n_then ?_
    refine wp_ret (r_then ?_)
    refine f_ret rfl rfl ?_
    exact ⟨ret_int (by unfold szOf; rw [if_pos (by omega)]), L⟩
  · refine c_end ?_
    refine n_then ?_
    refine c_false rfl ?_
    refine c_skipn ?_
    refine n_then ?_
    refine wp_seq ?_
    refine c_reg ?_
    refine s0 (x_move (v := .int _ _) rfl) ?_
    refine s0 (x_assign (v := .int _ _) rfl) ?_
    refine c_end ?_
    refine n_then ?_
    refine wp_ret ?_
    refine f_ret rfl rfl ?_
    exact ⟨ret_int (by unfold szOf; rw [if_neg (by omega)]), L⟩

/-- laws.toEntry -/
theorem l_toEntry (a b : Int) (w : World) :
    Calls Try.prog 129 [.agg [.int .i64 a, .int .i64 b].toArray].toArray w (Ret w (.agg [.int .i64 a, .int .i64 b].toArray)) := by
  have L : Exm [] w w := Exm.rfl'
  refine enter (n := 11) Try.func129 rfl rfl rfl ?_
  refine wp_seq ?_
  refine c_reg ?_
  refine s_box rfl rfl ?_
  intro b1 w2 lob1 hib1 l3 B1
  have z_l3 := l3.size
  have L := L.tr l3.up
  refine s_alloc zr151 ?_
  intro b4 w5 lob4 hib4 l6 B4
  have z_l6 := l6.size
  have L := L.tr l6.up
  have B1 := B1.ext l6
  refine c_end ?_
  refine n_then ?_
  refine wp_seq ?_
  refine c_reg ?_
  refine s_alloc zr151 ?_
  intro b7 w8 lob7 hib7 l9 B7
  have z_l9 := l9.size
  have L := L.tr l9.up
  have B1 := B1.ext l9
  have B4 := B4.ext l9
  refine c_end ?_
  refine n_then ?_
  refine wp_seq ?_
  refine c_reg ?_
  refine s0 (x_fieldAddr fa157_0 rfl) ?_
  refine st (x_loadB sc3 rfl B1 rfl) ?_
  refine s0 (x_fieldAddr fa151_0 rfl) ?_
  refine s_store (v := .int _ _) (cs' := [_, _]) rfl sz3 rfl rfl rfl rfl B7 rfl rfl ?_
  intro w10 l11 el11 B7
  have z_l11 := l11.size
  have L := L.fresh l11 (by omega)
  have B1 := B1.ne l11 (by omega)
  have B4 := B4.ne l11 (by omega)
  refine c_end ?_
  refine n_then ?_
  refine wp_seq ?_
  refine c_reg ?_
  refine s0 (x_fieldAddr fa157_1 rfl) ?_
  refine st (x_loadB sc3 rfl B1 rfl) ?_
  refine s0 (x_fieldAddr fa151_1 rfl) ?_
  refine s_store (v := .int _ _) (cs' := [_, _]) rfl sz3 rfl rfl rfl rfl B7 rfl rfl ?_
  intro w12 l13 el13 B7
  have z_l13 := l13.size
  have L := L.fresh l13 (by omega)
  have B1 := B1.ne l13 (by omega)
  have B4 := B4.ne l13 (by omega)
  refine c_end ?_
  refine n_then ?_
  refine wp_seq ?_
  refine c_reg ?_
  refine st (x_loadAgB ag151 rfl B7 rfl) ?_
  refine s_storeAg rfl sz151 rfl rfl B4 rfl rfl rfl ?_
  intro w14 l15 el15 B4
  have z_l15 := l15.size
  have L := L.fresh l15 (by omega)
  have B1 := B1.ne l15 (by omega)
  have B7 := B7.ne l15 (by omega)
  refine c_end ?_
  refine n_then ?_
  refine wp_ret ?_
  refine f_retc rfl rfl ag151 B4 rfl ?_
  exact ⟨rfl, L⟩

/-- laws.toEntryS -/
theorem l_toEntryS (p : Option Addr) (xs : List (Int × Int)) (c : Nat) (w : World) (hp : Sl w p xs.length c 2 (xs.flatMap erow)) (hl : xs.length ≤ 1099511627776) :
    Calls Try.prog 45 [.slice p xs.length c].toArray w (RetP w fun v w' => ∃ p c F, v = .slice p (xs).length c ∧ Own w' p (xs).length c 151 2 ((xs).flatMap erow) F ∧ Fr w.heap.size F) := by
  have L : Exm [] w w := Exm.rfl'
  refine enter (n := 23) Try.func45 rfl rfl rfl ?_
  refine wp_seq ?_
  refine c_reg ?_
  refine s0 (x_assign (v := .slice _ _ _) rfl) ?_
  refine c_end ?_
  refine n_then ?_
  refine wp_seq ?_
  refine c_reg ?_
  refine s0 (x_move (v := .slice _ _ _) rfl) ?_
  refine s0 (x_lensl un61 rfl) ?_
  refine s_maker (0, 0) erow_len so68 zr151 rfl rfl (by omega) (by omega) (by omega) ?_
  intro p7 F7 w1 l2 o7 f7 g7
  have z_l2 := l2.size
  have L := L.tr l2.up
  have hn7 := o7.nr erow_len (by decide)
  refine s0 (x_assign (v := .slice _ _ _) rfl) ?_
  refine c_end ?_
  refine n_then ?_
  refine wp_seq ?_
  refine wp_seq ?_
  refine c_reg ?_
  refine s0 (x_assign (v := .int _ _) rfl) ?_
  refine c_end ?_
  refine n_then ?_
  refine wp_block ?_
  refine c_loop (γ := Nat) (fun k => xs.length - k) (fun (k : Nat) E wl => ∃ E0 pz3 cz3 Fz3, E = upd (upd (upd E0 0 (.slice p xs.length c)) 3 (.slice pz3 (xs.length) cz3)) 4 (.int .i64 (k : Int)) ∧ (Exm [] w wl) ∧ (w1.heap.size ≤ wl.heap.size) ∧ (Own wl pz3 (xs.length) cz3 151 2 ((mkU xs (List.replicate xs.length (0, 0)) k).flatMap erow) Fz3) ∧ (Fr (w.heap.size) Fz3) ∧ (Lt Fz3 wl.heap.size) ∧ ((k : Int) ≤ xs.length)) 0 ⟨_, _, _, _, upd_self3 rfl rfl rfl, L, (by omega), (by rw [mkU_zero]; exact o7), (f7.mono (by omega)), (g7.mono (by omega)), (by omega)⟩ ?_
  rintro k E wl3 ⟨E0, pz3, cz3, Fz3, rfl, L, Lz, oz3, fz3, gz3, hk⟩
  have Lz0 := L.size
  have hml : (mkU xs (List.replicate xs.length (0, 0)) k).length = xs.length := by rw [mkU_length (by rw [List.length_replicate]), List.length_replicate]
  refine wp_seq ?_
  refine wp_seq ?_
  refine c_reg ?_
  refine s0 (x_move (v := .int _ _) rfl) ?_
  refine s0 (x_move (v := .slice _ _ _) rfl) ?_
  refine s0 (x_lensl un61 rfl) ?_
  refine sb (x_lss rfl rfl) (fun h11 => ?_) (fun h11 => ?_)
  · refine c_end ?_
    refine n_then ?_
    refine c_true rfl ?_
    refine c_skipn ?_
    refine n_then ?_
    refine wp_seq ?_
    refine wp_block ?_
    refine c_reg ?_
    refine s0 (x_move (v := .slice _ _ _) rfl) ?_
    refine s0 (x_move (v := .int _ _) rfl) ?_
    refine s0 (x_move (v := .slice _ _ _) rfl) ?_
    refine s0 (x_move (v := .int _ _) rfl) ?_
    refine s0 (x_idx so61 rfl rfl hp (by decide) (by omega) (by omega)) ?_
    refine st (x_ldr erow_len ag157 rfl (hp.ext L) (by omega) (by omega)) ?_
    refine sr (zcall cl129 rfl) (l_toEntry _ _ _) ?_
    intro w4 l5
    have z_l5 := l5.size
    have L := L.tr l5.up
    have oz3 := oz3.ext l5
    refine s0 (x_idx so68 rfl rfl oz3.sl (by decide) (by omega) (by omega)) ?_
    refine s_stor (v := xs.getD (k : Int).toNat default) erow_len erow_one rfl sz151 rfl rfl (by decide) oz3 (by omega) (by omega) ?_
    intro w6 l7 el7 oz3
    have z_l7 := l7.size
    have L := L.freshL l7 fz3 (by omega)
    have hnl7 := oz3.nr erow_len (by decide)
    refine c_end ?_
    refine n_block ?_
    refine n_then ?_
    refine c_reg ?_
    refine s0 (x_move (v := .int _ _) rfl) ?_
    refine s0 (x_add rfl rfl (by omega)) ?_
    refine s0 (x_assign (v := .int _ _) rfl) ?_
    refine c_end ?_
    exact c_round (g' := k + 1) (by omega) ⟨_, _, _, _, upd_self3 rfl (by (skip); rfl) (vint (by omega)), L, (by omega), (by (rw [← mkU_succ (j := k) (v := xs.getD (k : Int).toNat default) (by rw [List.length_replicate]) (by rw [List.length_replicate]; omega) (get_some (i := (k : Int)) (by omega) (by omega))]); exact oz3), (fz3.mono (by omega)), (gz3.mono (by omega)), (by omega)⟩
  · refine c_end ?_
    refine n_then ?_
    refine c_false rfl ?_
    refine wp_exit (e_then (e_then (e_here ?_)))
    refine n_then ?_
    refine wp_seq ?_
    refine c_reg ?_
    refine s0 (x_move (v := .slice _ _ _) rfl) ?_
    refine s0 (x_assign (v := .slice _ _ _) rfl) ?_
    refine c_end ?_
    refine n_then ?_
    refine wp_ret ?_
    refine f_ret rfl rfl ?_
    obtain rfl : k = xs.length := by omega
    have hend : mkU xs (List.replicate xs.length (0, 0)) xs.length = xs := by have := mkU_end (ms := xs) (xs := List.replicate xs.length (0, 0)) (by rw [List.length_replicate]); rwa [List.length_replicate] at this
    rw [hend] at oz3
    exact ⟨_, rfl, L, _, _, _, rfl, oz3, fz3.mono (by omega)⟩

end Go.Proofs.Ytdnckakaoageoaa
