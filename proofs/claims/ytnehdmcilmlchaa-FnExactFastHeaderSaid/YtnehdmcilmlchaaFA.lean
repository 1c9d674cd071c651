/- What each function of this part returns, for every argument that meets its premises. -/
import Derived.Test.YtnehdmcilmlchaaProg
import Derived.Test.YtnehdmcilmlchaaSxF
import Derived.Test.YtnehdmcilmlchaaPlX
import Derived.Test.YtnehdmcilmlchaaF7
import Derived.Test.YtnehdmcilmlchaaF8
import Derived.Test.YtnehdmcilmlchaaF9
namespace Go.Proofs.Ytnehdmcilmlchaa
open Go.Sx Go.Pl Go.RowKit
theorem ag128FA : Ag Try.prog 128 2 := ⟨⟨_, Try.underlying128⟩, by kernel_rfl⟩
theorem ag167FA : Ag Try.prog 167 2 := ⟨⟨_, Try.underlying167⟩, by kernel_rfl⟩
theorem cl135FA : Callable Try.prog 135 := callable Try.func135 (by kernel_rfl) rfl
theorem cl14FA : Callable Try.prog 14 := callable Try.func14 (by kernel_rfl) rfl
theorem cl93FA : Callable Try.prog 93 := callable Try.func93 (by kernel_rfl) rfl
theorem cl94FA : Callable Try.prog 94 := callable Try.func94 (by kernel_rfl) rfl
theorem fa128_0FA : FieldAt Try.prog 128 0 0 := ⟨_, _, Try.underlying128, rfl, rfl, ⟨0, by unfold Sz; kernel_rfl⟩⟩
theorem fa128_1FA : FieldAt Try.prog 128 1 1 := ⟨_, _, Try.underlying128, rfl, rfl, ⟨0, by unfold Sz; kernel_rfl⟩⟩
theorem fa167_0FA : FieldAt Try.prog 167 0 0 := ⟨_, _, Try.underlying167, rfl, rfl, ⟨0, by unfold Sz; kernel_rfl⟩⟩
theorem fa167_1FA : FieldAt Try.prog 167 1 1 := ⟨_, _, Try.underlying167, rfl, rfl, ⟨0, by unfold Sz; kernel_rfl⟩⟩
theorem sc3FA : Sc Try.prog 3 := ⟨(.int .i64), by kernel_rfl, trivial⟩
theorem so26FA : SliceOf Try.prog 26 128 2 16 := ⟨by kernel_rfl, by kernel_rfl⟩
theorem so73FA : SliceOf Try.prog 73 167 2 16 := ⟨by kernel_rfl, by kernel_rfl⟩
theorem sz128FA : Sz Try.prog 128 2 := by unfold Sz; kernel_rfl
theorem sz3FA : Sz Try.prog 3 1 := by unfold Sz; kernel_rfl
theorem un26FA : Try.prog.underlying 26 = some (.slice 128) := by kernel_rfl
theorem un3FA : Try.prog.underlying 3 = some (.int .i64) := by kernel_rfl
theorem un73FA : Try.prog.underlying 73 = some (.slice 167) := by kernel_rfl
theorem zr128FA : ZeroV Try.prog 128 [.int .i64 0, .int .i64 0] := by unfold ZeroV; kernel_rfl
theorem fe128FA {a0 b0 : Int} {a1 b1 : Int} : StEq Try.prog 128 [.int .i64 a0, .int .i64 a1] [.int .i64 b0, .int .i64 b1] (a0 = b0 ∧ a1 = b1 ∧ True) := ⟨_, Try.underlying128, by kernel_rfl, by kernel_rfl, (fe_int (by decide) sc3FA un3FA rfl rfl (fe_int (by decide) sc3FA un3FA rfl rfl fe_nil))⟩
theorem app_byte {xs : List Int} {a : Int} (h : ∀ x ∈ xs, 0 ≤ x ∧ x ≤ 255) : ∀ x ∈ xs ++ [IntKind.u8.wrap a], 0 ≤ x ∧ x ≤ 255 := by
  intro x hx
  rcases List.mem_append.1 hx with h1 | h1
  · exact h x h1
  · simp at h1; subst h1; rw [wrap_u8]; omega

theorem ent_eq {k : Nat} {xs ys : List (Int × Int)} (h : ¬ ¬ ((xs.getD (k : Int).toNat default).1 = (ys.getD (k : Int).toNat default).1 ∧ (xs.getD (k : Int).toNat default).2 = (ys.getD (k : Int).toNat default).2 ∧ True)) : xs.getD k default = ys.getD k default := by
  have h := Classical.not_not.1 h
  simp only [Int.toNat_natCast] at h
  exact Prod.ext h.1 h.2.1
theorem ueTab_len {xs : List (Int × Int)} (h : xs = ueTab) : xs.length = 512 := by rw [h]; unfold ueTab; rw [List.length_map, List.length_range]

/-- laws.szEntryS -/
theorem l_szEntryS (p : Option Addr) (n c : Nat) (left : Int) (w : World) (hs : n ≤ 9223372036854775807) (hl : 0 ≤ left ∧ left ≤ 9223372036854775807) :
    Calls Try.prog 46 [.slice p n c, .int .i64 left].toArray w (Ret w (.int .i64 (szOf left n))) := by
  have L : Exm [] w w := Exm.rfl'
  refine enter (n := 12) Try.func46 rfl rfl rfl ?_
  refine wp_seq ?_
  refine c_reg ?_
  refine s0 (x_assign (v := .int _ _) rfl) ?_
  refine c_end ?_
  refine n_then ?_
  refine wp_seq ?_
  refine c_reg ?_
  refine s0 (x_move (v := .int _ _) rfl) ?_
  refine s0 (x_move (v := .slice _ _ _) rfl) ?_
  refine s0 (x_lensl un73FA rfl) ?_
  refine s0 (x_sub rfl rfl (by omega)) ?_
  refine s0 (x_assign (v := .int _ _) rfl) ?_
  refine c_end ?_
  refine n_then ?_
  refine wp_seq ?_
  refine wp_seq ?_
  refine c_reg ?_
  refine s0 (x_move (v := .int _ _) rfl) ?_
  refine sb (x_lss rfl rfl) (fun h10 => ?_) (fun h10 => ?_)
  · refine c_end ?_
    refine n_then ?_
    refine c_true rfl ?_
    refine wp_seq ?_
    refine c_reg ?_
    refine s0 (x_assign (v := .int _ _) rfl) ?_
    refine c_end ?_
    refine n_then ?_
    refine wp_ret (r_then ?_)
    refine f_ret rfl rfl ?_
    exact ⟨ret_int (by unfold szOf; rw [if_pos (by omega)]), L⟩
  · refine c_end ?_
    refine n_then ?_
    refine c_false rfl ?_
    refine c_skipn ?_
    refine n_then ?_
    refine wp_seq ?_
    refine c_reg ?_
    refine s0 (x_move (v := .int _ _) rfl) ?_
    refine s0 (x_assign (v := .int _ _) rfl) ?_
    refine c_end ?_
    refine n_then ?_
    refine wp_ret ?_
    refine f_ret rfl rfl ?_
    exact ⟨ret_int (by unfold szOf; rw [if_neg (by omega)]), L⟩

/-- laws.toEntry -/
theorem l_toEntry (a b : Int) (w : World) :
    Calls Try.prog 135 [.agg [.int .i64 a, .int .i64 b].toArray].toArray w (Ret w (.agg [.int .i64 a, .int .i64 b].toArray)) := by
  have L : Exm [] w w := Exm.rfl'
  refine enter (n := 11) Try.func135 rfl rfl rfl ?_
  refine wp_seq ?_
  refine c_reg ?_
  refine s_box rfl rfl ?_
  intro b1 w2 lob1 hib1 l3 B1
  have z_l3 := l3.size
  have L := L.tr l3.up
  refine s_alloc zr128FA ?_
  intro b4 w5 lob4 hib4 l6 B4
  have z_l6 := l6.size
  have L := L.tr l6.up
  have B1 := B1.ext l6
  refine c_end ?_
  refine n_then ?_
  refine wp_seq ?_
  refine c_reg ?_
  refine s_alloc zr128FA ?_
  intro b7 w8 lob7 hib7 l9 B7
  have z_l9 := l9.size
  have L := L.tr l9.up
  have B1 := B1.ext l9
  have B4 := B4.ext l9
  refine c_end ?_
  refine n_then ?_
  refine wp_seq ?_
  refine c_reg ?_
  refine s0 (x_fieldAddr fa167_0FA rfl) ?_
  refine st (x_loadB sc3FA rfl B1 rfl) ?_
  refine s0 (x_fieldAddr fa128_0FA rfl) ?_
  refine s_store (v := .int _ _) (cs' := [_, _]) rfl sz3FA rfl rfl rfl rfl B7 rfl rfl ?_
  intro w10 l11 el11 B7
  have z_l11 := l11.size
  have L := L.fresh l11 (by omega)
  have B1 := B1.ne l11 (by omega)
  have B4 := B4.ne l11 (by omega)
  refine c_end ?_
  refine n_then ?_
  refine wp_seq ?_
  refine c_reg ?_
  refine s0 (x_fieldAddr fa167_1FA rfl) ?_
  refine st (x_loadB sc3FA rfl B1 rfl) ?_
  refine s0 (x_fieldAddr fa128_1FA rfl) ?_
  refine s_store (v := .int _ _) (cs' := [_, _]) rfl sz3FA rfl rfl rfl rfl B7 rfl rfl ?_
  intro w12 l13 el13 B7
  have z_l13 := l13.size
  have L := L.fresh l13 (by omega)
  have B1 := B1.ne l13 (by omega)
  have B4 := B4.ne l13 (by omega)
  refine c_end ?_
  refine n_then ?_
  refine wp_seq ?_
  refine c_reg ?_
  refine st (x_loadAgB ag128FA rfl B7 rfl) ?_
  refine s_storeAg rfl sz128FA rfl rfl B4 rfl rfl rfl ?_
  intro w14 l15 el15 B4
  have z_l15 := l15.size
  have L := L.fresh l15 (by omega)
  have B1 := B1.ne l15 (by omega)
  have B7 := B7.ne l15 (by omega)
  refine c_end ?_
  refine n_then ?_
  refine wp_ret ?_
  refine f_retc rfl rfl ag128FA B4 rfl ?_
  exact ⟨rfl, L⟩

/-- laws.toEntryS -/
theorem l_toEntryS (p : Option Addr) (xs : List (Int × Int)) (c : Nat) (w : World) (hp : Sl w p xs.length c 2 (xs.flatMap erow)) (hl : xs.length ≤ 1099511627776) :
    Calls Try.prog 49 [.slice p xs.length c].toArray w (RetP w fun v w' => ∃ p c F, v = .slice p (xs).length c ∧ Own w' p (xs).length c 128 2 ((xs).flatMap erow) F ∧ Fr w.heap.size F) := by
  have L : Exm [] w w := Exm.rfl'
  refine enter (n := 23) Try.func49 rfl rfl rfl ?_
  refine wp_seq ?_
  refine c_reg ?_
  refine s0 (x_assign (v := .slice _ _ _) rfl) ?_
  refine c_end ?_
  refine n_then ?_
  refine wp_seq ?_
  refine c_reg ?_
  refine s0 (x_move (v := .slice _ _ _) rfl) ?_
  refine s0 (x_lensl un73FA rfl) ?_
  refine s_maker (0, 0) erow_len so26FA zr128FA rfl rfl (by omega) (by omega) (by omega) ?_
  intro p7 F7 w1 l2 o7 f7 g7
  have z_l2 := l2.size
  have L := L.tr l2.up
  have hn7 := o7.nr erow_len (by decide)
  refine s0 (x_assign (v := .slice _ _ _) rfl) ?_
  refine c_end ?_
  refine n_then ?_
  refine wp_seq ?_
  refine wp_seq ?_
  refine c_reg ?_
  refine s0 (x_assign (v := .int _ _) rfl) ?_
  refine c_end ?_
  refine n_then ?_
  refine wp_block ?_
  refine c_loop (γ := Nat) (fun k => xs.length - k) (fun (k : Nat) E wl => ∃ E0 pz3 cz3 Fz3, E = upd (upd (upd E0 0 (.slice p xs.length c)) 3 (.slice pz3 (xs.length) cz3)) 4 (.int .i64 (k : Int)) ∧ (Exm [] w wl) ∧ (w1.heap.size ≤ wl.heap.size) ∧ (Own wl pz3 (xs.length) cz3 128 2 ((mkU xs (List.replicate xs.length (0, 0)) k).flatMap erow) Fz3) ∧ (Fr (w.heap.size) Fz3) ∧ (Lt Fz3 wl.heap.size) ∧ ((k : Int) ≤ xs.length)) 0 ⟨_, _, _, _, upd_self3 rfl rfl rfl, L, (by omega), (by rw [mkU_zero]; exact o7), (f7.mono (by omega)), (g7.mono (by omega)), (by omega)⟩ ?_
  rintro k E wl3 ⟨E0, pz3, cz3, Fz3, rfl, L, Lz, oz3, fz3, gz3, hk⟩
  have Lz0 := L.size
  have hml : (mkU xs (List.replicate xs.length (0, 0)) k).length = xs.length := by rw [mkU_length (by rw [List.length_replicate]), List.length_replicate]
  refine wp_seq ?_
  refine wp_seq ?_
  refine c_reg ?_
  refine s0 (x_move (v := .int _ _) rfl) ?_
  refine s0 (x_move (v := .slice _ _ _) rfl) ?_
  refine s0 (x_lensl un73FA rfl) ?_
  refine sb (x_lss rfl rfl) (fun h11 => ?_) (fun h11 => ?_)
  · refine c_end ?_
    refine n_then ?_
    refine c_true rfl ?_
    refine c_skipn ?_
    refine n_then ?_
    refine wp_seq ?_
    refine wp_block ?_
    refine c_reg ?_
    refine s0 (x_move (v := .slice _ _ _) rfl) ?_
    refine s0 (x_move (v := .int _ _) rfl) ?_
    refine s0 (x_move (v := .slice _ _ _) rfl) ?_
    refine s0 (x_move (v := .int _ _) rfl) ?_
    refine s0 (x_idx so73FA rfl rfl hp (by decide) (by omega) (by omega)) ?_
    refine st (x_ldr erow_len ag167FA rfl (hp.ext L) (by omega) (by omega)) ?_
    refine sr (zcall cl135FA rfl) (l_toEntry _ _ _) ?_
    intro w4 l5
    have z_l5 := l5.size
    have L := L.tr l5.up
    have oz3 := oz3.ext l5
    refine s0 (x_idx so26FA rfl rfl oz3.sl (by decide) (by omega) (by omega)) ?_
    refine s_stor (v := xs.getD (k : Int).toNat default) erow_len erow_one rfl sz128FA rfl rfl (by decide) oz3 (by omega) (by omega) ?_
    intro w6 l7 el7 oz3
    have z_l7 := l7.size
    have L := L.freshL l7 fz3 (by omega)
    have hnl7 := oz3.nr erow_len (by decide)
    refine c_end ?_
    refine n_block ?_
    refine n_then ?_
    refine c_reg ?_
    refine s0 (x_move (v := .int _ _) rfl) ?_
    refine s0 (x_add rfl rfl (by omega)) ?_
    refine s0 (x_assign (v := .int _ _) rfl) ?_
    refine c_end ?_
    exact c_round (g' := k + 1) (by omega) ⟨_, _, _, _, upd_self3 rfl (by (skip); rfl) (vint (by omega)), L, (by omega), (by (rw [← mkU_succ (j := k) (v := xs.getD (k : Int).toNat default) (by rw [List.length_replicate]) (by rw [List.length_replicate]; omega) (get_some (i := (k : Int)) (by omega) (by omega))]); exact oz3), (fz3.mono (by omega)), (gz3.mono (by omega)), (by omega)⟩
  · refine c_end ?_
    refine n_then ?_
    refine c_false rfl ?_
    refine wp_exit (e_then (e_then (e_here ?_)))
    refine n_then ?_
    refine wp_seq ?_
    refine c_reg ?_
    refine s0 (x_move (v := .slice _ _ _) rfl) ?_
    refine s0 (x_assign (v := .slice _ _ _) rfl) ?_
    refine c_end ?_
    refine n_then ?_
    refine wp_ret ?_
    refine f_ret rfl rfl ?_
    obtain rfl : k = xs.length := by omega
    have hend : mkU xs (List.replicate xs.length (0, 0)) xs.length = xs := by have := mkU_end (ms := xs) (xs := List.replicate xs.length (0, 0)) (by rw [List.length_replicate]); rwa [List.length_replicate] at this
    rw [hend] at oz3
    exact ⟨_, rfl, L, _, _, _, rfl, oz3, fz3.mono (by omega)⟩

/-- slices.Equal[[]impl.Entry,impl.Entry] -/
theorem g_equalE (p q : Option Addr) (xs ys : List (Int × Int)) (c d : Nat) (w : World) (hp : Sl w p xs.length c 2 (xs.flatMap erow)) (hq : Sl w q ys.length d 2 (ys.flatMap erow)) (hl : xs.length ≤ 1099511627776) :
    Calls Try.prog 93 [.slice p xs.length c, .slice q ys.length d].toArray w (Ret w (.bool (decide (xs = ys)))) := by
  have L : Exm [] w w := Exm.rfl'
  refine enter (n := 26) Try.func93 rfl rfl rfl ?_
  refine wp_seq ?_
  refine c_reg ?_
  refine s0 (x_assign (v := .bool _) rfl) ?_
  refine c_end ?_
  refine n_then ?_
  refine wp_seq ?_
  refine wp_seq ?_
  refine c_reg ?_
  refine s0 (x_move (v := .slice _ _ _) rfl) ?_
  refine s0 (x_lensl un26FA rfl) ?_
  refine s0 (x_move (v := .slice _ _ _) rfl) ?_
  refine s0 (x_lensl un26FA rfl) ?_
  refine sb (x_neq rfl rfl) (fun h10 => ?_) (fun h10 => ?_)
  · refine c_end ?_
    refine n_then ?_
    refine c_true rfl ?_
    refine wp_seq ?_
    refine c_reg ?_
    refine s0 (x_assign (v := .bool _) rfl) ?_
    refine c_end ?_
    refine n_then ?_
    refine wp_ret (r_then ?_)
    refine f_ret rfl rfl ?_
    exact ⟨ret_f (fun h => h10 (by rw [h])), L⟩
  · refine c_end ?_
    refine n_then ?_
    refine c_false rfl ?_
    refine c_skipn ?_
    refine n_then ?_
    refine wp_seq ?_
    refine wp_seq ?_
    refine c_reg ?_
    refine s0 (x_move (v := .slice _ _ _) rfl) ?_
    refine s0 (x_lensl un26FA rfl) ?_
    refine s0 (x_move (v := .int _ _) rfl) ?_
    refine c_end ?_
    refine n_then ?_
    refine wp_block ?_
    refine c_loop (γ := Nat) (fun k => xs.length - k) (fun (k : Nat) E wl => ∃ E0, E = upd (upd (upd (upd E0 0 (.slice p xs.length c)) 1 (.slice q ys.length d)) 12 (.int .i64 xs.length)) 13 (.int .i64 (k : Int)) ∧ (Exm [] w wl) ∧ ((k : Int) ≤ xs.length) ∧ (∀ j : Nat, j < k → xs.getD j default = ys.getD j default)) 0 ⟨_, upd_self4 rfl rfl rfl rfl, L, (by omega), (by intro j hj; omega)⟩ ?_
    rintro k E wl1 ⟨E0, rfl, L, hk, heq⟩
    have Lz0 := L.size
    refine wp_seq ?_
    refine c_reg ?_
    refine sb (x_lss rfl rfl) (fun h14 => ?_) (fun h14 => ?_)
    · refine c_end ?_
      refine n_then ?_
      refine wp_seq ?_
      refine c_true rfl ?_
      refine c_skipn ?_
      refine n_then ?_
      refine wp_seq ?_
      refine wp_block ?_
      refine wp_seq ?_
      refine c_reg ?_
      refine s0 (x_move (v := .int _ _) rfl) ?_
      refine s0 (x_assign (v := .int _ _) rfl) ?_
      refine c_end ?_
      refine n_then ?_
      refine wp_seq ?_
      refine c_plan (fun wq => Exm [] wl1 wq) 9 (.cons (0, 2) (.cons (1, 2) (.cons (2, 2) (.cons (3, 1) (.cons (4, 2) (.cons (5, 2) (.cons (6, 2) (.cons (7, 1) (.cons (8, 2) .nil))))))))) (by kernel_rfl) (by kernel_rfl) (Exm.drew _) ?_
      obtain ⟨w2, hwd⟩ : ∃ x, x = wl1.drew := ⟨_, rfl⟩
      have l3 : Ext wl1 w2 := by rw [hwd]; exact Exm.drew _
      rw [← hwd]; clear hwd
      have Lq : Exm [] wl1 w2 := l3.up
      have qL := L
      have z_l3 := l3.size
      have L := L.tr l3.up
      refine p0 rfl (x_move (v := .slice _ _ _) rfl) ?_
      refine p0 rfl (x_move (v := .int _ _) rfl) ?_
      refine p0 rfl (x_idx so26FA rfl rfl hp (by decide) (by omega) (by omega)) ?_
      refine ps rfl (fun wq hwq => x_ldr erow_len ag128FA rfl ((hp.ext qL).ext hwq) (by omega) (by omega)) ?_
      refine p0 rfl (x_move (v := .slice _ _ _) rfl) ?_
      refine p0 rfl (x_move (v := .int _ _) rfl) ?_
      refine p0 rfl (x_idx so26FA rfl rfl hq (by decide) (by omega) (by omega)) ?_
      refine ps rfl (fun wq hwq => x_ldr erow_len ag128FA rfl ((hq.ext qL).ext hwq) (by omega) (by omega)) ?_
      refine pb rfl (x_neqa fe128FA rfl rfl) (fun h24 => ?_) (fun h24 => ?_)
      · refine p_nil (np_normal ?_)
        refine n_then ?_
        refine c_true rfl ?_
        refine wp_seq ?_
        refine c_reg ?_
        refine s0 (x_assign (v := .bool _) rfl) ?_
        refine c_end ?_
        refine n_then ?_
        refine wp_ret (r_block (r_then (r_then (r_block (r_then ?_)))))
        refine f_ret rfl rfl ?_
        exact ⟨ret_f (fun h => h24 (by rw [h]; exact ⟨rfl, rfl, trivial⟩)), L⟩
      · refine p_nil (np_normal ?_)
        refine n_then ?_
        refine c_false rfl ?_
        refine c_skipn ?_
        refine n_block ?_
        refine n_then ?_
        refine c_reg ?_
        refine s0 (x_add rfl rfl (by omega)) ?_
        refine s0 (x_move (v := .int _ _) rfl) ?_
        refine c_end ?_
        exact c_round (g' := k + 1) (by omega) ⟨_, upd_self4 rfl rfl rfl (vint (by omega)), L, (by omega), (upto_succ' heq (ent_eq h24))⟩
    · refine c_end ?_
      refine n_then ?_
      refine wp_seq ?_
      refine c_false rfl ?_
      refine wp_exit (e_then (e_then (e_here ?_)))
      refine n_then ?_
      refine wp_seq ?_
      refine c_reg ?_
      refine s0 (x_assign (v := .bool _) rfl) ?_
      refine c_end ?_
      refine n_then ?_
      refine wp_ret ?_
      refine f_ret rfl rfl ?_
      exact ⟨ret_t (ext_getD (by omega) fun j hj => heq j (by omega)), L⟩

/-- impl.TableOk -/
theorem i_tableOk (p : Option Addr) (xs : List (Int × Int)) (c : Nat) (w : World) (hp : Sl w p xs.length c 2 (xs.flatMap erow)) (hl : xs.length ≤ 1099511627776) :
    Calls Try.prog 15 [.slice p xs.length c].toArray w (Ret w (.bool (decide (xs = ueTab)))) := by
  have L : Exm [] w w := Exm.rfl'
  refine enter (n := 6) Try.func15 rfl rfl rfl ?_
  refine wp_seq ?_
  refine c_reg ?_
  refine s0 (x_assign (v := .bool _) rfl) ?_
  refine c_end ?_
  refine n_then ?_
  refine wp_seq ?_
  refine c_reg ?_
  refine s0 (x_move (v := .slice _ _ _) rfl) ?_
  refine sp (zcall cl14FA rfl) (i_ueTable _) ?_
  rintro v4 w1 l2 ⟨xs4, hx4, p4, c4, F4, rfl, o4, f4⟩
  have z_l2 := l2.size
  have L := L.tr l2.up
  have hl4 := ueTab_len hx4
  have g4 := o4.lt
  refine sr (zcall cl93FA rfl) (g_equalE _ _ _ _ _ _ _ (hp.ext L) o4.sl (by omega)) ?_
  intro w3 l4
  have z_l4 := l4.size
  have L := L.tr l4.up
  have o4 := o4.ext l4
  refine s0 (x_assign (v := .bool _) rfl) ?_
  refine c_end ?_
  refine n_then ?_
  refine wp_ret ?_
  refine f_ret rfl rfl ?_
  exact ⟨ret_dec2 (by rw [hx4]), L⟩

/-- spec.TableOk -/
theorem s_tableOk (p : Option Addr) (xs : List (Int × Int)) (c : Nat) (w : World) (hp : Sl w p xs.length c 2 (xs.flatMap erow)) (hl : xs.length ≤ 1099511627776) :
    Calls Try.prog 16 [.slice p xs.length c].toArray w (Ret w (.bool (decide (xs = ueTab)))) := by
  have L : Exm [] w w := Exm.rfl'
  refine enter (n := 32) Try.func16 rfl rfl rfl ?_
  refine wp_seq ?_
  refine c_reg ?_
  refine s0 (x_assign (v := .bool _) rfl) ?_
  refine c_end ?_
  refine n_then ?_
  refine wp_seq ?_
  refine c_reg ?_
  refine sp (zcall cl94FA rfl) (s_ueTable _) ?_
  rintro v5 w1 l2 ⟨xs5, hx5, p5, c5, F5, rfl, o5, f5⟩
  have z_l2 := l2.size
  have L := L.tr l2.up
  have hl5 := ueTab_len hx5
  have g5 := o5.lt
  refine s0 (x_assign (v := .slice _ _ _) rfl) ?_
  refine c_end ?_
  refine n_then ?_
  refine wp_seq ?_
  refine wp_seq ?_
  refine c_reg ?_
  refine s0 (x_assign (v := .int _ _) rfl) ?_
  refine c_end ?_
  refine n_then ?_
  refine wp_block ?_
  refine c_loop (γ := Nat) (fun k => xs.length - k) (fun (k : Nat) E wl => ∃ E0, E = upd (upd (upd E0 0 (.slice p xs.length c)) 3 (.slice p5 xs5.length c5)) 4 (.int .i64 (k : Int)) ∧ (Exm [] w wl) ∧ (w1.heap.size ≤ wl.heap.size) ∧ (Own wl p5 xs5.length c5 128 2 (xs5.flatMap erow) F5) ∧ ((k : Int) ≤ xs.length ∧ (k : Int) ≤ xs5.length) ∧ (∀ j : Nat, j < k → xs.getD j default = xs5.getD j default)) 0 ⟨_, upd_self3 rfl rfl rfl, L, (by omega), o5, (by omega), (by intro j hj; omega)⟩ ?_
  rintro k E wl3 ⟨E0, rfl, L, Lz, o5, hk, heq⟩
  have Lz0 := L.size
  refine wp_seq ?_
  refine wp_seq ?_
  refine c_reg ?_
  refine s0 (x_move (v := .int _ _) rfl) ?_
  refine s0 (x_move (v := .slice _ _ _) rfl) ?_
  refine s0 (x_lensl un26FA rfl) ?_
  refine sb (x_lss rfl rfl) (fun h9 => ?_) (fun h9 => ?_)
  · refine s0 (x_move (v := .bool _) rfl) ?_
    refine gt rfl rfl rfl rfl ?_
    refine s0 (x_move (v := .int _ _) rfl) ?_
    refine gt rfl rfl rfl rfl ?_
    refine s0 (x_move (v := .slice _ _ _) rfl) ?_
    refine gt rfl rfl rfl rfl ?_
    refine s0 (x_lensl un26FA rfl) ?_
    refine gt rfl rfl rfl rfl ?_
    refine sb (x_lss rfl rfl) (fun h14 => ?_) (fun h14 => ?_)
    · refine s0 (x_pickt (v := .bool _) rfl rfl) ?_
      refine c_end ?_
      refine n_then ?_
      refine c_true rfl ?_
      refine c_skipn ?_
      refine n_then ?_
      refine wp_seq ?_
      refine wp_block ?_
      refine wp_seq ?_
      refine c_plan (fun wq => Exm [] wl3 wq) 9 (.cons (0, 2) (.cons (1, 2) (.cons (2, 2) (.cons (3, 1) (.cons (4, 2) (.cons (5, 2) (.cons (6, 2) (.cons (7, 1) (.cons (8, 2) .nil))))))))) (by kernel_rfl) (by kernel_rfl) (Exm.drew _) ?_
      obtain ⟨w4, hwd⟩ : ∃ x, x = wl3.drew := ⟨_, rfl⟩
      have l5 : Ext wl3 w4 := by rw [hwd]; exact Exm.drew _
      rw [← hwd]; clear hwd
      have Lq : Exm [] wl3 w4 := l5.up
      have qo5 := o5
      have qL := L
      have z_l5 := l5.size
      have L := L.tr l5.up
      have o5 := o5.ext l5
      refine p0 rfl (x_move (v := .slice _ _ _) rfl) ?_
      refine p0 rfl (x_move (v := .int _ _) rfl) ?_
      refine p0 rfl (x_idx so26FA rfl rfl hp (by decide) (by omega) (by omega)) ?_
      refine ps rfl (fun wq hwq => x_ldr erow_len ag128FA rfl ((hp.ext qL).ext hwq) (by omega) (by omega)) ?_
      refine p0 rfl (x_move (v := .slice _ _ _) rfl) ?_
      refine p0 rfl (x_move (v := .int _ _) rfl) ?_
      refine p0 rfl (x_idx so26FA rfl rfl o5.sl (by decide) (by omega) (by omega)) ?_
      refine ps rfl (fun wq hwq => x_ldr erow_len ag128FA rfl (qo5.ext hwq).sl (by omega) (by omega)) ?_
      refine pb rfl (x_neqa fe128FA rfl rfl) (fun h26 => ?_) (fun h26 => ?_)
      · refine p_nil (np_normal ?_)
        refine n_then ?_
        refine c_true rfl ?_
        refine wp_seq ?_
        refine c_reg ?_
        refine s0 (x_assign (v := .bool _) rfl) ?_
        refine c_end ?_
        refine n_then ?_
        refine wp_ret (r_block (r_then (r_then (r_block (r_then ?_)))))
        refine f_ret rfl rfl ?_
        exact ⟨ret_f (fun h => h26 (by rw [h, hx5]; exact ⟨rfl, rfl, trivial⟩)), L⟩
      · refine p_nil (np_normal ?_)
        refine n_then ?_
        refine c_false rfl ?_
        refine c_skipn ?_
        refine n_block ?_
        refine n_then ?_
        refine c_reg ?_
        refine s0 (x_move (v := .int _ _) rfl) ?_
        refine s0 (x_add rfl rfl (by omega)) ?_
        refine s0 (x_assign (v := .int _ _) rfl) ?_
        refine c_end ?_
        exact c_round (g' := k + 1) (by omega) ⟨_, upd_self3 rfl rfl (vint (by omega)), L, (by omega), o5, (by omega), (upto_succ' heq (ent_eq h26))⟩
    · refine s0 (x_pickt (v := .bool _) rfl rfl) ?_
      refine c_end ?_
      refine n_then ?_
      refine c_false rfl ?_
      refine wp_exit (e_then (e_then (e_here ?_)))
      refine n_then ?_
      refine wp_seq ?_
      refine c_reg ?_
      refine s0 (x_move (v := .slice _ _ _) rfl) ?_
      refine s0 (x_lensl un26FA rfl) ?_
      refine s0 (x_move (v := .slice _ _ _) rfl) ?_
      refine s0 (x_lensl un26FA rfl) ?_
      refine s0 (x_eql rfl rfl) ?_
      refine s0 (x_assign (v := .bool _) rfl) ?_
      refine c_end ?_
      refine n_then ?_
      refine wp_ret ?_
      refine f_ret rfl rfl ?_
      exact ⟨ret_dec2 ⟨fun h => (ext_getD (by omega) fun j hj => heq j (by omega)).trans hx5, fun h => by rw [h, hx5]⟩, L⟩
  · refine s0 (x_move (v := .bool _) rfl) ?_
    refine gf rfl rfl rfl rfl ?_
    refine gf rfl rfl rfl rfl ?_
    refine gf rfl rfl rfl rfl ?_
    refine gf rfl rfl rfl rfl ?_
    refine s0 (x_pickf (v := .bool _) rfl rfl) ?_
    refine c_end ?_
    refine n_then ?_
    refine c_false rfl ?_
    refine wp_exit (e_then (e_then (e_here ?_)))
    refine n_then ?_
    refine wp_seq ?_
    refine c_reg ?_
    refine s0 (x_move (v := .slice _ _ _) rfl) ?_
    refine s0 (x_lensl un26FA rfl) ?_
    refine s0 (x_move (v := .slice _ _ _) rfl) ?_
    refine s0 (x_lensl un26FA rfl) ?_
    refine s0 (x_eql rfl rfl) ?_
    refine s0 (x_assign (v := .bool _) rfl) ?_
    refine c_end ?_
    refine n_then ?_
    refine wp_ret ?_
    refine f_ret rfl rfl ?_
    exact ⟨ret_dec2 ⟨fun h => (ext_getD (by omega) fun j hj => heq j (by omega)).trans hx5, fun h => by rw [h, hx5]⟩, L⟩

end Go.Proofs.Ytnehdmcilmlchaa
