/- What each function of this part returns, for every argument that meets its premises. -/
import Derived.Test.YtfmmkacopgecpaaFC
import Derived.Test.YtfmmkacopgecpaaPlA
namespace Go.Proofs.Ytfmmkacopgecpaa
open Go.Sx Go.Pl Go.RowKit
theorem cl42 : Callable Try.prog 42 := callable Try.func42 (by kernel_rfl) rfl
/-- marks, one an element -/
def mkI (k : Int) (n : Nat) : List Int := (List.range n).map fun i : Nat => k + (i : Int)
theorem mkI_length (k : Int) (n : Nat) : (mkI k n).length = n := by simp [mkI]
theorem mkI_get {k : Int} {n i : Nat} (h : i < n) : (mkI k n).getD i 0 = k + (i : Int) := by simp [mkI, List.getD, h]
theorem mkI_some {k : Int} {n i : Nat} (h : i < n) : (mkI k n)[i]? = some (k + (i : Int)) := by simp [mkI, h]

/-- laws.markIntS -/
theorem l_markIntS (pA : Option Addr) (xs : List Int) (c : Nat) (k : Int) (FA : List Nat) (w : World) (oA : Own w pA xs.length c 3 1 (ic xs) FA) (hl : xs.length ≤ 1099511627776) (hk : 0 ≤ k ∧ k ≤ 1099511627776) :
    Calls Try.prog 59 [.slice pA xs.length c, .int .i64 k].toArray w (RetM FA w fun v w' => v = .int .i64 (k + xs.length) ∧ Own w' pA xs.length c 3 1 (ic (mkI k xs.length)) FA) := by
  have fA : Fr 0 FA := fun _ _ => Nat.zero_le _
  have gA := oA.lt
  have hml := mkI_length k xs.length
  have L : Exm FA w w := Exm.rfl'
  refine enter (n := 19) Try.func59 rfl rfl rfl ?_
  refine wp_seq ?_
  refine c_reg ?_
  refine s0 (x_assign (v := .int _ _) rfl) ?_
  refine c_end ?_
  refine n_then ?_
  refine wp_seq ?_
  refine wp_seq ?_
  refine c_reg ?_
  refine s0 (x_assign (v := .int _ _) rfl) ?_
  refine c_end ?_
  refine n_then ?_
  refine wp_block ?_
  refine c_loop (γ := Nat) (fun j => xs.length - j) (fun (j : Nat) E wl => ∃ E0, E = upd (upd (upd E0 0 (.slice pA xs.length c)) 1 (.int .i64 (k + j))) 5 (.int .i64 (j : Int)) ∧ (Exm FA w wl) ∧ (Own wl pA xs.length c 3 1 (ic (mkU (mkI k xs.length) xs j)) FA) ∧ ((j : Int) ≤ xs.length)) 0 ⟨_, upd_self3 rfl (vint (by omega)) rfl, L, (by rw [mkU_zero]; exact oA), (by omega)⟩ ?_
  rintro j E wl1 ⟨E0, rfl, L, oA, hj⟩
  have Lz0 := L.size
  have hlen := mkU_length hml j
  refine wp_seq ?_
  refine wp_seq ?_
  refine c_reg ?_
  refine s0 (x_move (v := .int _ _) rfl) ?_
  refine s0 (x_move (v := .slice _ _ _) rfl) ?_
  refine s0 (x_lensl un33 rfl) ?_
  refine sb (x_lss rfl rfl) (fun h9 => ?_) (fun h9 => ?_)
  · refine c_end ?_
    refine n_then ?_
    refine c_true rfl ?_
    refine c_skipn ?_
    refine n_then ?_
    refine wp_seq ?_
    refine wp_block ?_
    refine wp_seq ?_
    refine c_reg ?_
    refine s0 (x_move (v := .slice _ _ _) rfl) ?_
    refine s0 (x_move (v := .int _ _) rfl) ?_
    refine s0 (x_move (v := .int _ _) rfl) ?_
    refine s0 (x_idx so33 rfl rfl oA.sl (by decide) (by omega) (by omega)) ?_
    refine s_stoi rfl sz3 rfl rfl oA (by omega) (by omega) ?_
    intro w2 l3 el3 oA
    have z_l3 := l3.size
    have L := L.withinL l3 (by simp)
    have hnl3 := oA.n1
    refine c_end ?_
    refine n_then ?_
    refine c_reg ?_
    refine s0 (x_move (v := .int _ _) rfl) ?_
    refine s0 (x_add rfl rfl (by omega)) ?_
    refine s0 (x_assign (v := .int _ _) rfl) ?_
    refine c_end ?_
    refine n_block ?_
    refine n_then ?_
    refine c_reg ?_
    refine s0 (x_move (v := .int _ _) rfl) ?_
    refine s0 (x_add rfl rfl (by omega)) ?_
    refine s0 (x_assign (v := .int _ _) rfl) ?_
    refine c_end ?_
    exact c_round (g' := j + 1) (by omega) ⟨_, upd_self3 rfl (vint (by omega)) (vint (by omega)), L, (by rw [← mkU_succ hml (j := j) (by omega) (mkI_some (by omega))]; exact oA), (by omega)⟩
  · refine c_end ?_
    refine n_then ?_
    refine c_false rfl ?_
    refine wp_exit (e_then (e_then (e_here ?_)))
    refine n_then ?_
    refine wp_seq ?_
    refine c_reg ?_
    refine s0 (x_move (v := .int _ _) rfl) ?_
    refine s0 (x_assign (v := .int _ _) rfl) ?_
    refine c_end ?_
    refine n_then ?_
    refine wp_ret ?_
    refine f_ret rfl rfl ?_
    obtain rfl : j = xs.length := by omega
    rw [mkU_end hml] at oA
    exact ⟨_, rfl, L, rfl, oA⟩

/-- laws.heldIntS -/
theorem l_heldIntS (p : Option Addr) (n c : Nat) (k : Int) (w : World) (hp : Sl w p n c 1 (ic (mkI k n))) (hl : n ≤ 1099511627776) (hk : 0 ≤ k ∧ k ≤ 1099511627776) :
    Calls Try.prog 132 [.slice p n c, .int .i64 k].toArray w (Ret w (.int .i64 (k + n))) := by
  have hml := mkI_length k n
  have L : Exm [] w w := Exm.rfl'
  refine enter (n := 21) Try.func132 rfl rfl rfl ?_
  refine wp_seq ?_
  refine c_reg ?_
  refine s0 (x_assign (v := .int _ _) rfl) ?_
  refine c_end ?_
  refine n_then ?_
  refine wp_seq ?_
  refine wp_seq ?_
  refine c_reg ?_
  refine s0 (x_assign (v := .int _ _) rfl) ?_
  refine c_end ?_
  refine n_then ?_
  refine wp_block ?_
  refine c_loop (γ := Nat) (fun j => n - j) (fun (j : Nat) E wl => ∃ E0, E = upd (upd (upd E0 0 (.slice p n c)) 1 (.int .i64 (k + j))) 5 (.int .i64 (j : Int)) ∧ (Exm [] w wl) ∧ ((j : Int) ≤ n)) 0 ⟨_, upd_self3 rfl (vint (by omega)) rfl, L, (by omega)⟩ ?_
  rintro j E wl1 ⟨E0, rfl, L, hj⟩
  have Lz0 := L.size
  have hg : j < n → (mkI k n).getD (j : Int).toNat 0 = k + (j : Int) := fun h => by rw [Int.toNat_natCast]; exact mkI_get h
  refine wp_seq ?_
  refine wp_seq ?_
  refine c_reg ?_
  refine s0 (x_move (v := .int _ _) rfl) ?_
  refine s0 (x_move (v := .slice _ _ _) rfl) ?_
  refine s0 (x_lensl un33 rfl) ?_
  refine sb (x_lss rfl rfl) (fun h9 => ?_) (fun h9 => ?_)
  · refine c_end ?_
    refine n_then ?_
    refine c_true rfl ?_
    refine c_skipn ?_
    refine n_then ?_
    refine wp_seq ?_
    refine wp_block ?_
    refine wp_seq ?_
    refine wp_seq ?_
    refine c_reg ?_
    refine s0 (x_move (v := .slice _ _ _) rfl) ?_
    refine s0 (x_move (v := .int _ _) rfl) ?_
    refine s0 (x_idx so33 rfl rfl hp (by decide) (by omega) (by omega)) ?_
    refine st (x_ldi sc3 rfl (hp.ext L) (by omega) (by omega)) ?_
    refine s0 (x_move (v := .int _ _) rfl) ?_
    refine sb (x_neq rfl rfl) (fun h17 => ?_) (fun h17 => ?_)
    · exact absurd (hg (by omega)) h17
    · refine c_end ?_
      refine n_then ?_
      refine c_false rfl ?_
      refine c_skipn ?_
      refine n_then ?_
      refine c_reg ?_
      refine s0 (x_move (v := .int _ _) rfl) ?_
      refine s0 (x_add rfl rfl (by omega)) ?_
      refine s0 (x_assign (v := .int _ _) rfl) ?_
      refine c_end ?_
      refine n_block ?_
      refine n_then ?_
      refine c_reg ?_
      refine s0 (x_move (v := .int _ _) rfl) ?_
      refine s0 (x_add rfl rfl (by omega)) ?_
      refine s0 (x_assign (v := .int _ _) rfl) ?_
      refine c_end ?_
      exact c_round (g' := j + 1) (by omega) ⟨_, upd_self3 rfl (vint (by omega)) (vint (by omega)), L, (by omega)⟩
  · refine c_end ?_
    refine n_then ?_
    refine c_false rfl ?_
    refine wp_exit (e_then (e_then (e_here ?_)))
    refine n_then ?_
    refine wp_seq ?_
    refine c_reg ?_
    refine s0 (x_move (v := .int _ _) rfl) ?_
    refine s0 (x_assign (v := .int _ _) rfl) ?_
    refine c_end ?_
    refine n_then ?_
    refine wp_ret ?_
    refine f_ret rfl rfl ?_
    exact ⟨ret_int (by omega), L⟩

/-- impl.SymTable -/
theorem i_symTable (p : Option Addr) (xs : List Int) (c : Nat) (w : World) (hp : Sl w p xs.length c 1 (ic xs)) (hl : xs.length ≤ 1099511627776) :
    Calls Try.prog 58 [.slice p xs.length c].toArray w (RetP w fun v w' => ∃ p c F, v = .slice p (symTab xs).length c ∧ Own w' p (symTab xs).length c 79 2 ((symTab xs).flatMap erow) F ∧ Fr w.heap.size F) := by
  have L : Exm [] w w := Exm.rfl'
  refine enter (n := 36) Try.func58 rfl rfl rfl ?_
  refine wp_seq ?_
  refine c_reg ?_
  refine s0 (x_assign (v := .slice _ _ _) rfl) ?_
  refine c_end ?_
  refine n_then ?_
  refine wp_seq ?_
  refine wp_seq ?_
  refine c_reg ?_
  refine s0 (x_move (v := .slice _ _ _) rfl) ?_
  refine srb (zcall cl63 rfl) (i_codeOk _ _ _ _ (hp.ext L) (by omega)) (fun h9 w1 l2 => ?_) (fun h9 w1 l2 => ?_)
  · have z_l2 := l2.size
    have L := L.tr l2.up
    refine s0 (x_not rfl) ?_
    refine c_end ?_
    refine n_then ?_
    refine c_false rfl ?_
    refine c_skipn ?_
    refine n_then ?_
    refine wp_seq ?_
    refine c_reg ?_
    refine s_bs0 so22 ?_
    intro p11 F11 w3 l4 o11 f11 g11
    have o11 : Own w3 p11 0 0 79 2 (([] : List _).flatMap erow) F11 := o11
    have z_l4 := l4.size
    have L := L.tr l4.up
    refine s0 (x_assign (v := .slice _ _ _) rfl) ?_
    refine c_end ?_
    refine n_then ?_
    refine wp_seq ?_
    refine wp_seq ?_
    refine c_reg ?_
    refine s0 (x_move (v := .int _ _) rfl) ?_
    refine c_end ?_
    refine n_then ?_
    refine wp_block ?_
    refine c_loop (γ := Nat) (fun k => 128 - k) (fun (k : Nat) E wl => ∃ E0 pz3 cz3 Fz3, E = upd (upd (upd E0 0 (.slice p xs.length c)) 3 (.slice pz3 (((List.range k).map (symEnt xs)).length) cz3)) 12 (.int .i64 (k : Int)) ∧ (Exm [] w wl) ∧ (w3.heap.size ≤ wl.heap.size) ∧ (Own wl pz3 (((List.range k).map (symEnt xs)).length) cz3 79 2 (((List.range k).map (symEnt xs)).flatMap erow) Fz3) ∧ (Fr (w1.heap.size) Fz3) ∧ (Lt Fz3 wl.heap.size) ∧ ((k : Int) ≤ 128)) 0 ⟨_, _, _, _, upd_self3 rfl rfl rfl, L, (by omega), o11, (f11.mono (by omega)), (g11.mono (by omega)), (by omega)⟩ ?_
    rintro k E wl5 ⟨E0, pz3, cz3, Fz3, rfl, L, Lz, oz3, fz3, gz3, hk⟩
    have Lz0 := L.size
    have hlen : ((List.range k).map (symEnt xs)).length = k := by rw [List.length_map, List.length_range]
    refine wp_seq ?_
    refine c_reg ?_
    refine sb (x_lss rfl rfl) (fun h13 => ?_) (fun h13 => ?_)
    · refine c_end ?_
      refine n_then ?_
      refine wp_seq ?_
      refine c_true rfl ?_
      refine c_skipn ?_
      refine n_then ?_
      refine wp_seq ?_
      refine wp_block ?_
      refine wp_seq ?_
      refine c_reg ?_
      refine s0 (x_move (v := .int _ _) rfl) ?_
      refine s0 (x_assign (v := .int _ _) rfl) ?_
      refine c_end ?_
      refine n_then ?_
      refine wp_seq ?_
      have hb7 := byte7 (k := k) (by omega)
      have hse := sym_byteE h9 (k := k) (by omega)
      refine c_reg ?_
      refine s0 (x_move (v := .int _ _) rfl) ?_
      refine s0 (x_shlc 1 2 rfl rfl (by decide) (by decide) (by omega)) ?_
      refine s0 (x_convk us3 un5 rfl) ?_
      refine s_bsb (xs := [_]) so27 zr5 (pts_cons rfl pts_nil) rfl rfl rfl ?_
      intro p19 F19 w6 l7 o19 f19 g19
      have z_l7 := l7.size
      have L := L.tr l7.up
      have oz3 := oz3.ext l7
      have hn19 := o19.nb
      refine st (x_tostr un27 un5 un9 rfl o19.sl (by intro x hx; simp only [List.mem_cons, List.not_mem_nil, or_false] at hx; subst hx; rw [wrap_u8]; omega)) ?_
      refine s0 (x_build (cs := [.string _, .int .i64 0]) bd54 (pts_cons (v := .string _) rfl pts_nil) rfl) ?_
      refine s0 (x_move (v := .slice _ _ _) rfl) ?_
      refine sr (zcall cl42 rfl) (i_readSym _ _ _ _ _ _ (hp.ext L) (by omega) (by omega)) ?_
      intro w8 l9
      have z_l9 := l9.size
      have L := L.tr l9.up
      have oz3 := oz3.ext l9
      have o19 := o19.ext l9
      refine s0 (x_move (v := .tuple _) rfl) ?_
      refine s0 (x_extract rfl rfl) ?_
      refine s0 (x_extract rfl rfl) ?_
      refine s0 (x_extract rfl rfl) ?_
      refine s_alloc zr54 ?_
      intro b10 w11 lob10 hib10 l12 B10
      have z_l12 := l12.size
      have L := L.tr l12.up
      have oz3 := oz3.ext l12
      have o19 := o19.ext l12
      refine s_storeAg rfl sz54 rfl rfl B10 rfl rfl rfl ?_
      intro w13 l14 el14 B10
      have z_l14 := l14.size
      have L := L.fresh l14 (by omega)
      have oz3 := oz3.ne l14 (by first | assumption | exact nin_of fz3 gz3 (by omega))
      have o19 := o19.ne l14 (by first | assumption | exact nin_of f19 g19 (by omega))
      refine s0 (x_assign (v := .int _ _) rfl) ?_
      refine s0 (x_assign (v := .int _ _) rfl) ?_
      refine c_end ?_
      refine n_then ?_
      refine c_reg ?_
      refine s0 (x_move (v := .slice _ _ _) rfl) ?_
      refine s0 (x_fieldAddr fa54_1 rfl) ?_
      refine st (x_loadB sc3 rfl B10 rfl) ?_
      refine s0 (x_move (v := .int _ _) rfl) ?_
      refine s0 (x_build (cs := [.int _ _, .int _ _]) bd79 (pts_cons (v := .int _ _) rfl (pts_cons (v := .int _ _) rfl pts_nil)) rfl) ?_
      refine s_bsr (g := fun x => .agg (erow x).toArray) (xs := [(_, _)]) (fun _ => rfl) erow_len so22 zr79 (pts_cons rfl pts_nil) rfl rfl rfl ?_
      intro p32 F32 w15 l16 o32 f32 g32
      have z_l16 := l16.size
      have L := L.tr l16.up
      have B10 := B10.ext l16
      have oz3 := oz3.ext l16
      have o19 := o19.ext l16
      have hn32 := o32.nr erow_len (by decide)
      refine s_appr (B := w1.heap.size) (f := erow) erow_len erow_one (by decide) so22 zr79 rfl rfl rfl oz3 o32.sl fz3 (by omega) (by omega) (by omega) ?_
      intro p33 c33 F33 w17 l18 o33 hn33 k33 f33 g33
      have ab10_33 : b10 ∉ F33 := k33.nin (by first | assumption | exact nin_of fz3 gz3 (by omega)) (by omega)
      have B10 := B10.exm l18 (by first | assumption | exact nin_of fz3 gz3 (by omega))
      have z_l18 := l18.size
      have L := L.freshL l18 fz3 (by omega)
      have d19_33 : Dj F19 F33 := k33.dj (by first | assumption | exact Dj.symm (by assumption) | exact dj_of f19 g19 fz3 gz3 (by omega)) g19 (by omega)
      have o19 := o19.exm l18 (by first | assumption | exact Dj.symm (by assumption) | exact dj_of fz3 gz3 f19 g19 (by omega))
      have d32_33 : Dj F32 F33 := k33.dj (by first | assumption | exact Dj.symm (by assumption) | exact dj_of f32 g32 fz3 gz3 (by omega)) g32 (by omega)
      have o32 := o32.exm l18 (by first | assumption | exact Dj.symm (by assumption) | exact dj_of fz3 gz3 f32 g32 (by omega))
      refine s0 (x_assign (v := .slice _ _ _) rfl) ?_
      refine c_end ?_
      refine n_block ?_
      refine n_then ?_
      refine c_reg ?_
      refine s0 (x_add rfl rfl (by omega)) ?_
      refine s0 (x_move (v := .int _ _) rfl) ?_
      refine c_end ?_
      exact c_round (g' := k + 1) (by omega) ⟨_, _, _, _, upd_self3 rfl (by (rw [List.range_succ, List.map_append, List.map_cons, List.map_nil, ← hse]); rfl) (vint (by omega)), L, (by omega), (by (rw [List.range_succ, List.map_append, List.map_cons, List.map_nil, ← hse]); exact o33), (f33.mono (by omega)), (g33.mono (by omega)), (by omega)⟩
    · refine c_end ?_
      refine n_then ?_
      refine wp_seq ?_
      refine c_false rfl ?_
      refine wp_exit (e_then (e_then (e_here ?_)))
      refine n_then ?_
      refine wp_seq ?_
      refine c_reg ?_
      refine s0 (x_move (v := .slice _ _ _) rfl) ?_
      refine s0 (x_assign (v := .slice _ _ _) rfl) ?_
      refine c_end ?_
      refine n_then ?_
      refine wp_ret ?_
      refine f_ret rfl rfl ?_
      obtain rfl : k = 128 := by omega
      rw [← symTab_yes h9] at oz3
      have hl128 := symTab_len h9
      obtain ⟨ys, hys⟩ : ∃ ys, ys = symTab xs := ⟨_, rfl⟩
      rw [← symTab_yes h9] at *
      exact ⟨_, rfl, L, _, _, _, rfl, oz3, fz3.mono (by omega)⟩
  · have z_l2 := l2.size
    have L := L.tr l2.up
    refine s0 (x_not rfl) ?_
    refine c_end ?_
    refine n_then ?_
    refine c_true rfl ?_
    refine wp_seq ?_
    refine c_reg ?_
    refine s0 (x_assign (v := .slice _ _ _) rfl) ?_
    refine c_end ?_
    refine n_then ?_
    refine wp_ret (r_then ?_)
    refine f_ret rfl rfl ?_
    rw [symTab_no h9]
    exact ⟨_, rfl, L, none, 0, [], rfl, Own.nil, Fr.no⟩

/-- spec.SymTable -/
theorem s_symTable (p : Option Addr) (xs : List Int) (c : Nat) (w : World) (hp : Sl w p xs.length c 1 (ic xs)) (hl : xs.length ≤ 1099511627776) :
    Calls Try.prog 57 [.slice p xs.length c].toArray w (RetP w fun v w' => ∃ p c F, v = .slice p (symTab xs).length c ∧ Own w' p (symTab xs).length c 79 2 ((symTab xs).flatMap erow) F ∧ Fr w.heap.size F) := by
  have L : Exm [] w w := Exm.rfl'
  refine enter (n := 57) Try.func57 rfl rfl rfl ?_
  refine wp_seq ?_
  refine c_reg ?_
  refine s0 (x_assign (v := .slice _ _ _) rfl) ?_
  refine c_end ?_
  refine n_then ?_
  refine wp_seq ?_
  refine c_reg ?_
  refine s0 (x_move (v := .slice _ _ _) rfl) ?_
  refine sp (zcall cl100 rfl) (s_codesOf _ _ _ _ (hp.ext L) (by omega)) ?_
  rintro v8 w1 l2 ⟨p8, c8, F8, rfl, o8, f8⟩
  have z_l2 := l2.size
  have L := L.tr l2.up
  have g8 := o8.lt
  refine s0 (x_assign (v := .slice _ _ _) rfl) ?_
  refine c_end ?_
  refine n_then ?_
  refine wp_seq ?_
  refine c_reg ?_
  refine s_bs0 so22 ?_
  intro p9 F9 w3 l4 o9 f9 g9
  have o9 : Own w3 p9 0 0 79 2 (([] : List _).flatMap erow) F9 := o9
  have z_l4 := l4.size
  have L := L.tr l4.up
  have o8 := o8.ext l4
  refine s0 (x_assign (v := .slice _ _ _) rfl) ?_
  refine c_end ?_
  refine n_then ?_
  refine wp_seq ?_
  refine wp_seq ?_
  refine c_reg ?_
  refine s0 (x_move (v := .slice _ _ _) rfl) ?_
  refine s0 (x_lensl un33 rfl) ?_
  refine sb (x_eql rfl rfl) (fun h12 => ?_) (fun h12 => ?_)
  · refine c_end ?_
    refine n_then ?_
    refine c_true rfl ?_
    refine wp_seq ?_
    refine c_reg ?_
    refine s0 (x_move (v := .slice _ _ _) rfl) ?_
    refine s0 (x_assign (v := .slice _ _ _) rfl) ?_
    refine c_end ?_
    refine n_then ?_
    refine wp_ret (r_then ?_)
    refine f_ret rfl rfl ?_
    have hno : ¬ codeOk xs := fun h => by have := codes_length h; omega
    rw [symTab_no hno]
    exact ⟨_, rfl, L, _, _, _, rfl, o9, f9.mono (by omega)⟩
  · refine c_end ?_
    refine n_then ?_
    refine c_false rfl ?_
    refine c_skipn ?_
    refine n_then ?_
    refine wp_seq ?_
    have hok : codeOk xs := Classical.byContradiction (fun h => h12 (by unfold codesOf; rw [if_neg h]; rfl))
    have hx6 := hok.2.1
    have hcl := codes_length hok
    refine c_reg ?_
    refine s_maker (0, 0) erow_len so22 zr79 rfl rfl (by omega) (by omega) (by omega) ?_
    intro p14 F14 w5 l6 o14 f14 g14
    have z_l6 := l6.size
    have L := L.tr l6.up
    have o8 := o8.ext l6
    have o9 := o9.ext l6
    have hn14 := o14.nr erow_len (by decide)
    refine s0 (x_assign (v := .slice _ _ _) rfl) ?_
    refine c_end ?_
    refine n_then ?_
    refine wp_seq ?_
    refine wp_seq ?_
    refine c_reg ?_
    refine s0 (x_assign (v := .int _ _) rfl) ?_
    refine c_end ?_
    refine n_then ?_
    refine wp_block ?_
    refine c_loop (γ := Nat) (fun m => 6 - m) (fun (m : Nat) E wl => ∃ E0 pz4 cz4 Fz4, E = upd (upd (upd (upd E0 0 (.slice p xs.length c)) 3 (.slice p8 (codesOf xs).length c8)) 4 (.slice pz4 (128) cz4)) 5 (.int .i64 (m : Int)) ∧ (Exm [] w wl) ∧ (w5.heap.size ≤ wl.heap.size) ∧ (Own wl p8 (codesOf xs).length c8 3 1 (ic (codesOf xs)) F8) ∧ (Own wl pz4 (128) cz4 79 2 ((symT xs m 0).flatMap erow) Fz4) ∧ (Fr (w3.heap.size) Fz4) ∧ (Lt Fz4 wl.heap.size) ∧ (Dj F8 Fz4) ∧ ((m : Int) ≤ 6)) 0 ⟨_, _, _, _, upd_self4 rfl rfl rfl rfl, L, (by omega), o8, (by rw [symT_zero hok]; exact o14), (f14.mono (by omega)), (g14.mono (by omega)), (by first | assumption | exact Dj.symm (by assumption) | exact dj_of f8 g8 f14 g14 (by omega)), (by omega)⟩ ?_
    rintro m E wl7 ⟨E0, pz4, cz4, Fz4, rfl, L, Lz, o8, oz4, fz4, gz4, d8_z4, hm⟩
    have Lz0 := L.size
    refine wp_seq ?_
    refine wp_seq ?_
    refine c_reg ?_
    refine s0 (x_move (v := .int _ _) rfl) ?_
    refine sb (x_lss rfl rfl) (fun h16 => ?_) (fun h16 => ?_)
    · refine c_end ?_
      refine n_then ?_
      refine c_true rfl ?_
      refine c_skipn ?_
      refine n_then ?_
      refine wp_seq ?_
      refine wp_block ?_
      refine wp_seq ?_
      refine c_reg ?_
      refine s0 (x_assign (v := .int _ _) rfl) ?_
      refine c_end ?_
      refine n_then ?_
      refine wp_block ?_
      refine c_loop (γ := Nat) (fun k => (2 ^ (7 - xs.getD m 0).toNat : Nat) - k) (fun (k : Nat) E wl => ∃ E0 pz4 cz4 Fz4, E = upd (upd (upd (upd (upd E0 0 (.slice p xs.length c)) 3 (.slice p8 (codesOf xs).length c8)) 4 (.slice pz4 (128) cz4)) 5 (.int .i64 (m : Int))) 6 (.int .i64 (k : Int)) ∧ (Exm [] w wl) ∧ (wl7.heap.size ≤ wl.heap.size) ∧ (Own wl p8 (codesOf xs).length c8 3 1 (ic (codesOf xs)) F8) ∧ (Own wl pz4 (128) cz4 79 2 ((symT xs m k).flatMap erow) Fz4) ∧ (Fr (w3.heap.size) Fz4) ∧ (Lt Fz4 wl.heap.size) ∧ (Dj F8 Fz4) ∧ ((k : Int) ≤ 2 ^ (7 - xs.getD m 0).toNat)) 0 ⟨_, _, _, _, upd_self5 rfl rfl rfl rfl rfl, L, (by omega), o8, oz4, (fz4.mono (by omega)), (gz4.mono (by omega)), (by first | assumption | exact Dj.symm (by assumption) | exact dj_of f8 g8 fz4 gz4 (by omega)), (Int.le_of_lt (two_pow_pos _))⟩ ?_
      rintro k E wl8 ⟨E0, pz4, cz4, Fz4, rfl, L, Lz, o8, oz4, fz4, gz4, d8_z4, hk⟩
      have Lz0 := L.size
      have hpk := two_pow_pos (7 - xs.getD m 0).toNat
      have hcm := codeOk_at hok m
      have hpk7 := two_pow_le (n := (7 - xs.getD m 0).toNat) (m := 7) (by omega)
      have e7 : (2 : Int) ^ 7 = 128 := rfl
      have hcast : ((2 ^ (7 - xs.getD m 0).toNat : Nat) : Int) = 2 ^ (7 - xs.getD m 0).toNat := by simp
      have hlT := symT_length xs m k
      refine wp_seq ?_
      refine wp_seq ?_
      refine c_reg ?_
      refine s0 (x_move (v := .slice _ _ _) rfl) ?_
      refine s0 (x_move (v := .int _ _) rfl) ?_
      refine s0 (x_idx so33 rfl rfl hp (by decide) (by omega) (by omega)) ?_
      refine st (x_ldi sc3 rfl (hp.ext L) (by omega) (by omega)) ?_
      refine sb (x_gtr rfl rfl) (fun h23 => ?_) (fun h23 => ?_)
      · refine s0 (x_move (v := .bool _) rfl) ?_
        refine gt rfl rfl rfl rfl ?_
        refine s0 (x_move (v := .int _ _) rfl) ?_
        refine gt rfl rfl rfl rfl ?_
        refine s0 (x_move (v := .slice _ _ _) rfl) ?_
        refine gt rfl rfl rfl rfl ?_
        refine s0 (x_move (v := .int _ _) rfl) ?_
        refine gt rfl rfl rfl rfl ?_
        refine s0 (x_idx so33 rfl rfl hp (by decide) (by omega) (by omega)) ?_
        refine gt rfl rfl rfl rfl ?_
        refine st (x_ldi sc3 rfl (hp.ext L) (by omega) (by omega)) ?_
        refine gt rfl rfl rfl rfl ?_
        refine s0 (x_sub rfl rfl (by rw [Int.toNat_natCast]; omega)) ?_
        refine gt rfl rfl rfl rfl ?_
        refine s0 (x_shl rfl rfl (by rw [Int.toNat_natCast]; omega) (by rw [Int.toNat_natCast]; omega)) ?_
        refine gt rfl rfl rfl rfl ?_
        refine sb (x_lss rfl rfl) (fun h32 => ?_) (fun h32 => ?_)
        · refine s0 (x_pickt (v := .bool _) rfl rfl) ?_
          refine c_end ?_
          refine n_then ?_
          refine c_true rfl ?_
          refine c_skipn ?_
          refine n_then ?_
          refine wp_seq ?_
          refine wp_block ?_
          have hset := symT_set hok (m := m) (k := k) ⟨by omega, by rw [Int.toNat_natCast] at h23; omega⟩ (by rw [Int.toNat_natCast, Int.one_mul] at h32; exact h32)
          rw [Int.toNat_natCast] at h32
          have hcr2 := code_range2 hok (m := m) ⟨by omega, by rw [Int.toNat_natCast] at h23; omega⟩
          have hcr := code_range hok (m := m) ⟨by omega, by rw [Int.toNat_natCast] at h23; omega⟩
          rw [Int.add_mul, Int.one_mul] at hcr
          have hcn := Int.mul_nonneg hcr.1 (Int.le_of_lt hpk)
          have ee : ((m : Int)).toNat = m := Int.toNat_natCast m
          have hb12 : 0 ≤ (codesOf xs).getD ((m : Int)).toNat 0 * 2 ^ (7 - xs.getD ((m : Int)).toNat 0).toNat + k ∧ (codesOf xs).getD ((m : Int)).toNat 0 * 2 ^ (7 - xs.getD ((m : Int)).toNat 0).toNat + k < ((symT xs m k).length : Int) := by rw [ee]; omega
          refine c_plan (fun wq => Exm [] wl8 wq) 20 (.cons (0, 2) (.cons (1, 2) (.cons (2, 2) (.cons (3, 2) (.cons (4, 1) (.cons (5, 2) (.cons (6, 2) (.cons (7, 2) (.cons (8, 1) (.cons (9, 2) (.cons (10, 2) (.cons (11, 2) (.cons (12, 2) (.cons (13, 2) (.cons (14, 2) (.cons (15, 2) (.cons (16, 1) (.cons (17, 2) (.cons (18, 2) (.cons (19, 2) (.cons (20, 0) .nil))))))))))))))))))))) (by kernel_rfl) (by kernel_rfl) (Exm.drew _) ?_
          obtain ⟨w9, hwd⟩ : ∃ x, x = wl8.drew := ⟨_, rfl⟩
          have l10 : Ext wl8 w9 := by rw [hwd]; exact Exm.drew _
          rw [← hwd]; clear hwd
          have Lq : Exm [] wl8 w9 := l10.up
          have qo8 := o8
          have qoz4 := oz4
          have qL := L
          have z_l10 := l10.size
          have L := L.tr l10.up
          have o8 := o8.ext l10
          have oz4 := oz4.ext l10
          refine p0 rfl (x_move (v := .slice _ _ _) rfl) ?_
          refine p0 rfl (x_move (v := .slice _ _ _) rfl) ?_
          refine p0 rfl (x_move (v := .int _ _) rfl) ?_
          refine p0 rfl (x_idx so33 rfl rfl o8.sl (by decide) (by omega) (by omega)) ?_
          refine ps rfl (fun wq hwq => x_ldi sc3 rfl (qo8.ext hwq).sl (by omega) (by omega)) ?_
          refine p0 rfl (x_move (v := .slice _ _ _) rfl) ?_
          refine p0 rfl (x_move (v := .int _ _) rfl) ?_
          refine p0 rfl (x_idx so33 rfl rfl hp (by decide) (by omega) (by omega)) ?_
          refine ps rfl (fun wq hwq => x_ldi sc3 rfl ((hp.ext qL).ext hwq) (by omega) (by omega)) ?_
          refine p0 rfl (x_sub rfl rfl (by rw [Int.toNat_natCast]; omega)) ?_
          refine p0 rfl (x_shl rfl rfl (by rw [Int.toNat_natCast]; omega) (by rw [Int.toNat_natCast]; omega)) ?_
          refine p0 rfl (x_move (v := .int _ _) rfl) ?_
          refine p0 rfl (x_add rfl rfl (by rw [Int.toNat_natCast]; omega)) ?_
          refine p0 rfl (x_move (v := .slice _ _ _) rfl) ?_
          refine p0 rfl (x_move (v := .int _ _) rfl) ?_
          refine p0 rfl (x_idx so33 rfl rfl hp (by decide) (by omega) (by omega)) ?_
          refine ps rfl (fun wq hwq => x_ldi sc3 rfl ((hp.ext qL).ext hwq) (by omega) (by omega)) ?_
          refine p0 rfl (x_move (v := .int _ _) rfl) ?_
          refine p0 rfl (x_build (cs := [.int _ _, .int _ _]) bd79 (pts_cons (v := .int _ _) rfl (pts_cons (v := .int _ _) rfl pts_nil)) rfl) ?_
          refine p0 rfl (x_idx so22 rfl rfl oz4.sl (by decide) (by rw [Int.toNat_natCast]; omega) (by rw [Int.toNat_natCast]; omega)) ?_
          refine pu rfl ?_ (by rintro ⟨_, _, h, _⟩; cases h)
          refine s_stor (v := (_, _)) erow_len erow_one rfl sz79 rfl rfl (by decide) oz4 (by omega) (by omega) ?_
          intro w11 l12 el12 oz4
          have z_l12 := l12.size
          have L := L.freshL l12 fz4 (by omega)
          have o8 := o8.exm l12 (by first | assumption | exact Dj.symm (by assumption) | exact dj_of fz4 gz4 f8 g8 (by omega))
          have hnl12 := oz4.nr erow_len (by decide)
          refine c_end ⟨rfl, fun h hS => absurd h (by decide), ?_⟩
          refine p_nil (np_normal ?_)
          refine n_block ?_
          refine n_then ?_
          refine c_reg ?_
          refine s0 (x_move (v := .int _ _) rfl) ?_
          refine s0 (x_add rfl rfl (by omega)) ?_
          refine s0 (x_assign (v := .int _ _) rfl) ?_
          refine c_end ?_
          exact c_round (g' := k + 1) (by omega) ⟨_, _, _, _, upd_self5 rfl rfl (by (skip); rfl) rfl (vint (by omega)), L, (by omega), o8, (by (rw [← hset.2, ← ee]); exact oz4), (fz4.mono (by omega)), (gz4.mono (by omega)), (by first | assumption | exact Dj.symm (by assumption) | exact dj_of f8 g8 fz4 gz4 (by omega)), (by omega)⟩
        · refine s0 (x_pickt (v := .bool _) rfl rfl) ?_
          refine c_end ?_
          refine n_then ?_
          refine c_false rfl ?_
          refine wp_exit (e_then (e_then (e_here ?_)))
          refine n_block ?_
          refine n_then ?_
          have hkk : xs.getD m 0 = 0 ∨ (k : Int) = 2 ^ (7 - xs.getD m 0).toNat := .inr (by rw [Int.toNat_natCast] at h32; omega)
          refine c_reg ?_
          refine s0 (x_move (v := .int _ _) rfl) ?_
          refine s0 (x_add rfl rfl (by omega)) ?_
          refine s0 (x_assign (v := .int _ _) rfl) ?_
          refine c_end ?_
          exact c_round (g' := m + 1) (by omega) ⟨_, _, _, _, upd_self4 rfl rfl (by (skip); rfl) (vint (by omega)), L, (by omega), o8, (by (rw [← symT_next hok hkk]); exact oz4), (fz4.mono (by omega)), (gz4.mono (by omega)), (by first | assumption | exact Dj.symm (by assumption) | exact dj_of f8 g8 fz4 gz4 (by omega)), (by omega)⟩
      · refine s0 (x_move (v := .bool _) rfl) ?_
        refine gf rfl rfl rfl rfl ?_
        refine gf rfl rfl rfl rfl ?_
        refine gf rfl rfl rfl rfl ?_
        refine gf rfl rfl rfl rfl ?_
        refine gf rfl rfl rfl rfl ?_
        refine gf rfl rfl rfl rfl ?_
        refine gf rfl rfl rfl rfl ?_
        refine gf rfl rfl rfl rfl ?_
        refine s0 (x_pickf (v := .bool _) rfl rfl) ?_
        refine c_end ?_
        refine n_then ?_
        refine c_false rfl ?_
        refine wp_exit (e_then (e_then (e_here ?_)))
        refine n_block ?_
        refine n_then ?_
        have hkk : xs.getD m 0 = 0 ∨ (k : Int) = 2 ^ (7 - xs.getD m 0).toNat := .inl (by rw [Int.toNat_natCast] at h23; omega)
        refine c_reg ?_
        refine s0 (x_move (v := .int _ _) rfl) ?_
        refine s0 (x_add rfl rfl (by omega)) ?_
        refine s0 (x_assign (v := .int _ _) rfl) ?_
        refine c_end ?_
        exact c_round (g' := m + 1) (by omega) ⟨_, _, _, _, upd_self4 rfl rfl (by (skip); rfl) (vint (by omega)), L, (by omega), o8, (by (rw [← symT_next hok hkk]); exact oz4), (fz4.mono (by omega)), (gz4.mono (by omega)), (by first | assumption | exact Dj.symm (by assumption) | exact dj_of f8 g8 fz4 gz4 (by omega)), (by omega)⟩
    · refine c_end ?_
      refine n_then ?_
      refine c_false rfl ?_
      refine wp_exit (e_then (e_then (e_here ?_)))
      refine n_then ?_
      refine wp_seq ?_
      refine c_reg ?_
      refine s0 (x_move (v := .slice _ _ _) rfl) ?_
      refine s0 (x_assign (v := .slice _ _ _) rfl) ?_
      refine c_end ?_
      refine n_then ?_
      refine wp_ret ?_
      refine f_ret rfl rfl ?_
      obtain rfl : m = 6 := by omega
      rw [symT_end hok] at oz4
      exact ⟨_, rfl, L, _, _, _, slice_len (symTab_len hok), by rw [symTab_len hok]; exact oz4, fz4.mono (by omega)⟩

theorem symTab_le (l : List Int) : (symTab l).length ≤ 128 := by unfold symTab; split <;> simp

end Go.Proofs.Ytfmmkacopgecpaa
