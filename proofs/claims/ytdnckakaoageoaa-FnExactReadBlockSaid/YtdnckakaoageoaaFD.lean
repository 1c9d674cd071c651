/- What each function of this part returns, for every argument that meets its premises. -/
import Derived.Test.YtdnckakaoageoaaFC
import Derived.Test.YtdnckakaoageoaaPlY
namespace Go.Proofs.Ytdnckakaoageoaa
open Go.Sx Go.Pl Go.RowKit
theorem bd151 : Built Try.prog 151 [.int .i64 0, .int .i64 0] #[(0, 1), (1, 1)] := ⟨_, Try.underlying151, by unfold ZeroV; kernel_rfl, fun w => by kernel_rfl⟩
theorem cl62 : Callable Try.prog 62 := callable Try.func62 (by kernel_rfl) rfl
/-- marks, one an element -/
def mkI (k : Int) (n : Nat) : List Int := (List.range n).map fun i : Nat => k + (i : Int)
theorem mkI_length (k : Int) (n : Nat) : (mkI k n).length = n := by simp [mkI]
theorem mkI_get {k : Int} {n i : Nat} (h : i < n) : (mkI k n).getD i 0 = k + (i : Int) := by simp [mkI, List.getD, h]
theorem mkI_some {k : Int} {n i : Nat} (h : i < n) : (mkI k n)[i]? = some (k + (i : Int)) := by simp [mkI, h]

/-- laws.markIntS -/
theorem l_markIntS (pA : Option Addr) (xs : List Int) (c : Nat) (k : Int) (FA : List Nat) (w : World) (oA : Own w pA xs.length c 3 1 (ic xs) FA) (hl : xs.length ≤ 1099511627776) (hk : 0 ≤ k ∧ k ≤ 1099511627776) :
    Calls Try.prog 22 [.slice pA xs.length c, .int .i64 k].toArray w (RetM FA w fun v w' => v = .int .i64 (k + xs.length) ∧ Own w' pA xs.length c 3 1 (ic (mkI k xs.length)) FA) := by
  have fA : Fr 0 FA := fun _ _ => Nat.zero_le _
  have gA := oA.lt
  have hml := mkI_length k xs.length
  have L : Exm FA w w := Exm.rfl'
  refine enter (n := 19) Try.func22 rfl rfl rfl ?_
  refine wp_seq ?_
  refine c_reg ?_
  refine s0 (x_assign (v := .int _ _) rfl) ?_
  refine c_end ?_
  refine n_then ?_
  refine wp_seq ?_
  refine wp_seq ?_
  refine c_reg ?_
  refine s0 (x_assign (v := .int _ _) rfl) ?_
  refine c_end ?_
  refine n_then ?_
  refine wp_block ?_
  refine c_loop (γ := Nat) (fun j => xs.length - j) (fun (j : Nat) E wl => ∃ E0, E = upd (upd (upd E0 0 (.slice pA xs.length c)) 1 (.int .i64 (k + j))) 5 (.int .i64 (j : Int)) ∧ (Exm FA w wl) ∧ (Own wl pA xs.length c 3 1 (ic (mkU (mkI k xs.length) xs j)) FA) ∧ ((j : Int) ≤ xs.length)) 0 ⟨_, upd_self3 rfl (vint (by omega)) rfl, L, (by rw [mkU_zero]; exact oA), (by omega)⟩ ?_
  rintro j E wl1 ⟨E0, rfl, L, oA, hj⟩
  have Lz0 := L.size
  have hlen := mkU_length hml j
  refine wp_seq ?_
  refine wp_seq ?_
  refine c_reg ?_
  refine s0 (x_move (v := .int _ _) rfl) ?_
  refine s0 (x_move (v := .slice _ _ _) rfl) ?_
  refine s0 (x_lensl un22 rfl) ?_
  refine sb (x_lss rfl rfl) (fun h9 => ?_) (fun h9 => ?_)
  · refine c_end ?_
    refine n_then ?_
    refine c_true rfl ?_
    refine c_skipn ?_
    refine n_then ?_
    refine wp_seq ?_
    refine wp_block ?_
    refine wp_seq ?_
    refine c_reg ?_
    refine s0 (x_move (v := .slice _ _ _) rfl) ?_
    refine s0 (x_move (v := .int _ _) rfl) ?_
    refine s0 (x_move (v := .int _ _) rfl) ?_
    refine s0 (x_idx so22 rfl rfl oA.sl (by decide) (by omega) (by omega)) ?_
    refine s_stoi rfl sz3 rfl rfl oA (by omega) (by omega) ?_
    intro w2 l3 el3 oA
    have z_l3 := l3.size
    have L := L.withinL l3 (by simp)
    have hnl3 := oA.n1
    refine c_end ?_
    refine n_then ?_
    refine c_reg ?_
    refine s0 (x_move (v := .int _ _) rfl) ?_
    refine s0 (x_add rfl rfl (by omega)) ?_
    refine s0 (x_assign (v := .int _ _) rfl) ?_
    refine c_end ?_
    refine n_block ?_
    refine n_then ?_
    refine c_reg ?_
    refine s0 (x_move (v := .int _ _) rfl) ?_
    refine s0 (x_add rfl rfl (by omega)) ?_
    refine s0 (x_assign (v := .int _ _) rfl) ?_
    refine c_end ?_
    exact c_round (g' := j + 1) (by omega) ⟨_, upd_self3 rfl (vint (by omega)) (vint (by omega)), L, (by rw [← mkU_succ hml (j := j) (by omega) (mkI_some (by omega))]; exact oA), (by omega)⟩
  · refine c_end ?_
    refine n_then ?_
    refine c_false rfl ?_
    refine wp_exit (e_then (e_then (e_here ?_)))
    refine n_then ?_
    refine wp_seq ?_
    refine c_reg ?_
    refine s0 (x_move (v := .int _ _) rfl) ?_
    refine s0 (x_assign (v := .int _ _) rfl) ?_
    refine c_end ?_
    refine n_then ?_
    refine wp_ret ?_
    refine f_ret rfl rfl ?_
    obtain rfl : j = xs.length := by omega
    rw [mkU_end hml] at oA
    exact ⟨_, rfl, L, rfl, oA⟩

/-- laws.heldIntS -/
theorem l_heldIntS (p : Option Addr) (n c : Nat) (k : Int) (w : World) (hp : Sl w p n c 1 (ic (mkI k n))) (hl : n ≤ 1099511627776) (hk : 0 ≤ k ∧ k ≤ 1099511627776) :
    Calls Try.prog 23 [.slice p n c, .int .i64 k].toArray w (Ret w (.int .i64 (k + n))) := by
  have hml := mkI_length k n
  have L : Exm [] w w := Exm.rfl'
  refine enter (n := 21) Try.func23 rfl rfl rfl ?_
  refine wp_seq ?_
  refine c_reg ?_
  refine s0 (x_assign (v := .int _ _) rfl) ?_
  refine c_end ?_
  refine n_then ?_
  refine wp_seq ?_
  refine wp_seq ?_
  refine c_reg ?_
  refine s0 (x_assign (v := .int _ _) rfl) ?_
  refine c_end ?_
  refine n_then ?_
  refine wp_block ?_
  refine c_loop (γ := Nat) (fun j => n - j) (fun (j : Nat) E wl => ∃ E0, E = upd (upd (upd E0 0 (.slice p n c)) 1 (.int .i64 (k + j))) 5 (.int .i64 (j : Int)) ∧ (Exm [] w wl) ∧ ((j : Int) ≤ n)) 0 ⟨_, upd_self3 rfl (vint (by omega)) rfl, L, (by omega)⟩ ?_
  rintro j E wl1 ⟨E0, rfl, L, hj⟩
  have Lz0 := L.size
  have hg : j < n → (mkI k n).getD (j : Int).toNat 0 = k + (j : Int) := fun h => by rw [Int.toNat_natCast]; exact mkI_get h
  refine wp_seq ?_
  refine wp_seq ?_
  refine c_reg ?_
  refine s0 (x_move (v := .int _ _) rfl) ?_
  refine s0 (x_move (v := .slice _ _ _) rfl) ?_
  refine s0 (x_lensl un22 rfl) ?_
  refine sb (x_lss rfl rfl) (fun h9 => ?_) (fun h9 => ?_)
  · refine c_end ?_
    refine n_then ?_
    refine c_true rfl ?_
    refine c_skipn ?_
    refine n_then ?_
    refine wp_seq ?_
    refine wp_block ?_
    refine wp_seq ?_
    refine wp_seq ?_
    refine c_reg ?_
    refine s0 (x_move (v := .slice _ _ _) rfl) ?_
    refine s0 (x_move (v := .int _ _) rfl) ?_
    refine s0 (x_idx so22 rfl rfl hp (by decide) (by omega) (by omega)) ?_
    refine st (x_ldi sc3 rfl (hp.ext L) (by omega) (by omega)) ?_
    refine s0 (x_move (v := .int _ _) rfl) ?_
    refine sb (x_neq rfl rfl) (fun h17 => ?_) (fun h17 => ?_)
    · exact absurd (hg (by omega)) h17
    · refine c_end ?_
      refine n_then ?_
      refine c_false rfl ?_
      refine c_skipn ?_
      refine n_then ?_
      refine c_reg ?_
      refine s0 (x_move (v := .int _ _) rfl) ?_
      refine s0 (x_add rfl rfl (by omega)) ?_
      refine s0 (x_assign (v := .int _ _) rfl) ?_
      refine c_end ?_
      refine n_block ?_
      refine n_then ?_
      refine c_reg ?_
      refine s0 (x_move (v := .int _ _) rfl) ?_
      refine s0 (x_add rfl rfl (by omega)) ?_
      refine s0 (x_assign (v := .int _ _) rfl) ?_
      refine c_end ?_
      exact c_round (g' := j + 1) (by omega) ⟨_, upd_self3 rfl (vint (by omega)) (vint (by omega)), L, (by omega)⟩
  · refine c_end ?_
    refine n_then ?_
    refine c_false rfl ?_
    refine wp_exit (e_then (e_then (e_here ?_)))
    refine n_then ?_
    refine wp_seq ?_
    refine c_reg ?_
    refine s0 (x_move (v := .int _ _) rfl) ?_
    refine s0 (x_assign (v := .int _ _) rfl) ?_
    refine c_end ?_
    refine n_then ?_
    refine wp_ret ?_
    refine f_ret rfl rfl ?_
    exact ⟨ret_int (by omega), L⟩

/-- impl.SymTable -/
theorem i_symTable (p : Option Addr) (xs : List Int) (c : Nat) (w : World) (hp : Sl w p xs.length c 1 (ic xs)) (hl : xs.length ≤ 1099511627776) :
    Calls Try.prog 70 [.slice p xs.length c].toArray w (RetP w fun v w' => ∃ p c F, v = .slice p (symTab xs).length c ∧ Own w' p (symTab xs).length c 151 2 ((symTab xs).flatMap erow) F ∧ Fr w.heap.size F) := by
  have L : Exm [] w w := Exm.rfl'
  refine enter (n := 36) Try.func70 rfl rfl rfl ?_
  refine wp_seq ?_
  refine c_reg ?_
  refine s0 (x_assign (v := .slice _ _ _) rfl) ?_
  refine c_end ?_
  refine n_then ?_
  refine wp_seq ?_
  refine wp_seq ?_
  refine c_reg ?_
  refine s0 (x_move (v := .slice _ _ _) rfl) ?_
  refine srb (zcall cl146 rfl) (i_codeOk _ _ _ _ (hp.ext L) (by omega)) (fun h9 w1 l2 => ?_) (fun h9 w1 l2 => ?_)
  · have z_l2 := l2.size
    have L := L.tr l2.up
    refine s0 (x_not rfl) ?_
    refine c_end ?_
    refine n_then ?_
    refine c_false rfl ?_
    refine c_skipn ?_
    refine n_then ?_
    refine wp_seq ?_
    refine c_reg ?_
    refine s_bs0 so68 ?_
    intro p11 F11 w3 l4 o11 f11 g11
    have o11 : Own w3 p11 0 0 151 2 (([] : List _).flatMap erow) F11 := o11
    have z_l4 := l4.size
    have L := L.tr l4.up
    refine s0 (x_assign (v := .slice _ _ _) rfl) ?_
    refine c_end ?_
    refine n_then ?_
    refine wp_seq ?_
    refine wp_seq ?_
    refine c_reg ?_
    refine s0 (x_move (v := .int _ _) rfl) ?_
    refine c_end ?_
    refine n_then ?_
    refine wp_block ?_
    refine c_loop (γ := Nat) (fun k => 128 - k) (fun (k : Nat) E wl => ∃ E0 pz3 cz3 Fz3, E = upd (upd (upd E0 0 (.slice p xs.length c)) 3 (.slice pz3 (((List.range k).map (symEnt xs)).length) cz3)) 12 (.int .i64 (k : Int)) ∧ (Exm [] w wl) ∧ (w3.heap.size ≤ wl.heap.size) ∧ (Own wl pz3 (((List.range k).map (symEnt xs)).length) cz3 151 2 (((List.range k).map (symEnt xs)).flatMap erow) Fz3) ∧ (Fr (w1.heap.size) Fz3) ∧ (Lt Fz3 wl.heap.size) ∧ ((k : Int) ≤ 128)) 0 ⟨_, _, _, _, upd_self3 rfl rfl rfl, L, (by omega), o11, (f11.mono (by omega)), (g11.mono (by omega)), (by omega)⟩ ?_
    rintro k E wl5 ⟨E0, pz3, cz3, Fz3, rfl, L, Lz, oz3, fz3, gz3, hk⟩
    have Lz0 := L.size
    have hlen : ((List.range k).map (symEnt xs)).length = k := by rw [List.length_map, List.length_range]
    refine wp_seq ?_
    refine c_reg ?_
    refine sb (x_lss rfl rfl) (fun h13 => ?_) (fun h13 => ?_)
    · refine c_end ?_
      refine n_then ?_
      refine wp_seq ?_
      refine c_true rfl ?_
      refine c_skipn ?_
      refine n_then ?_
      refine wp_seq ?_
      refine wp_block ?_
      refine wp_seq ?_
      refine c_reg ?_
      refine s0 (x_move (v := .int _ _) rfl) ?_
      refine s0 (x_assign (v := .int _ _) rfl) ?_
      refine c_end ?_
      refine n_then ?_
      refine wp_seq ?_
      have hb7 := byte7 (k := k) (by omega)
      have hse := sym_byteE h9 (k := k) (by omega)
      refine c_reg ?_
      refine s0 (x_move (v := .int _ _) rfl) ?_
      refine s0 (x_shlc 1 2 rfl rfl (by decide) (by decide) (by omega)) ?_
      refine s0 (x_convk us3 un5 rfl) ?_
      refine s_bsb (xs := [_]) so34 zr5 (pts_cons rfl pts_nil) rfl rfl rfl ?_
      intro p19 F19 w6 l7 o19 f19 g19
      have z_l7 := l7.size
      have L := L.tr l7.up
      have oz3 := oz3.ext l7
      have hn19 := o19.nb
      refine st (x_tostr un34 un5 un9 rfl o19.sl (by intro x hx; simp only [List.mem_cons, List.not_mem_nil, or_false] at hx; subst hx; rw [wrap_u8]; omega)) ?_
      refine s0 (x_build (cs := [.string _, .int .i64 0]) bd42 (pts_cons (v := .string _) rfl pts_nil) rfl) ?_
      refine s0 (x_move (v := .slice _ _ _) rfl) ?_
      refine sr (zcall cl62 rfl) (i_readSym _ _ _ _ _ _ (hp.ext L) (by omega) (by omega)) ?_
      intro w8 l9
      have z_l9 := l9.size
      have L := L.tr l9.up
      have oz3 := oz3.ext l9
      have o19 := o19.ext l9
      refine s0 (x_move (v := .tuple _) rfl) ?_
      refine s0 (x_extract rfl rfl) ?_
      refine s0 (x_extract rfl rfl) ?_
      refine s0 (x_extract rfl rfl) ?_
      refine s_alloc zr42 ?_
      intro b10 w11 lob10 hib10 l12 B10
      have z_l12 := l12.size
      have L := L.tr l12.up
      have oz3 := oz3.ext l12
      have o19 := o19.ext l12
      refine s_storeAg rfl sz42 rfl rfl B10 rfl rfl rfl ?_
      intro w13 l14 el14 B10
      have z_l14 := l14.size
      have L := L.fresh l14 (by omega)
      have oz3 := oz3.ne l14 (by first | assumption | exact nin_of fz3 gz3 (by omega))
      have o19 := o19.ne l14 (by first | assumption | exact nin_of f19 g19 (by omega))
      refine s0 (x_assign (v := .int _ _) rfl) ?_
      refine s0 (x_assign (v := .int _ _) rfl) ?_
      refine c_end ?_
      refine n_then ?_
      refine c_reg ?_
      refine s0 (x_move (v := .slice _ _ _) rfl) ?_
      refine s0 (x_fieldAddr fa42_1 rfl) ?_
      refine st (x_loadB sc3 rfl B10 rfl) ?_
      refine s0 (x_move (v := .int _ _) rfl) ?_
      refine s0 (x_build (cs := [.int _ _, .int _ _]) bd151 (pts_cons (v := .int _ _) rfl (pts_cons (v := .int _ _) rfl pts_nil)) rfl) ?_
      refine s_bsr (g := fun x => .agg (erow x).toArray) (xs := [(_, _)]) (fun _ => rfl) erow_len so68 zr151 (pts_cons rfl pts_nil) rfl rfl rfl ?_
      intro p32 F32 w15 l16 o32 f32 g32
      have z_l16 := l16.size
      have L := L.tr l16.up
      have B10 := B10.ext l16
      have oz3 := oz3.ext l16
      have o19 := o19.ext l16
      have hn32 := o32.nr erow_len (by decide)
      refine s_appr (B := w1.heap.size) (f := erow) erow_len erow_one (by decide) so68 zr151 rfl rfl rfl oz3 o32.sl fz3 (by omega) (by omega) (by omega) ?_
      intro p33 c33 F33 w17 l18 o33 hn33 k33 f33 g33
      have ab10_33 : b10 ∉ F33 := k33.nin (by first | assumption | exact nin_of fz3 gz3 (by omega)) (by omega)
      have B10 := B10.exm l18 (by first | assumption | exact nin_of fz3 gz3 (by omega))
      have z_l18 := l18.size
      have L := L.freshL l18 fz3 (by omega)
      have d19_33 : Dj F19 F33 := k33.dj (by first | assumption | exact Dj.symm (by assumption) | exact dj_of f19 g19 fz3 gz3 (by omega)) g19 (by omega)
      have o19 := o19.exm l18 (by first | assumption | exact Dj.symm (by assumption) | exact dj_of fz3 gz3 f19 g19 (by omega))
      have d32_33 : Dj F32 F33 := k33.dj (by first | assumption | exact Dj.symm (by assumption) | exact dj_of f32 g32 fz3 gz3 (by omega)) g32 (by omega)
      have o32 := o32.exm l18 (by first | assumption | exact Dj.symm (by assumption) | exact dj_of fz3 gz3 f32 g32 (by omega))
      refine s0 (x_assign (v := .slice _ _ _) rfl) ?_
      refine c_end ?_
      refine n_block ?_
      refine n_then ?_
      refine c_reg ?_
      refine s0 (x_add rfl rfl (by omega)) ?_
      refine s0 (x_move (v := .int _ _) rfl) ?_
      refine c_end ?_
      exact c_round (g' := k + 1) (by omega) ⟨_, _, _, _, upd_self3 rfl (by (rw [List.range_succ, List.map_append, List.map_cons, List.map_nil, ← hse]); rfl) (vint (by omega)), L, (by omega), (by (rw [List.range_succ, List.map_append, List.map_cons, List.map_nil, ← hse]); exact o33), (f33.mono (by omega)), (g33.mono (by omega)), (by omega)⟩
    · refine c_end ?_
      refine n_then ?_
      refine wp_seq ?_
      refine c_false rfl ?_
      refine wp_exit (e_then (e_then (e_here ?_)))
      refine n_then ?_
      refine wp_seq ?_
      refine c_reg ?_
      refine s0 (x_move (v := .slice _ _ _) rfl) ?_
      refine s0 (x_assign (v := .slice _ _ _) rfl) ?_
      refine c_end ?_
      refine n_then ?_
      refine wp_ret ?_
      refine f_ret rfl rfl ?_
      obtain rfl : k = 128 := by omega
      rw [← symTab_yes h9] at oz3
      have hl128 := symTab_len h9
      obtain ⟨ys, hys⟩ : ∃ ys, ys = symTab xs := ⟨_, rfl⟩
      rw [← symTab_yes h9] at *
      exact ⟨_, rfl, L, _, _, _, rfl, oz3, fz3.mono (by omega)⟩
  · have z_l2 := l2.size
    have L := L.tr l2.up
    refine s0 (x_not rfl) ?_
    refine c_end ?_
    refine n_then ?_
    refine c_true rfl ?_
    refine wp_seq ?_
    refine c_reg ?_
    refine s0 (x_assign (v := .slice _ _ _) rfl) ?_
    refine c_end ?_
    refine n_then ?_
    refine wp_ret (r_then ?_)
    refine f_ret rfl rfl ?_
    rw [symTab_no h9]
    exact ⟨_, rfl, L, none, 0, [], rfl, Own.nil, Fr.no⟩

theorem symTab_le (l : List Int) : (symTab l).length ≤ 128 := by unfold symTab; split <;> simp

end Go.Proofs.Ytdnckakaoageoaa
