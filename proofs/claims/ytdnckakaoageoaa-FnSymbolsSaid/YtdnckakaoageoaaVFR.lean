/- What each function of this part returns, for every argument that meets its premises. -/
import Derived.Test.YtdnckakaoageoaaProg
import Derived.Test.YtdnckakaoageoaaVSxF
import Derived.Test.YtdnckakaoageoaaVPlY
import Derived.Test.YtdnckakaoageoaaVF5
import Derived.Test.YtdnckakaoageoaaVF9
import Derived.Test.YtdnckakaoageoaaVFB
import Derived.Test.YtdnckakaoageoaaVFG
import Derived.Test.YtdnckakaoageoaaVFN
namespace Go.Proofs.Ytdnckakaoageoaa
open Go.Sx Go.Pl Go.RowKit
theorem ag42FR : Ag Try.prog 42 2 := ⟨⟨_, Try.underlying42⟩, by kernel_rfl⟩
theorem bd42FR : Built Try.prog 42 [.string .empty, .int .i64 0] #[(0, 1), (1, 1)] := ⟨_, Try.underlying42, by unfold ZeroV; kernel_rfl, fun w => by kernel_rfl⟩
theorem cl110FR : Callable Try.prog 110 := callable Try.func110 (by kernel_rfl) rfl
theorem cl111FR : Callable Try.prog 111 := callable Try.func111 (by kernel_rfl) rfl
theorem cl150FR : Callable Try.prog 150 := callable Try.func150 (by kernel_rfl) rfl
theorem cl154FR : Callable Try.prog 154 := callable Try.func154 (by kernel_rfl) rfl
theorem cl155FR : Callable Try.prog 155 := callable Try.func155 (by kernel_rfl) rfl
theorem cl189FR : Callable Try.prog 189 := callable Try.func189 (by kernel_rfl) rfl
theorem cl30FR : Callable Try.prog 30 := callable Try.func30 (by kernel_rfl) rfl
theorem cl99FR : Callable Try.prog 99 := callable Try.func99 (by kernel_rfl) rfl
theorem so22FR : SliceOf Try.prog 22 3 1 8 := ⟨by kernel_rfl, by kernel_rfl⟩
theorem sz42FR : Sz Try.prog 42 2 := by unfold Sz; kernel_rfl
theorem zr3FR : ZeroV Try.prog 3 [.int .i64 0] := by unfold ZeroV; kernel_rfl
theorem zr42FR : ZeroV Try.prog 42 [.string .empty, .int .i64 0] := by unfold ZeroV; kernel_rfl
/-- spec.l8Reader -/
theorem s_l8Reader (b B : Nat) (pA : Option Addr) (xs : List Int) (c : Nat) (FA : List Nat) (w : World) (hcu : Cu w b B 185) (oA : Rdf w pA xs.length c 1 (ic xs) FA) (hFA : b ∉ FA) (hl : xs.length ≤ 6) :
    Calls Try.prog 155 [pt b 0, .slice pA xs.length c].toArray w (RetM [b] w fun v w' => (∃ (s : ByteArray) (a : Int), v = .agg [.string s, .int .i64 a].toArray ∧ s.size ≤ 31) ∧ Cu w' b B 185) := by
  have hcb := hcu.lt
  have fA : Fr 0 FA := fun _ _ => Nat.zero_le _
  have gA := oA.lt
  have L : Exm [b] w w := Exm.rfl'
  refine enter (n := 29) Try.func155 rfl rfl rfl ?_
  refine wp_seq ?_
  refine c_reg ?_
  refine s_alloc zr42FR ?_
  intro b1 w2 lob1 hib1 l3 B1
  have z_l3 := l3.size
  have L := L.tr l3.up
  have hcu := hcu.ext l3
  have oA := oA.ext l3
  refine c_end ?_
  refine n_then ?_
  refine wp_seq ?_
  refine c_reg ?_
  refine s_bs0 so22FR ?_
  intro p8 F8 w4 l5 o8 f8 g8
  have o8 : Own w4 p8 0 0 3 1 (ic []) F8 := o8
  have z_l5 := l5.size
  have L := L.tr l5.up
  have hcu := hcu.ext l5
  have B1 := B1.ext l5
  have oA := oA.ext l5
  refine s0 (x_assign (v := .slice _ _ _) rfl) ?_
  refine c_end ?_
  refine n_then ?_
  refine wp_seq ?_
  refine wp_seq ?_
  refine c_reg ?_
  refine s0 (x_move (v := .pointer _) rfl) ?_
  refine spm (zcall cl189FR rfl) (s_below b _ _ _ hcu) ?_
  rintro v10 w6 l7 ⟨⟨x10, rfl, hx10⟩, hcu⟩
  have z_l7 := l7.size
  have L := L.within l7 (by simp)
  have B1 := B1.ne l7 (by omega)
  have oA := oA.ne l7 (by first | assumption | exact nin_of fA gA (by omega))
  have o8 := o8.ne l7 (by first | assumption | exact nin_of f8 g8 (by omega))
  refine s0 (x_assign (v := .int _ _) rfl) ?_
  refine c_end ?_
  refine n_then ?_
  refine wp_block ?_
  refine c_loop (γ := List Int × Int) (fun g => g.2.toNat) (fun (g : List Int × Int) E wl => ∃ E0 pz5 cz5 Fz5, E = upd (upd (upd (upd (upd E0 0 (pt b 0)) 1 (.slice pA xs.length c)) 4 (pt b1 0)) 5 (.slice pz5 ((g.1).length) cz5)) 6 (.int .i64 g.2) ∧ (Exm [b] w wl) ∧ (w6.heap.size ≤ wl.heap.size) ∧ (Cu wl b B 185) ∧ (Bx wl b1 [.string .empty, .int .i64 0] 42) ∧ (Rdf wl pA xs.length c 1 (ic xs) FA) ∧ (Own wl pz5 ((g.1).length) cz5 3 1 (ic (g.1)) Fz5) ∧ (Fr (w2.heap.size) Fz5) ∧ (Lt Fz5 wl.heap.size) ∧ (b ∉ Fz5) ∧ (b1 ∉ Fz5) ∧ (Dj FA Fz5) ∧ (0 ≤ g.2 ∧ (g.1.length : Int) + 48 * g.2 ≤ 240)) ([], x10) ⟨_, _, _, _, upd_self5 rfl rfl rfl (slice_len rfl) rfl, L, (by omega), hcu, B1, oA, o8, (f8.mono (by omega)), (g8.mono (by omega)), (by first | assumption | exact nin_of f8 g8 (by omega)), (by first | assumption | exact nin_of f8 g8 (by omega)), (by first | assumption | exact Dj.symm (by assumption) | exact dj_of fA gA f8 g8 (by omega)), (by show 0 ≤ x10 ∧ (0 : Int) + 48 * x10 ≤ 240; omega)⟩ ?_
  rintro g E wl8 ⟨E0, pz5, cz5, Fz5, rfl, L, Lz, hcu, B1, oA, oz5, fz5, gz5, ab_z5, ab1_z5, dA_z5, hg⟩
  have Lz0 := L.size
  refine wp_seq ?_
  refine wp_seq ?_
  refine c_reg ?_
  refine s0 (x_move (v := .int _ _) rfl) ?_
  refine sb (x_gtr rfl rfl) (fun h12 => ?_) (fun h12 => ?_)
  · refine c_end ?_
    refine n_then ?_
    refine c_true rfl ?_
    refine c_skipn ?_
    refine n_then ?_
    refine wp_seq ?_
    refine wp_block ?_
    refine c_reg ?_
    refine s0 (x_move (v := .slice _ _ _) rfl) ?_
    refine s0 (x_move (v := .slice _ _ _) rfl) ?_
    refine s0 (x_move (v := .pointer _) rfl) ?_
    refine spm (zcall cl189FR rfl) (s_below b _ _ _ hcu) ?_
    rintro v18 w9 l10 ⟨⟨x18, rfl, hx18⟩, hcu⟩
    have z_l10 := l10.size
    have L := L.within l10 (by simp)
    have B1 := B1.ne l10 (by omega)
    have oA := oA.ne l10 (by first | assumption | exact nin_of fA gA (by omega))
    have oz5 := oz5.ne l10 (by first | assumption | exact nin_of fz5 gz5 (by omega))
    refine sp (zcall cl150FR rfl) (s_symBits _ _ _ _ _ oA.sl (by omega)) ?_
    rintro v19 w11 l12 ⟨p19, c19, F19, rfl, o19, f19⟩
    have z_l12 := l12.size
    have L := L.tr l12.up
    have hcu := hcu.ext l12
    have B1 := B1.ext l12
    have oA := oA.ext l12
    have oz5 := oz5.ext l12
    have g19 := o19.lt
    refine s_appi (B := w2.heap.size) so22FR zr3FR rfl rfl (xs := _) oz5 o19.sl fz5 (by have hsb := symBits_le xs x18; omega) (by have hsb := symBits_le xs x18; omega) (by have hsb := symBits_le xs x18; omega) ?_
    intro p20 c20 F20 w13 l14 o20 hn20 k20 f20 g20
    have Bb_20 := hcu.exm l14 (by first | assumption | exact nin_of fz5 gz5 (by omega)) (fz5.mono (by omega))
    have ab_20 : b ∉ F20 := k20.nin (by first | assumption | exact nin_of fz5 gz5 (by omega)) (by omega)
    have hcu := Bb_20
    have ab1_20 : b1 ∉ F20 := k20.nin (by first | assumption | exact nin_of fz5 gz5 (by omega)) (by omega)
    have B1 := B1.exm l14 (by first | assumption | exact nin_of fz5 gz5 (by omega))
    have z_l14 := l14.size
    have L := L.freshL l14 fz5 (by omega)
    have dA_20 : Dj FA F20 := k20.dj (by first | assumption | exact Dj.symm (by assumption) | exact dj_of fA gA fz5 gz5 (by omega)) gA (by omega)
    have oA := oA.exm l14 (by first | assumption | exact Dj.symm (by assumption) | exact dj_of fz5 gz5 fA gA (by omega))
    have d19_20 : Dj F19 F20 := k20.dj (by first | assumption | exact Dj.symm (by assumption) | exact dj_of f19 g19 fz5 gz5 (by omega)) g19 (by omega)
    have o19 := o19.exm l14 (by first | assumption | exact Dj.symm (by assumption) | exact dj_of fz5 gz5 f19 g19 (by omega))
    refine s0 (x_assign (v := .slice _ _ _) rfl) ?_
    refine c_end ?_
    refine n_block ?_
    refine n_then ?_
    refine c_reg ?_
    refine s0 (x_move (v := .int _ _) rfl) ?_
    refine s0 (x_sub rfl rfl (by omega)) ?_
    refine s0 (x_assign (v := .int _ _) rfl) ?_
    refine c_end ?_
    have hsb := symBits_le xs x18
    exact c_round (g' := (g.1 ++ symBits xs x18, g.2 - 1)) (by show (g.2 - 1).toNat < g.2.toNat; omega) ⟨_, _, _, _, upd_self5 rfl rfl rfl (slice_len rfl) rfl, L, (by omega), hcu, B1, oA, o20, (f20.mono (by omega)), (g20.mono (by omega)), (by first | assumption | exact nin_of f20 g20 (by omega)), (by first | assumption | exact nin_of f20 g20 (by omega)), (by first | assumption | exact Dj.symm (by assumption) | exact dj_of fA gA f20 g20 (by omega)), (by show 0 ≤ g.2 - 1 ∧ ((g.1 ++ symBits xs x18).length : Int) + 48 * (g.2 - 1) ≤ 240; rw [List.length_append]; omega)⟩
  · refine c_end ?_
    refine n_then ?_
    refine c_false rfl ?_
    refine wp_exit (e_then (e_then (e_here ?_)))
    refine n_then ?_
    refine wp_seq ?_
    refine c_reg ?_
    refine s0 (x_assign (v := .int _ _) rfl) ?_
    refine c_end ?_
    refine n_then ?_
    refine wp_seq ?_
    refine wp_seq ?_
    refine c_reg ?_
    refine s0 (x_move (v := .pointer _) rfl) ?_
    refine spm (zcall cl110FR rfl) (s_once b _ _ _ hcu) ?_
    rintro v22 w15 l16 ⟨⟨x22, rfl⟩, hcu⟩
    have z_l16 := l16.size
    have L := L.within l16 (by simp)
    have B1 := B1.ne l16 (by omega)
    have oA := oA.ne l16 (by first | assumption | exact nin_of fA gA (by omega))
    have oz5 := oz5.ne l16 (by first | assumption | exact nin_of fz5 gz5 (by omega))
    by_cases h22 : x22 = true
    · subst h22
      refine c_end ?_
      refine n_then ?_
      refine c_true rfl ?_
      refine wp_seq ?_
      refine c_reg ?_
      refine s0 (x_move (v := .pointer _) rfl) ?_
      refine spm (zcall cl111FR rfl) (s_l3Reader b _ _ hcu) ?_
      rintro v24 w17 l18 ⟨⟨s24, a24, rfl, hx24⟩, hcu⟩
      have z_l18 := l18.size
      have L := L.within l18 (by simp)
      have B1 := B1.ne l18 (by omega)
      have oA := oA.ne l18 (by first | assumption | exact nin_of fA gA (by omega))
      have oz5 := oz5.ne l18 (by first | assumption | exact nin_of fz5 gz5 (by omega))
      refine s_storeAg rfl sz42FR rfl rfl B1 rfl rfl rfl ?_
      intro w19 l20 el20 B1
      have z_l20 := l20.size
      have L := L.fresh l20 (by omega)
      have hcu := hcu.ne l20 (by omega)
      have oA := oA.ne l20 (by first | assumption | exact nin_of fA gA (by omega))
      have oz5 := oz5.ne l20 (by first | assumption | exact nin_of fz5 gz5 (by omega))
      refine c_end ?_
      refine n_then ?_
      refine wp_ret (r_then ?_)
      refine f_retc rfl rfl ag42FR B1 rfl ?_
      exact ⟨_, rfl, L, ⟨_, _, rfl, by omega⟩, hcu⟩
    · obtain rfl := Bool.eq_false_iff.2 h22
      refine c_end ?_
      refine n_then ?_
      refine c_false rfl ?_
      refine c_skipn ?_
      refine n_then ?_
      refine wp_seq ?_
      refine c_reg ?_
      refine s0 (x_move (v := .slice _ _ _) rfl) ?_
      refine sr (zcall cl30FR rfl) (s_stopped _ _ _ _ oz5.sl (by omega)) ?_
      intro w21 l22
      have z_l22 := l22.size
      have L := L.tr l22.up
      have hcu := hcu.ext l22
      have B1 := B1.ext l22
      have oA := oA.ext l22
      have oz5 := oz5.ext l22
      refine s0 (x_move (v := .int _ _) rfl) ?_
      refine s0 (x_build (cs := [.string _, .int _ _]) bd42FR (pts_cons (v := .string _) rfl (pts_cons (v := .int _ _) rfl pts_nil)) rfl) ?_
      refine s_storeAg rfl sz42FR rfl rfl B1 rfl rfl rfl ?_
      intro w23 l24 el24 B1
      have z_l24 := l24.size
      have L := L.fresh l24 (by omega)
      have hcu := hcu.ne l24 (by omega)
      have oA := oA.ne l24 (by first | assumption | exact nin_of fA gA (by omega))
      have oz5 := oz5.ne l24 (by first | assumption | exact nin_of fz5 gz5 (by omega))
      refine c_end ?_
      refine n_then ?_
      refine wp_ret ?_
      refine f_retc rfl rfl ag42FR B1 rfl ?_
      exact ⟨_, rfl, L, ⟨_, _, rfl, by have := stopped_size g.1; omega⟩, hcu⟩

/-- spec.DrawReadSym -/
theorem s_drawReadSym (p : Option Addr) (xs : List Int) (c : Nat) (B : Nat) (w : World) (hp : Sl w p xs.length c 1 (bc xs)) (hr : ∀ x ∈ xs, 0 ≤ x ∧ x ≤ 255) (hpB : Bl p xs.length B) (hB : B ≤ w.heap.size) (hl : xs.length ≤ 1048576) :
    Calls Try.prog 61 [.slice p xs.length c].toArray w (RetP w fun v w' => ∃ (s : ByteArray) (a : Int) (p : Option Addr) (n : Nat) (xs : List Int) (c : Nat) (F : List Nat), v = .tuple [.agg [.string s, .int .i64 a].toArray, .slice p n c].toArray ∧ Rdf w' p n c 1 (ic xs) F ∧ Fr w.heap.size F ∧ n = xs.length ∧ n ≤ 6 ∧ s.size ≤ 31) := by
  have L : Exm [] w w := Exm.rfl'
  refine enter (n := 14) Try.func61 rfl rfl rfl ?_
  refine wp_seq ?_
  refine c_reg ?_
  refine s_alloc zr42FR ?_
  intro b1 w2 lob1 hib1 l3 B1
  have z_l3 := l3.size
  have L := L.tr l3.up
  refine s0 (x_assign (v := .slice _ _ _) rfl) ?_
  refine c_end ?_
  refine n_then ?_
  refine wp_seq ?_
  refine c_reg ?_
  refine s0 (x_move (v := .slice _ _ _) rfl) ?_
  refine sp (zcall cl99FR rfl) (s_new _ _ _ B _ (hp.ext L) hr hpB (by omega) hl) ?_
  rintro v7 w4 l5 ⟨b7, rfl, ⟨lob7, hib7⟩, K7⟩
  have z_l5 := l5.size
  have L := L.tr l5.up
  have B1 := B1.ext l5
  refine s0 (x_assign (v := .pointer _) rfl) ?_
  refine c_end ?_
  refine n_then ?_
  refine wp_seq ?_
  refine c_reg ?_
  refine s0 (x_move (v := .pointer _) rfl) ?_
  refine spm (zcall cl154FR rfl) (s_l8Any b7 _ _ K7) ?_
  rintro v9 w6 l7 ⟨⟨p9, n9, xs9, c9, F9, rfl, o9, f9, rfl, hx9⟩, K7⟩
  have z_l7 := l7.size
  have L := L.fresh l7 (by omega)
  have B1 := B1.ne l7 (by omega)
  have g9 := o9.lt
  refine s0 (x_assign (v := .slice _ _ _) rfl) ?_
  refine c_end ?_
  refine n_then ?_
  refine wp_seq ?_
  refine c_reg ?_
  refine s0 (x_move (v := .pointer _) rfl) ?_
  refine s0 (x_move (v := .slice _ _ _) rfl) ?_
  refine spm (zcall cl155FR rfl) (s_l8Reader b7 _ _ _ _ _ _ K7 o9 (by first | assumption | exact nin_of f9 g9 (by omega)) (by omega)) ?_
  rintro v12 w8 l9 ⟨⟨s12, a12, rfl, hx12⟩, K7⟩
  have z_l9 := l9.size
  have L := L.fresh l9 (by omega)
  have B1 := B1.ne l9 (by omega)
  have o9 := o9.ne l9 (by first | assumption | exact nin_of f9 g9 (by omega))
  refine s0 (x_move (v := .slice _ _ _) rfl) ?_
  refine s_storeAg rfl sz42FR rfl rfl B1 rfl rfl rfl ?_
  intro w10 l11 el11 B1
  have z_l11 := l11.size
  have L := L.fresh l11 (by omega)
  have K7 := K7.ne l11 (by omega)
  have o9 := o9.ne l11 (by first | assumption | exact nin_of f9 g9 (by omega))
  refine s0 (x_assign (v := .slice _ _ _) rfl) ?_
  refine c_end ?_
  refine n_then ?_
  refine wp_ret ?_
  refine f_rets2 rfl (ro_cell rfl ag42FR B1 rfl) (ro_tmp rfl) ?_
  exact ⟨_, rfl, L, _, _, _, _, _, _, _, rfl, o9, f9.mono (by omega), rfl, hx9, hx12⟩

end Go.Proofs.Ytdnckakaoageoaa
