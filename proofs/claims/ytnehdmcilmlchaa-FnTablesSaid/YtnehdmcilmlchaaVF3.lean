/- What each function of this part returns, for every argument that meets its premises. -/
import Derived.Test.YtnehdmcilmlchaaProg
import Derived.Test.YtnehdmcilmlchaaVSxF
import Derived.Test.YtnehdmcilmlchaaVPlX
import Derived.Test.YtnehdmcilmlchaaVF1
namespace Go.Proofs.Ytnehdmcilmlchaa
open Go.Sx Go.Pl Go.RowKit
theorem ag25F3 : Ag Try.prog 25 4 := ⟨⟨_, Try.underlying25⟩, by kernel_rfl⟩
theorem bd25F3 : Built Try.prog 25 [.string .empty, .int .i64 0, .int .i64 0, .int .i64 0] #[(0, 1), (1, 1), (2, 1), (3, 1)] := ⟨_, Try.underlying25, by unfold ZeroV; kernel_rfl, fun w => by kernel_rfl⟩
theorem cl17F3 : Callable Try.prog 17 := callable Try.func17 (by kernel_rfl) rfl
theorem cl20F3 : Callable Try.prog 20 := callable Try.func20 (by kernel_rfl) rfl
theorem cl83F3 : Callable Try.prog 83 := callable Try.func83 (by kernel_rfl) rfl
theorem cl84F3 : Callable Try.prog 84 := callable Try.func84 (by kernel_rfl) rfl
theorem cl86F3 : Callable Try.prog 86 := callable Try.func86 (by kernel_rfl) rfl
theorem cl87F3 : Callable Try.prog 87 := callable Try.func87 (by kernel_rfl) rfl
theorem cl95F3 : Callable Try.prog 95 := callable Try.func95 (by kernel_rfl) rfl
theorem cl96F3 : Callable Try.prog 96 := callable Try.func96 (by kernel_rfl) rfl
theorem fa25_0F3 : FieldAt Try.prog 25 0 0 := ⟨_, _, Try.underlying25, rfl, rfl, ⟨0, by unfold Sz; kernel_rfl⟩⟩
theorem fa25_1F3 : FieldAt Try.prog 25 1 1 := ⟨_, _, Try.underlying25, rfl, rfl, ⟨0, by unfold Sz; kernel_rfl⟩⟩
theorem fa25_2F3 : FieldAt Try.prog 25 2 2 := ⟨_, _, Try.underlying25, rfl, rfl, ⟨0, by unfold Sz; kernel_rfl⟩⟩
theorem fa25_3F3 : FieldAt Try.prog 25 3 3 := ⟨_, _, Try.underlying25, rfl, rfl, ⟨0, by unfold Sz; kernel_rfl⟩⟩
theorem sc3F3 : Sc Try.prog 3 := ⟨(.int .i64), by kernel_rfl, trivial⟩
theorem sc9F3 : Sc Try.prog 9 := ⟨.string, by kernel_rfl, trivial⟩
theorem sz25F3 : Sz Try.prog 25 4 := by unfold Sz; kernel_rfl
theorem sz3F3 : Sz Try.prog 3 1 := by unfold Sz; kernel_rfl
theorem un3F3 : Try.prog.underlying 3 = some (.int .i64) := by kernel_rfl
theorem un9F3 : Try.prog.underlying 9 = some .string := by kernel_rfl
theorem us5F3 : (Try.prog.underlying 5).isSome = true := by kernel_rfl
theorem zr25F3 : ZeroV Try.prog 25 [.string .empty, .int .i64 0, .int .i64 0, .int .i64 0] := by unfold ZeroV; kernel_rfl
/-- spec.Refill -/
theorem s_refill (s : ByteArray) (c : Ca) (w : World) (hs : s.size ≤ 1048576) :
    Calls Try.prog 84 [.agg [.string s, .int .i64 (c).pos, .int .i64 (c).word, .int .i64 (c).hv].toArray].toArray w (Ret w (.agg [.string s, .int .i64 (refillOf s c).pos, .int .i64 (refillOf s c).word, .int .i64 (refillOf s c).hv].toArray)) := by
  have L : Exm [] w w := Exm.rfl'
  refine enter (n := 38) Try.func84 rfl rfl rfl ?_
  refine wp_seq ?_
  refine c_reg ?_
  refine s_box rfl rfl ?_
  intro b1 w2 lob1 hib1 l3 B1
  have z_l3 := l3.size
  have L := L.tr l3.up
  refine s_alloc zr25F3 ?_
  intro b4 w5 lob4 hib4 l6 B4
  have z_l6 := l6.size
  have L := L.tr l6.up
  have B1 := B1.ext l6
  refine c_end ?_
  refine n_then ?_
  refine wp_seq ?_
  refine wp_seq ?_
  refine c_reg ?_
  refine st (x_loadAgB ag25F3 rfl B1 rfl) ?_
  refine srb (zcall cl17F3 rfl) (s_cacheOk _ _ _ _ _ (by omega)) (fun h4 w7 l8 => ?_) (fun h4 w7 l8 => ?_)
  · have z_l8 := l8.size
    have L := L.tr l8.up
    have B1 := B1.ext l8
    have B4 := B4.ext l8
    refine s0 (x_not rfl) ?_
    refine c_end ?_
    refine n_then ?_
    refine c_false rfl ?_
    refine c_skipn ?_
    refine n_then ?_
    refine wp_seq ?_
    refine wp_block ?_
    refine c_loop (γ := Nat × Ca) (fun g => g.1) (fun (g : Nat × Ca) E wl => ∃ E0, E = upd (upd E0 1 (pt b1 0)) 2 (pt b4 0) ∧ (Exm [] w wl) ∧ (w7.heap.size ≤ wl.heap.size) ∧ (Bx wl b1 [.string s, .int .i64 (g.2).pos, .int .i64 (g.2).word, .int .i64 (g.2).hv] 25) ∧ (Bx wl b4 [.string .empty, .int .i64 0, .int .i64 0, .int .i64 0] 25) ∧ (caOk s g.2) ∧ (rf s 7 c = rf s g.1 g.2) ∧ (49 ≤ g.2.hv + 8 * g.1)) (7, c) ⟨_, upd_self2 rfl rfl, L, (by omega), B1, B4, h4, rfl, (by have := h4.2.2.1; show 49 ≤ c.hv + 8 * ((7 : Nat) : Int); omega)⟩ ?_
    rintro g E wl9 ⟨E0, rfl, L, Lz, B1, B4, hg, hr, hf⟩
    have Lz0 := L.size
    obtain ⟨hg1, hg2, hg3, hg4, hg5, hg6⟩ := id hg
    have hw := ca_word56 hg
    refine wp_seq ?_
    refine wp_seq ?_
    refine c_reg ?_
    refine s0 (x_fieldAddr fa25_3F3 rfl) ?_
    refine st (x_loadB sc3F3 rfl B1 rfl) ?_
    refine sb (x_leq rfl rfl) (fun h9 => ?_) (fun h9 => ?_)
    · refine s0 (x_move (v := .bool _) rfl) ?_
      refine gt rfl rfl rfl rfl ?_
      refine s0 (x_fieldAddr fa25_1F3 rfl) ?_
      refine gt rfl rfl rfl rfl ?_
      refine st (x_loadB sc3F3 rfl B1 rfl) ?_
      refine gt rfl rfl rfl rfl ?_
      refine s0 (x_fieldAddr fa25_0F3 rfl) ?_
      refine gt rfl rfl rfl rfl ?_
      refine st (x_loadB sc9F3 rfl B1 rfl) ?_
      refine gt rfl rfl rfl rfl ?_
      refine s0 (x_len un9F3 rfl) ?_
      refine gt rfl rfl rfl rfl ?_
      refine sb (x_lss rfl rfl) (fun h16 => ?_) (fun h16 => ?_)
      · refine s0 (x_pickt (v := .bool _) rfl rfl) ?_
        refine c_end ?_
        refine n_then ?_
        refine c_true rfl ?_
        refine c_skipn ?_
        refine n_then ?_
        refine wp_block ?_
        refine wp_seq ?_
        have hw8 := ca_word48 hg (by omega)
        have hby : (0 : Int) ≤ ((s.data.toList.getD g.2.pos.toNat 0).toNat : Int) ∧ ((s.data.toList.getD g.2.pos.toNat 0).toNat : Int) ≤ 255 := byteAt_range s g.2.pos
        refine c_plan (fun wq => Exm [] wl9 wq) 11 (.cons (0, 2) (.cons (1, 1) (.cons (2, 2) (.cons (3, 2) (.cons (4, 1) (.cons (5, 2) (.cons (6, 1) (.cons (7, 2) (.cons (8, 2) (.cons (9, 2) (.cons (10, 2) (.cons (11, 0) .nil)))))))))))) (by kernel_rfl) (by kernel_rfl) (Exm.drew _) ?_
        obtain ⟨w10, hwd⟩ : ∃ x, x = wl9.drew := ⟨_, rfl⟩
        have l11 : Ext wl9 w10 := by rw [hwd]; exact Exm.drew _
        rw [← hwd]; clear hwd
        have Lq : Exm [] wl9 w10 := l11.up
        have qB1 := B1
        have qB4 := B4
        have qL := L
        have z_l11 := l11.size
        have L := L.tr l11.up
        have B1 := B1.ext l11
        have B4 := B4.ext l11
        refine p0 rfl (x_fieldAddr fa25_2F3 rfl) ?_
        refine ps rfl (fun wq hwq => x_loadB sc3F3 rfl (qB1.ext hwq) rfl) ?_
        refine p0 rfl (x_mul rfl rfl (by omega)) ?_
        refine p0 rfl (x_fieldAddr fa25_0F3 rfl) ?_
        refine ps rfl (fun wq hwq => x_loadB sc9F3 rfl (qB1.ext hwq) rfl) ?_
        refine p0 rfl (x_fieldAddr fa25_1F3 rfl) ?_
        refine ps rfl (fun wq hwq => x_loadB sc3F3 rfl (qB1.ext hwq) rfl) ?_
        refine p0 rfl (x_index un9F3 rfl rfl (by omega) (by omega)) ?_
        refine p0 rfl (x_convb us5F3 un3F3 rfl) ?_
        refine p0 rfl (x_add rfl rfl (by omega)) ?_
        refine p0 rfl (x_fieldAddr fa25_2F3 rfl) ?_
        refine pu rfl ?_ (by rintro ⟨_, _, h, _⟩; cases h)
        refine s_store (v := .int _ _) (cs' := [_, _, _, _]) rfl sz3F3 rfl rfl rfl rfl B1 rfl rfl ?_
        intro w12 l13 el13 B1
        have z_l13 := l13.size
        have L := L.fresh l13 (by omega)
        have B4 := B4.ne l13 (by omega)
        refine c_end ⟨rfl, fun h hS => absurd h (by decide), ?_⟩
        refine p_nil (np_normal ?_)
        refine n_then ?_
        refine wp_seq ?_
        refine c_reg ?_
        refine s0 (x_fieldAddr fa25_1F3 rfl) ?_
        refine st (x_loadB sc3F3 rfl B1 rfl) ?_
        refine s0 (x_add rfl rfl (by omega)) ?_
        refine s0 (x_fieldAddr fa25_1F3 rfl) ?_
        refine s_store (v := .int _ _) (cs' := [_, _, _, _]) rfl sz3F3 rfl rfl rfl rfl B1 rfl rfl ?_
        intro w14 l15 el15 B1
        have z_l15 := l15.size
        have L := L.fresh l15 (by omega)
        have B4 := B4.ne l15 (by omega)
        refine c_end ?_
        refine n_then ?_
        refine c_reg ?_
        refine s0 (x_fieldAddr fa25_3F3 rfl) ?_
        refine st (x_loadB sc3F3 rfl B1 rfl) ?_
        refine s0 (x_add rfl rfl (by omega)) ?_
        refine s0 (x_fieldAddr fa25_3F3 rfl) ?_
        refine s_store (v := .int _ _) (cs' := [_, _, _, _]) rfl sz3F3 rfl rfl rfl rfl B1 rfl rfl ?_
        intro w16 l17 el17 B1
        have z_l17 := l17.size
        have L := L.fresh l17 (by omega)
        have B4 := B4.ne l17 (by omega)
        refine c_end ?_
        refine n_block ?_
        exact c_round (g' := (g.1 - 1, rfStep s g.2)) (by omega) ⟨_, upd_self2 rfl rfl, L, (by omega), B1, B4, (rfStep_ok hg (by omega) (by omega)), (hr.trans (by rw [← rf_more (g.1 - 1) (by omega)]; congr 1; omega)), (by show 49 ≤ g.2.hv + 8 + 8 * ((g.1 - 1 : Nat) : Int); omega)⟩
      · refine s0 (x_pickt (v := .bool _) rfl rfl) ?_
        refine c_end ?_
        refine n_then ?_
        refine c_false rfl ?_
        refine wp_exit (e_then (e_then (e_here ?_)))
        refine n_then ?_
        refine wp_seq ?_
        refine c_reg ?_
        refine st (x_loadAgB ag25F3 rfl B1 rfl) ?_
        refine s_storeAg rfl sz25F3 rfl rfl B4 rfl rfl rfl ?_
        intro w18 l19 el19 B4
        have z_l19 := l19.size
        have L := L.fresh l19 (by omega)
        have B1 := B1.ne l19 (by omega)
        refine c_end ?_
        refine n_then ?_
        refine wp_ret ?_
        refine f_retc rfl rfl ag25F3 B4 rfl ?_
        exact ⟨ret_val (by unfold refillOf; rw [if_pos h4, hr, rf_end _ (by omega)]), L⟩
    · refine s0 (x_move (v := .bool _) rfl) ?_
      refine gf rfl rfl rfl rfl ?_
      refine gf rfl rfl rfl rfl ?_
      refine gf rfl rfl rfl rfl ?_
      refine gf rfl rfl rfl rfl ?_
      refine gf rfl rfl rfl rfl ?_
      refine gf rfl rfl rfl rfl ?_
      refine s0 (x_pickf (v := .bool _) rfl rfl) ?_
      refine c_end ?_
      refine n_then ?_
      refine c_false rfl ?_
      refine wp_exit (e_then (e_then (e_here ?_)))
      refine n_then ?_
      refine wp_seq ?_
      refine c_reg ?_
      refine st (x_loadAgB ag25F3 rfl B1 rfl) ?_
      refine s_storeAg rfl sz25F3 rfl rfl B4 rfl rfl rfl ?_
      intro w20 l21 el21 B4
      have z_l21 := l21.size
      have L := L.fresh l21 (by omega)
      have B1 := B1.ne l21 (by omega)
      refine c_end ?_
      refine n_then ?_
      refine wp_ret ?_
      refine f_retc rfl rfl ag25F3 B4 rfl ?_
      exact ⟨ret_val (by unfold refillOf; rw [if_pos h4, hr, rf_end _ (by omega)]), L⟩
  · have z_l8 := l8.size
    have L := L.tr l8.up
    have B1 := B1.ext l8
    have B4 := B4.ext l8
    refine s0 (x_not rfl) ?_
    refine c_end ?_
    refine n_then ?_
    refine c_true rfl ?_
    refine wp_seq ?_
    refine c_reg ?_
    refine st (x_loadAgB ag25F3 rfl B1 rfl) ?_
    refine s_storeAg rfl sz25F3 rfl rfl B4 rfl rfl rfl ?_
    intro w22 l23 el23 B4
    have z_l23 := l23.size
    have L := L.fresh l23 (by omega)
    have B1 := B1.ne l23 (by omega)
    refine c_end ?_
    refine n_then ?_
    refine wp_ret (r_then ?_)
    refine f_retc rfl rfl ag25F3 B4 rfl ?_
    exact ⟨ret_val (by unfold refillOf; rw [if_neg h4]), L⟩

/-- impl.PlaceIn -/
theorem i_place (s : ByteArray) (c : Ca) (w : World) (hs : s.size ≤ 1048576) :
    Calls Try.prog 21 [.agg [.string s, .int .i64 (c).pos, .int .i64 (c).word, .int .i64 (c).hv].toArray].toArray w (Ret w (.int .i64 (placeOf s c))) := by
  have L : Exm [] w w := Exm.rfl'
  refine enter (n := 12) Try.func21 rfl rfl rfl ?_
  refine wp_seq ?_
  refine c_reg ?_
  refine s_box rfl rfl ?_
  intro b1 w2 lob1 hib1 l3 B1
  have z_l3 := l3.size
  have L := L.tr l3.up
  refine s0 (x_assign (v := .int _ _) rfl) ?_
  refine c_end ?_
  refine n_then ?_
  refine wp_seq ?_
  refine wp_seq ?_
  refine c_reg ?_
  refine st (x_loadAgB ag25F3 rfl B1 rfl) ?_
  refine srb (zcall cl86F3 rfl) (i_cacheOk _ _ _ _ _ (by omega)) (fun h4 w4 l5 => ?_) (fun h4 w4 l5 => ?_)
  · have z_l5 := l5.size
    have L := L.tr l5.up
    have B1 := B1.ext l5
    refine s0 (x_not rfl) ?_
    refine c_end ?_
    refine n_then ?_
    refine c_false rfl ?_
    refine c_skipn ?_
    refine n_then ?_
    refine wp_seq ?_
    obtain ⟨hg1, hg2, hg3, hg4, hg5, hg6⟩ := id h4
    refine c_reg ?_
    refine s0 (x_fieldAddr fa25_1F3 rfl) ?_
    refine st (x_loadB sc3F3 rfl B1 rfl) ?_
    refine s0 (x_mul rfl rfl (by omega)) ?_
    refine s0 (x_fieldAddr fa25_3F3 rfl) ?_
    refine st (x_loadB sc3F3 rfl B1 rfl) ?_
    refine s0 (x_sub rfl rfl (by omega)) ?_
    refine s0 (x_assign (v := .int _ _) rfl) ?_
    refine c_end ?_
    refine n_then ?_
    refine wp_ret ?_
    refine f_ret rfl rfl ?_
    exact ⟨ret_int (by unfold placeOf; rw [if_pos h4]), L⟩
  · have z_l5 := l5.size
    have L := L.tr l5.up
    have B1 := B1.ext l5
    refine s0 (x_not rfl) ?_
    refine c_end ?_
    refine n_then ?_
    refine c_true rfl ?_
    refine wp_seq ?_
    refine c_reg ?_
    refine s0 (x_assign (v := .int _ _) rfl) ?_
    refine c_end ?_
    refine n_then ?_
    refine wp_ret (r_then ?_)
    refine f_ret rfl rfl ?_
    exact ⟨ret_int (by unfold placeOf; rw [if_neg h4]), L⟩

/-- spec.PlaceIn -/
theorem s_place (s : ByteArray) (c : Ca) (w : World) (hs : s.size ≤ 1048576) :
    Calls Try.prog 20 [.agg [.string s, .int .i64 (c).pos, .int .i64 (c).word, .int .i64 (c).hv].toArray].toArray w (Ret w (.int .i64 (placeOf s c))) := by
  have L : Exm [] w w := Exm.rfl'
  refine enter (n := 12) Try.func20 rfl rfl rfl ?_
  refine wp_seq ?_
  refine c_reg ?_
  refine s_box rfl rfl ?_
  intro b1 w2 lob1 hib1 l3 B1
  have z_l3 := l3.size
  have L := L.tr l3.up
  refine s0 (x_assign (v := .int _ _) rfl) ?_
  refine c_end ?_
  refine n_then ?_
  refine wp_seq ?_
  refine wp_seq ?_
  refine c_reg ?_
  refine st (x_loadAgB ag25F3 rfl B1 rfl) ?_
  refine srb (zcall cl17F3 rfl) (s_cacheOk _ _ _ _ _ (by omega)) (fun h4 w4 l5 => ?_) (fun h4 w4 l5 => ?_)
  · have z_l5 := l5.size
    have L := L.tr l5.up
    have B1 := B1.ext l5
    refine s0 (x_not rfl) ?_
    refine c_end ?_
    refine n_then ?_
    refine c_false rfl ?_
    refine c_skipn ?_
    refine n_then ?_
    refine wp_seq ?_
    obtain ⟨hg1, hg2, hg3, hg4, hg5, hg6⟩ := id h4
    refine c_reg ?_
    refine s0 (x_fieldAddr fa25_1F3 rfl) ?_
    refine st (x_loadB sc3F3 rfl B1 rfl) ?_
    refine s0 (x_mul rfl rfl (by omega)) ?_
    refine s0 (x_fieldAddr fa25_3F3 rfl) ?_
    refine st (x_loadB sc3F3 rfl B1 rfl) ?_
    refine s0 (x_sub rfl rfl (by omega)) ?_
    refine s0 (x_assign (v := .int _ _) rfl) ?_
    refine c_end ?_
    refine n_then ?_
    refine wp_ret ?_
    refine f_ret rfl rfl ?_
    exact ⟨ret_int (by unfold placeOf; rw [if_pos h4]), L⟩
  · have z_l5 := l5.size
    have L := L.tr l5.up
    have B1 := B1.ext l5
    refine s0 (x_not rfl) ?_
    refine c_end ?_
    refine n_then ?_
    refine c_true rfl ?_
    refine wp_seq ?_
    refine c_reg ?_
    refine s0 (x_assign (v := .int _ _) rfl) ?_
    refine c_end ?_
    refine n_then ?_
    refine wp_ret (r_then ?_)
    refine f_ret rfl rfl ?_
    exact ⟨ret_int (by unfold placeOf; rw [if_neg h4]), L⟩

/-- impl.settledAt -/
theorem i_settledAt (s : ByteArray) (a : Int) (w : World) (hs : s.size ≤ 1048576) (ha : 0 ≤ a ∧ a ≤ 8 * s.size) :
    Calls Try.prog 89 [.string s, .int .i64 a].toArray w (Ret w (.agg [.string s, .int .i64 (settledAt s a).pos, .int .i64 (settledAt s a).word, .int .i64 (settledAt s a).hv].toArray)) := by
  have L : Exm [] w w := Exm.rfl'
  refine enter (n := 22) Try.func89 rfl rfl rfl ?_
  refine wp_seq ?_
  refine c_reg ?_
  refine s_alloc zr25F3 ?_
  intro b1 w2 lob1 hib1 l3 B1
  have z_l3 := l3.size
  have L := L.tr l3.up
  refine c_end ?_
  refine n_then ?_
  refine wp_seq ?_
  refine c_reg ?_
  refine s0 (x_move (v := .int _ _) rfl) ?_
  refine s0 (x_add rfl rfl (by omega)) ?_
  refine s0 (x_quo rfl rfl (by omega) (by omega)) ?_
  refine s0 (x_assign (v := .int _ _) rfl) ?_
  refine c_end ?_
  refine n_then ?_
  refine wp_seq ?_
  refine c_reg ?_
  refine s0 (x_move (v := .int _ _) rfl) ?_
  refine s0 (x_mul rfl rfl (by omega)) ?_
  refine s0 (x_move (v := .int _ _) rfl) ?_
  refine s0 (x_sub rfl rfl (by omega)) ?_
  refine s0 (x_assign (v := .int _ _) rfl) ?_
  refine c_end ?_
  refine n_then ?_
  refine wp_seq ?_
  refine c_reg ?_
  refine s0 (x_move (v := .string _) rfl) ?_
  refine s0 (x_move (v := .int _ _) rfl) ?_
  refine s0 (x_move (v := .string _) rfl) ?_
  refine s0 (x_move (v := .int _ _) rfl) ?_
  refine s0 (x_move (v := .int _ _) rfl) ?_
  refine sr (zcall cl87F3 rfl) (i_bits _ _ _ _ (by omega) (by omega) (by omega)) ?_
  intro w4 l5
  have z_l5 := l5.size
  have L := L.tr l5.up
  have B1 := B1.ext l5
  refine s0 (x_move (v := .int _ _) rfl) ?_
  refine s0 (x_build (cs := [.string _, .int _ _, .int _ _, .int _ _]) bd25F3 (pts_cons (v := .string _) rfl (pts_cons (v := .int _ _) rfl (pts_cons (v := .int _ _) rfl (pts_cons (v := .int _ _) rfl pts_nil)))) rfl) ?_
  refine s_storeAg rfl sz25F3 rfl rfl B1 rfl rfl rfl ?_
  intro w6 l7 el7 B1
  have z_l7 := l7.size
  have L := L.fresh l7 (by omega)
  refine c_end ?_
  refine n_then ?_
  refine wp_ret ?_
  refine f_retc rfl rfl ag25F3 B1 rfl ?_
  exact ⟨rfl, L⟩

/-- spec.l7At -/
theorem s_l7At (s : ByteArray) (a : Int) (w : World) (hs : s.size ≤ 1048576) (ha : 0 ≤ a ∧ a ≤ 8 * s.size) :
    Calls Try.prog 83 [.string s, .int .i64 a].toArray w (Ret w (.agg [.string s, .int .i64 (settledAt s a).pos, .int .i64 (settledAt s a).word, .int .i64 (settledAt s a).hv].toArray)) := by
  have L : Exm [] w w := Exm.rfl'
  refine enter (n := 35) Try.func83 rfl rfl rfl ?_
  refine wp_seq ?_
  refine c_reg ?_
  refine s_alloc zr25F3 ?_
  intro b1 w2 lob1 hib1 l3 B1
  have z_l3 := l3.size
  have L := L.tr l3.up
  refine c_end ?_
  refine n_then ?_
  refine wp_seq ?_
  refine c_reg ?_
  refine s0 (x_move (v := .string _) rfl) ?_
  refine s0 (x_move (v := .int _ _) rfl) ?_
  refine s0 (x_add rfl rfl (by omega)) ?_
  refine s0 (x_quo rfl rfl (by omega) (by omega)) ?_
  refine s0 (x_build (cs := [.string _, .int _ _, .int .i64 0, .int .i64 0]) bd25F3 (pts_cons (v := .string _) rfl (pts_cons (v := .int _ _) rfl pts_nil)) rfl) ?_
  refine s_alloc zr25F3 ?_
  intro b4 w5 lob4 hib4 l6 B4
  have z_l6 := l6.size
  have L := L.tr l6.up
  have B1 := B1.ext l6
  refine s_storeAg rfl sz25F3 rfl rfl B4 rfl rfl rfl ?_
  intro w7 l8 el8 B4
  have z_l8 := l8.size
  have L := L.fresh l8 (by omega)
  have B1 := B1.ne l8 (by omega)
  refine c_end ?_
  refine n_then ?_
  refine wp_seq ?_
  refine c_reg ?_
  refine s0 (x_fieldAddr fa25_1F3 rfl) ?_
  refine st (x_loadB sc3F3 rfl B4 rfl) ?_
  refine s0 (x_mul rfl rfl (by omega)) ?_
  refine s0 (x_move (v := .int _ _) rfl) ?_
  refine s0 (x_sub rfl rfl (by omega)) ?_
  refine s0 (x_fieldAddr fa25_3F3 rfl) ?_
  refine s_store (v := .int _ _) (cs' := [_, _, _, _]) rfl sz3F3 rfl rfl rfl rfl B4 rfl rfl ?_
  intro w9 l10 el10 B4
  have z_l10 := l10.size
  have L := L.fresh l10 (by omega)
  have B1 := B1.ne l10 (by omega)
  refine c_end ?_
  refine n_then ?_
  refine wp_seq ?_
  refine wp_seq ?_
  refine c_reg ?_
  refine s0 (x_move (v := .int _ _) rfl) ?_
  refine s0 (x_assign (v := .int _ _) rfl) ?_
  refine c_end ?_
  refine n_then ?_
  refine wp_block ?_
  refine c_loop (γ := Nat) (fun k => (8 * ((a + 7) / 8) - a).toNat - k) (fun (k : Nat) E wl => ∃ E0, E = upd (upd (upd (upd E0 0 (.string s)) 4 (pt b1 0)) 5 (pt b4 0)) 6 (.int .i64 (a + k)) ∧ (Exm [] w wl) ∧ (w9.heap.size ≤ wl.heap.size) ∧ (Bx wl b1 [.string .empty, .int .i64 0, .int .i64 0, .int .i64 0] 25) ∧ (Bx wl b4 [.string s, .int .i64 ((a + 7) / 8), .int .i64 (bitsOf s a k), .int .i64 (8 * ((a + 7) / 8) - a)] 25) ∧ (a + k ≤ 8 * ((a + 7) / 8))) 0 ⟨_, upd_self4 rfl rfl rfl (vint (by omega)), L, (by omega), B1, B4, (by omega)⟩ ?_
  rintro k E wl11 ⟨E0, rfl, L, Lz, B1, B4, hk⟩
  have Lz0 := L.size
  have hb := bitsOf_62 s a k (by omega)
  have hr := bitAt_range s (a + k)
  refine wp_seq ?_
  refine wp_seq ?_
  refine c_reg ?_
  refine s0 (x_move (v := .int _ _) rfl) ?_
  refine s0 (x_fieldAddr fa25_1F3 rfl) ?_
  refine st (x_loadB sc3F3 rfl B4 rfl) ?_
  refine s0 (x_mul rfl rfl (by omega)) ?_
  refine sb (x_lss rfl rfl) (fun h23 => ?_) (fun h23 => ?_)
  · refine c_end ?_
    refine n_then ?_
    refine c_true rfl ?_
    refine c_skipn ?_
    refine n_then ?_
    refine wp_seq ?_
    refine wp_block ?_
    refine c_plan (fun wq => Exm [] wl11 wq) 8 (.cons (0, 2) (.cons (1, 1) (.cons (2, 2) (.cons (3, 2) (.cons (4, 2) (.cons (5, 0) (.cons (6, 2) (.cons (7, 2) (.cons (8, 0) .nil))))))))) (by kernel_rfl) (by kernel_rfl) (Exm.drew _) ?_
    obtain ⟨w12, hwd⟩ : ∃ x, x = wl11.drew := ⟨_, rfl⟩
    have l13 : Ext wl11 w12 := by rw [hwd]; exact Exm.drew _
    rw [← hwd]; clear hwd
    have Lq : Exm [] wl11 w12 := l13.up
    have qB1 := B1
    have qB4 := B4
    have qL := L
    have z_l13 := l13.size
    have L := L.tr l13.up
    have B1 := B1.ext l13
    have B4 := B4.ext l13
    refine p0 rfl (x_fieldAddr fa25_2F3 rfl) ?_
    refine ps rfl (fun wq hwq => x_loadB sc3F3 rfl (qB4.ext hwq) rfl) ?_
    refine p0 rfl (x_mul rfl rfl (by omega)) ?_
    refine p0 rfl (x_move (v := .string _) rfl) ?_
    refine p0 rfl (x_move (v := .int _ _) rfl) ?_
    refine pu rfl ?_ (by rintro ⟨_, _, h, _⟩; cases h)
    refine sr (zcall cl96F3 rfl) (s_bitAt _ _ _ (by omega)) ?_
    intro w14 l15
    have z_l15 := l15.size
    have L := L.tr l15.up
    have Lq := Lq.tr l15.up
    have B1 := B1.ext l15
    have B4 := B4.ext l15
    refine c_end ⟨rfl, fun h hS => Lq, ?_⟩
    refine p0 rfl (x_add rfl rfl (by omega)) ?_
    refine p0 rfl (x_fieldAddr fa25_2F3 rfl) ?_
    refine pu rfl ?_ (by rintro ⟨_, _, h, _⟩; cases h)
    refine s_store (v := .int _ _) (cs' := [_, _, _, _]) rfl sz3F3 rfl rfl rfl rfl B4 rfl rfl ?_
    intro w16 l17 el17 B4
    have z_l17 := l17.size
    have L := L.fresh l17 (by omega)
    have B1 := B1.ne l17 (by omega)
    refine c_end ⟨rfl, fun h hS => absurd h (by decide), ?_⟩
    refine p_nil (np_normal ?_)
    refine n_block ?_
    refine n_then ?_
    refine c_reg ?_
    refine s0 (x_move (v := .int _ _) rfl) ?_
    refine s0 (x_add rfl rfl (by omega)) ?_
    refine s0 (x_assign (v := .int _ _) rfl) ?_
    refine c_end ?_
    rw [show bitsOf s a k * 2 + bitAt s (a + k) = bitsOf s a (k + 1) by simp only [bitsOf]; rw [Int.max_eq_left (bitAt_in0 (by omega)).1]] at B4
    exact c_round (g' := k + 1) (by omega) ⟨_, upd_self4 rfl rfl rfl (vint (by omega)), L, (by omega), B1, B4, (by omega)⟩
  · refine c_end ?_
    refine n_then ?_
    refine c_false rfl ?_
    refine wp_exit (e_then (e_then (e_here ?_)))
    refine n_then ?_
    refine wp_seq ?_
    refine c_reg ?_
    refine st (x_loadAgB ag25F3 rfl B4 rfl) ?_
    refine s_storeAg rfl sz25F3 rfl rfl B1 rfl rfl rfl ?_
    intro w18 l19 el19 B1
    have z_l19 := l19.size
    have L := L.fresh l19 (by omega)
    have B4 := B4.ne l19 (by omega)
    refine c_end ?_
    refine n_then ?_
    refine wp_ret ?_
    refine f_retc rfl rfl ag25F3 B1 rfl ?_
    exact ⟨ret_val (by unfold settledAt; rw [show (8 * ((a + 7) / 8) - a).toNat = k by omega]), L⟩

/-- spec.Settle -/
theorem s_settle (s : ByteArray) (c : Ca) (w : World) (hs : s.size ≤ 1048576) :
    Calls Try.prog 99 [.agg [.string s, .int .i64 (c).pos, .int .i64 (c).word, .int .i64 (c).hv].toArray].toArray w (Ret w (.agg [.string s, .int .i64 (settleOf s c).pos, .int .i64 (settleOf s c).word, .int .i64 (settleOf s c).hv].toArray)) := by
  have L : Exm [] w w := Exm.rfl'
  refine enter (n := 12) Try.func99 rfl rfl rfl ?_
  refine wp_seq ?_
  refine c_reg ?_
  refine s_box rfl rfl ?_
  intro b1 w2 lob1 hib1 l3 B1
  have z_l3 := l3.size
  have L := L.tr l3.up
  refine s_alloc zr25F3 ?_
  intro b4 w5 lob4 hib4 l6 B4
  have z_l6 := l6.size
  have L := L.tr l6.up
  have B1 := B1.ext l6
  refine c_end ?_
  refine n_then ?_
  refine wp_seq ?_
  refine wp_seq ?_
  refine c_reg ?_
  refine st (x_loadAgB ag25F3 rfl B1 rfl) ?_
  refine srb (zcall cl17F3 rfl) (s_cacheOk _ _ _ _ _ (by omega)) (fun h4 w7 l8 => ?_) (fun h4 w7 l8 => ?_)
  · have z_l8 := l8.size
    have L := L.tr l8.up
    have B1 := B1.ext l8
    have B4 := B4.ext l8
    refine s0 (x_not rfl) ?_
    refine c_end ?_
    refine n_then ?_
    refine c_false rfl ?_
    refine c_skipn ?_
    refine n_then ?_
    refine wp_seq ?_
    obtain ⟨hg1, hg2, hg3, hg4, hg5, hg6⟩ := id h4
    have hp : placeOf s c = 8 * c.pos - c.hv := by unfold placeOf; rw [if_pos h4]
    refine c_plan (fun wq => Exm [b4] w7 wq) 6 (.cons (0, 2) (.cons (1, 1) (.cons (2, 1) (.cons (3, 0) (.cons (4, 0) (.cons (5, 0) .nil)))))) (by kernel_rfl) (by kernel_rfl) (Exm.drew _) ?_
    obtain ⟨w9, hwd⟩ : ∃ x, x = w7.drew := ⟨_, rfl⟩
    have l10 : Ext w7 w9 := by rw [hwd]; exact Exm.drew _
    rw [← hwd]; clear hwd
    have Lq : Exm [b4] w7 w9 := l10.up
    have qB1 := B1
    have qB4 := B4
    have qL := L
    have z_l10 := l10.size
    have L := L.tr l10.up
    have B1 := B1.ext l10
    have B4 := B4.ext l10
    refine p0 rfl (x_fieldAddr fa25_0F3 rfl) ?_
    refine ps rfl (fun wq hwq => x_loadB sc9F3 rfl (qB1.ne hwq (by omega)) rfl) ?_
    refine ps rfl (fun wq hwq => x_loadAgB ag25F3 rfl (qB1.ne hwq (by omega)) rfl) ?_
    refine pu rfl ?_ (by rintro ⟨_, _, h, _⟩; cases h)
    refine sr (zcall cl20F3 rfl) (s_place _ c _ (by omega)) ?_
    intro w11 l12
    have z_l12 := l12.size
    have L := L.tr l12.up
    have Lq := Lq.tr l12.up
    have B1 := B1.ext l12
    have B4 := B4.ext l12
    refine c_end ⟨rfl, fun h hS => Lq, ?_⟩
    refine pu rfl ?_ (by rintro ⟨_, _, h, _⟩; cases h)
    refine sr (zcall cl83F3 rfl) (s_l7At _ _ _ (by omega) (by omega)) ?_
    intro w13 l14
    have z_l14 := l14.size
    have L := L.tr l14.up
    have Lq := Lq.tr l14.up
    have B1 := B1.ext l14
    have B4 := B4.ext l14
    refine c_end ⟨rfl, fun h hS => Lq, ?_⟩
    refine pu rfl ?_ (by rintro ⟨_, _, h, _⟩; cases h)
    refine s_storeAg rfl sz25F3 rfl rfl B4 rfl rfl rfl ?_
    intro w15 l16 el16 B4
    have z_l16 := l16.size
    have L := L.fresh l16 (by omega)
    have Lq := Lq.within l16 (by simp)
    have B1 := B1.ne l16 (by omega)
    refine c_end ⟨rfl, fun h hS => Lq, ?_⟩
    refine p_nil (np_normal ?_)
    refine n_then ?_
    refine wp_ret ?_
    refine f_retc rfl rfl ag25F3 B4 rfl ?_
    exact ⟨ret_val (by unfold settleOf; rw [if_pos h4, ← hp]), L⟩
  · have z_l8 := l8.size
    have L := L.tr l8.up
    have B1 := B1.ext l8
    have B4 := B4.ext l8
    refine s0 (x_not rfl) ?_
    refine c_end ?_
    refine n_then ?_
    refine c_true rfl ?_
    refine wp_seq ?_
    refine c_reg ?_
    refine st (x_loadAgB ag25F3 rfl B1 rfl) ?_
    refine s_storeAg rfl sz25F3 rfl rfl B4 rfl rfl rfl ?_
    intro w17 l18 el18 B4
    have z_l18 := l18.size
    have L := L.fresh l18 (by omega)
    have B1 := B1.ne l18 (by omega)
    refine c_end ?_
    refine n_then ?_
    refine wp_ret (r_then ?_)
    refine f_retc rfl rfl ag25F3 B4 rfl ?_
    exact ⟨ret_val (by unfold settleOf; rw [if_neg h4]), L⟩

theorem pk_no {s : ByteArray} {c : Ca} {n : Int} (h : ¬ okN s c n) : Ending.returned (.tuple [.agg [.string s, .int .i64 (c).pos, .int .i64 (c).word, .int .i64 (c).hv].toArray, .int .i64 0].toArray) = .returned (.tuple [.agg [.string s, .int .i64 (peekC s c n).pos, .int .i64 (peekC s c n).word, .int .i64 (peekC s c n).hv].toArray, .int .i64 (peekV s c n)].toArray) := by simp only [peekC, peekV, if_neg h]
theorem pk_yes {s : ByteArray} {c d : Ca} {n v : Int} (h : okN s c n) (hd : d = readyOf s c n) (hv : v = bitsOf s (8 * c.pos - c.hv) n.toNat) : Ending.returned (.tuple [.agg [.string s, .int .i64 (d).pos, .int .i64 (d).word, .int .i64 (d).hv].toArray, .int .i64 v].toArray) = .returned (.tuple [.agg [.string s, .int .i64 (peekC s c n).pos, .int .i64 (peekC s c n).word, .int .i64 (peekC s c n).hv].toArray, .int .i64 (peekV s c n)].toArray) := by simp only [peekC, peekV, if_pos h, hd, hv]
/-- spec.Peek -/
theorem s_peek (s : ByteArray) (c : Ca) (n : Int) (w : World) (hs : s.size ≤ 1048576) :
    Calls Try.prog 97 [.agg [.string s, .int .i64 (c).pos, .int .i64 (c).word, .int .i64 (c).hv].toArray, .int .i64 n].toArray w (Ret w (.tuple [.agg [.string s, .int .i64 (peekC s c n).pos, .int .i64 (peekC s c n).word, .int .i64 (peekC s c n).hv].toArray, .int .i64 (peekV s c n)].toArray)) := by
  have L : Exm [] w w := Exm.rfl'
  refine enter (n := 41) Try.func97 rfl rfl rfl ?_
  refine wp_seq ?_
  refine c_reg ?_
  refine s_box rfl rfl ?_
  intro b1 w2 lob1 hib1 l3 B1
  have z_l3 := l3.size
  have L := L.tr l3.up
  refine s_alloc zr25F3 ?_
  intro b4 w5 lob4 hib4 l6 B4
  have z_l6 := l6.size
  have L := L.tr l6.up
  have B1 := B1.ext l6
  refine s0 (x_assign (v := .int _ _) rfl) ?_
  refine c_end ?_
  refine n_then ?_
  refine wp_seq ?_
  refine wp_seq ?_
  refine c_reg ?_
  refine st (x_loadAgB ag25F3 rfl B1 rfl) ?_
  refine srb (zcall cl17F3 rfl) (s_cacheOk _ _ _ _ _ (by omega)) (fun h7 w7 l8 => ?_) (fun h7 w7 l8 => ?_)
  · have z_l8 := l8.size
    have L := L.tr l8.up
    have B1 := B1.ext l8
    have B4 := B4.ext l8
    refine s0 (x_not rfl) ?_
    refine s0 (x_move (v := .bool _) rfl) ?_
    refine gt rfl rfl rfl rfl ?_
    refine s0 (x_move (v := .int _ _) rfl) ?_
    refine gt rfl rfl rfl rfl ?_
    refine srb (zcall cl95F3 rfl) (s_l1In _ _ _ _) (fun h11 w9 l10 => ?_) (fun h11 w9 l10 => ?_)
    · have z_l10 := l10.size
      have L := L.tr l10.up
      have B1 := B1.ext l10
      have B4 := B4.ext l10
      refine gt rfl rfl rfl rfl ?_
      refine s0 (x_not rfl) ?_
      refine s0 (x_pickf (v := .bool _) rfl rfl) ?_
      refine c_end ?_
      refine n_then ?_
      refine c_false rfl ?_
      refine c_skipn ?_
      refine n_then ?_
      refine wp_seq ?_
      refine wp_seq ?_
      obtain ⟨hg1, hg2, hg3, hg4, hg5, hg6⟩ := id h7
      have hw := ca_word56 h7
      refine c_reg ?_
      refine s0 (x_fieldAddr fa25_3F3 rfl) ?_
      refine st (x_loadB sc3F3 rfl B1 rfl) ?_
      refine s0 (x_move (v := .int _ _) rfl) ?_
      refine sb (x_lss rfl rfl) (fun h18 => ?_) (fun h18 => ?_)
      · refine c_end ?_
        refine n_then ?_
        refine c_true rfl ?_
        refine c_reg ?_
        refine st (x_loadAgB ag25F3 rfl B1 rfl) ?_
        refine sr (zcall cl84F3 rfl) (s_refill _ c _ (by omega)) ?_
        intro w11 l12
        have z_l12 := l12.size
        have L := L.tr l12.up
        have B1 := B1.ext l12
        have B4 := B4.ext l12
        refine s_storeAg rfl sz25F3 rfl rfl B1 rfl rfl rfl ?_
        intro w13 l14 el14 B1
        have z_l14 := l14.size
        have L := L.fresh l14 (by omega)
        have B4 := B4.ne l14 (by omega)
        refine c_end ?_
        refine n_then ?_
        refine wp_seq ?_
        refine wp_seq ?_
        obtain ⟨d, hd⟩ : ∃ d, d = readyOf s c n := ⟨_, rfl⟩
        have hd0 : caOk s d := hd ▸ ready_ok h7
        have hd1 : 8 * d.pos - d.hv = 8 * c.pos - c.hv := hd ▸ ready_place s c n
        have hd2 : d.hv < n → d.pos = s.size := by rw [hd]; exact ready_full h7 h11.2
        have hd3 := ca_word56 hd0
        obtain ⟨he1, he2, he3, he4, he5, he6⟩ := id hd0
        have hrd : readyOf s c n = refillOf s c := by unfold readyOf refillOf; rw [if_pos h18, if_pos h7]
        rw [← hrd, ← hd] at B1
        refine c_reg ?_
        refine s0 (x_fieldAddr fa25_3F3 rfl) ?_
        refine st (x_loadB sc3F3 rfl B1 rfl) ?_
        refine s0 (x_move (v := .int _ _) rfl) ?_
        refine sb (x_lss rfl rfl) (fun h24 => ?_) (fun h24 => ?_)
        · refine c_end ?_
          refine n_then ?_
          refine c_true rfl ?_
          refine wp_seq ?_
          refine c_plan (fun wq => Exm [b4] w13 wq) 10 (.cons (0, 1) (.cons (1, 2) (.cons (2, 1) (.cons (3, 2) (.cons (4, 2) (.cons (5, 1) (.cons (6, 2) (.cons (7, 2) (.cons (8, 0) (.cons (9, 2) .nil)))))))))) (by kernel_rfl) (by kernel_rfl) (Exm.drew _) ?_
          obtain ⟨w15, hwd⟩ : ∃ x, x = w13.drew := ⟨_, rfl⟩
          have l16 : Ext w13 w15 := by rw [hwd]; exact Exm.drew _
          rw [← hwd]; clear hwd
          have Lq : Exm [b4] w13 w15 := l16.up
          have qB1 := B1
          have qB4 := B4
          have qL := L
          have z_l16 := l16.size
          have L := L.tr l16.up
          have B1 := B1.ext l16
          have B4 := B4.ext l16
          refine ps rfl (fun wq hwq => x_loadAgB ag25F3 rfl (qB1.ne hwq (by omega)) rfl) ?_
          refine p0 rfl (x_fieldAddr fa25_2F3 rfl) ?_
          refine ps rfl (fun wq hwq => x_loadB sc3F3 rfl (qB1.ne hwq (by omega)) rfl) ?_
          refine p0 rfl (x_move (v := .int _ _) rfl) ?_
          refine p0 rfl (x_fieldAddr fa25_3F3 rfl) ?_
          refine ps rfl (fun wq hwq => x_loadB sc3F3 rfl (qB1.ne hwq (by omega)) rfl) ?_
          refine p0 rfl (x_sub rfl rfl (by omega)) ?_
          refine p0 rfl (x_shl rfl rfl (by omega) (by rw [peek_lo hd0 (by omega) (hd2 h24)]; have := bitsOf_62 s (8 * d.pos - d.hv) n.toNat (by omega); omega)) ?_
          refine pu rfl ?_ (by rintro ⟨_, _, h, _⟩; cases h)
          refine s_storeAg rfl sz25F3 rfl rfl B4 rfl rfl rfl ?_
          intro w17 l18 el18 B4
          have z_l18 := l18.size
          have L := L.fresh l18 (by omega)
          have Lq := Lq.within l18 (by simp)
          have B1 := B1.ne l18 (by omega)
          refine c_end ⟨rfl, fun h hS => Lq, ?_⟩
          refine p0 rfl (x_assign (v := .int _ _) rfl) ?_
          refine p_nil (np_normal ?_)
          refine n_then ?_
          refine wp_ret (r_then ?_)
          refine f_rets2 rfl (ro_cell rfl ag25F3 B4 rfl) (ro_tmp rfl) ?_
          exact ⟨pk_yes ⟨h7, h11⟩ hd (by rw [peek_lo hd0 (by omega) (hd2 h24), hd1]), L⟩
        · refine c_end ?_
          refine n_then ?_
          refine c_false rfl ?_
          refine c_skipn ?_
          refine n_then ?_
          refine wp_seq ?_
          refine c_plan (fun wq => Exm [b4] w13 wq) 10 (.cons (0, 1) (.cons (1, 2) (.cons (2, 1) (.cons (3, 2) (.cons (4, 1) (.cons (5, 2) (.cons (6, 2) (.cons (7, 2) (.cons (8, 0) (.cons (9, 2) .nil)))))))))) (by kernel_rfl) (by kernel_rfl) (Exm.drew _) ?_
          obtain ⟨w19, hwd⟩ : ∃ x, x = w13.drew := ⟨_, rfl⟩
          have l20 : Ext w13 w19 := by rw [hwd]; exact Exm.drew _
          rw [← hwd]; clear hwd
          have Lq : Exm [b4] w13 w19 := l20.up
          have qB1 := B1
          have qB4 := B4
          have qL := L
          have z_l20 := l20.size
          have L := L.tr l20.up
          have B1 := B1.ext l20
          have B4 := B4.ext l20
          refine ps rfl (fun wq hwq => x_loadAgB ag25F3 rfl (qB1.ne hwq (by omega)) rfl) ?_
          refine p0 rfl (x_fieldAddr fa25_2F3 rfl) ?_
          refine ps rfl (fun wq hwq => x_loadB sc3F3 rfl (qB1.ne hwq (by omega)) rfl) ?_
          refine p0 rfl (x_fieldAddr fa25_3F3 rfl) ?_
          refine ps rfl (fun wq hwq => x_loadB sc3F3 rfl (qB1.ne hwq (by omega)) rfl) ?_
          refine p0 rfl (x_move (v := .int _ _) rfl) ?_
          refine p0 rfl (x_sub rfl rfl (by omega)) ?_
          refine p0 rfl (x_shr rfl rfl (by simp only [IntKind.bits]; omega)) ?_
          refine pu rfl ?_ (by rintro ⟨_, _, h, _⟩; cases h)
          refine s_storeAg rfl sz25F3 rfl rfl B4 rfl rfl rfl ?_
          intro w21 l22 el22 B4
          have z_l22 := l22.size
          have L := L.fresh l22 (by omega)
          have Lq := Lq.within l22 (by simp)
          have B1 := B1.ne l22 (by omega)
          refine c_end ⟨rfl, fun h hS => Lq, ?_⟩
          refine p0 rfl (x_assign (v := .int _ _) rfl) ?_
          refine p_nil (np_normal ?_)
          refine n_then ?_
          refine wp_ret ?_
          refine f_rets2 rfl (ro_cell rfl ag25F3 B4 rfl) (ro_tmp rfl) ?_
          exact ⟨pk_yes ⟨h7, h11⟩ hd (by rw [peek_hi hd0 (by omega) (by omega), hd1]), L⟩
      · refine c_end ?_
        refine n_then ?_
        refine c_false rfl ?_
        refine c_skipn ?_
        refine n_then ?_
        refine wp_seq ?_
        refine wp_seq ?_
        obtain ⟨d, hd⟩ : ∃ d, d = readyOf s c n := ⟨_, rfl⟩
        have hd0 : caOk s d := hd ▸ ready_ok h7
        have hd1 : 8 * d.pos - d.hv = 8 * c.pos - c.hv := hd ▸ ready_place s c n
        have hd2 : d.hv < n → d.pos = s.size := by rw [hd]; exact ready_full h7 h11.2
        have hd3 := ca_word56 hd0
        obtain ⟨he1, he2, he3, he4, he5, he6⟩ := id hd0
        have hrd : readyOf s c n = c := by unfold readyOf; rw [if_neg h18]
        rw [← hrd, ← hd] at B1
        refine c_reg ?_
        refine s0 (x_fieldAddr fa25_3F3 rfl) ?_
        refine st (x_loadB sc3F3 rfl B1 rfl) ?_
        refine s0 (x_move (v := .int _ _) rfl) ?_
        refine sb (x_lss rfl rfl) (fun h24 => ?_) (fun h24 => ?_)
        · refine c_end ?_
          refine n_then ?_
          refine c_true rfl ?_
          refine wp_seq ?_
          refine c_plan (fun wq => Exm [b4] w9 wq) 10 (.cons (0, 1) (.cons (1, 2) (.cons (2, 1) (.cons (3, 2) (.cons (4, 2) (.cons (5, 1) (.cons (6, 2) (.cons (7, 2) (.cons (8, 0) (.cons (9, 2) .nil)))))))))) (by kernel_rfl) (by kernel_rfl) (Exm.drew _) ?_
          obtain ⟨w23, hwd⟩ : ∃ x, x = w9.drew := ⟨_, rfl⟩
          have l24 : Ext w9 w23 := by rw [hwd]; exact Exm.drew _
          rw [← hwd]; clear hwd
          have Lq : Exm [b4] w9 w23 := l24.up
          have qB1 := B1
          have qB4 := B4
          have qL := L
          have z_l24 := l24.size
          have L := L.tr l24.up
          have B1 := B1.ext l24
          have B4 := B4.ext l24
          refine ps rfl (fun wq hwq => x_loadAgB ag25F3 rfl (qB1.ne hwq (by omega)) rfl) ?_
          refine p0 rfl (x_fieldAddr fa25_2F3 rfl) ?_
          refine ps rfl (fun wq hwq => x_loadB sc3F3 rfl (qB1.ne hwq (by omega)) rfl) ?_
          refine p0 rfl (x_move (v := .int _ _) rfl) ?_
          refine p0 rfl (x_fieldAddr fa25_3F3 rfl) ?_
          refine ps rfl (fun wq hwq => x_loadB sc3F3 rfl (qB1.ne hwq (by omega)) rfl) ?_
          refine p0 rfl (x_sub rfl rfl (by omega)) ?_
          refine p0 rfl (x_shl rfl rfl (by omega) (by rw [peek_lo hd0 (by omega) (hd2 h24)]; have := bitsOf_62 s (8 * d.pos - d.hv) n.toNat (by omega); omega)) ?_
          refine pu rfl ?_ (by rintro ⟨_, _, h, _⟩; cases h)
          refine s_storeAg rfl sz25F3 rfl rfl B4 rfl rfl rfl ?_
          intro w25 l26 el26 B4
          have z_l26 := l26.size
          have L := L.fresh l26 (by omega)
          have Lq := Lq.within l26 (by simp)
          have B1 := B1.ne l26 (by omega)
          refine c_end ⟨rfl, fun h hS => Lq, ?_⟩
          refine p0 rfl (x_assign (v := .int _ _) rfl) ?_
          refine p_nil (np_normal ?_)
          refine n_then ?_
          refine wp_ret (r_then ?_)
          refine f_rets2 rfl (ro_cell rfl ag25F3 B4 rfl) (ro_tmp rfl) ?_
          exact ⟨pk_yes ⟨h7, h11⟩ hd (by rw [peek_lo hd0 (by omega) (hd2 h24), hd1]), L⟩
        · refine c_end ?_
          refine n_then ?_
          refine c_false rfl ?_
          refine c_skipn ?_
          refine n_then ?_
          refine wp_seq ?_
          refine c_plan (fun wq => Exm [b4] w9 wq) 10 (.cons (0, 1) (.cons (1, 2) (.cons (2, 1) (.cons (3, 2) (.cons (4, 1) (.cons (5, 2) (.cons (6, 2) (.cons (7, 2) (.cons (8, 0) (.cons (9, 2) .nil)))))))))) (by kernel_rfl) (by kernel_rfl) (Exm.drew _) ?_
          obtain ⟨w27, hwd⟩ : ∃ x, x = w9.drew := ⟨_, rfl⟩
          have l28 : Ext w9 w27 := by rw [hwd]; exact Exm.drew _
          rw [← hwd]; clear hwd
          have Lq : Exm [b4] w9 w27 := l28.up
          have qB1 := B1
          have qB4 := B4
          have qL := L
          have z_l28 := l28.size
          have L := L.tr l28.up
          have B1 := B1.ext l28
          have B4 := B4.ext l28
          refine ps rfl (fun wq hwq => x_loadAgB ag25F3 rfl (qB1.ne hwq (by omega)) rfl) ?_
          refine p0 rfl (x_fieldAddr fa25_2F3 rfl) ?_
          refine ps rfl (fun wq hwq => x_loadB sc3F3 rfl (qB1.ne hwq (by omega)) rfl) ?_
          refine p0 rfl (x_fieldAddr fa25_3F3 rfl) ?_
          refine ps rfl (fun wq hwq => x_loadB sc3F3 rfl (qB1.ne hwq (by omega)) rfl) ?_
          refine p0 rfl (x_move (v := .int _ _) rfl) ?_
          refine p0 rfl (x_sub rfl rfl (by omega)) ?_
          refine p0 rfl (x_shr rfl rfl (by simp only [IntKind.bits]; omega)) ?_
          refine pu rfl ?_ (by rintro ⟨_, _, h, _⟩; cases h)
          refine s_storeAg rfl sz25F3 rfl rfl B4 rfl rfl rfl ?_
          intro w29 l30 el30 B4
          have z_l30 := l30.size
          have L := L.fresh l30 (by omega)
          have Lq := Lq.within l30 (by simp)
          have B1 := B1.ne l30 (by omega)
          refine c_end ⟨rfl, fun h hS => Lq, ?_⟩
          refine p0 rfl (x_assign (v := .int _ _) rfl) ?_
          refine p_nil (np_normal ?_)
          refine n_then ?_
          refine wp_ret ?_
          refine f_rets2 rfl (ro_cell rfl ag25F3 B4 rfl) (ro_tmp rfl) ?_
          exact ⟨pk_yes ⟨h7, h11⟩ hd (by rw [peek_hi hd0 (by omega) (by omega), hd1]), L⟩
    · have z_l10 := l10.size
      have L := L.tr l10.up
      have B1 := B1.ext l10
      have B4 := B4.ext l10
      refine gt rfl rfl rfl rfl ?_
      refine s0 (x_not rfl) ?_
      refine s0 (x_pickf (v := .bool _) rfl rfl) ?_
      refine c_end ?_
      refine n_then ?_
      refine c_true rfl ?_
      refine wp_seq ?_
      refine c_reg ?_
      refine st (x_loadAgB ag25F3 rfl B1 rfl) ?_
      refine s_storeAg rfl sz25F3 rfl rfl B4 rfl rfl rfl ?_
      intro w31 l32 el32 B4
      have z_l32 := l32.size
      have L := L.fresh l32 (by omega)
      have B1 := B1.ne l32 (by omega)
      refine s0 (x_assign (v := .int _ _) rfl) ?_
      refine c_end ?_
      refine n_then ?_
      refine wp_ret (r_then ?_)
      refine f_rets2 rfl (ro_cell rfl ag25F3 B4 rfl) (ro_tmp rfl) ?_
      exact ⟨pk_no (fun h => absurd h.2 h11), L⟩
  · have z_l8 := l8.size
    have L := L.tr l8.up
    have B1 := B1.ext l8
    have B4 := B4.ext l8
    refine s0 (x_not rfl) ?_
    refine s0 (x_move (v := .bool _) rfl) ?_
    refine gf rfl rfl rfl rfl ?_
    refine gf rfl rfl rfl rfl ?_
    refine gf rfl rfl rfl rfl ?_
    refine s0 (x_pickt (v := .bool _) rfl rfl) ?_
    refine c_end ?_
    refine n_then ?_
    refine c_true rfl ?_
    refine wp_seq ?_
    refine c_reg ?_
    refine st (x_loadAgB ag25F3 rfl B1 rfl) ?_
    refine s_storeAg rfl sz25F3 rfl rfl B4 rfl rfl rfl ?_
    intro w33 l34 el34 B4
    have z_l34 := l34.size
    have L := L.fresh l34 (by omega)
    have B1 := B1.ne l34 (by omega)
    refine s0 (x_assign (v := .int _ _) rfl) ?_
    refine c_end ?_
    refine n_then ?_
    refine wp_ret (r_then ?_)
    refine f_rets2 rfl (ro_cell rfl ag25F3 B4 rfl) (ro_tmp rfl) ?_
    exact ⟨pk_no (fun h => absurd h.1 h7), L⟩

theorem sk_no {s : ByteArray} {c : Ca} {n : Int} (h : ¬ okN s c n) : Ending.returned (.tuple [.agg [.string s, .int .i64 (c).pos, .int .i64 (c).word, .int .i64 (c).hv].toArray, .bool false].toArray) = .returned (.tuple [.agg [.string s, .int .i64 (skC s c n).pos, .int .i64 (skC s c n).word, .int .i64 (skC s c n).hv].toArray, .bool (decide (skOk s c n))].toArray) := by
  have h1 : ¬ skOk s c n := fun h2 => h h2.1
  simp only [skC, if_neg h1, if_neg h, decide_eq_false h1]
theorem sk_few {s : ByteArray} {c d : Ca} {n : Int} (h : okN s c n) (hd : d = readyOf s c n) (hn : d.hv < n) : Ending.returned (.tuple [.agg [.string s, .int .i64 (d).pos, .int .i64 (d).word, .int .i64 (d).hv].toArray, .bool false].toArray) = .returned (.tuple [.agg [.string s, .int .i64 (skC s c n).pos, .int .i64 (skC s c n).word, .int .i64 (skC s c n).hv].toArray, .bool (decide (skOk s c n))].toArray) := by
  have h1 : ¬ skOk s c n := fun h2 => absurd h2.2 (by rw [← hd]; omega)
  simp only [skC, if_neg h1, if_pos h, decide_eq_false h1, hd]
theorem sk_yes {s : ByteArray} {c d : Ca} {n : Int} (h : okN s c n) (hd : d = readyOf s c n) (hn : ¬ d.hv < n) : Ending.returned (.tuple [.agg [.string s, .int .i64 d.pos, .int .i64 (d.word % 2 ^ (d.hv - n).toNat), .int .i64 (d.hv - n)].toArray, .bool true].toArray) = .returned (.tuple [.agg [.string s, .int .i64 (skC s c n).pos, .int .i64 (skC s c n).word, .int .i64 (skC s c n).hv].toArray, .bool (decide (skOk s c n))].toArray) := by
  have h1 : skOk s c n := ⟨h, by rw [← hd]; omega⟩
  simp only [skC, if_pos h1, decide_eq_true h1, hd]

/-- spec.Skip -/
theorem s_skip (s : ByteArray) (c : Ca) (n : Int) (w : World) (hs : s.size ≤ 1048576) :
    Calls Try.prog 98 [.agg [.string s, .int .i64 (c).pos, .int .i64 (c).word, .int .i64 (c).hv].toArray, .int .i64 n].toArray w (Ret w (.tuple [.agg [.string s, .int .i64 (skC s c n).pos, .int .i64 (skC s c n).word, .int .i64 (skC s c n).hv].toArray, .bool (decide (skOk s c n))].toArray)) := by
  have L : Exm [] w w := Exm.rfl'
  refine enter (n := 40) Try.func98 rfl rfl rfl ?_
  refine wp_seq ?_
  refine c_reg ?_
  refine s_box rfl rfl ?_
  intro b1 w2 lob1 hib1 l3 B1
  have z_l3 := l3.size
  have L := L.tr l3.up
  refine s_alloc zr25F3 ?_
  intro b4 w5 lob4 hib4 l6 B4
  have z_l6 := l6.size
  have L := L.tr l6.up
  have B1 := B1.ext l6
  refine s0 (x_assign (v := .bool _) rfl) ?_
  refine c_end ?_
  refine n_then ?_
  refine wp_seq ?_
  refine wp_seq ?_
  refine c_reg ?_
  refine st (x_loadAgB ag25F3 rfl B1 rfl) ?_
  refine srb (zcall cl17F3 rfl) (s_cacheOk _ _ _ _ _ (by omega)) (fun h7 w7 l8 => ?_) (fun h7 w7 l8 => ?_)
  · have z_l8 := l8.size
    have L := L.tr l8.up
    have B1 := B1.ext l8
    have B4 := B4.ext l8
    refine s0 (x_not rfl) ?_
    refine s0 (x_move (v := .bool _) rfl) ?_
    refine gt rfl rfl rfl rfl ?_
    refine s0 (x_move (v := .int _ _) rfl) ?_
    refine gt rfl rfl rfl rfl ?_
    refine srb (zcall cl95F3 rfl) (s_l1In _ _ _ _) (fun h11 w9 l10 => ?_) (fun h11 w9 l10 => ?_)
    · have z_l10 := l10.size
      have L := L.tr l10.up
      have B1 := B1.ext l10
      have B4 := B4.ext l10
      refine gt rfl rfl rfl rfl ?_
      refine s0 (x_not rfl) ?_
      refine s0 (x_pickf (v := .bool _) rfl rfl) ?_
      refine c_end ?_
      refine n_then ?_
      refine c_false rfl ?_
      refine c_skipn ?_
      refine n_then ?_
      refine wp_seq ?_
      refine wp_seq ?_
      refine c_reg ?_
      refine s0 (x_fieldAddr fa25_3F3 rfl) ?_
      refine st (x_loadB sc3F3 rfl B1 rfl) ?_
      refine s0 (x_move (v := .int _ _) rfl) ?_
      refine sb (x_lss rfl rfl) (fun h18 => ?_) (fun h18 => ?_)
      · refine c_end ?_
        refine n_then ?_
        refine c_true rfl ?_
        refine c_reg ?_
        refine st (x_loadAgB ag25F3 rfl B1 rfl) ?_
        refine sr (zcall cl84F3 rfl) (s_refill _ c _ (by omega)) ?_
        intro w11 l12
        have z_l12 := l12.size
        have L := L.tr l12.up
        have B1 := B1.ext l12
        have B4 := B4.ext l12
        refine s_storeAg rfl sz25F3 rfl rfl B1 rfl rfl rfl ?_
        intro w13 l14 el14 B1
        have z_l14 := l14.size
        have L := L.fresh l14 (by omega)
        have B4 := B4.ne l14 (by omega)
        refine c_end ?_
        refine n_then ?_
        refine wp_seq ?_
        refine wp_seq ?_
        obtain ⟨d, hd⟩ : ∃ d, d = readyOf s c n := ⟨_, rfl⟩
        have hd0 : caOk s d := hd ▸ ready_ok h7
        have hd3 := ca_word56 hd0
        obtain ⟨he1, he2, he3, he4, he5, he6⟩ := id hd0
        have hrd : readyOf s c n = refillOf s c := by unfold readyOf refillOf; rw [if_pos h18, if_pos h7]
        rw [← hrd, ← hd] at B1
        refine c_reg ?_
        refine s0 (x_fieldAddr fa25_3F3 rfl) ?_
        refine st (x_loadB sc3F3 rfl B1 rfl) ?_
        refine s0 (x_move (v := .int _ _) rfl) ?_
        refine sb (x_lss rfl rfl) (fun h24 => ?_) (fun h24 => ?_)
        · refine c_end ?_
          refine n_then ?_
          refine c_true rfl ?_
          refine wp_seq ?_
          refine c_reg ?_
          refine st (x_loadAgB ag25F3 rfl B1 rfl) ?_
          refine s_storeAg rfl sz25F3 rfl rfl B4 rfl rfl rfl ?_
          intro w15 l16 el16 B4
          have z_l16 := l16.size
          have L := L.fresh l16 (by omega)
          have B1 := B1.ne l16 (by omega)
          refine s0 (x_assign (v := .bool _) rfl) ?_
          refine c_end ?_
          refine n_then ?_
          refine wp_ret (r_then ?_)
          refine f_rets2 rfl (ro_cell rfl ag25F3 B4 rfl) (ro_tmp rfl) ?_
          exact ⟨sk_few ⟨h7, h11⟩ hd h24, L⟩
        · refine c_end ?_
          refine n_then ?_
          refine c_false rfl ?_
          refine c_skipn ?_
          refine n_then ?_
          refine wp_seq ?_
          refine c_reg ?_
          refine s0 (x_fieldAddr fa25_3F3 rfl) ?_
          refine st (x_loadB sc3F3 rfl B1 rfl) ?_
          refine s0 (x_move (v := .int _ _) rfl) ?_
          refine s0 (x_sub rfl rfl (by omega)) ?_
          refine s0 (x_fieldAddr fa25_3F3 rfl) ?_
          refine s_store (v := .int _ _) (cs' := [_, _, _, _]) rfl sz3F3 rfl rfl rfl rfl B1 rfl rfl ?_
          intro w17 l18 el18 B1
          have z_l18 := l18.size
          have L := L.fresh l18 (by omega)
          have B4 := B4.ne l18 (by omega)
          refine c_end ?_
          refine n_then ?_
          refine wp_seq ?_
          have hpw := two_pow_le (n := (d.hv - n).toNat) (m := 56) (by omega)
          have hpw2 := two_pow_pos (d.hv - n).toNat
          refine c_plan (fun wq => Exm [] w17 wq) 8 (.cons (0, 2) (.cons (1, 1) (.cons (2, 2) (.cons (3, 1) (.cons (4, 2) (.cons (5, 2) (.cons (6, 2) (.cons (7, 2) (.cons (8, 0) .nil))))))))) (by kernel_rfl) (by kernel_rfl) (Exm.drew _) ?_
          obtain ⟨w19, hwd⟩ : ∃ x, x = w17.drew := ⟨_, rfl⟩
          have l20 : Ext w17 w19 := by rw [hwd]; exact Exm.drew _
          rw [← hwd]; clear hwd
          have Lq : Exm [] w17 w19 := l20.up
          have qB1 := B1
          have qB4 := B4
          have qL := L
          have z_l20 := l20.size
          have L := L.tr l20.up
          have B1 := B1.ext l20
          have B4 := B4.ext l20
          refine p0 rfl (x_fieldAddr fa25_2F3 rfl) ?_
          refine ps rfl (fun wq hwq => x_loadB sc3F3 rfl (qB1.ext hwq) rfl) ?_
          refine p0 rfl (x_fieldAddr fa25_3F3 rfl) ?_
          refine ps rfl (fun wq hwq => x_loadB sc3F3 rfl (qB1.ext hwq) rfl) ?_
          refine p0 rfl (x_shl rfl rfl (by omega) (by omega)) ?_
          refine p0 rfl (x_sub rfl rfl (by omega)) ?_
          refine p0 rfl (x_andm (d.hv - n).toNat rfl rfl (by omega) (by omega) (by omega) (by omega)) ?_
          refine p0 rfl (x_fieldAddr fa25_2F3 rfl) ?_
          refine pu rfl ?_ (by rintro ⟨_, _, h, _⟩; cases h)
          refine s_store (v := .int _ _) (cs' := [_, _, _, _]) rfl sz3F3 rfl rfl rfl rfl B1 rfl rfl ?_
          intro w21 l22 el22 B1
          have z_l22 := l22.size
          have L := L.fresh l22 (by omega)
          have B4 := B4.ne l22 (by omega)
          refine c_end ⟨rfl, fun h hS => absurd h (by decide), ?_⟩
          refine p_nil (np_normal ?_)
          refine n_then ?_
          refine wp_seq ?_
          refine c_reg ?_
          refine st (x_loadAgB ag25F3 rfl B1 rfl) ?_
          refine s_storeAg rfl sz25F3 rfl rfl B4 rfl rfl rfl ?_
          intro w23 l24 el24 B4
          have z_l24 := l24.size
          have L := L.fresh l24 (by omega)
          have B1 := B1.ne l24 (by omega)
          refine s0 (x_assign (v := .bool _) rfl) ?_
          refine c_end ?_
          refine n_then ?_
          refine wp_ret ?_
          refine f_rets2 rfl (ro_cell rfl ag25F3 B4 rfl) (ro_tmp rfl) ?_
          exact ⟨sk_yes ⟨h7, h11⟩ hd h24, L⟩
      · refine c_end ?_
        refine n_then ?_
        refine c_false rfl ?_
        refine c_skipn ?_
        refine n_then ?_
        refine wp_seq ?_
        refine wp_seq ?_
        obtain ⟨d, hd⟩ : ∃ d, d = readyOf s c n := ⟨_, rfl⟩
        have hd0 : caOk s d := hd ▸ ready_ok h7
        have hd3 := ca_word56 hd0
        obtain ⟨he1, he2, he3, he4, he5, he6⟩ := id hd0
        have hrd : readyOf s c n = c := by unfold readyOf; rw [if_neg h18]
        rw [← hrd, ← hd] at B1
        refine c_reg ?_
        refine s0 (x_fieldAddr fa25_3F3 rfl) ?_
        refine st (x_loadB sc3F3 rfl B1 rfl) ?_
        refine s0 (x_move (v := .int _ _) rfl) ?_
        refine sb (x_lss rfl rfl) (fun h24 => ?_) (fun h24 => ?_)
        · refine c_end ?_
          refine n_then ?_
          refine c_true rfl ?_
          refine wp_seq ?_
          refine c_reg ?_
          refine st (x_loadAgB ag25F3 rfl B1 rfl) ?_
          refine s_storeAg rfl sz25F3 rfl rfl B4 rfl rfl rfl ?_
          intro w25 l26 el26 B4
          have z_l26 := l26.size
          have L := L.fresh l26 (by omega)
          have B1 := B1.ne l26 (by omega)
          refine s0 (x_assign (v := .bool _) rfl) ?_
          refine c_end ?_
          refine n_then ?_
          refine wp_ret (r_then ?_)
          refine f_rets2 rfl (ro_cell rfl ag25F3 B4 rfl) (ro_tmp rfl) ?_
          exact ⟨sk_few ⟨h7, h11⟩ hd h24, L⟩
        · refine c_end ?_
          refine n_then ?_
          refine c_false rfl ?_
          refine c_skipn ?_
          refine n_then ?_
          refine wp_seq ?_
          refine c_reg ?_
          refine s0 (x_fieldAddr fa25_3F3 rfl) ?_
          refine st (x_loadB sc3F3 rfl B1 rfl) ?_
          refine s0 (x_move (v := .int _ _) rfl) ?_
          refine s0 (x_sub rfl rfl (by omega)) ?_
          refine s0 (x_fieldAddr fa25_3F3 rfl) ?_
          refine s_store (v := .int _ _) (cs' := [_, _, _, _]) rfl sz3F3 rfl rfl rfl rfl B1 rfl rfl ?_
          intro w27 l28 el28 B1
          have z_l28 := l28.size
          have L := L.fresh l28 (by omega)
          have B4 := B4.ne l28 (by omega)
          refine c_end ?_
          refine n_then ?_
          refine wp_seq ?_
          have hpw := two_pow_le (n := (d.hv - n).toNat) (m := 56) (by omega)
          have hpw2 := two_pow_pos (d.hv - n).toNat
          refine c_plan (fun wq => Exm [] w27 wq) 8 (.cons (0, 2) (.cons (1, 1) (.cons (2, 2) (.cons (3, 1) (.cons (4, 2) (.cons (5, 2) (.cons (6, 2) (.cons (7, 2) (.cons (8, 0) .nil))))))))) (by kernel_rfl) (by kernel_rfl) (Exm.drew _) ?_
          obtain ⟨w29, hwd⟩ : ∃ x, x = w27.drew := ⟨_, rfl⟩
          have l30 : Ext w27 w29 := by rw [hwd]; exact Exm.drew _
          rw [← hwd]; clear hwd
          have Lq : Exm [] w27 w29 := l30.up
          have qB1 := B1
          have qB4 := B4
          have qL := L
          have z_l30 := l30.size
          have L := L.tr l30.up
          have B1 := B1.ext l30
          have B4 := B4.ext l30
          refine p0 rfl (x_fieldAddr fa25_2F3 rfl) ?_
          refine ps rfl (fun wq hwq => x_loadB sc3F3 rfl (qB1.ext hwq) rfl) ?_
          refine p0 rfl (x_fieldAddr fa25_3F3 rfl) ?_
          refine ps rfl (fun wq hwq => x_loadB sc3F3 rfl (qB1.ext hwq) rfl) ?_
          refine p0 rfl (x_shl rfl rfl (by omega) (by omega)) ?_
          refine p0 rfl (x_sub rfl rfl (by omega)) ?_
          refine p0 rfl (x_andm (d.hv - n).toNat rfl rfl (by omega) (by omega) (by omega) (by omega)) ?_
          refine p0 rfl (x_fieldAddr fa25_2F3 rfl) ?_
          refine pu rfl ?_ (by rintro ⟨_, _, h, _⟩; cases h)
          refine s_store (v := .int _ _) (cs' := [_, _, _, _]) rfl sz3F3 rfl rfl rfl rfl B1 rfl rfl ?_
          intro w31 l32 el32 B1
          have z_l32 := l32.size
          have L := L.fresh l32 (by omega)
          have B4 := B4.ne l32 (by omega)
          refine c_end ⟨rfl, fun h hS => absurd h (by decide), ?_⟩
          refine p_nil (np_normal ?_)
          refine n_then ?_
          refine wp_seq ?_
          refine c_reg ?_
          refine st (x_loadAgB ag25F3 rfl B1 rfl) ?_
          refine s_storeAg rfl sz25F3 rfl rfl B4 rfl rfl rfl ?_
          intro w33 l34 el34 B4
          have z_l34 := l34.size
          have L := L.fresh l34 (by omega)
          have B1 := B1.ne l34 (by omega)
          refine s0 (x_assign (v := .bool _) rfl) ?_
          refine c_end ?_
          refine n_then ?_
          refine wp_ret ?_
          refine f_rets2 rfl (ro_cell rfl ag25F3 B4 rfl) (ro_tmp rfl) ?_
          exact ⟨sk_yes ⟨h7, h11⟩ hd h24, L⟩
    · have z_l10 := l10.size
      have L := L.tr l10.up
      have B1 := B1.ext l10
      have B4 := B4.ext l10
      refine gt rfl rfl rfl rfl ?_
      refine s0 (x_not rfl) ?_
      refine s0 (x_pickf (v := .bool _) rfl rfl) ?_
      refine c_end ?_
      refine n_then ?_
      refine c_true rfl ?_
      refine wp_seq ?_
      refine c_reg ?_
      refine st (x_loadAgB ag25F3 rfl B1 rfl) ?_
      refine s_storeAg rfl sz25F3 rfl rfl B4 rfl rfl rfl ?_
      intro w35 l36 el36 B4
      have z_l36 := l36.size
      have L := L.fresh l36 (by omega)
      have B1 := B1.ne l36 (by omega)
      refine s0 (x_assign (v := .bool _) rfl) ?_
      refine c_end ?_
      refine n_then ?_
      refine wp_ret (r_then ?_)
      refine f_rets2 rfl (ro_cell rfl ag25F3 B4 rfl) (ro_tmp rfl) ?_
      exact ⟨sk_no (fun h => absurd h.2 h11), L⟩
  · have z_l8 := l8.size
    have L := L.tr l8.up
    have B1 := B1.ext l8
    have B4 := B4.ext l8
    refine s0 (x_not rfl) ?_
    refine s0 (x_move (v := .bool _) rfl) ?_
    refine gf rfl rfl rfl rfl ?_
    refine gf rfl rfl rfl rfl ?_
    refine gf rfl rfl rfl rfl ?_
    refine s0 (x_pickt (v := .bool _) rfl rfl) ?_
    refine c_end ?_
    refine n_then ?_
    refine c_true rfl ?_
    refine wp_seq ?_
    refine c_reg ?_
    refine st (x_loadAgB ag25F3 rfl B1 rfl) ?_
    refine s_storeAg rfl sz25F3 rfl rfl B4 rfl rfl rfl ?_
    intro w37 l38 el38 B4
    have z_l38 := l38.size
    have L := L.fresh l38 (by omega)
    have B1 := B1.ne l38 (by omega)
    refine s0 (x_assign (v := .bool _) rfl) ?_
    refine c_end ?_
    refine n_then ?_
    refine wp_ret (r_then ?_)
    refine f_rets2 rfl (ro_cell rfl ag25F3 B4 rfl) (ro_tmp rfl) ?_
    exact ⟨sk_no (fun h => absurd h.1 h7), L⟩

end Go.Proofs.Ytnehdmcilmlchaa
