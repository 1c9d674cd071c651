/- What each function of this part returns, for every argument that meets its premises. -/
import Derived.Test.YtfmmkacopgecpaaFA
namespace Go.Proofs.Ytfmmkacopgecpaa
open Go.Sx Go.Pl Go.RowKit
theorem ag41 : Ag Try.prog 41 4 := ⟨⟨_, Try.underlying41⟩, by kernel_rfl⟩
theorem cl18 : Callable Try.prog 18 := callable Try.func18 (by kernel_rfl) rfl
theorem cl21 : Callable Try.prog 21 := callable Try.func21 (by kernel_rfl) rfl
theorem cl22 : Callable Try.prog 22 := callable Try.func22 (by kernel_rfl) rfl
theorem cl23 : Callable Try.prog 23 := callable Try.func23 (by kernel_rfl) rfl
theorem cl24 : Callable Try.prog 24 := callable Try.func24 (by kernel_rfl) rfl
theorem cl25 : Callable Try.prog 25 := callable Try.func25 (by kernel_rfl) rfl
theorem cl26 : Callable Try.prog 26 := callable Try.func26 (by kernel_rfl) rfl
theorem cl28 : Callable Try.prog 28 := callable Try.func28 (by kernel_rfl) rfl
theorem cl30 : Callable Try.prog 30 := callable Try.func30 (by kernel_rfl) rfl
theorem cl31 : Callable Try.prog 31 := callable Try.func31 (by kernel_rfl) rfl
theorem cl32 : Callable Try.prog 32 := callable Try.func32 (by kernel_rfl) rfl
theorem cl33 : Callable Try.prog 33 := callable Try.func33 (by kernel_rfl) rfl
theorem cl34 : Callable Try.prog 34 := callable Try.func34 (by kernel_rfl) rfl
theorem cl35 : Callable Try.prog 35 := callable Try.func35 (by kernel_rfl) rfl
theorem cl36 : Callable Try.prog 36 := callable Try.func36 (by kernel_rfl) rfl
theorem cl37 : Callable Try.prog 37 := callable Try.func37 (by kernel_rfl) rfl
/-- laws.FnExactTakeBits -/
theorem l_fnTakeBits (s : ByteArray) (c : Ca) (n : Int) (w : World) (hs : s.size ≤ 9223372036854775807) :
    Calls Try.prog 5 [.agg [.string s, .int .i64 (c).pos, .int .i64 (c).word, .int .i64 (c).hv].toArray, .int .i64 n].toArray w (Ret w (.bool true)) := by
  have L : Exm [] w w := Exm.rfl'
  refine enter (n := 47) Try.func5 rfl rfl rfl ?_
  refine wp_seq ?_
  refine c_reg ?_
  refine s_box rfl rfl ?_
  intro b1 w2 lob1 hib1 l3 B1
  have z_l3 := l3.size
  have L := L.tr l3.up
  refine s0 (x_assign (v := .bool _) rfl) ?_
  refine c_end ?_
  refine n_then ?_
  refine wp_seq ?_
  refine c_reg ?_
  refine s0 (x_assign (v := .int _ _) rfl) ?_
  refine c_end ?_
  refine n_then ?_
  refine wp_seq ?_
  refine c_reg ?_
  refine st (x_loadAgB ag41 rfl B1 rfl) ?_
  refine s0 (x_move (v := .int _ _) rfl) ?_
  refine sr (zcall cl30 rfl) (l_szCache _ _ _ _ _ _ (by omega) (by omega)) ?_
  intro w4 l5
  have z_l5 := l5.size
  have L := L.tr l5.up
  have B1 := B1.ext l5
  refine s0 (x_assign (v := .int _ _) rfl) ?_
  refine c_end ?_
  refine n_then ?_
  refine wp_seq ?_
  refine wp_seq ?_
  refine c_reg ?_
  refine s0 (x_move (v := .int _ _) rfl) ?_
  refine sb (x_lss rfl rfl) (fun h16 => ?_) (fun h16 => ?_)
  · refine c_end ?_
    refine n_then ?_
    refine c_true rfl ?_
    refine wp_seq ?_
    refine c_reg ?_
    refine s0 (x_assign (v := .bool _) rfl) ?_
    refine c_end ?_
    refine n_then ?_
    refine wp_ret (r_then ?_)
    refine f_ret rfl rfl ?_
    exact ⟨rfl, L⟩
  · refine c_end ?_
    refine n_then ?_
    refine c_false rfl ?_
    refine c_skipn ?_
    refine n_then ?_
    refine wp_seq ?_
    have hs1 : s.size ≤ 1048576 := by unfold szOf at h16; split at h16 <;> omega
    refine c_reg ?_
    refine st (x_loadAgB ag41 rfl B1 rfl) ?_
    refine sr (zcall cl32 rfl) (l_toCache _ _ _ _ _) ?_
    intro w6 l7
    have z_l7 := l7.size
    have L := L.tr l7.up
    have B1 := B1.ext l7
    refine s0 (x_move (v := .int _ _) rfl) ?_
    refine sr (zcall cl31 rfl) (s_takeBits _ c _ _ (by omega)) ?_
    intro w8 l9
    have z_l9 := l9.size
    have L := L.tr l9.up
    have B1 := B1.ext l9
    refine s0 (x_move (v := .tuple _) rfl) ?_
    refine s0 (x_extract rfl rfl) ?_
    refine s0 (x_extract rfl rfl) ?_
    refine s0 (x_extract rfl rfl) ?_
    refine s_alloc zr31 ?_
    intro b10 w11 lob10 hib10 l12 B10
    have z_l12 := l12.size
    have L := L.tr l12.up
    have B1 := B1.ext l12
    refine s_storeAg rfl sz31 rfl rfl B10 rfl rfl rfl ?_
    intro w13 l14 el14 B10
    have z_l14 := l14.size
    have L := L.fresh l14 (by omega)
    have B1 := B1.ne l14 (by omega)
    refine s0 (x_assign (v := .int _ _) rfl) ?_
    refine s0 (x_assign (v := .bool _) rfl) ?_
    refine c_end ?_
    refine n_then ?_
    refine wp_seq ?_
    refine c_reg ?_
    refine st (x_loadAgB ag41 rfl B1 rfl) ?_
    refine sr (zcall cl32 rfl) (l_toCache _ _ _ _ _) ?_
    intro w15 l16
    have z_l16 := l16.size
    have L := L.tr l16.up
    have B1 := B1.ext l16
    have B10 := B10.ext l16
    refine s0 (x_move (v := .int _ _) rfl) ?_
    refine sr (zcall cl26 rfl) (i_takeBits _ c _ _ (by omega)) ?_
    intro w17 l18
    have z_l18 := l18.size
    have L := L.tr l18.up
    have B1 := B1.ext l18
    have B10 := B10.ext l18
    refine s0 (x_move (v := .tuple _) rfl) ?_
    refine s0 (x_extract rfl rfl) ?_
    refine s0 (x_extract rfl rfl) ?_
    refine s0 (x_extract rfl rfl) ?_
    refine s_alloc zr31 ?_
    intro b19 w20 lob19 hib19 l21 B19
    have z_l21 := l21.size
    have L := L.tr l21.up
    have B1 := B1.ext l21
    have B10 := B10.ext l21
    refine s_storeAg rfl sz31 rfl rfl B19 rfl rfl rfl ?_
    intro w22 l23 el23 B19
    have z_l23 := l23.size
    have L := L.fresh l23 (by omega)
    have B1 := B1.ne l23 (by omega)
    have B10 := B10.ne l23 (by omega)
    refine s0 (x_assign (v := .int _ _) rfl) ?_
    refine s0 (x_assign (v := .bool _) rfl) ?_
    refine c_end ?_
    refine n_then ?_
    refine wp_seq ?_
    refine wp_seq ?_
    refine c_reg ?_
    refine st (x_loadAgB ag31 rfl B19 rfl) ?_
    refine st (x_loadAgB ag31 rfl B10 rfl) ?_
    refine srb (zcall cl33 rfl) (l_eqCache _ _ _ _ _) (fun h35 w24 l25 => ?_) (fun h35 w24 l25 => ?_)
    · have z_l25 := l25.size
      have L := L.tr l25.up
      have B1 := B1.ext l25
      have B10 := B10.ext l25
      have B19 := B19.ext l25
      refine s0 (x_not rfl) ?_
      refine s0 (x_move (v := .bool _) rfl) ?_
      refine gt rfl rfl rfl rfl ?_
      refine s0 (x_move (v := .int _ _) rfl) ?_
      refine gt rfl rfl rfl rfl ?_
      refine s0 (x_move (v := .int _ _) rfl) ?_
      refine gt rfl rfl rfl rfl ?_
      refine sb (x_neq rfl rfl) (fun h40 => ?_) (fun h40 => ?_)
      · exact absurd rfl h40
      · refine s0 (x_pickf (v := .bool _) rfl rfl) ?_
        refine s0 (x_move (v := .bool _) rfl) ?_
        refine gt rfl rfl rfl rfl ?_
        refine s0 (x_move (v := .bool _) rfl) ?_
        refine gt rfl rfl rfl rfl ?_
        refine s0 (x_move (v := .bool _) rfl) ?_
        refine gt rfl rfl rfl rfl ?_
        refine sb (x_neqb un4 rfl rfl) (fun h45 => ?_) (fun h45 => ?_)
        · exact absurd rfl h45
        · refine s0 (x_pickf (v := .bool _) rfl rfl) ?_
          refine c_end ?_
          refine n_then ?_
          refine c_false rfl ?_
          refine c_skipn ?_
          refine n_then ?_
          refine wp_seq ?_
          refine c_reg ?_
          refine s0 (x_assign (v := .bool _) rfl) ?_
          refine c_end ?_
          refine n_then ?_
          refine wp_ret ?_
          refine f_ret rfl rfl ?_
          exact ⟨rfl, L⟩
    · exact (h35 (by simp)).elim

theorem walk_eq {s : ByteArray} {c : Ca} {k : Nat} {n : Int} (h : tkOk s c n) (hn : 1 ≤ n ∧ n ≤ 16) (hp : 8 * c.pos - c.hv = (k : Int)) (hl : (k : Int) + n ≤ 8 * s.size) : bitsIn (tkV s c n) n = ((bitsS s).drop (k : Int).toNat).take (((k : Int) + n).toNat - (k : Int).toNat) := by
  have e : ((k : Int) + n).toNat - (k : Int).toNat = n.toNat := by omega
  have hv := (tk_yes h).2.2
  have hr := bitsOf_range s (8 * c.pos - c.hv) n.toNat
  rw [e, Int.toNat_natCast, bitsS_cut (by omega), ← bitsl_bitsOf _ (by omega) (by omega), hv, hp]
  rw [hp] at hr
  unfold bitsIn
  rw [if_pos ⟨by omega, hr.1, Int.ediv_eq_zero_of_lt hr.1 hr.2⟩]

/-- laws.FnWalk -/
theorem l_fnWalk (p : Option Addr) (xs : List Int) (c : Nat) (B : Nat) (w : World) (hp : Sl w p xs.length c 1 (bc xs)) (hr : ∀ x ∈ xs, 0 ≤ x ∧ x ≤ 255) (hpB : Bl p xs.length B) (hB : B ≤ w.heap.size) :
    Calls Try.prog 4 [.slice p xs.length c].toArray w (Ret w (.bool true)) := by
  have L : Exm [] w w := Exm.rfl'
  refine enter (n := 81) Try.func4 rfl rfl rfl ?_
  refine wp_seq ?_
  refine c_reg ?_
  refine s0 (x_assign (v := .bool _) rfl) ?_
  refine c_end ?_
  refine n_then ?_
  refine wp_seq ?_
  refine wp_seq ?_
  refine c_reg ?_
  refine s0 (x_move (v := .slice _ _ _) rfl) ?_
  refine srb (zcall cl21 rfl) (l_big _ _ _ _) (fun h13 w1 l2 => ?_) (fun h13 w1 l2 => ?_)
  · have z_l2 := l2.size
    have L := L.tr l2.up
    refine c_end ?_
    refine n_then ?_
    refine c_true rfl ?_
    refine wp_seq ?_
    refine c_reg ?_
    refine s0 (x_assign (v := .bool _) rfl) ?_
    refine c_end ?_
    refine n_then ?_
    refine wp_ret (r_then ?_)
    refine f_ret rfl rfl ?_
    exact ⟨rfl, L⟩
  · have z_l2 := l2.size
    have L := L.tr l2.up
    refine c_end ?_
    refine n_then ?_
    refine c_false rfl ?_
    refine c_skipn ?_
    refine n_then ?_
    refine wp_seq ?_
    have hl : xs.length ≤ 1048576 := by omega
    refine c_reg ?_
    refine s0 (x_move (v := .slice _ _ _) rfl) ?_
    refine sp (zcall cl22 rfl) (s_drawCacheNew _ _ _ _ _ (hp.ext L) hr hpB (by omega) (by omega)) ?_
    rintro v15 w3 l4 ⟨s15, rfl, hx15⟩
    have z_l4 := l4.size
    have L := L.tr l4.up
    refine s0 (x_assign (v := .string _) rfl) ?_
    refine c_end ?_
    refine n_then ?_
    refine wp_seq ?_
    refine c_reg ?_
    refine s0 (x_move (v := .string _) rfl) ?_
    refine sr (zcall cl23 rfl) (i_cacheNew _ _) ?_
    intro w5 l6
    have z_l6 := l6.size
    have L := L.tr l6.up
    refine s_alloc zr31 ?_
    intro b7 w8 lob7 hib7 l9 B7
    have z_l9 := l9.size
    have L := L.tr l9.up
    refine s_storeAg rfl sz31 rfl rfl B7 rfl rfl rfl ?_
    intro w10 l11 el11 B7
    have z_l11 := l11.size
    have L := L.fresh l11 (by omega)
    refine c_end ?_
    refine n_then ?_
    refine wp_seq ?_
    refine c_reg ?_
    refine s0 (x_move (v := .string _) rfl) ?_
    refine sp (zcall cl24 rfl) (s_bitsOf _ _ (by omega)) ?_
    rintro v19 w12 l13 ⟨p19, c19, F19, rfl, o19, f19⟩
    have z_l13 := l13.size
    have L := L.tr l13.up
    have B7 := B7.ext l13
    have g19 := o19.lt
    refine s0 (x_assign (v := .slice _ _ _) rfl) ?_
    refine c_end ?_
    refine n_then ?_
    refine wp_seq ?_
    refine c_reg ?_
    refine s0 (x_assign (v := .int _ _) rfl) ?_
    refine c_end ?_
    refine n_then ?_
    refine wp_seq ?_
    refine wp_seq ?_
    refine c_reg ?_
    refine s0 (x_assign (v := .int _ _) rfl) ?_
    refine c_end ?_
    refine n_then ?_
    refine wp_block ?_
    refine c_loop (γ := Ca × Nat × Nat) (fun g => 8 * s15.size + 2 - g.2.2) (fun (g : Ca × Nat × Nat) E wl => ∃ E0, E = upd (upd (upd (upd (upd (upd E0 0 (.slice p xs.length c)) 3 (.string s15)) 4 (pt b7 0)) 5 (.slice p19 (bitsS s15).length c19)) 6 (.int .i64 (g.2.1 : Int))) 7 (.int .i64 (g.2.2 : Int)) ∧ (Exm [] w wl) ∧ (w12.heap.size ≤ wl.heap.size) ∧ (Bx wl b7 [.string s15, .int .i64 (g.1).pos, .int .i64 (g.1).word, .int .i64 (g.1).hv] 31) ∧ (Own wl p19 (bitsS s15).length c19 3 1 (ic (bitsS s15)) F19) ∧ (caOk s15 g.1) ∧ (8 * g.1.pos - g.1.hv = (g.2.1 : Int)) ∧ (g.2.2 ≤ 8 * s15.size + 2)) (Ca.mk 0 0 0, 0, 0) ⟨_, upd_self6 rfl rfl rfl rfl rfl rfl, L, (by omega), B7, o19, (new_ok s15), (by rfl), (Nat.zero_le _)⟩ ?_
    rintro g E wl14 ⟨E0, rfl, L, Lz, B7, o19, hg, hpl, hi⟩
    have Lz0 := L.size
    have hbl := bitsS_length s15
    have hpi := place_in hg
    refine wp_seq ?_
    refine wp_seq ?_
    refine c_reg ?_
    refine s0 (x_move (v := .int _ _) rfl) ?_
    refine s0 (x_move (v := .string _) rfl) ?_
    refine s0 (x_len un9 rfl) ?_
    refine s0 (x_mul rfl rfl (by omega)) ?_
    refine s0 (x_add rfl rfl (by omega)) ?_
    refine sb (x_lss rfl rfl) (fun h25 => ?_) (fun h25 => ?_)
    · refine c_end ?_
      refine n_then ?_
      refine c_true rfl ?_
      refine c_skipn ?_
      refine n_then ?_
      refine wp_seq ?_
      refine wp_block ?_
      refine wp_seq ?_
      refine c_reg ?_
      refine s0 (x_move (v := .slice _ _ _) rfl) ?_
      refine s0 (x_move (v := .int _ _) rfl) ?_
      refine sp (zcall cl25 rfl) (l_at _ _ _ _ _ (hp.ext L) hr (by omega) (by omega)) ?_
      rintro v30 w15 l16 ⟨x30, rfl, hx30⟩
      have z_l16 := l16.size
      have L := L.tr l16.up
      have B7 := B7.ext l16
      have o19 := o19.ext l16
      refine s0 (x_rem rfl rfl (by omega) (by omega)) ?_
      refine s0 (x_add rfl rfl (by omega)) ?_
      refine s0 (x_assign (v := .int _ _) rfl) ?_
      refine c_end ?_
      refine n_then ?_
      refine wp_seq ?_
      have hk : okN s15 g.1 (1 + x30 % 16) := ⟨hg, by omega, by omega⟩
      have htk := tk_iff hk
      rw [hpl] at htk
      refine c_reg ?_
      refine st (x_loadAgB ag31 rfl B7 rfl) ?_
      refine s0 (x_move (v := .int _ _) rfl) ?_
      refine sr (zcall cl26 rfl) (i_takeBits _ g.1 _ _ (by omega)) ?_
      intro w17 l18
      have z_l18 := l18.size
      have L := L.tr l18.up
      have B7 := B7.ext l18
      have o19 := o19.ext l18
      refine s0 (x_move (v := .tuple _) rfl) ?_
      refine s0 (x_extract rfl rfl) ?_
      refine s0 (x_extract rfl rfl) ?_
      refine sb (x_extract rfl rfl) (fun h39 => ?_) (fun h39 => ?_)
      · refine s_alloc zr31 ?_
        intro b19 w20 lob19 hib19 l21 B19
        have z_l21 := l21.size
        have L := L.tr l21.up
        have B7 := B7.ext l21
        have o19 := o19.ext l21
        refine s_storeAg rfl sz31 rfl rfl B19 rfl rfl rfl ?_
        intro w22 l23 el23 B19
        have z_l23 := l23.size
        have L := L.fresh l23 (by omega)
        have B7 := B7.ne l23 (by omega)
        have o19 := o19.ne l23 (by first | assumption | exact nin_of f19 g19 (by omega))
        refine s0 (x_assign (v := .int _ _) rfl) ?_
        refine s0 (x_assign (v := .bool _) rfl) ?_
        refine c_end ?_
        refine n_then ?_
        refine wp_seq ?_
        refine wp_seq ?_
        refine c_reg ?_
        refine s0 (x_move (v := .bool _) rfl) ?_
        refine s0 (x_not rfl) ?_
        refine c_end ?_
        refine n_then ?_
        refine c_false rfl ?_
        refine c_skipn ?_
        refine n_then ?_
        refine wp_seq ?_
        refine wp_seq ?_
        have hbl2 := (bitsIn_len (tkV s15 g.1 (1 + x30 % 16)) (1 + x30 % 16)).1
        have htr := (htk.1 h39).2.2
        rw [remOf_in (by omega)] at htr
        have htv := (tk_yes h39).2.2
        have hbr := bitsOf_62 s15 (8 * g.1.pos - g.1.hv) (1 + x30 % 16).toNat (by omega)
        refine c_plan (fun wq => Exm [] w22 wq) 19 [(0, 2), (1, 2), (2, 2), (3, 2), (4, 2), (5, 2), (6, 2), (7, 2), (8, 2), (10, 2), (11, 2), (12, 2), (13, 2), (14, 2), (15, 2), (9, 0), (16, 0), (17, 2), (18, 2)] (by kernel_rfl) (by kernel_rfl) (Exm.drew _) ?_
        obtain ⟨w24, hwd⟩ : ∃ x, x = w22.drew := ⟨_, rfl⟩
        have l25 : Ext w22 w24 := by rw [hwd]; exact Exm.drew _
        rw [← hwd]; clear hwd
        have Lq : Exm [] w22 w24 := l25.up
        have qB7 := B7
        have qB19 := B19
        have qo19 := o19
        have qL := L
        have z_l25 := l25.size
        have L := L.tr l25.up
        have B7 := B7.ext l25
        have B19 := B19.ext l25
        have o19 := o19.ext l25
        refine p0 rfl (x_move (v := .int _ _) rfl) ?_
        refine p0 rfl (x_move (v := .int _ _) rfl) ?_
        refine p0 rfl (x_add rfl rfl (by omega)) ?_
        refine p0 rfl (x_move (v := .slice _ _ _) rfl) ?_
        refine p0 rfl (x_lensl un33 rfl) ?_
        refine pb rfl (x_gtr rfl rfl) (fun h59 => ?_) (fun h59 => ?_)
        · omega
        · refine p0 rfl (x_move (v := .bool _) rfl) ?_
          refine p0g rfl rfl rfl rfl rfl (x_move (v := .int _ _) rfl) ?_
          refine p0g rfl rfl rfl rfl rfl (x_move (v := .int _ _) rfl) ?_
          refine p0g rfl rfl rfl rfl rfl (x_move (v := .slice _ _ _) rfl) ?_
          refine p0g rfl rfl rfl rfl rfl (x_move (v := .int _ _) rfl) ?_
          refine p0g rfl rfl rfl rfl rfl (x_move (v := .int _ _) rfl) ?_
          refine p0g rfl rfl rfl rfl rfl (x_move (v := .int _ _) rfl) ?_
          refine p0g rfl rfl rfl rfl rfl (x_add rfl rfl (by omega)) ?_
          refine p0g rfl rfl rfl rfl rfl (x_cutr so33 o19.sl.r (by omega) rfl rfl rfl (by omega) (by omega) (by omega)) ?_
          refine pu rfl ?_ (by rintro ⟨_, _, h, _⟩; cases h)
          refine gt rfl rfl rfl rfl ?_
          refine sp (zcall cl29 rfl) (i_bitsIn _ _ _ (by omega) (by omega)) ?_
          rintro v63 w26 l27 ⟨p63, c63, F63, rfl, o63, f63⟩
          have z_l27 := l27.size
          have L := L.tr l27.up
          have Lq := Lq.tr l27.up
          have B7 := B7.ext l27
          have B19 := B19.ext l27
          have o19 := o19.ext l27
          have g63 := o63.lt
          refine c_end ⟨rfl, fun h => Lq, ?_⟩
          refine pu rfl ?_ (by rintro ⟨_, _, h, _⟩; cases h)
          refine gt rfl rfl rfl rfl ?_
          refine srb (zcall cl28 rfl) (l_sameInts _ _ _ _ _ _ _ o63.sl (o19.sl.cuti (by omega) (by omega)) (by omega)) (fun h70 w28 l29 => ?_) (fun h70 w28 l29 => ?_)
          · have z_l29 := l29.size
            have L := L.tr l29.up
            have Lq := Lq.tr l29.up
            have B7 := B7.ext l29
            have B19 := B19.ext l29
            have o19 := o19.ext l29
            have o63 := o63.ext l29
            refine c_end ⟨rfl, fun h => Lq, ?_⟩
            refine p0g rfl rfl rfl rfl rfl (x_not rfl) ?_
            refine p0 rfl (x_pickf (v := .bool _) rfl rfl) ?_
            refine p_nil (np_normal ?_)
            refine n_then ?_
            refine c_false rfl ?_
            refine c_skipn ?_
            refine n_then ?_
            refine wp_seq ?_
            refine c_reg ?_
            refine s0 (x_move (v := .int _ _) rfl) ?_
            refine s0 (x_move (v := .int _ _) rfl) ?_
            refine s0 (x_add rfl rfl (by omega)) ?_
            refine s0 (x_assign (v := .int _ _) rfl) ?_
            refine c_end ?_
            refine n_then ?_
            refine c_reg ?_
            refine st (x_loadAgB ag31 rfl B19 rfl) ?_
            refine s_storeAg rfl sz31 rfl rfl B7 rfl rfl rfl ?_
            intro w30 l31 el31 B7
            have z_l31 := l31.size
            have L := L.fresh l31 (by omega)
            have B19 := B19.ne l31 (by omega)
            have o19 := o19.ne l31 (by first | assumption | exact nin_of f19 g19 (by omega))
            have o63 := o63.ne l31 (by first | assumption | exact nin_of f63 g63 (by omega))
            refine c_end ?_
            refine n_block ?_
            refine n_then ?_
            refine c_reg ?_
            refine s0 (x_move (v := .int _ _) rfl) ?_
            refine s0 (x_add rfl rfl (by omega)) ?_
            refine s0 (x_assign (v := .int _ _) rfl) ?_
            refine c_end ?_
            exact c_round (g' := (tkC s15 g.1 (1 + x30 % 16), g.2.1 + (1 + x30 % 16).toNat, g.2.2 + 1)) (by show 8 * s15.size + 2 - (g.2.2 + 1) < 8 * s15.size + 2 - g.2.2; omega) ⟨_, upd_self6 rfl rfl rfl rfl (vint (by show _ = ((g.2.1 + (1 + x30 % 16).toNat : Nat) : Int); omega)) (vint (by show _ = ((g.2.2 + 1 : Nat) : Int); omega)), L, (by omega), B7, o19, (tk_keep hk), (by show 8 * (tkC s15 g.1 _).pos - (tkC s15 g.1 _).hv = ((g.2.1 + (1 + x30 % 16).toNat : Nat) : Int); rw [(tk_yes h39).2.1]; omega), (by show g.2.2 + 1 ≤ _; omega)⟩
          · exact (h70 (walk_eq h39 (by omega) hpl (by omega))).elim
      · refine s_alloc zr31 ?_
        intro b32 w33 lob32 hib32 l34 B32
        have z_l34 := l34.size
        have L := L.tr l34.up
        have B7 := B7.ext l34
        have o19 := o19.ext l34
        refine s_storeAg rfl sz31 rfl rfl B32 rfl rfl rfl ?_
        intro w35 l36 el36 B32
        have z_l36 := l36.size
        have L := L.fresh l36 (by omega)
        have B7 := B7.ne l36 (by omega)
        have o19 := o19.ne l36 (by first | assumption | exact nin_of f19 g19 (by omega))
        refine s0 (x_assign (v := .int _ _) rfl) ?_
        refine s0 (x_assign (v := .bool _) rfl) ?_
        refine c_end ?_
        refine n_then ?_
        refine wp_seq ?_
        refine wp_seq ?_
        refine c_reg ?_
        refine s0 (x_move (v := .bool _) rfl) ?_
        refine s0 (x_not rfl) ?_
        refine c_end ?_
        refine n_then ?_
        refine c_true rfl ?_
        refine wp_seq ?_
        refine c_reg ?_
        refine s0 (x_move (v := .int _ _) rfl) ?_
        refine s0 (x_move (v := .int _ _) rfl) ?_
        refine s0 (x_add rfl rfl (by omega)) ?_
        refine s0 (x_move (v := .slice _ _ _) rfl) ?_
        refine s0 (x_lensl un33 rfl) ?_
        refine sb (x_gtr rfl rfl) (fun h47 => ?_) (fun h47 => ?_)
        · refine s0 (x_move (v := .bool _) rfl) ?_
          refine gt rfl rfl rfl rfl ?_
          refine st (x_loadAgB ag31 rfl B32 rfl) ?_
          refine gt rfl rfl rfl rfl ?_
          refine sr (zcall cl27 rfl) (i_place _ _ _ (by omega)) ?_
          intro w37 l38
          have z_l38 := l38.size
          have L := L.tr l38.up
          have B7 := B7.ext l38
          have B32 := B32.ext l38
          have o19 := o19.ext l38
          refine gt rfl rfl rfl rfl ?_
          refine s0 (x_move (v := .int _ _) rfl) ?_
          refine gt rfl rfl rfl rfl ?_
          refine s0 (x_eql rfl rfl) ?_
          refine s0 (x_pickt (v := .bool _) rfl rfl) ?_
          refine s0 (x_assign (v := .bool _) rfl) ?_
          refine c_end ?_
          refine n_then ?_
          refine wp_ret (r_then (r_block (r_then (r_then (r_block (r_then ?_))))))
          refine f_ret rfl rfl ?_
          exact ⟨ret_bt (by unfold tkC; rw [if_neg h39, (peek_keep hk).2, place_of hg]; exact hpl), L⟩
        · exact (h39 (htk.2 ⟨by omega, by omega, by rw [remOf_in (by omega)]; omega⟩)).elim
    · refine c_end ?_
      refine n_then ?_
      refine c_false rfl ?_
      refine wp_exit (e_then (e_then (e_here ?_)))
      refine n_then ?_
      refine wp_seq ?_
      refine c_reg ?_
      refine s0 (x_move (v := .int _ _) rfl) ?_
      refine s0 (x_move (v := .slice _ _ _) rfl) ?_
      refine s0 (x_lensl un33 rfl) ?_
      refine s0 (x_leq rfl rfl) ?_
      refine s0 (x_assign (v := .bool _) rfl) ?_
      refine c_end ?_
      refine n_then ?_
      refine wp_ret ?_
      refine f_ret rfl rfl ?_
      exact ⟨ret_bt (by omega), L⟩

/-- laws.FnExactTableOk -/
theorem l_fnTableOk (p : Option Addr) (xs : List (Int × Int)) (c : Nat) (w : World) (hp : Sl w p xs.length c 2 (xs.flatMap erow)) (hl : xs.length ≤ 9223372036854775807) :
    Calls Try.prog 6 [.slice p xs.length c].toArray w (Ret w (.bool true)) := by
  have L : Exm [] w w := Exm.rfl'
  refine enter (n := 27) Try.func6 rfl rfl rfl ?_
  refine wp_seq ?_
  refine c_reg ?_
  refine s0 (x_assign (v := .bool _) rfl) ?_
  refine c_end ?_
  refine n_then ?_
  refine wp_seq ?_
  refine c_reg ?_
  refine s0 (x_assign (v := .int _ _) rfl) ?_
  refine c_end ?_
  refine n_then ?_
  refine wp_seq ?_
  refine c_reg ?_
  refine s0 (x_move (v := .slice _ _ _) rfl) ?_
  refine s0 (x_move (v := .int _ _) rfl) ?_
  refine sr (zcall cl34 rfl) (l_szEntryS _ _ _ _ _ (by omega) (by omega)) ?_
  intro w1 l2
  have z_l2 := l2.size
  have L := L.tr l2.up
  refine s0 (x_assign (v := .int _ _) rfl) ?_
  refine c_end ?_
  refine n_then ?_
  refine wp_seq ?_
  refine wp_seq ?_
  refine c_reg ?_
  refine s0 (x_move (v := .int _ _) rfl) ?_
  refine sb (x_lss rfl rfl) (fun h11 => ?_) (fun h11 => ?_)
  · refine c_end ?_
    refine n_then ?_
    refine c_true rfl ?_
    refine wp_seq ?_
    refine c_reg ?_
    refine s0 (x_assign (v := .bool _) rfl) ?_
    refine c_end ?_
    refine n_then ?_
    refine wp_ret (r_then ?_)
    refine f_ret rfl rfl ?_
    exact ⟨rfl, L⟩
  · refine c_end ?_
    refine n_then ?_
    refine c_false rfl ?_
    refine c_skipn ?_
    refine n_then ?_
    refine wp_seq ?_
    have hs1 := sz_in h11
    have hs2 : xs.length ≤ 1048576 := by omega
    refine c_reg ?_
    refine s0 (x_move (v := .slice _ _ _) rfl) ?_
    refine sp (zcall cl36 rfl) (l_toEntryS _ _ _ _ (hp.ext L) (by omega)) ?_
    rintro v13 w3 l4 ⟨p13, c13, F13, rfl, o13, f13⟩
    have z_l4 := l4.size
    have L := L.tr l4.up
    have g13 := o13.lt
    refine sr (zcall cl35 rfl) (s_tableOk _ _ _ _ o13.sl (by omega)) ?_
    intro w5 l6
    have z_l6 := l6.size
    have L := L.tr l6.up
    have o13 := o13.ext l6
    refine s0 (x_assign (v := .bool _) rfl) ?_
    refine c_end ?_
    refine n_then ?_
    refine wp_seq ?_
    refine c_reg ?_
    refine s0 (x_move (v := .slice _ _ _) rfl) ?_
    refine sp (zcall cl36 rfl) (l_toEntryS _ _ _ _ (hp.ext L) (by omega)) ?_
    rintro v16 w7 l8 ⟨p16, c16, F16, rfl, o16, f16⟩
    have z_l8 := l8.size
    have L := L.tr l8.up
    have o13 := o13.ext l8
    have g16 := o16.lt
    refine s0 (x_assign (v := .slice _ _ _) rfl) ?_
    refine c_end ?_
    refine n_then ?_
    refine wp_seq ?_
    refine c_reg ?_
    refine s0 (x_move (v := .slice _ _ _) rfl) ?_
    refine sr (zcall cl37 rfl) (i_tableOk _ _ _ _ o16.sl (by omega)) ?_
    intro w9 l10
    have z_l10 := l10.size
    have L := L.tr l10.up
    have o13 := o13.ext l10
    have o16 := o16.ext l10
    refine s0 (x_assign (v := .bool _) rfl) ?_
    refine c_end ?_
    refine n_then ?_
    refine wp_seq ?_
    refine wp_seq ?_
    refine c_reg ?_
    refine s0 (x_move (v := .bool _) rfl) ?_
    refine s0 (x_move (v := .bool _) rfl) ?_
    refine sb (x_neqb un4 rfl rfl) (fun h21 => ?_) (fun h21 => ?_)
    · exact absurd rfl h21
    · refine c_end ?_
      refine n_then ?_
      refine c_false rfl ?_
      refine c_skipn ?_
      refine n_then ?_
      refine wp_seq ?_
      refine wp_seq ?_
      refine c_reg ?_
      refine s0 (x_move (v := .slice _ _ _) rfl) ?_
      refine s0 (x_move (v := .slice _ _ _) rfl) ?_
      refine sp (zcall cl36 rfl) (l_toEntryS _ _ _ _ (hp.ext L) (by omega)) ?_
      rintro v24 w11 l12 ⟨p24, c24, F24, rfl, o24, f24⟩
      have z_l12 := l12.size
      have L := L.tr l12.up
      have o13 := o13.ext l12
      have o16 := o16.ext l12
      have g24 := o24.lt
      refine srb (zcall cl18 rfl) (l_eqEntryS _ _ _ _ _ _ _ o16.sl o24.sl (by omega)) (fun h25 w13 l14 => ?_) (fun h25 w13 l14 => ?_)
      · have z_l14 := l14.size
        have L := L.tr l14.up
        have o13 := o13.ext l14
        have o16 := o16.ext l14
        have o24 := o24.ext l14
        refine s0 (x_not rfl) ?_
        refine c_end ?_
        refine n_then ?_
        refine c_false rfl ?_
        refine c_skipn ?_
        refine n_then ?_
        refine wp_seq ?_
        refine c_reg ?_
        refine s0 (x_assign (v := .bool _) rfl) ?_
        refine c_end ?_
        refine n_then ?_
        refine wp_ret ?_
        refine f_ret rfl rfl ?_
        exact ⟨rfl, L⟩
      · exact absurd rfl h25

end Go.Proofs.Ytfmmkacopgecpaa
