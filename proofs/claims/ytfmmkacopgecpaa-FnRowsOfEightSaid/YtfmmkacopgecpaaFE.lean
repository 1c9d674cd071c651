/- What each function of this part returns, for every argument that meets its premises. -/
import Derived.Test.YtfmmkacopgecpaaFD
import Derived.Test.YtfmmkacopgecpaaPlB
import Derived.Test.YtfmmkacopgecpaaPlC
namespace Go.Proofs.Ytfmmkacopgecpaa
open Go.Sx Go.Pl Go.RowKit
theorem cl116 : Callable Try.prog 116 := callable Try.func116 (by kernel_rfl) rfl
theorem cl118 : Callable Try.prog 118 := callable Try.func118 (by kernel_rfl) rfl
theorem fs_no {s : ByteArray} {c : Ca} {t : List (Int × Int)} {e : Int} (h : fsE s c t = e) (he : e ≠ 0) : Ending.returned (.tuple [.agg [.string s, .int .i64 (c).pos, .int .i64 (c).word, .int .i64 (c).hv].toArray, .int .i64 0, .int .i64 e].toArray) = .returned (.tuple [.agg [.string s, .int .i64 (fsC s c t).pos, .int .i64 (fsC s c t).word, .int .i64 (fsC s c t).hv].toArray, .int .i64 (fsV s c t), .int .i64 (fsE s c t)].toArray) := by
  subst h; simp only [fsC, fsV, if_neg he]
theorem fs_yes {s : ByteArray} {c : Ca} {t : List (Int × Int)} {a v : Int} (h : fsE s c t = 0) (ha : a = 8 * c.pos - c.hv + (t.getD (fsIx s c) default).1) (hv : v = (t.getD (fsIx s c) default).2) : Ending.returned (.tuple [.agg [.string s, .int .i64 (settledAt s a).pos, .int .i64 (settledAt s a).word, .int .i64 (settledAt s a).hv].toArray, .int .i64 v, .int .i64 0].toArray) = .returned (.tuple [.agg [.string s, .int .i64 (fsC s c t).pos, .int .i64 (fsC s c t).word, .int .i64 (fsC s c t).hv].toArray, .int .i64 (fsV s c t), .int .i64 (fsE s c t)].toArray) := by
  subst ha hv; simp only [fsC, fsV, h, if_pos]
theorem fsIx_lt (s : ByteArray) (c : Ca) : fsIx s c < 128 := by have := bits7 s (8 * c.pos - c.hv); unfold fsIx; omega

/-- impl.FastSym -/
theorem i_fastSym (s : ByteArray) (ca : Ca) (p : Option Addr) (t : List (Int × Int)) (c : Nat) (w : World) (hs : s.size ≤ 1048576) (hp : Sl w p t.length c 2 (t.flatMap erow)) (hl : t.length ≤ 1099511627776) :
    Calls Try.prog 66 [.agg [.string s, .int .i64 (ca).pos, .int .i64 (ca).word, .int .i64 (ca).hv].toArray, .slice p t.length c].toArray w (Ret w (.tuple [.agg [.string s, .int .i64 (fsC s ca t).pos, .int .i64 (fsC s ca t).word, .int .i64 (fsC s ca t).hv].toArray, .int .i64 (fsV s ca t), .int .i64 (fsE s ca t)].toArray)) := by
  have L : Exm [] w w := Exm.rfl'
  refine enter (n := 52) Try.func66 rfl rfl rfl ?_
  refine wp_seq ?_
  refine c_reg ?_
  refine s_box rfl rfl ?_
  intro b1 w2 lob1 hib1 l3 B1
  have z_l3 := l3.size
  have L := L.tr l3.up
  refine s_alloc zr31 ?_
  intro b4 w5 lob4 hib4 l6 B4
  have z_l6 := l6.size
  have L := L.tr l6.up
  have B1 := B1.ext l6
  refine s0 (x_assign (v := .int _ _) rfl) ?_
  refine s0 (x_assign (v := .int _ _) rfl) ?_
  refine c_end ?_
  refine n_then ?_
  refine wp_seq ?_
  refine wp_seq ?_
  refine c_reg ?_
  refine st (x_loadAgB ag31 rfl B1 rfl) ?_
  refine srb (zcall cl94 rfl) (i_cacheOk _ _ _ _ _ (by omega)) (fun h10 w7 l8 => ?_) (fun h10 w7 l8 => ?_)
  · have z_l8 := l8.size
    have L := L.tr l8.up
    have B1 := B1.ext l8
    have B4 := B4.ext l8
    refine s0 (x_not rfl) ?_
    refine c_end ?_
    refine n_then ?_
    refine c_false rfl ?_
    refine c_skipn ?_
    refine n_then ?_
    refine wp_seq ?_
    have hpl := place_of h10
    have hin := place_in h10
    rw [← hpl] at hin
    refine c_reg ?_
    refine st (x_loadAgB ag31 rfl B1 rfl) ?_
    refine sr (zcall cl27 rfl) (i_place _ _ _ (by omega)) ?_
    intro w9 l10
    have z_l10 := l10.size
    have L := L.tr l10.up
    have B1 := B1.ext l10
    have B4 := B4.ext l10
    refine s0 (x_assign (v := .int _ _) rfl) ?_
    refine c_end ?_
    refine n_then ?_
    refine wp_seq ?_
    refine wp_seq ?_
    refine c_reg ?_
    refine s0 (x_move (v := .slice _ _ _) rfl) ?_
    refine s0 (x_lensl un22 rfl) ?_
    refine sb (x_neq rfl rfl) (fun h17 => ?_) (fun h17 => ?_)
    · refine c_end ?_
      refine n_then ?_
      refine c_true rfl ?_
      refine wp_seq ?_
      refine c_reg ?_
      refine st (x_loadAgB ag31 rfl B1 rfl) ?_
      refine s_storeAg rfl sz31 rfl rfl B4 rfl rfl rfl ?_
      intro w11 l12 el12 B4
      have z_l12 := l12.size
      have L := L.fresh l12 (by omega)
      have B1 := B1.ne l12 (by omega)
      refine s0 (x_assign (v := .int _ _) rfl) ?_
      refine s0 (x_assign (v := .int _ _) rfl) ?_
      refine c_end ?_
      refine n_then ?_
      refine wp_ret (r_then ?_)
      refine f_rets3 rfl (ro_cell rfl ag31 B4 rfl) (ro_tmp rfl) (ro_tmp rfl) ?_
      exact ⟨fs_no (fsE_code h10 (.inl (by omega))) (by decide), L⟩
    · refine c_end ?_
      refine n_then ?_
      refine c_false rfl ?_
      refine c_skipn ?_
      refine n_then ?_
      refine wp_seq ?_
      have h7 : 0 ≤ bitsOf s (placeOf s ca) (7 : Int).toNat ∧ bitsOf s (placeOf s ca) (7 : Int).toNat < 128 := bits7 s (placeOf s ca)
      have ht : t.length = 128 := by omega
      refine c_reg ?_
      refine s0 (x_move (v := .slice _ _ _) rfl) ?_
      refine s0 (x_fieldAddr fa31_0 rfl) ?_
      refine st (x_loadB sc9 rfl B1 rfl) ?_
      refine s0 (x_move (v := .int _ _) rfl) ?_
      refine sr (zcall cl117 rfl) (i_bits _ _ _ _ (by omega) (by omega) (by omega)) ?_
      intro w13 l14
      have z_l14 := l14.size
      have L := L.tr l14.up
      have B1 := B1.ext l14
      have B4 := B4.ext l14
      refine s0 (x_idx so22 rfl rfl hp (by decide) (by omega) (by omega)) ?_
      refine st (x_ldr erow_len ag79 rfl (hp.ext L) (by omega) (by omega)) ?_
      refine s_alloc zr79 ?_
      intro b15 w16 lob15 hib15 l17 B15
      have z_l17 := l17.size
      have L := L.tr l17.up
      have B1 := B1.ext l17
      have B4 := B4.ext l17
      refine s_storeAg rfl sz79 rfl rfl B15 rfl rfl rfl ?_
      intro w18 l19 el19 B15
      have z_l19 := l19.size
      have L := L.fresh l19 (by omega)
      have B1 := B1.ne l19 (by omega)
      have B4 := B4.ne l19 (by omega)
      refine c_end ?_
      refine n_then ?_
      refine wp_seq ?_
      refine wp_block ?_
      refine wp_seq ?_
      refine c_reg ?_
      refine s0 (x_fieldAddr fa79_0 rfl) ?_
      refine st (x_loadB sc3 rfl B15 rfl) ?_
      refine srb (zcall cl95 rfl) (i_within _ _ _ _) (fun h29 w20 l21 => ?_) (fun h29 w20 l21 => ?_)
      · have z_l21 := l21.size
        have L := L.tr l21.up
        have B1 := B1.ext l21
        have B4 := B4.ext l21
        have B15 := B15.ext l21
        refine s0 (x_not rfl) ?_
        refine s0 (x_assign (v := .bool _) rfl) ?_
        refine c_end ?_
        refine n_then ?_
        refine c_false rfl ?_
        refine wp_seq ?_
        have htn : t.length = 128 := by omega
        refine c_reg ?_
        refine s0 (x_move (v := .int _ _) rfl) ?_
        refine s0 (x_fieldAddr fa79_0 rfl) ?_
        refine st (x_loadB sc3 rfl B15 rfl) ?_
        refine s0 (x_add rfl rfl (by omega)) ?_
        refine s0 (x_fieldAddr fa31_0 rfl) ?_
        refine st (x_loadB sc9 rfl B1 rfl) ?_
        refine s0 (x_len un9 rfl) ?_
        refine s0 (x_mul rfl rfl (by omega)) ?_
        refine sb (x_gtr rfl rfl) (fun h41 => ?_) (fun h41 => ?_)
        · refine s0 (x_assign (v := .bool _) rfl) ?_
          refine c_end ?_
          refine n_then ?_
          refine c_true rfl ?_
          refine wp_seq ?_
          refine c_reg ?_
          refine st (x_loadAgB ag31 rfl B1 rfl) ?_
          refine s_storeAg rfl sz31 rfl rfl B4 rfl rfl rfl ?_
          intro w22 l23 el23 B4
          have z_l23 := l23.size
          have L := L.fresh l23 (by omega)
          have B1 := B1.ne l23 (by omega)
          have B15 := B15.ne l23 (by omega)
          refine s0 (x_assign (v := .int _ _) rfl) ?_
          refine s0 (x_assign (v := .int _ _) rfl) ?_
          refine c_end ?_
          refine n_then ?_
          refine wp_ret (r_block (r_then ?_))
          refine f_rets3 rfl (ro_cell rfl ag31 B4 rfl) (ro_tmp rfl) (ro_tmp rfl) ?_
          rw [hpl] at h29 h41
          exact ⟨fs_no (fsE_short h10 ht h29 h41) (by decide), L⟩
        · refine s0 (x_assign (v := .bool _) rfl) ?_
          refine c_end ?_
          refine n_then ?_
          refine c_false rfl ?_
          refine c_skipn ?_
          refine n_block ?_
          refine n_then ?_
          refine wp_seq ?_
          refine c_plan (fun wq => Exm [b4] w20 wq) 12 (.cons (0, 2) (.cons (1, 1) (.cons (2, 2) (.cons (3, 2) (.cons (4, 1) (.cons (5, 2) (.cons (7, 2) (.cons (8, 1) (.cons (6, 0) (.cons (9, 0) (.cons (10, 2) (.cons (11, 2) .nil)))))))))))) (by kernel_rfl) (by kernel_rfl) (Exm.drew _) ?_
          obtain ⟨w24, hwd⟩ : ∃ x, x = w20.drew := ⟨_, rfl⟩
          have l25 : Ext w20 w24 := by rw [hwd]; exact Exm.drew _
          rw [← hwd]; clear hwd
          have Lq : Exm [b4] w20 w24 := l25.up
          have qB1 := B1
          have qB4 := B4
          have qB15 := B15
          have qL := L
          have z_l25 := l25.size
          have L := L.tr l25.up
          have B1 := B1.ext l25
          have B4 := B4.ext l25
          have B15 := B15.ext l25
          refine p0 rfl (x_fieldAddr fa31_0 rfl) ?_
          refine ps rfl (fun wq hwq => x_loadB sc9 rfl (qB1.ne hwq (by omega)) rfl) ?_
          refine p0 rfl (x_move (v := .int _ _) rfl) ?_
          refine p0 rfl (x_fieldAddr fa79_0 rfl) ?_
          refine ps rfl (fun wq hwq => x_loadB sc3 rfl (qB15.ne hwq (by omega)) rfl) ?_
          refine p0 rfl (x_add rfl rfl (by omega)) ?_
          refine p0 rfl (x_fieldAddr fa79_1 rfl) ?_
          refine ps rfl (fun wq hwq => x_loadB sc3 rfl (qB15.ne hwq (by omega)) rfl) ?_
          refine pu rfl ?_ (by rintro ⟨_, _, h, _⟩; cases h)
          refine sr (zcall cl118 rfl) (i_settledAt _ _ _ (by omega) (by omega)) ?_
          intro w26 l27
          have z_l27 := l27.size
          have L := L.tr l27.up
          have Lq := Lq.tr l27.up
          have B1 := B1.ext l27
          have B4 := B4.ext l27
          have B15 := B15.ext l27
          refine c_end ⟨rfl, fun h hS => Lq, ?_⟩
          refine pu rfl ?_ (by rintro ⟨_, _, h, _⟩; cases h)
          refine s_storeAg rfl sz31 rfl rfl B4 rfl rfl rfl ?_
          intro w28 l29 el29 B4
          have z_l29 := l29.size
          have L := L.fresh l29 (by omega)
          have Lq := Lq.within l29 (by simp)
          have B1 := B1.ne l29 (by omega)
          have B15 := B15.ne l29 (by omega)
          refine c_end ⟨rfl, fun h hS => Lq, ?_⟩
          refine p0 rfl (x_assign (v := .int _ _) rfl) ?_
          refine p0 rfl (x_assign (v := .int _ _) rfl) ?_
          refine p_nil (np_normal ?_)
          refine n_then ?_
          refine wp_ret ?_
          refine f_rets3 rfl (ro_cell rfl ag31 B4 rfl) (ro_tmp rfl) (ro_tmp rfl) ?_
          rw [hpl] at h29 h41
          exact ⟨fs_yes (fsE_yes h10 ht h29 h41) (by rw [hpl]; rfl) (by rw [hpl]; rfl), L⟩
      · have z_l21 := l21.size
        have L := L.tr l21.up
        have B1 := B1.ext l21
        have B4 := B4.ext l21
        have B15 := B15.ext l21
        refine s0 (x_not rfl) ?_
        refine s0 (x_assign (v := .bool _) rfl) ?_
        refine c_end ?_
        refine n_then ?_
        refine c_true rfl ?_
        refine wp_seq ?_
        refine c_reg ?_
        refine st (x_loadAgB ag31 rfl B1 rfl) ?_
        refine s_storeAg rfl sz31 rfl rfl B4 rfl rfl rfl ?_
        intro w30 l31 el31 B4
        have z_l31 := l31.size
        have L := L.fresh l31 (by omega)
        have B1 := B1.ne l31 (by omega)
        have B15 := B15.ne l31 (by omega)
        refine s0 (x_assign (v := .int _ _) rfl) ?_
        refine s0 (x_assign (v := .int _ _) rfl) ?_
        refine c_end ?_
        refine n_then ?_
        refine wp_ret (r_block (r_then ?_))
        refine f_rets3 rfl (ro_cell rfl ag31 B4 rfl) (ro_tmp rfl) (ro_tmp rfl) ?_
        rw [hpl] at h29
        exact ⟨fs_no (fsE_code h10 (.inr h29)) (by decide), L⟩
  · have z_l8 := l8.size
    have L := L.tr l8.up
    have B1 := B1.ext l8
    have B4 := B4.ext l8
    refine s0 (x_not rfl) ?_
    refine c_end ?_
    refine n_then ?_
    refine c_true rfl ?_
    refine wp_seq ?_
    refine c_reg ?_
    refine st (x_loadAgB ag31 rfl B1 rfl) ?_
    refine s_storeAg rfl sz31 rfl rfl B4 rfl rfl rfl ?_
    intro w32 l33 el33 B4
    have z_l33 := l33.size
    have L := L.fresh l33 (by omega)
    have B1 := B1.ne l33 (by omega)
    refine s0 (x_assign (v := .int _ _) rfl) ?_
    refine s0 (x_assign (v := .int _ _) rfl) ?_
    refine c_end ?_
    refine n_then ?_
    refine wp_ret (r_then ?_)
    refine f_rets3 rfl (ro_cell rfl ag31 B4 rfl) (ro_tmp rfl) (ro_tmp rfl) ?_
    exact ⟨fs_no (fsE_bad h10) (by decide), L⟩

/-- spec.FastSym -/
theorem s_fastSym (s : ByteArray) (ca : Ca) (p : Option Addr) (t : List (Int × Int)) (c : Nat) (w : World) (hs : s.size ≤ 1048576) (hp : Sl w p t.length c 2 (t.flatMap erow)) (hl : t.length ≤ 1099511627776) :
    Calls Try.prog 65 [.agg [.string s, .int .i64 (ca).pos, .int .i64 (ca).word, .int .i64 (ca).hv].toArray, .slice p t.length c].toArray w (Ret w (.tuple [.agg [.string s, .int .i64 (fsC s ca t).pos, .int .i64 (fsC s ca t).word, .int .i64 (fsC s ca t).hv].toArray, .int .i64 (fsV s ca t), .int .i64 (fsE s ca t)].toArray)) := by
  have L : Exm [] w w := Exm.rfl'
  refine enter (n := 53) Try.func65 rfl rfl rfl ?_
  refine wp_seq ?_
  refine c_reg ?_
  refine s_box rfl rfl ?_
  intro b1 w2 lob1 hib1 l3 B1
  have z_l3 := l3.size
  have L := L.tr l3.up
  refine s_alloc zr31 ?_
  intro b4 w5 lob4 hib4 l6 B4
  have z_l6 := l6.size
  have L := L.tr l6.up
  have B1 := B1.ext l6
  refine s0 (x_assign (v := .int _ _) rfl) ?_
  refine s0 (x_assign (v := .int _ _) rfl) ?_
  refine c_end ?_
  refine n_then ?_
  refine wp_seq ?_
  refine wp_seq ?_
  refine c_reg ?_
  refine st (x_loadAgB ag31 rfl B1 rfl) ?_
  refine srb (zcall cl115 rfl) (s_cacheOk _ _ _ _ _ (by omega)) (fun h12 w7 l8 => ?_) (fun h12 w7 l8 => ?_)
  · have z_l8 := l8.size
    have L := L.tr l8.up
    have B1 := B1.ext l8
    have B4 := B4.ext l8
    refine s0 (x_not rfl) ?_
    refine c_end ?_
    refine n_then ?_
    refine c_false rfl ?_
    refine c_skipn ?_
    refine n_then ?_
    refine wp_seq ?_
    refine c_reg ?_
    refine st (x_loadAgB ag31 rfl B1 rfl) ?_
    refine sr (zcall cl96 rfl) (s_peek _ ca _ _ (by omega)) ?_
    intro w9 l10
    have z_l10 := l10.size
    have L := L.tr l10.up
    have B1 := B1.ext l10
    have B4 := B4.ext l10
    refine s0 (x_move (v := .tuple _) rfl) ?_
    refine s0 (x_extract rfl rfl) ?_
    refine s0 (x_extract rfl rfl) ?_
    refine s_alloc zr31 ?_
    intro b11 w12 lob11 hib11 l13 B11
    have z_l13 := l13.size
    have L := L.tr l13.up
    have B1 := B1.ext l13
    have B4 := B4.ext l13
    refine s_storeAg rfl sz31 rfl rfl B11 rfl rfl rfl ?_
    intro w14 l15 el15 B11
    have z_l15 := l15.size
    have L := L.fresh l15 (by omega)
    have B1 := B1.ne l15 (by omega)
    have B4 := B4.ne l15 (by omega)
    refine s0 (x_assign (v := .int _ _) rfl) ?_
    refine c_end ?_
    refine n_then ?_
    refine wp_seq ?_
    refine wp_seq ?_
    have hpk := fs_peek h12
    have hix : (peekV s ca 7).toNat = fsIx s ca := by omega
    refine c_reg ?_
    refine s0 (x_move (v := .slice _ _ _) rfl) ?_
    refine s0 (x_lensl un22 rfl) ?_
    refine sb (x_neq rfl rfl) (fun h22 => ?_) (fun h22 => ?_)
    · refine s0 (x_move (v := .bool _) rfl) ?_
      refine gf rfl rfl rfl rfl ?_
      refine gf rfl rfl rfl rfl ?_
      refine gf rfl rfl rfl rfl ?_
      refine gf rfl rfl rfl rfl ?_
      refine gf rfl rfl rfl rfl ?_
      refine gf rfl rfl rfl rfl ?_
      refine gf rfl rfl rfl rfl ?_
      refine s0 (x_pickt (v := .bool _) rfl rfl) ?_
      refine c_end ?_
      refine n_then ?_
      refine c_true rfl ?_
      refine wp_seq ?_
      refine c_reg ?_
      refine st (x_loadAgB ag31 rfl B1 rfl) ?_
      refine s_storeAg rfl sz31 rfl rfl B4 rfl rfl rfl ?_
      intro w16 l17 el17 B4
      have z_l17 := l17.size
      have L := L.fresh l17 (by omega)
      have B1 := B1.ne l17 (by omega)
      have B11 := B11.ne l17 (by omega)
      refine s0 (x_assign (v := .int _ _) rfl) ?_
      refine s0 (x_assign (v := .int _ _) rfl) ?_
      refine c_end ?_
      refine n_then ?_
      refine wp_ret (r_then ?_)
      refine f_rets3 rfl (ro_cell rfl ag31 B4 rfl) (ro_tmp rfl) (ro_tmp rfl) ?_
      exact ⟨fs_no (fsE_code h12 (.inl (by omega))) (by decide), L⟩
    · refine s0 (x_move (v := .bool _) rfl) ?_
      refine gt rfl rfl rfl rfl ?_
      refine s0 (x_move (v := .slice _ _ _) rfl) ?_
      refine gt rfl rfl rfl rfl ?_
      refine s0 (x_move (v := .int _ _) rfl) ?_
      refine gt rfl rfl rfl rfl ?_
      refine s0 (x_idx so22 rfl rfl hp (by decide) (by omega) (by omega)) ?_
      refine gt rfl rfl rfl rfl ?_
      refine s0 (x_fieldAddr fa79_0 rfl) ?_
      refine gt rfl rfl rfl rfl ?_
      refine st (x_ldf (u := .int _ _) erow_len sc3 rfl (hp.ext L) (by omega) (by omega) (by decide) rfl) ?_
      refine gt rfl rfl rfl rfl ?_
      refine srb (zcall cl114 rfl) (s_l1In _ _ _ _) (fun h29 w18 l19 => ?_) (fun h29 w18 l19 => ?_)
      · have z_l19 := l19.size
        have L := L.tr l19.up
        have B1 := B1.ext l19
        have B4 := B4.ext l19
        have B11 := B11.ext l19
        refine gt rfl rfl rfl rfl ?_
        refine s0 (x_not rfl) ?_
        refine s0 (x_pickf (v := .bool _) rfl rfl) ?_
        refine c_end ?_
        refine n_then ?_
        refine c_false rfl ?_
        refine c_skipn ?_
        refine n_then ?_
        refine wp_seq ?_
        have ht : t.length = 128 := by omega
        have hq := fs_skip h12 h29
        refine c_plan (fun wq => Exm [] w18 wq) 13 (.cons (0, 1) (.cons (1, 2) (.cons (2, 2) (.cons (3, 2) (.cons (4, 2) (.cons (5, 1) (.fork 6 10 (.cons (7, 2) (.cons (8, 2) (.cons (9, 2) (.cons (10, 0) (.cons (11, 0) (.cons (12, 2) .nil)))))) (.cons (6, 0) (.cons (7, 2) (.cons (8, 2) (.cons (9, 2) (.cons (11, 0) (.cons (12, 2) .nil))))))))))))) (by kernel_rfl) (by kernel_rfl) (Exm.drew _) ?_
        obtain ⟨w20, hwd⟩ : ∃ x, x = w18.drew := ⟨_, rfl⟩
        have l21 : Ext w18 w20 := by rw [hwd]; exact Exm.drew _
        rw [← hwd]; clear hwd
        have Lq : Exm [] w18 w20 := l21.up
        have qB1 := B1
        have qB4 := B4
        have qB11 := B11
        have qL := L
        have z_l21 := l21.size
        have L := L.tr l21.up
        have B1 := B1.ext l21
        have B4 := B4.ext l21
        have B11 := B11.ext l21
        refine ps rfl (fun wq hwq => x_loadAgB ag31 rfl (qB11.ext hwq) rfl) ?_
        refine p0 rfl (x_move (v := .slice _ _ _) rfl) ?_
        refine p0 rfl (x_move (v := .int _ _) rfl) ?_
        refine p0 rfl (x_idx so22 rfl rfl hp (by decide) (by omega) (by omega)) ?_
        refine p0 rfl (x_fieldAddr fa79_0 rfl) ?_
        refine ps rfl (fun wq hwq => x_ldf (u := .int _ _) erow_len sc3 rfl ((hp.ext qL).ext hwq) (by omega) (by omega) (by decide) rfl) ?_
        refine pfork ?_ ?_
        · refine pu rfl ?_ (by rintro ⟨_, _, h, _⟩; cases h)
          refine sr (zcall cl97 rfl) (s_skip _ (peekC s ca 7) _ _ (by omega)) ?_
          intro w22 l23
          have z_l23 := l23.size
          have L := L.tr l23.up
          have Lq := Lq.tr l23.up
          have B1 := B1.ext l23
          have B4 := B4.ext l23
          have B11 := B11.ext l23
          refine c_end ⟨rfl, fun h hS => Lq, ?_⟩
          refine p0 rfl (x_move (v := .tuple _) rfl) ?_
          refine p0 rfl (x_extract rfl rfl) ?_
          refine pb rfl (x_extract rfl rfl) (fun h42 => ?_) (fun h42 => ?_)
          · refine pu rfl ?_ (by rintro ⟨_, _, h, _⟩; cases h)
            refine s_alloc zr31 ?_
            intro b24 w25 lob24 hib24 l26 B24
            have z_l26 := l26.size
            have L := L.tr l26.up
            have Lq := Lq.tr l26.up
            have B1 := B1.ext l26
            have B4 := B4.ext l26
            have B11 := B11.ext l26
            refine c_end ⟨rfl, fun h hS => Lq, ?_⟩
            refine pu rfl ?_ (by rintro ⟨_, _, h, _⟩; cases h)
            refine s_storeAg rfl sz31 rfl rfl B24 rfl rfl rfl ?_
            intro w27 l28 el28 B24
            have z_l28 := l28.size
            have L := L.fresh l28 (by omega)
            have Lq := Lq.fresh l28 (by omega)
            have B1 := B1.ne l28 (by omega)
            have B4 := B4.ne l28 (by omega)
            have B11 := B11.ne l28 (by omega)
            refine c_end ⟨rfl, fun h hS => Lq, ?_⟩
            refine p0 rfl (x_assign (v := .bool _) rfl) ?_
            refine p_nil (np_normal ?_)
            refine n_then ?_
            refine wp_seq ?_
            refine wp_seq ?_
            refine c_reg ?_
            refine s0 (x_move (v := .bool _) rfl) ?_
            refine s0 (x_not rfl) ?_
            refine c_end ?_
            refine n_then ?_
            refine c_false rfl ?_
            refine c_skipn ?_
            refine n_then ?_
            refine wp_seq ?_
            have ht : t.length = 128 := by omega
            refine c_plan (fun wq => Exm [b4] w27 wq) 10 (.cons (0, 1) (.cons (2, 2) (.cons (3, 2) (.cons (4, 2) (.cons (5, 2) (.cons (6, 1) (.cons (1, 0) (.cons (7, 0) (.cons (8, 2) (.cons (9, 2) .nil)))))))))) (by kernel_rfl) (by kernel_rfl) (Exm.drew _) ?_
            obtain ⟨w29, hwd⟩ : ∃ x, x = w27.drew := ⟨_, rfl⟩
            have l30 : Ext w27 w29 := by rw [hwd]; exact Exm.drew _
            rw [← hwd]; clear hwd
            have Lq : Exm [b4] w27 w29 := l30.up
            have qB1 := B1
            have qB4 := B4
            have qB11 := B11
            have qB24 := B24
            have qL := L
            have z_l30 := l30.size
            have L := L.tr l30.up
            have B1 := B1.ext l30
            have B4 := B4.ext l30
            have B11 := B11.ext l30
            have B24 := B24.ext l30
            refine ps rfl (fun wq hwq => x_loadAgB ag31 rfl (qB24.ne hwq (by omega)) rfl) ?_
            refine p0 rfl (x_move (v := .slice _ _ _) rfl) ?_
            refine p0 rfl (x_move (v := .int _ _) rfl) ?_
            refine p0 rfl (x_idx so22 rfl rfl hp (by decide) (by omega) (by omega)) ?_
            refine p0 rfl (x_fieldAddr fa79_1 rfl) ?_
            refine ps rfl (fun wq hwq => x_ldf (u := .int _ _) erow_len sc3 rfl (hp.ext (qL.fresh hwq (by omega))) (by omega) (by omega) (by decide) rfl) ?_
            refine pu rfl ?_ (by rintro ⟨_, _, h, _⟩; cases h)
            refine sr (zcall cl116 rfl) (s_settle _ (skC s (peekC s ca 7) (t.getD (peekV s ca 7).toNat default).1) _ (by omega)) ?_
            intro w31 l32
            have z_l32 := l32.size
            have L := L.tr l32.up
            have Lq := Lq.tr l32.up
            have B1 := B1.ext l32
            have B4 := B4.ext l32
            have B11 := B11.ext l32
            have B24 := B24.ext l32
            refine c_end ⟨rfl, fun h hS => Lq, ?_⟩
            refine pu rfl ?_ (by rintro ⟨_, _, h, _⟩; cases h)
            refine s_storeAg rfl sz31 rfl rfl B4 rfl rfl rfl ?_
            intro w33 l34 el34 B4
            have z_l34 := l34.size
            have L := L.fresh l34 (by omega)
            have Lq := Lq.within l34 (by simp)
            have B1 := B1.ne l34 (by omega)
            have B11 := B11.ne l34 (by omega)
            have B24 := B24.ne l34 (by omega)
            refine c_end ⟨rfl, fun h hS => Lq, ?_⟩
            refine p0 rfl (x_assign (v := .int _ _) rfl) ?_
            refine p0 rfl (x_assign (v := .int _ _) rfl) ?_
            refine p_nil (np_normal ?_)
            refine n_then ?_
            refine wp_ret ?_
            refine f_rets3 rfl (ro_cell rfl ag31 B4 rfl) (ro_tmp rfl) (ro_tmp rfl) ?_
            rw [hix] at h29 hq h42
            exact ⟨by rw [hix, hq.2 h42]; exact fs_yes (fsE_yes h12 ht h29 (by have := hq.1.1 h42; omega)) rfl rfl, L⟩
          · refine pu rfl ?_ (by rintro ⟨_, _, h, _⟩; cases h)
            refine s_alloc zr31 ?_
            intro b35 w36 lob35 hib35 l37 B35
            have z_l37 := l37.size
            have L := L.tr l37.up
            have Lq := Lq.tr l37.up
            have B1 := B1.ext l37
            have B4 := B4.ext l37
            have B11 := B11.ext l37
            refine c_end ⟨rfl, fun h hS => Lq, ?_⟩
            refine pu rfl ?_ (by rintro ⟨_, _, h, _⟩; cases h)
            refine s_storeAg rfl sz31 rfl rfl B35 rfl rfl rfl ?_
            intro w38 l39 el39 B35
            have z_l39 := l39.size
            have L := L.fresh l39 (by omega)
            have Lq := Lq.fresh l39 (by omega)
            have B1 := B1.ne l39 (by omega)
            have B4 := B4.ne l39 (by omega)
            have B11 := B11.ne l39 (by omega)
            refine c_end ⟨rfl, fun h hS => Lq, ?_⟩
            refine p0 rfl (x_assign (v := .bool _) rfl) ?_
            refine p_nil (np_normal ?_)
            refine n_then ?_
            refine wp_seq ?_
            refine wp_seq ?_
            refine c_reg ?_
            refine s0 (x_move (v := .bool _) rfl) ?_
            refine s0 (x_not rfl) ?_
            refine c_end ?_
            refine n_then ?_
            refine c_true rfl ?_
            refine wp_seq ?_
            refine c_reg ?_
            refine st (x_loadAgB ag31 rfl B1 rfl) ?_
            refine s_storeAg rfl sz31 rfl rfl B4 rfl rfl rfl ?_
            intro w40 l41 el41 B4
            have z_l41 := l41.size
            have L := L.fresh l41 (by omega)
            have B1 := B1.ne l41 (by omega)
            have B11 := B11.ne l41 (by omega)
            have B35 := B35.ne l41 (by omega)
            refine s0 (x_assign (v := .int _ _) rfl) ?_
            refine s0 (x_assign (v := .int _ _) rfl) ?_
            refine c_end ?_
            refine n_then ?_
            refine wp_ret (r_then ?_)
            refine f_rets3 rfl (ro_cell rfl ag31 B4 rfl) (ro_tmp rfl) (ro_tmp rfl) ?_
            rw [hix] at h29 hq h42
            exact ⟨fs_no (fsE_short h12 ht h29 (Int.not_le.1 fun h5 => h42 (hq.1.2 h5))) (by decide), L⟩
        · refine pu rfl ?_ (by rintro ⟨_, _, h, _⟩; cases h)
          refine s_alloc zr31 ?_
          intro b42 w43 lob42 hib42 l44 B42
          have z_l44 := l44.size
          have L := L.tr l44.up
          have Lq := Lq.tr l44.up
          have B1 := B1.ext l44
          have B4 := B4.ext l44
          have B11 := B11.ext l44
          refine c_end ⟨rfl, fun h hS => Lq, ?_⟩
          refine pu rfl ?_ (by rintro ⟨_, _, h, _⟩; cases h)
          refine sr (zcall cl97 rfl) (s_skip _ (peekC s ca 7) _ _ (by omega)) ?_
          intro w45 l46
          have z_l46 := l46.size
          have L := L.tr l46.up
          have Lq := Lq.tr l46.up
          have B1 := B1.ext l46
          have B4 := B4.ext l46
          have B11 := B11.ext l46
          have B42 := B42.ext l46
          refine c_end ⟨rfl, fun h hS => Lq, ?_⟩
          refine p0 rfl (x_move (v := .tuple _) rfl) ?_
          refine p0 rfl (x_extract rfl rfl) ?_
          refine pb rfl (x_extract rfl rfl) (fun h42 => ?_) (fun h42 => ?_)
          · refine pu rfl ?_ (by rintro ⟨_, _, h, _⟩; cases h)
            refine s_storeAg rfl sz31 rfl rfl B42 rfl rfl rfl ?_
            intro w47 l48 el48 B42
            have z_l48 := l48.size
            have L := L.fresh l48 (by omega)
            have Lq := Lq.fresh l48 (by omega)
            have B1 := B1.ne l48 (by omega)
            have B4 := B4.ne l48 (by omega)
            have B11 := B11.ne l48 (by omega)
            refine c_end ⟨rfl, fun h hS => Lq, ?_⟩
            refine p0 rfl (x_assign (v := .bool _) rfl) ?_
            refine p_nil (np_normal ?_)
            refine n_then ?_
            refine wp_seq ?_
            refine wp_seq ?_
            refine c_reg ?_
            refine s0 (x_move (v := .bool _) rfl) ?_
            refine s0 (x_not rfl) ?_
            refine c_end ?_
            refine n_then ?_
            refine c_false rfl ?_
            refine c_skipn ?_
            refine n_then ?_
            refine wp_seq ?_
            have ht : t.length = 128 := by omega
            refine c_plan (fun wq => Exm [b4] w47 wq) 10 (.cons (0, 1) (.cons (2, 2) (.cons (3, 2) (.cons (4, 2) (.cons (5, 2) (.cons (6, 1) (.cons (1, 0) (.cons (7, 0) (.cons (8, 2) (.cons (9, 2) .nil)))))))))) (by kernel_rfl) (by kernel_rfl) (Exm.drew _) ?_
            obtain ⟨w49, hwd⟩ : ∃ x, x = w47.drew := ⟨_, rfl⟩
            have l50 : Ext w47 w49 := by rw [hwd]; exact Exm.drew _
            rw [← hwd]; clear hwd
            have Lq : Exm [b4] w47 w49 := l50.up
            have qB1 := B1
            have qB4 := B4
            have qB11 := B11
            have qB42 := B42
            have qL := L
            have z_l50 := l50.size
            have L := L.tr l50.up
            have B1 := B1.ext l50
            have B4 := B4.ext l50
            have B11 := B11.ext l50
            have B42 := B42.ext l50
            refine ps rfl (fun wq hwq => x_loadAgB ag31 rfl (qB42.ne hwq (by omega)) rfl) ?_
            refine p0 rfl (x_move (v := .slice _ _ _) rfl) ?_
            refine p0 rfl (x_move (v := .int _ _) rfl) ?_
            refine p0 rfl (x_idx so22 rfl rfl hp (by decide) (by omega) (by omega)) ?_
            refine p0 rfl (x_fieldAddr fa79_1 rfl) ?_
            refine ps rfl (fun wq hwq => x_ldf (u := .int _ _) erow_len sc3 rfl (hp.ext (qL.fresh hwq (by omega))) (by omega) (by omega) (by decide) rfl) ?_
            refine pu rfl ?_ (by rintro ⟨_, _, h, _⟩; cases h)
            refine sr (zcall cl116 rfl) (s_settle _ (skC s (peekC s ca 7) (t.getD (peekV s ca 7).toNat default).1) _ (by omega)) ?_
            intro w51 l52
            have z_l52 := l52.size
            have L := L.tr l52.up
            have Lq := Lq.tr l52.up
            have B1 := B1.ext l52
            have B4 := B4.ext l52
            have B11 := B11.ext l52
            have B42 := B42.ext l52
            refine c_end ⟨rfl, fun h hS => Lq, ?_⟩
            refine pu rfl ?_ (by rintro ⟨_, _, h, _⟩; cases h)
            refine s_storeAg rfl sz31 rfl rfl B4 rfl rfl rfl ?_
            intro w53 l54 el54 B4
            have z_l54 := l54.size
            have L := L.fresh l54 (by omega)
            have Lq := Lq.within l54 (by simp)
            have B1 := B1.ne l54 (by omega)
            have B11 := B11.ne l54 (by omega)
            have B42 := B42.ne l54 (by omega)
            refine c_end ⟨rfl, fun h hS => Lq, ?_⟩
            refine p0 rfl (x_assign (v := .int _ _) rfl) ?_
            refine p0 rfl (x_assign (v := .int _ _) rfl) ?_
            refine p_nil (np_normal ?_)
            refine n_then ?_
            refine wp_ret ?_
            refine f_rets3 rfl (ro_cell rfl ag31 B4 rfl) (ro_tmp rfl) (ro_tmp rfl) ?_
            rw [hix] at h29 hq h42
            exact ⟨by rw [hix, hq.2 h42]; exact fs_yes (fsE_yes h12 ht h29 (by have := hq.1.1 h42; omega)) rfl rfl, L⟩
          · refine pu rfl ?_ (by rintro ⟨_, _, h, _⟩; cases h)
            refine s_storeAg rfl sz31 rfl rfl B42 rfl rfl rfl ?_
            intro w55 l56 el56 B42
            have z_l56 := l56.size
            have L := L.fresh l56 (by omega)
            have Lq := Lq.fresh l56 (by omega)
            have B1 := B1.ne l56 (by omega)
            have B4 := B4.ne l56 (by omega)
            have B11 := B11.ne l56 (by omega)
            refine c_end ⟨rfl, fun h hS => Lq, ?_⟩
            refine p0 rfl (x_assign (v := .bool _) rfl) ?_
            refine p_nil (np_normal ?_)
            refine n_then ?_
            refine wp_seq ?_
            refine wp_seq ?_
            refine c_reg ?_
            refine s0 (x_move (v := .bool _) rfl) ?_
            refine s0 (x_not rfl) ?_
            refine c_end ?_
            refine n_then ?_
            refine c_true rfl ?_
            refine wp_seq ?_
            refine c_reg ?_
            refine st (x_loadAgB ag31 rfl B1 rfl) ?_
            refine s_storeAg rfl sz31 rfl rfl B4 rfl rfl rfl ?_
            intro w57 l58 el58 B4
            have z_l58 := l58.size
            have L := L.fresh l58 (by omega)
            have B1 := B1.ne l58 (by omega)
            have B11 := B11.ne l58 (by omega)
            have B42 := B42.ne l58 (by omega)
            refine s0 (x_assign (v := .int _ _) rfl) ?_
            refine s0 (x_assign (v := .int _ _) rfl) ?_
            refine c_end ?_
            refine n_then ?_
            refine wp_ret (r_then ?_)
            refine f_rets3 rfl (ro_cell rfl ag31 B4 rfl) (ro_tmp rfl) (ro_tmp rfl) ?_
            rw [hix] at h29 hq h42
            exact ⟨fs_no (fsE_short h12 ht h29 (Int.not_le.1 fun h5 => h42 (hq.1.2 h5))) (by decide), L⟩
      · have z_l19 := l19.size
        have L := L.tr l19.up
        have B1 := B1.ext l19
        have B4 := B4.ext l19
        have B11 := B11.ext l19
        refine gt rfl rfl rfl rfl ?_
        refine s0 (x_not rfl) ?_
        refine s0 (x_pickf (v := .bool _) rfl rfl) ?_
        refine c_end ?_
        refine n_then ?_
        refine c_true rfl ?_
        refine wp_seq ?_
        refine c_reg ?_
        refine st (x_loadAgB ag31 rfl B1 rfl) ?_
        refine s_storeAg rfl sz31 rfl rfl B4 rfl rfl rfl ?_
        intro w59 l60 el60 B4
        have z_l60 := l60.size
        have L := L.fresh l60 (by omega)
        have B1 := B1.ne l60 (by omega)
        have B11 := B11.ne l60 (by omega)
        refine s0 (x_assign (v := .int _ _) rfl) ?_
        refine s0 (x_assign (v := .int _ _) rfl) ?_
        refine c_end ?_
        refine n_then ?_
        refine wp_ret (r_then ?_)
        refine f_rets3 rfl (ro_cell rfl ag31 B4 rfl) (ro_tmp rfl) (ro_tmp rfl) ?_
        rw [hix] at h29
        exact ⟨fs_no (fsE_code h12 (.inr h29)) (by decide), L⟩
  · have z_l8 := l8.size
    have L := L.tr l8.up
    have B1 := B1.ext l8
    have B4 := B4.ext l8
    refine s0 (x_not rfl) ?_
    refine c_end ?_
    refine n_then ?_
    refine c_true rfl ?_
    refine wp_seq ?_
    refine c_reg ?_
    refine st (x_loadAgB ag31 rfl B1 rfl) ?_
    refine s_storeAg rfl sz31 rfl rfl B4 rfl rfl rfl ?_
    intro w61 l62 el62 B4
    have z_l62 := l62.size
    have L := L.fresh l62 (by omega)
    have B1 := B1.ne l62 (by omega)
    refine s0 (x_assign (v := .int _ _) rfl) ?_
    refine s0 (x_assign (v := .int _ _) rfl) ?_
    refine c_end ?_
    refine n_then ?_
    refine wp_ret (r_then ?_)
    refine f_rets3 rfl (ro_cell rfl ag31 B4 rfl) (ro_tmp rfl) (ro_tmp rfl) ?_
    exact ⟨fs_no (fsE_bad h12) (by decide), L⟩

end Go.Proofs.Ytfmmkacopgecpaa
