/- What each function of this part returns, for every argument that meets its premises. -/
import Derived.Test.YtglepnbcplldeaaF5
import Derived.Test.YtglepnbcplldeaaPl4
namespace Go.Proofs.Ytglepnbcplldeaa
open Go.Sx Go.Pl Go.RowKit
theorem cl34 : Callable Try.prog 34 := callable Try.func34 (by kernel_rfl) rfl
theorem cl47 : Callable Try.prog 47 := callable Try.func47 (by kernel_rfl) rfl
theorem cl48 : Callable Try.prog 48 := callable Try.func48 (by kernel_rfl) rfl
theorem fe33 {a0 b0 : ByteArray} {a1 b1 : Int} : StEq Try.prog 33 [.string a0, .int .i64 a1] [.string b0, .int .i64 b1] (a0 = b0 ∧ a1 = b1 ∧ True) := ⟨_, Try.underlying33, by kernel_rfl, by kernel_rfl, (fe_string (by decide) sc9 un9 rfl rfl (fe_int (by decide) sc3 un3 rfl rfl fe_nil))⟩
/-- laws.FnReads -/
theorem l_fnReads (p : Option Addr) (xs : List Int) (c : Nat) (B : Nat) (w : World) (hp : Sl w p xs.length c 1 (bc xs)) (hr : ∀ x ∈ xs, 0 ≤ x ∧ x ≤ 255) (hpB : 0 < xs.length → Lt p B) (hB : B ≤ w.heap.size) :
    Calls Try.prog 12 [.slice p xs.length c].toArray w (Ret w (.bool true)) := by
  have L : Exm [] w w := Exm.rfl'
  refine enter (n := 123) Try.func12 rfl rfl rfl ?_
  refine wp_seq ?_
  refine c_reg ?_
  refine s0 (x_assign (v := .bool _) rfl) ?_
  refine c_end ?_
  refine n_then ?_
  refine wp_seq ?_
  refine wp_seq ?_
  refine c_reg ?_
  refine s0 (x_move (v := .slice _ _ _) rfl) ?_
  refine srb (zcall cl34 rfl) (l_big _ _ _ _) (fun h20 w1 l2 => ?_) (fun h20 w1 l2 => ?_)
  · have z_l2 := l2.size
    have L := L.tr l2.up
    refine c_end ?_
    refine n_then ?_
    refine c_true rfl ?_
    refine wp_seq ?_
    refine c_reg ?_
    refine s0 (x_assign (v := .bool _) rfl) ?_
    refine c_end ?_
    refine n_then ?_
    refine wp_ret (r_then ?_)
    refine f_ret rfl rfl ?_
    exact ⟨rfl, L⟩
  · have z_l2 := l2.size
    have L := L.tr l2.up
    refine c_end ?_
    refine n_then ?_
    refine c_false rfl ?_
    refine c_skipn ?_
    refine n_then ?_
    refine wp_seq ?_
    have hl : xs.length ≤ 1048576 := by omega
    refine c_reg ?_
    refine s0 (x_move (v := .slice _ _ _) rfl) ?_
    refine sp (zcall cl47 rfl) (s_drawReadBits _ _ _ _ _ (hp.ext L) hr hpB (by omega) (by omega)) ?_
    rintro v23 w3 l4 ⟨s23, a23, n23, rfl, hx23⟩
    have z_l4 := l4.size
    have L := L.tr l4.up
    refine s0 (x_move (v := .tuple _) rfl) ?_
    refine s0 (x_extract rfl rfl) ?_
    refine s0 (x_extract rfl rfl) ?_
    refine s_alloc zr33 ?_
    intro b5 w6 lob5 hib5 l7 B5
    have z_l7 := l7.size
    have L := L.tr l7.up
    refine s_storeAg rfl sz33 rfl rfl B5 rfl rfl rfl ?_
    intro w8 l9 el9 B5
    have z_l9 := l9.size
    have L := L.fresh l9 (by omega)
    refine s0 (x_assign (v := .int _ _) rfl) ?_
    refine c_end ?_
    refine n_then ?_
    refine wp_seq ?_
    refine c_reg ?_
    refine st (x_loadAgB ag33 rfl B5 rfl) ?_
    refine s0 (x_move (v := .int _ _) rfl) ?_
    refine sr (zcall cl25 rfl) (i_readBits _ _ _ _ (by omega)) ?_
    intro w10 l11
    have z_l11 := l11.size
    have L := L.tr l11.up
    have B5 := B5.ext l11
    refine s0 (x_move (v := .tuple _) rfl) ?_
    refine s0 (x_extract rfl rfl) ?_
    refine s0 (x_extract rfl rfl) ?_
    refine sb (x_extract rfl rfl) (fun h32 => ?_) (fun h32 => ?_)
    · refine s_alloc zr33 ?_
      intro b12 w13 lob12 hib12 l14 B12
      have z_l14 := l14.size
      have L := L.tr l14.up
      have B5 := B5.ext l14
      refine s_storeAg rfl sz33 rfl rfl B12 rfl rfl rfl ?_
      intro w15 l16 el16 B12
      have z_l16 := l16.size
      have L := L.fresh l16 (by omega)
      have B5 := B5.ne l16 (by omega)
      refine s0 (x_assign (v := .int _ _) rfl) ?_
      refine s0 (x_assign (v := .bool _) rfl) ?_
      refine c_end ?_
      refine n_then ?_
      refine wp_seq ?_
      refine c_reg ?_
      refine st (x_loadAgB ag33 rfl B5 rfl) ?_
      refine s0 (x_move (v := .int _ _) rfl) ?_
      refine sr (zcall cl23 rfl) (s_readBits _ _ _ _ (by omega)) ?_
      intro w17 l18
      have z_l18 := l18.size
      have L := L.tr l18.up
      have B5 := B5.ext l18
      have B12 := B12.ext l18
      refine s0 (x_move (v := .tuple _) rfl) ?_
      refine s0 (x_extract rfl rfl) ?_
      refine s0 (x_extract rfl rfl) ?_
      refine s0 (x_extract rfl rfl) ?_
      refine s_alloc zr33 ?_
      intro b19 w20 lob19 hib19 l21 B19
      have z_l21 := l21.size
      have L := L.tr l21.up
      have B5 := B5.ext l21
      have B12 := B12.ext l21
      refine s_storeAg rfl sz33 rfl rfl B19 rfl rfl rfl ?_
      intro w22 l23 el23 B19
      have z_l23 := l23.size
      have L := L.fresh l23 (by omega)
      have B5 := B5.ne l23 (by omega)
      have B12 := B12.ne l23 (by omega)
      refine s0 (x_assign (v := .int _ _) rfl) ?_
      refine s0 (x_assign (v := .bool _) rfl) ?_
      refine c_end ?_
      refine n_then ?_
      refine wp_seq ?_
      refine wp_seq ?_
      refine c_reg ?_
      refine st (x_loadAgB ag33 rfl B12 rfl) ?_
      refine st (x_loadAgB ag33 rfl B19 rfl) ?_
      refine sb (x_neqa fe33 rfl rfl) (fun h42 => ?_) (fun h42 => ?_)
      · exact (h42 (by simp)).elim
      · refine s0 (x_move (v := .bool _) rfl) ?_
        refine gt rfl rfl rfl rfl ?_
        refine s0 (x_move (v := .int _ _) rfl) ?_
        refine gt rfl rfl rfl rfl ?_
        refine s0 (x_move (v := .int _ _) rfl) ?_
        refine gt rfl rfl rfl rfl ?_
        refine sb (x_neq rfl rfl) (fun h46 => ?_) (fun h46 => ?_)
        · exact absurd rfl h46
        · refine s0 (x_pickf (v := .bool _) rfl rfl) ?_
          refine s0 (x_move (v := .bool _) rfl) ?_
          refine gt rfl rfl rfl rfl ?_
          refine s0 (x_move (v := .bool _) rfl) ?_
          refine gt rfl rfl rfl rfl ?_
          refine s0 (x_move (v := .bool _) rfl) ?_
          refine gt rfl rfl rfl rfl ?_
          refine sb (x_neqb un4 rfl rfl) (fun h51 => ?_) (fun h51 => ?_)
          · simp [h32] at h51
          · refine s0 (x_pickf (v := .bool _) rfl rfl) ?_
            refine c_end ?_
            refine n_then ?_
            refine c_false rfl ?_
            refine c_skipn ?_
            refine n_then ?_
            refine wp_seq ?_
            refine wp_seq ?_
            refine c_reg ?_
            refine s0 (x_move (v := .bool _) rfl) ?_
            refine s0 (x_not rfl) ?_
            refine c_end ?_
            refine n_then ?_
            refine c_false rfl ?_
            refine c_skipn ?_
            refine n_then ?_
            refine wp_seq ?_
            obtain ⟨hA, hN, hLf⟩ := id h32
            refine c_reg ?_
            refine s0 (x_move (v := .slice _ _ _) rfl) ?_
            refine s0 (x_move (v := .int _ _) rfl) ?_
            refine sp (zcall cl48 rfl) (l_cutAt _ _ _ _ _ _ (hp.ext L) hr (by omega) (by omega) (by omega)) ?_
            rintro v60 w24 l25 ⟨x60, rfl, hx60⟩
            have z_l25 := l25.size
            have L := L.tr l25.up
            have B5 := B5.ext l25
            have B12 := B12.ext l25
            have B19 := B19.ext l25
            refine s0 (x_assign (v := .int _ _) rfl) ?_
            refine c_end ?_
            refine n_then ?_
            refine wp_seq ?_
            refine c_reg ?_
            refine st (x_loadAgB ag33 rfl B5 rfl) ?_
            refine s0 (x_move (v := .int _ _) rfl) ?_
            refine sr (zcall cl25 rfl) (i_readBits _ _ _ _ (by omega)) ?_
            intro w26 l27
            have z_l27 := l27.size
            have L := L.tr l27.up
            have B5 := B5.ext l27
            have B12 := B12.ext l27
            have B19 := B19.ext l27
            refine s0 (x_move (v := .tuple _) rfl) ?_
            refine s0 (x_extract rfl rfl) ?_
            refine s0 (x_extract rfl rfl) ?_
            refine sb (x_extract rfl rfl) (fun h67 => ?_) (fun h67 => ?_)
            · refine s_alloc zr33 ?_
              intro b28 w29 lob28 hib28 l30 B28
              have z_l30 := l30.size
              have L := L.tr l30.up
              have B5 := B5.ext l30
              have B12 := B12.ext l30
              have B19 := B19.ext l30
              refine s_storeAg rfl sz33 rfl rfl B28 rfl rfl rfl ?_
              intro w31 l32 el32 B28
              have z_l32 := l32.size
              have L := L.fresh l32 (by omega)
              have B5 := B5.ne l32 (by omega)
              have B12 := B12.ne l32 (by omega)
              have B19 := B19.ne l32 (by omega)
              refine s0 (x_assign (v := .int _ _) rfl) ?_
              refine s0 (x_assign (v := .bool _) rfl) ?_
              refine c_end ?_
              refine n_then ?_
              refine wp_seq ?_
              refine c_reg ?_
              refine st (x_loadAgB ag33 rfl B28 rfl) ?_
              refine s0 (x_move (v := .int _ _) rfl) ?_
              refine s0 (x_move (v := .int _ _) rfl) ?_
              refine s0 (x_sub rfl rfl (by omega)) ?_
              refine sr (zcall cl25 rfl) (i_readBits _ _ _ _ (by omega)) ?_
              intro w33 l34
              have z_l34 := l34.size
              have L := L.tr l34.up
              have B5 := B5.ext l34
              have B12 := B12.ext l34
              have B19 := B19.ext l34
              have B28 := B28.ext l34
              refine s0 (x_move (v := .tuple _) rfl) ?_
              refine s0 (x_extract rfl rfl) ?_
              refine s0 (x_extract rfl rfl) ?_
              refine sb (x_extract rfl rfl) (fun h76 => ?_) (fun h76 => ?_)
              · refine s_alloc zr33 ?_
                intro b35 w36 lob35 hib35 l37 B35
                have z_l37 := l37.size
                have L := L.tr l37.up
                have B5 := B5.ext l37
                have B12 := B12.ext l37
                have B19 := B19.ext l37
                have B28 := B28.ext l37
                refine s_storeAg rfl sz33 rfl rfl B35 rfl rfl rfl ?_
                intro w38 l39 el39 B35
                have z_l39 := l39.size
                have L := L.fresh l39 (by omega)
                have B5 := B5.ne l39 (by omega)
                have B12 := B12.ne l39 (by omega)
                have B19 := B19.ne l39 (by omega)
                have B28 := B28.ne l39 (by omega)
                refine s0 (x_assign (v := .int _ _) rfl) ?_
                refine s0 (x_assign (v := .bool _) rfl) ?_
                refine c_end ?_
                refine n_then ?_
                refine wp_seq ?_
                refine c_reg ?_
                refine st (x_loadAgB ag33 rfl B5 rfl) ?_
                refine sr (zcall cl49 rfl) (i_zeros _ _ _ (by omega)) ?_
                intro w40 l41
                have z_l41 := l41.size
                have L := L.tr l41.up
                have B5 := B5.ext l41
                have B12 := B12.ext l41
                have B19 := B19.ext l41
                have B28 := B28.ext l41
                have B35 := B35.ext l41
                refine s0 (x_assign (v := .int _ _) rfl) ?_
                refine c_end ?_
                refine n_then ?_
                refine wp_seq ?_
                have hrp := (rb_part h32 hx60)
                have ht1 := rb_top (s := s23) (a := a23) (n := n23)
                have ht2 := rb_top (s := s23) (a := rbAt s23 a23 x60) (n := n23 - x60)
                have ht3 := rb_top (s := s23) (a := a23) (n := x60)
                have hzr := zerosOf_range s23 a23
                refine c_plan (fun wq => Exm [] w40 wq) 45 [(0, true), (1, true), (2, true), (3, true), (4, true), (5, true), (6, true), (7, true), (8, true), (9, true), (10, true), (11, true), (12, true), (13, true), (14, true), (15, true), (16, true), (17, true), (18, true), (19, true), (20, true), (21, true), (23, true), (26, true), (22, false), (24, false), (25, true), (27, true), (28, true), (29, true), (30, true), (31, true), (32, false), (33, true), (34, true), (35, true), (36, true), (37, true), (38, true), (39, true), (40, true), (41, true), (42, true), (43, true), (44, true)] (by kernel_rfl) (by kernel_rfl) (Exm.drew _) ?_
                obtain ⟨w42, hwd⟩ : ∃ x, x = w40.drew := ⟨_, rfl⟩
                have l43 : Ext w40 w42 := by rw [hwd]; exact Exm.drew _
                rw [← hwd]; clear hwd
                have Lq : Exm [] w40 w42 := l43.up
                have qB5 := B5
                have qB12 := B12
                have qB19 := B19
                have qB28 := B28
                have qB35 := B35
                have qL := L
                have z_l43 := l43.size
                have L := L.tr l43.up
                have B5 := B5.ext l43
                have B12 := B12.ext l43
                have B19 := B19.ext l43
                have B28 := B28.ext l43
                have B35 := B35.ext l43
                refine p0 rfl (x_move (v := .bool _) rfl) ?_
                refine p0 rfl (x_move (v := .bool _) rfl) ?_
                refine p0g rfl rfl rfl rfl rfl (x_move (v := .bool _) rfl) ?_
                refine p0 rfl (x_pickt (v := .bool _) rfl rfl) ?_
                refine p0 rfl (x_move (v := .bool _) rfl) ?_
                refine psg rfl rfl rfl rfl rfl (fun wq hwq => x_loadAgB ag33 rfl (qB35.ext hwq) rfl) ?_
                refine psg rfl rfl rfl rfl rfl (fun wq hwq => x_loadAgB ag33 rfl (qB12.ext hwq) rfl) ?_
                refine pbg rfl rfl rfl rfl rfl (x_eqla fe33 rfl rfl) (fun h86 => ?_) (fun h86 => ?_)
                · refine p0 rfl (x_pickt (v := .bool _) rfl rfl) ?_
                  refine p0 rfl (x_move (v := .bool _) rfl) ?_
                  refine p0g rfl rfl rfl rfl rfl (x_move (v := .int _ _) rfl) ?_
                  refine p0g rfl rfl rfl rfl rfl (x_move (v := .int _ _) rfl) ?_
                  refine p0g rfl rfl rfl rfl rfl (x_move (v := .int _ _) rfl) ?_
                  refine p0g rfl rfl rfl rfl rfl (x_sub rfl rfl (by omega)) ?_
                  refine p0g rfl rfl rfl rfl rfl (x_shl rfl rfl (by omega) (by have := hrp.2.2.2.1; have := Int.mul_nonneg ht3.1 (Int.le_of_lt (two_pow_pos (n23 - x60).toNat)); omega)) ?_
                  refine p0g rfl rfl rfl rfl rfl (x_move (v := .int _ _) rfl) ?_
                  refine p0g rfl rfl rfl rfl rfl (x_add rfl rfl (by have := hrp.2.2.2.1; omega)) ?_
                  refine p0g rfl rfl rfl rfl rfl (x_move (v := .int _ _) rfl) ?_
                  refine pbg rfl rfl rfl rfl rfl (x_eql rfl rfl) (fun h97 => ?_) (fun h97 => ?_)
                  · refine p0 rfl (x_pickt (v := .bool _) rfl rfl) ?_
                    refine p0 rfl (x_move (v := .bool _) rfl) ?_
                    refine psg rfl rfl rfl rfl rfl (fun wq hwq => x_loadAgB ag33 rfl (qB5.ext hwq) rfl) ?_
                    refine psg rfl rfl rfl rfl rfl (fun wq hwq => x_loadAgB ag33 rfl (qB12.ext hwq) rfl) ?_
                    refine p0g rfl rfl rfl rfl rfl (x_move (v := .int _ _) rfl) ?_
                    refine pu rfl ?_ (by rintro ⟨_, _, h, _⟩; cases h)
                    refine gt rfl rfl rfl rfl ?_
                    refine sr (zcall cl50 rfl) (i_left _ _ _ (by omega)) ?_
                    intro w44 l45
                    have z_l45 := l45.size
                    have L := L.tr l45.up
                    have Lq := Lq.tr l45.up
                    have B5 := B5.ext l45
                    have B12 := B12.ext l45
                    have B19 := B19.ext l45
                    have B28 := B28.ext l45
                    have B35 := B35.ext l45
                    refine c_end ⟨rfl, fun h => Lq, ?_⟩
                    refine pu rfl ?_ (by rintro ⟨_, _, h, _⟩; cases h)
                    refine gt rfl rfl rfl rfl ?_
                    refine sr (zcall cl50 rfl) (i_left _ _ _ (by omega)) ?_
                    intro w46 l47
                    have z_l47 := l47.size
                    have L := L.tr l47.up
                    have Lq := Lq.tr l47.up
                    have B5 := B5.ext l47
                    have B12 := B12.ext l47
                    have B19 := B19.ext l47
                    have B28 := B28.ext l47
                    have B35 := B35.ext l47
                    refine c_end ⟨rfl, fun h => Lq, ?_⟩
                    refine p0g rfl rfl rfl rfl rfl (x_sub rfl rfl (by omega)) ?_
                    refine pbg rfl rfl rfl rfl rfl (x_eql rfl rfl) (fun h106 => ?_) (fun h106 => ?_)
                    · refine p0 rfl (x_pickt (v := .bool _) rfl rfl) ?_
                      refine p0 rfl (x_move (v := .bool _) rfl) ?_
                      refine p0g rfl rfl rfl rfl rfl (x_move (v := .int _ _) rfl) ?_
                      refine psg rfl rfl rfl rfl rfl (fun wq hwq => x_loadAgB ag33 rfl (qB5.ext hwq) rfl) ?_
                      refine pu rfl ?_ (by rintro ⟨_, _, h, _⟩; cases h)
                      refine gt rfl rfl rfl rfl ?_
                      refine sr (zcall cl50 rfl) (i_left _ _ _ (by omega)) ?_
                      intro w48 l49
                      have z_l49 := l49.size
                      have L := L.tr l49.up
                      have Lq := Lq.tr l49.up
                      have B5 := B5.ext l49
                      have B12 := B12.ext l49
                      have B19 := B19.ext l49
                      have B28 := B28.ext l49
                      have B35 := B35.ext l49
                      refine c_end ⟨rfl, fun h => Lq, ?_⟩
                      refine pbg rfl rfl rfl rfl rfl (x_leq rfl rfl) (fun h112 => ?_) (fun h112 => ?_)
                      · refine p0 rfl (x_pickt (v := .bool _) rfl rfl) ?_
                        refine p0 rfl (x_move (v := .bool _) rfl) ?_
                        refine p0g rfl rfl rfl rfl rfl (x_move (v := .int _ _) rfl) ?_
                        refine pbg rfl rfl rfl rfl rfl (x_neq rfl rfl) (fun h116 => ?_) (fun h116 => ?_)
                        · refine p0g rfl rfl rfl rfl rfl (x_move (v := .bool _) rfl) ?_
                          refine pf rfl rfl rfl rfl rfl ?_
                          refine pf rfl rfl rfl rfl rfl ?_
                          refine pf rfl rfl rfl rfl rfl ?_
                          refine p0g rfl rfl rfl rfl rfl (x_pickt (v := .bool _) rfl rfl) ?_
                          refine p0 rfl (x_pickt (v := .bool _) rfl rfl) ?_
                          refine p0 rfl (x_assign (v := .bool _) rfl) ?_
                          refine p_nil (np_normal ?_)
                          refine n_then ?_
                          refine wp_ret ?_
                          refine f_ret rfl rfl ?_
                          exact ⟨rfl, L⟩
                        · refine p0g rfl rfl rfl rfl rfl (x_move (v := .bool _) rfl) ?_
                          refine p0g rfl rfl rfl rfl rfl (x_move (v := .int _ _) rfl) ?_
                          refine p0g rfl rfl rfl rfl rfl (x_move (v := .int _ _) rfl) ?_
                          refine p0g rfl rfl rfl rfl rfl (x_geq rfl rfl) ?_
                          refine p0g rfl rfl rfl rfl rfl (x_pickf (v := .bool _) rfl rfl) ?_
                          refine p0 rfl (x_pickt (v := .bool _) rfl rfl) ?_
                          refine p0 rfl (x_assign (v := .bool _) rfl) ?_
                          refine p_nil (np_normal ?_)
                          refine n_then ?_
                          refine wp_ret ?_
                          refine f_ret rfl rfl ?_
                          exact ⟨ret_val (show Value.bool (decide (zerosOf s23 a23 ≥ n23)) = .bool true by rw [decide_eq_true (hrp.2.2.2.2.2 (by omega))]), L⟩
                      · exact (h112 (by omega)).elim
                    · exact (h106 hrp.2.2.2.2.1).elim
                  · exact (h97 hrp.2.2.2.1).elim
                · exact (h86 (by simp [hrp.2.2.1])).elim
              · exact (h76 (rb_part h32 hx60).2.1).elim
            · exact (h67 (rb_part h32 hx60).1).elim
    · refine s_alloc zr33 ?_
      intro b50 w51 lob50 hib50 l52 B50
      have z_l52 := l52.size
      have L := L.tr l52.up
      have B5 := B5.ext l52
      refine s_storeAg rfl sz33 rfl rfl B50 rfl rfl rfl ?_
      intro w53 l54 el54 B50
      have z_l54 := l54.size
      have L := L.fresh l54 (by omega)
      have B5 := B5.ne l54 (by omega)
      refine s0 (x_assign (v := .int _ _) rfl) ?_
      refine s0 (x_assign (v := .bool _) rfl) ?_
      refine c_end ?_
      refine n_then ?_
      refine wp_seq ?_
      refine c_reg ?_
      refine st (x_loadAgB ag33 rfl B5 rfl) ?_
      refine s0 (x_move (v := .int _ _) rfl) ?_
      refine sr (zcall cl23 rfl) (s_readBits _ _ _ _ (by omega)) ?_
      intro w55 l56
      have z_l56 := l56.size
      have L := L.tr l56.up
      have B5 := B5.ext l56
      have B50 := B50.ext l56
      refine s0 (x_move (v := .tuple _) rfl) ?_
      refine s0 (x_extract rfl rfl) ?_
      refine s0 (x_extract rfl rfl) ?_
      refine s0 (x_extract rfl rfl) ?_
      refine s_alloc zr33 ?_
      intro b57 w58 lob57 hib57 l59 B57
      have z_l59 := l59.size
      have L := L.tr l59.up
      have B5 := B5.ext l59
      have B50 := B50.ext l59
      refine s_storeAg rfl sz33 rfl rfl B57 rfl rfl rfl ?_
      intro w60 l61 el61 B57
      have z_l61 := l61.size
      have L := L.fresh l61 (by omega)
      have B5 := B5.ne l61 (by omega)
      have B50 := B50.ne l61 (by omega)
      refine s0 (x_assign (v := .int _ _) rfl) ?_
      refine s0 (x_assign (v := .bool _) rfl) ?_
      refine c_end ?_
      refine n_then ?_
      refine wp_seq ?_
      refine wp_seq ?_
      refine c_reg ?_
      refine st (x_loadAgB ag33 rfl B50 rfl) ?_
      refine st (x_loadAgB ag33 rfl B57 rfl) ?_
      refine sb (x_neqa fe33 rfl rfl) (fun h42 => ?_) (fun h42 => ?_)
      · exact (h42 (by simp)).elim
      · refine s0 (x_move (v := .bool _) rfl) ?_
        refine gt rfl rfl rfl rfl ?_
        refine s0 (x_move (v := .int _ _) rfl) ?_
        refine gt rfl rfl rfl rfl ?_
        refine s0 (x_move (v := .int _ _) rfl) ?_
        refine gt rfl rfl rfl rfl ?_
        refine sb (x_neq rfl rfl) (fun h46 => ?_) (fun h46 => ?_)
        · exact absurd rfl h46
        · refine s0 (x_pickf (v := .bool _) rfl rfl) ?_
          refine s0 (x_move (v := .bool _) rfl) ?_
          refine gt rfl rfl rfl rfl ?_
          refine s0 (x_move (v := .bool _) rfl) ?_
          refine gt rfl rfl rfl rfl ?_
          refine s0 (x_move (v := .bool _) rfl) ?_
          refine gt rfl rfl rfl rfl ?_
          refine sb (x_neqb un4 rfl rfl) (fun h51 => ?_) (fun h51 => ?_)
          · simp [h32] at h51
          · refine s0 (x_pickf (v := .bool _) rfl rfl) ?_
            refine c_end ?_
            refine n_then ?_
            refine c_false rfl ?_
            refine c_skipn ?_
            refine n_then ?_
            refine wp_seq ?_
            refine wp_seq ?_
            refine c_reg ?_
            refine s0 (x_move (v := .bool _) rfl) ?_
            refine s0 (x_not rfl) ?_
            refine c_end ?_
            refine n_then ?_
            refine c_true rfl ?_
            refine wp_seq ?_
            refine c_reg ?_
            refine st (x_loadAgB ag33 rfl B50 rfl) ?_
            refine st (x_loadAgB ag33 rfl B5 rfl) ?_
            refine s0 (x_eqla fe33 rfl rfl) ?_
            refine s0 (x_assign (v := .bool _) rfl) ?_
            refine c_end ?_
            refine n_then ?_
            refine wp_ret (r_then ?_)
            refine f_ret rfl rfl ?_
            exact ⟨ret_val (show Value.bool (decide (s23 = s23 ∧ rbAt s23 a23 n23 = a23 ∧ True)) = .bool true by simp [rbAt, h32]), L⟩

end Go.Proofs.Ytglepnbcplldeaa
