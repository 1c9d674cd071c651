/- What each function of this part returns, for every argument that meets its premises. -/
import Derived.Test.YtglepnbcplldeaaF6
namespace Go.Proofs.Ytglepnbcplldeaa
open Go.Sx Go.Pl Go.RowKit
theorem cl30 : Callable Try.prog 30 := callable Try.func30 (by kernel_rfl) rfl
theorem cl33 : Callable Try.prog 33 := callable Try.func33 (by kernel_rfl) rfl
theorem cl34 : Callable Try.prog 34 := callable Try.func34 (by kernel_rfl) rfl
theorem cl35 : Callable Try.prog 35 := callable Try.func35 (by kernel_rfl) rfl
theorem cl36 : Callable Try.prog 36 := callable Try.func36 (by kernel_rfl) rfl
theorem cl39 : Callable Try.prog 39 := callable Try.func39 (by kernel_rfl) rfl
theorem fv26_0 : FieldV Try.prog 26 0 0 9 := ⟨_, _, Try.underlying26, rfl, rfl, rfl⟩
theorem fv26_3 : FieldV Try.prog 26 3 3 3 := ⟨_, _, Try.underlying26, rfl, rfl, rfl⟩
theorem fe26 {a0 b0 : ByteArray} {a1 b1 : Int} {a2 b2 : Int} {a3 b3 : Int} : StEq Try.prog 26 [.string a0, .int .i64 a1, .int .i64 a2, .int .i64 a3] [.string b0, .int .i64 b1, .int .i64 b2, .int .i64 b3] (a0 = b0 ∧ a1 = b1 ∧ a2 = b2 ∧ a3 = b3 ∧ True) := ⟨_, Try.underlying26, by kernel_rfl, by kernel_rfl, (fe_string (by decide) sc9 un9 rfl rfl (fe_int (by decide) sc3 un3 rfl rfl (fe_int (by decide) sc3 un3 rfl rfl (fe_int (by decide) sc3 un3 rfl rfl fe_nil))))⟩
theorem place_tk {s : ByteArray} {c : Ca} {n : Int} (hk : okN s c n) (h : tkOk s c n) : placeOf s (tkC s c n) = placeOf s c + n := by
  rw [place_of (tk_keep hk), place_of hk.1, (tk_yes h).2.1]
theorem peek_keep {s : ByteArray} {c : Ca} {n : Int} (hk : okN s c n) : caOk s (peekC s c n) ∧ placeOf s (peekC s c n) = placeOf s c := by
  have e : peekC s c n = readyOf s c n := by unfold peekC; rw [if_pos hk]
  have h := ready_ok (n := n) hk.1
  rw [e]; exact ⟨h, by rw [place_of h, place_of hk.1, ready_place]⟩
theorem place_refill {s : ByteArray} {c : Ca} (h : caOk s c) : placeOf s (refillOf s c) = placeOf s c := by
  rw [place_of (refill_keep h).1, place_of h, (refill_keep h).2]
theorem settle_ok {s : ByteArray} {c : Ca} (h : caOk s c) : caOk s (settleOf s c) ∧ placeOf s (settleOf s c) = placeOf s c ∧ (settleOf s c).hv < 8 := by
  have h1 := settled_ok (place_in h)
  have e : settleOf s c = settledAt s (8 * c.pos - c.hv) := by unfold settleOf; rw [if_pos h]
  rw [e]; exact ⟨h1.1, by rw [place_of h1.1, place_of h, h1.2.1], h1.2.2⟩
theorem sk_refill {s : ByteArray} {c : Ca} {n : Int} (hk : okN s c n) : skOk s (refillOf s c) n ↔ tkOk s c n := by
  have h := refill_keep hk.1
  rw [tk_iff hk, sk_iff ⟨h.1, hk.2⟩, h.2]
theorem place_sk {s : ByteArray} {c : Ca} {n : Int} (hk : okN s c n) (h : tkOk s c n) : caOk s (skC s (refillOf s c) n) ∧ placeOf s (skC s (refillOf s c) n) = placeOf s c + n := by
  have h1 := (sk_refill hk).2 h
  have h2 := sk_ok h1
  refine ⟨h2.1, ?_⟩
  rw [place_of h2.1, h2.2, (refill_keep hk.1).2, place_of hk.1]
theorem settle_same {s : ByteArray} {c d : Ca} (hc : caOk s c) (hd : caOk s d) (h : placeOf s c = placeOf s d) : settleOf s c = settleOf s d := by
  rw [place_of hc, place_of hd] at h
  unfold settleOf; rw [if_pos hc, if_pos hd, h]
theorem tk_vals {s : ByteArray} {c : Ca} {n : Int} (h : tkOk s c n) : tkV s c n = rbV s (placeOf s c) n ∧ peekV s c n = tkV s c n := by
  have hk := (tk_yes h).1
  have hr := (tk_iff hk).1 h
  rw [← place_of hk.1] at hr
  refine ⟨?_, by unfold tkV; rw [if_pos h]⟩
  rw [(tk_yes h).2.2]; unfold rbV; rw [if_pos hr, place_of hk.1]
theorem tk_rb {s : ByteArray} {c : Ca} {n : Int} (hk : okN s c n) : tkOk s c n ↔ rbOk s (placeOf s c) n := by
  rw [tk_iff hk, place_of hk.1]

set_option maxRecDepth 4000 in
/-- laws.FnCaches -/
theorem l_fnCaches (p : Option Addr) (xs : List Int) (c : Nat) (B : Nat) (w : World) (hp : Sl w p xs.length c 1 (bc xs)) (hr : ∀ x ∈ xs, 0 ≤ x ∧ x ≤ 255) (hpB : Bl p xs.length B) (hB : B ≤ w.heap.size) :
    Calls Try.prog 9 [.slice p xs.length c].toArray w (Ret w (.bool true)) := by
  have L : Exm [] w w := Exm.rfl'
  refine enter (n := 190) Try.func9 rfl rfl rfl ?_
  refine wp_seq ?_
  refine c_reg ?_
  refine s0 (x_assign (v := .bool _) rfl) ?_
  refine c_end ?_
  refine n_then ?_
  refine wp_seq ?_
  refine wp_seq ?_
  refine c_reg ?_
  refine s0 (x_move (v := .slice _ _ _) rfl) ?_
  refine srb (zcall cl34 rfl) (l_big _ _ _ _) (fun h21 w1 l2 => ?_) (fun h21 w1 l2 => ?_)
  · have z_l2 := l2.size
    have L := L.tr l2.up
    refine c_end ?_
    refine n_then ?_
    refine c_true rfl ?_
    refine wp_seq ?_
    refine c_reg ?_
    refine s0 (x_assign (v := .bool _) rfl) ?_
    refine c_end ?_
    refine n_then ?_
    refine wp_ret (r_then ?_)
    refine f_ret rfl rfl ?_
    exact ⟨rfl, L⟩
  · have z_l2 := l2.size
    have L := L.tr l2.up
    refine c_end ?_
    refine n_then ?_
    refine c_false rfl ?_
    refine c_skipn ?_
    refine n_then ?_
    refine wp_seq ?_
    have hl : xs.length ≤ 1048576 := by omega
    refine c_reg ?_
    refine s0 (x_move (v := .slice _ _ _) rfl) ?_
    refine sp (zcall cl35 rfl) (s_drawTakeBits _ _ _ _ _ (hp.ext L) hr hpB (by omega) (by omega)) ?_
    rintro v24 w3 l4 ⟨s24, c24, n24, rfl, hx24⟩
    have z_l4 := l4.size
    have L := L.tr l4.up
    refine s0 (x_move (v := .tuple _) rfl) ?_
    refine s0 (x_extract rfl rfl) ?_
    refine s0 (x_extract rfl rfl) ?_
    refine s_alloc zr26 ?_
    intro b5 w6 lob5 hib5 l7 B5
    have z_l7 := l7.size
    have L := L.tr l7.up
    refine s_storeAg rfl sz26 rfl rfl B5 rfl rfl rfl ?_
    intro w8 l9 el9 B5
    have z_l9 := l9.size
    have L := L.fresh l9 (by omega)
    refine s0 (x_assign (v := .int _ _) rfl) ?_
    refine c_end ?_
    refine n_then ?_
    refine wp_seq ?_
    refine c_reg ?_
    refine st (x_loadAgB ag26 rfl B5 rfl) ?_
    refine s0 (x_move (v := .int _ _) rfl) ?_
    refine sr (zcall cl36 rfl) (i_takeBits _ _ _ _ (by omega)) ?_
    intro w10 l11
    have z_l11 := l11.size
    have L := L.tr l11.up
    have B5 := B5.ext l11
    refine s0 (x_move (v := .tuple _) rfl) ?_
    refine s0 (x_extract rfl rfl) ?_
    refine s0 (x_extract rfl rfl) ?_
    refine sb (x_extract rfl rfl) (fun h33 => ?_) (fun h33 => ?_)
    · refine s_alloc zr26 ?_
      intro b12 w13 lob12 hib12 l14 B12
      have z_l14 := l14.size
      have L := L.tr l14.up
      have B5 := B5.ext l14
      refine s_storeAg rfl sz26 rfl rfl B12 rfl rfl rfl ?_
      intro w15 l16 el16 B12
      have z_l16 := l16.size
      have L := L.fresh l16 (by omega)
      have B5 := B5.ne l16 (by omega)
      refine s0 (x_assign (v := .int _ _) rfl) ?_
      refine s0 (x_assign (v := .bool _) rfl) ?_
      refine c_end ?_
      refine n_then ?_
      refine wp_seq ?_
      refine wp_seq ?_
      refine c_reg ?_
      refine st (x_loadAgB ag26 rfl B5 rfl) ?_
      refine srb (zcall cl17 rfl) (s_cacheOk _ _ _ _ _ (by omega)) (fun h35 w17 l18 => ?_) (fun h35 w17 l18 => ?_)
      · have z_l18 := l18.size
        have L := L.tr l18.up
        have B5 := B5.ext l18
        have B12 := B12.ext l18
        refine s0 (x_not rfl) ?_
        refine c_end ?_
        refine n_then ?_
        refine c_false rfl ?_
        refine c_skipn ?_
        refine n_then ?_
        refine wp_seq ?_
        have hpl := place_of h35
        have hin := place_in h35
        refine c_reg ?_
        refine st (x_loadAgB ag26 rfl B5 rfl) ?_
        refine sr (zcall cl21 rfl) (i_place _ _ _ (by omega)) ?_
        intro w19 l20
        have z_l20 := l20.size
        have L := L.tr l20.up
        have B5 := B5.ext l20
        have B12 := B12.ext l20
        refine s0 (x_assign (v := .int _ _) rfl) ?_
        refine c_end ?_
        refine n_then ?_
        refine wp_seq ?_
        refine c_reg ?_
        refine s0 (x_fieldAddr fa26_0 rfl) ?_
        refine st (x_loadB sc9 rfl B5 rfl) ?_
        refine s0 (x_move (v := .int _ _) rfl) ?_
        refine s0 (x_build (cs := [.string _, .int _ _]) bd33 (pts_cons (v := .string _) rfl (pts_cons (v := .int _ _) rfl pts_nil)) rfl) ?_
        refine s_alloc zr33 ?_
        intro b21 w22 lob21 hib21 l23 B21
        have z_l23 := l23.size
        have L := L.tr l23.up
        have B5 := B5.ext l23
        have B12 := B12.ext l23
        refine s_storeAg rfl sz33 rfl rfl B21 rfl rfl rfl ?_
        intro w24 l25 el25 B21
        have z_l25 := l25.size
        have L := L.fresh l25 (by omega)
        have B5 := B5.ne l25 (by omega)
        have B12 := B12.ne l25 (by omega)
        refine c_end ?_
        refine n_then ?_
        refine wp_seq ?_
        refine c_reg ?_
        refine st (x_loadAgB ag33 rfl B21 rfl) ?_
        refine s0 (x_move (v := .int _ _) rfl) ?_
        refine sr (zcall cl23 rfl) (s_readBits _ _ _ _ (by omega)) ?_
        intro w26 l27
        have z_l27 := l27.size
        have L := L.tr l27.up
        have B5 := B5.ext l27
        have B12 := B12.ext l27
        have B21 := B21.ext l27
        refine s0 (x_move (v := .tuple _) rfl) ?_
        refine s0 (x_extract rfl rfl) ?_
        refine s0 (x_extract rfl rfl) ?_
        refine s0 (x_extract rfl rfl) ?_
        refine s_alloc zr33 ?_
        intro b28 w29 lob28 hib28 l30 B28
        have z_l30 := l30.size
        have L := L.tr l30.up
        have B5 := B5.ext l30
        have B12 := B12.ext l30
        have B21 := B21.ext l30
        refine s_storeAg rfl sz33 rfl rfl B28 rfl rfl rfl ?_
        intro w31 l32 el32 B28
        have z_l32 := l32.size
        have L := L.fresh l32 (by omega)
        have B5 := B5.ne l32 (by omega)
        have B12 := B12.ne l32 (by omega)
        have B21 := B21.ne l32 (by omega)
        refine s0 (x_assign (v := .int _ _) rfl) ?_
        refine s0 (x_assign (v := .bool _) rfl) ?_
        refine c_end ?_
        refine n_then ?_
        refine wp_seq ?_
        refine wp_seq ?_
        refine c_reg ?_
        refine s0 (x_move (v := .int _ _) rfl) ?_
        refine sb (x_lss rfl rfl) (fun h63 => ?_) (fun h63 => ?_)
        · exact absurd (tk_yes h33).1.2 (by omega)
        · refine s0 (x_move (v := .bool _) rfl) ?_
          refine gt rfl rfl rfl rfl ?_
          refine s0 (x_move (v := .int _ _) rfl) ?_
          refine gt rfl rfl rfl rfl ?_
          refine sb (x_gtr rfl rfl) (fun h66 => ?_) (fun h66 => ?_)
          · exact absurd (tk_yes h33).1.2 (by omega)
          · refine s0 (x_pickf (v := .bool _) rfl rfl) ?_
            refine c_end ?_
            refine n_then ?_
            refine c_false rfl ?_
            refine c_skipn ?_
            refine n_then ?_
            refine wp_seq ?_
            have hk : okN s24 c24 n24 := ⟨h35, by omega, by omega⟩
            have htr := tk_rb hk
            refine c_reg ?_
            refine st (x_loadAgB ag26 rfl B5 rfl) ?_
            refine s0 (x_move (v := .int _ _) rfl) ?_
            refine sr (zcall cl37 rfl) (i_peek _ _ _ _ (by omega)) ?_
            intro w33 l34
            have z_l34 := l34.size
            have L := L.tr l34.up
            have B5 := B5.ext l34
            have B12 := B12.ext l34
            have B21 := B21.ext l34
            have B28 := B28.ext l34
            refine s0 (x_move (v := .tuple _) rfl) ?_
            refine s0 (x_extract rfl rfl) ?_
            refine s0 (x_extract rfl rfl) ?_
            refine s_alloc zr26 ?_
            intro b35 w36 lob35 hib35 l37 B35
            have z_l37 := l37.size
            have L := L.tr l37.up
            have B5 := B5.ext l37
            have B12 := B12.ext l37
            have B21 := B21.ext l37
            have B28 := B28.ext l37
            refine s_storeAg rfl sz26 rfl rfl B35 rfl rfl rfl ?_
            intro w38 l39 el39 B35
            have z_l39 := l39.size
            have L := L.fresh l39 (by omega)
            have B5 := B5.ne l39 (by omega)
            have B12 := B12.ne l39 (by omega)
            have B21 := B21.ne l39 (by omega)
            have B28 := B28.ne l39 (by omega)
            refine s0 (x_assign (v := .int _ _) rfl) ?_
            refine c_end ?_
            refine n_then ?_
            refine wp_seq ?_
            refine c_reg ?_
            refine st (x_loadAgB ag26 rfl B5 rfl) ?_
            refine sr (zcall cl30 rfl) (i_refill _ _ _ (by omega)) ?_
            intro w40 l41
            have z_l41 := l41.size
            have L := L.tr l41.up
            have B5 := B5.ext l41
            have B12 := B12.ext l41
            have B21 := B21.ext l41
            have B28 := B28.ext l41
            have B35 := B35.ext l41
            refine s_alloc zr26 ?_
            intro b42 w43 lob42 hib42 l44 B42
            have z_l44 := l44.size
            have L := L.tr l44.up
            have B5 := B5.ext l44
            have B12 := B12.ext l44
            have B21 := B21.ext l44
            have B28 := B28.ext l44
            have B35 := B35.ext l44
            refine s_storeAg rfl sz26 rfl rfl B42 rfl rfl rfl ?_
            intro w45 l46 el46 B42
            have z_l46 := l46.size
            have L := L.fresh l46 (by omega)
            have B5 := B5.ne l46 (by omega)
            have B12 := B12.ne l46 (by omega)
            have B21 := B21.ne l46 (by omega)
            have B28 := B28.ne l46 (by omega)
            have B35 := B35.ne l46 (by omega)
            refine c_end ?_
            refine n_then ?_
            refine wp_seq ?_
            refine c_reg ?_
            refine st (x_loadAgB ag26 rfl B5 rfl) ?_
            refine sr (zcall cl33 rfl) (i_settle _ _ _ (by omega)) ?_
            intro w47 l48
            have z_l48 := l48.size
            have L := L.tr l48.up
            have B5 := B5.ext l48
            have B12 := B12.ext l48
            have B21 := B21.ext l48
            have B28 := B28.ext l48
            have B35 := B35.ext l48
            have B42 := B42.ext l48
            refine s0 (x_move (v := .int _ _) rfl) ?_
            refine sr (zcall cl37 rfl) (i_peek _ _ _ _ (by omega)) ?_
            intro w49 l50
            have z_l50 := l50.size
            have L := L.tr l50.up
            have B5 := B5.ext l50
            have B12 := B12.ext l50
            have B21 := B21.ext l50
            have B28 := B28.ext l50
            have B35 := B35.ext l50
            have B42 := B42.ext l50
            refine s0 (x_move (v := .tuple _) rfl) ?_
            refine s0 (x_extract rfl rfl) ?_
            refine s0 (x_extract rfl rfl) ?_
            refine s_alloc zr26 ?_
            intro b51 w52 lob51 hib51 l53 B51
            have z_l53 := l53.size
            have L := L.tr l53.up
            have B5 := B5.ext l53
            have B12 := B12.ext l53
            have B21 := B21.ext l53
            have B28 := B28.ext l53
            have B35 := B35.ext l53
            have B42 := B42.ext l53
            refine s_storeAg rfl sz26 rfl rfl B51 rfl rfl rfl ?_
            intro w54 l55 el55 B51
            have z_l55 := l55.size
            have L := L.fresh l55 (by omega)
            have B5 := B5.ne l55 (by omega)
            have B12 := B12.ne l55 (by omega)
            have B21 := B21.ne l55 (by omega)
            have B28 := B28.ne l55 (by omega)
            have B35 := B35.ne l55 (by omega)
            have B42 := B42.ne l55 (by omega)
            refine s0 (x_assign (v := .int _ _) rfl) ?_
            refine c_end ?_
            refine n_then ?_
            refine wp_seq ?_
            refine wp_seq ?_
            refine c_reg ?_
            refine s0 (x_move (v := .bool _) rfl) ?_
            refine s0 (x_move (v := .bool _) rfl) ?_
            refine sb (x_neqb un4 rfl rfl) (fun h92 => ?_) (fun h92 => ?_)
            · exact absurd (by simp [htr.1 h33]) h92
            · refine s0 (x_move (v := .bool _) rfl) ?_
              refine gt rfl rfl rfl rfl ?_
              refine s0 (x_move (v := .bool _) rfl) ?_
              refine gt rfl rfl rfl rfl ?_
              refine s0 (x_move (v := .bool _) rfl) ?_
              refine gt rfl rfl rfl rfl ?_
              refine s0 (x_move (v := .int _ _) rfl) ?_
              refine gt rfl rfl rfl rfl ?_
              refine s0 (x_move (v := .int _ _) rfl) ?_
              refine gt rfl rfl rfl rfl ?_
              refine sb (x_neq rfl rfl) (fun h98 => ?_) (fun h98 => ?_)
              · exact absurd (tk_vals h33).1 h98
              · refine gt rfl rfl rfl rfl ?_
                refine s0 (x_move (v := .bool _) rfl) ?_
                refine gt rfl rfl rfl rfl ?_
                refine s0 (x_move (v := .int _ _) rfl) ?_
                refine gt rfl rfl rfl rfl ?_
                refine s0 (x_move (v := .int _ _) rfl) ?_
                refine gt rfl rfl rfl rfl ?_
                refine sb (x_neq rfl rfl) (fun h102 => ?_) (fun h102 => ?_)
                · exact absurd (tk_vals h33).2 h102
                · refine gt rfl rfl rfl rfl ?_
                  refine s0 (x_pickf (v := .bool _) rfl rfl) ?_
                  refine gt rfl rfl rfl rfl ?_
                  refine s0 (x_move (v := .bool _) rfl) ?_
                  refine gt rfl rfl rfl rfl ?_
                  refine st (x_loadAgB ag26 rfl B12 rfl) ?_
                  refine gt rfl rfl rfl rfl ?_
                  refine sr (zcall cl21 rfl) (i_place _ _ _ (by omega)) ?_
                  intro w56 l57
                  have z_l57 := l57.size
                  have L := L.tr l57.up
                  have B5 := B5.ext l57
                  have B12 := B12.ext l57
                  have B21 := B21.ext l57
                  have B28 := B28.ext l57
                  have B35 := B35.ext l57
                  have B42 := B42.ext l57
                  have B51 := B51.ext l57
                  refine gt rfl rfl rfl rfl ?_
                  refine s0 (x_move (v := .int _ _) rfl) ?_
                  refine gt rfl rfl rfl rfl ?_
                  refine s0 (x_move (v := .int _ _) rfl) ?_
                  refine gt rfl rfl rfl rfl ?_
                  refine s0 (x_add rfl rfl (by omega)) ?_
                  refine gt rfl rfl rfl rfl ?_
                  refine sb (x_neq rfl rfl) (fun h110 => ?_) (fun h110 => ?_)
                  · exact absurd (place_tk hk h33) h110
                  · refine gt rfl rfl rfl rfl ?_
                    refine s0 (x_pickf (v := .bool _) rfl rfl) ?_
                    refine gt rfl rfl rfl rfl ?_
                    refine s0 (x_pickt (v := .bool _) rfl rfl) ?_
                    refine s0 (x_pickf (v := .bool _) rfl rfl) ?_
                    refine s0 (x_move (v := .bool _) rfl) ?_
                    refine gt rfl rfl rfl rfl ?_
                    refine st (x_loadAgB ag26 rfl B35 rfl) ?_
                    refine gt rfl rfl rfl rfl ?_
                    refine sr (zcall cl21 rfl) (i_place _ _ _ (by omega)) ?_
                    intro w58 l59
                    have z_l59 := l59.size
                    have L := L.tr l59.up
                    have B5 := B5.ext l59
                    have B12 := B12.ext l59
                    have B21 := B21.ext l59
                    have B28 := B28.ext l59
                    have B35 := B35.ext l59
                    have B42 := B42.ext l59
                    have B51 := B51.ext l59
                    refine gt rfl rfl rfl rfl ?_
                    refine s0 (x_move (v := .int _ _) rfl) ?_
                    refine gt rfl rfl rfl rfl ?_
                    refine sb (x_neq rfl rfl) (fun h118 => ?_) (fun h118 => ?_)
                    · exact absurd (peek_keep hk).2 h118
                    · refine s0 (x_pickf (v := .bool _) rfl rfl) ?_
                      refine s0 (x_move (v := .bool _) rfl) ?_
                      refine gt rfl rfl rfl rfl ?_
                      refine st (x_loadAgB ag26 rfl B42 rfl) ?_
                      refine gt rfl rfl rfl rfl ?_
                      refine sr (zcall cl21 rfl) (i_place _ _ _ (by omega)) ?_
                      intro w60 l61
                      have z_l61 := l61.size
                      have L := L.tr l61.up
                      have B5 := B5.ext l61
                      have B12 := B12.ext l61
                      have B21 := B21.ext l61
                      have B28 := B28.ext l61
                      have B35 := B35.ext l61
                      have B42 := B42.ext l61
                      have B51 := B51.ext l61
                      refine gt rfl rfl rfl rfl ?_
                      refine s0 (x_move (v := .int _ _) rfl) ?_
                      refine gt rfl rfl rfl rfl ?_
                      refine sb (x_neq rfl rfl) (fun h124 => ?_) (fun h124 => ?_)
                      · exact absurd (place_refill h35) h124
                      · refine s0 (x_pickf (v := .bool _) rfl rfl) ?_
                        refine s0 (x_move (v := .bool _) rfl) ?_
                        refine gt rfl rfl rfl rfl ?_
                        refine st (x_loadAgB ag26 rfl B51 rfl) ?_
                        refine gt rfl rfl rfl rfl ?_
                        refine sr (zcall cl21 rfl) (i_place _ _ _ (by omega)) ?_
                        intro w62 l63
                        have z_l63 := l63.size
                        have L := L.tr l63.up
                        have B5 := B5.ext l63
                        have B12 := B12.ext l63
                        have B21 := B21.ext l63
                        have B28 := B28.ext l63
                        have B35 := B35.ext l63
                        have B42 := B42.ext l63
                        have B51 := B51.ext l63
                        refine gt rfl rfl rfl rfl ?_
                        refine s0 (x_move (v := .int _ _) rfl) ?_
                        refine gt rfl rfl rfl rfl ?_
                        refine sb (x_neq rfl rfl) (fun h130 => ?_) (fun h130 => ?_)
                        · exact absurd ((peek_keep ⟨(settle_ok h35).1, hk.2⟩).2.trans (settle_ok h35).2.1) h130
                        · refine s0 (x_pickf (v := .bool _) rfl rfl) ?_
                          refine s0 (x_move (v := .bool _) rfl) ?_
                          refine gt rfl rfl rfl rfl ?_
                          refine st (x_loadAgB ag26 rfl B12 rfl) ?_
                          refine gt rfl rfl rfl rfl ?_
                          refine srb (zcall cl19 rfl) (i_cacheOk _ _ _ _ _ (by omega)) (fun h134 w64 l65 => ?_) (fun h134 w64 l65 => ?_)
                          · have z_l65 := l65.size
                            have L := L.tr l65.up
                            have B5 := B5.ext l65
                            have B12 := B12.ext l65
                            have B21 := B21.ext l65
                            have B28 := B28.ext l65
                            have B35 := B35.ext l65
                            have B42 := B42.ext l65
                            have B51 := B51.ext l65
                            refine gt rfl rfl rfl rfl ?_
                            refine s0 (x_not rfl) ?_
                            refine s0 (x_pickf (v := .bool _) rfl rfl) ?_
                            refine s0 (x_move (v := .bool _) rfl) ?_
                            refine gt rfl rfl rfl rfl ?_
                            refine st (x_loadAgB ag26 rfl B42 rfl) ?_
                            refine gt rfl rfl rfl rfl ?_
                            refine srb (zcall cl19 rfl) (i_cacheOk _ _ _ _ _ (by omega)) (fun h139 w66 l67 => ?_) (fun h139 w66 l67 => ?_)
                            · have z_l67 := l67.size
                              have L := L.tr l67.up
                              have B5 := B5.ext l67
                              have B12 := B12.ext l67
                              have B21 := B21.ext l67
                              have B28 := B28.ext l67
                              have B35 := B35.ext l67
                              have B42 := B42.ext l67
                              have B51 := B51.ext l67
                              refine gt rfl rfl rfl rfl ?_
                              refine s0 (x_not rfl) ?_
                              refine s0 (x_pickf (v := .bool _) rfl rfl) ?_
                              refine c_end ?_
                              refine n_then ?_
                              refine c_false rfl ?_
                              refine c_skipn ?_
                              refine n_then ?_
                              refine wp_seq ?_
                              refine c_reg ?_
                              refine st (x_loadAgB ag26 rfl B42 rfl) ?_
                              refine s0 (x_move (v := .int _ _) rfl) ?_
                              refine sr (zcall cl38 rfl) (i_skip _ _ _ _ (by omega)) ?_
                              intro w68 l69
                              have z_l69 := l69.size
                              have L := L.tr l69.up
                              have B5 := B5.ext l69
                              have B12 := B12.ext l69
                              have B21 := B21.ext l69
                              have B28 := B28.ext l69
                              have B35 := B35.ext l69
                              have B42 := B42.ext l69
                              have B51 := B51.ext l69
                              refine s0 (x_move (v := .tuple _) rfl) ?_
                              refine s0 (x_extract rfl rfl) ?_
                              refine s0 (x_extract rfl rfl) ?_
                              refine s_alloc zr26 ?_
                              intro b70 w71 lob70 hib70 l72 B70
                              have z_l72 := l72.size
                              have L := L.tr l72.up
                              have B5 := B5.ext l72
                              have B12 := B12.ext l72
                              have B21 := B21.ext l72
                              have B28 := B28.ext l72
                              have B35 := B35.ext l72
                              have B42 := B42.ext l72
                              have B51 := B51.ext l72
                              refine s_storeAg rfl sz26 rfl rfl B70 rfl rfl rfl ?_
                              intro w73 l74 el74 B70
                              have z_l74 := l74.size
                              have L := L.fresh l74 (by omega)
                              have B5 := B5.ne l74 (by omega)
                              have B12 := B12.ne l74 (by omega)
                              have B21 := B21.ne l74 (by omega)
                              have B28 := B28.ne l74 (by omega)
                              have B35 := B35.ne l74 (by omega)
                              have B42 := B42.ne l74 (by omega)
                              have B51 := B51.ne l74 (by omega)
                              refine s0 (x_assign (v := .bool _) rfl) ?_
                              refine c_end ?_
                              refine n_then ?_
                              refine wp_seq ?_
                              refine c_plan (fun wq => Exm [] w73 wq) 43 [(0, 2), (1, 2), (2, 2), (3, 2), (4, 2), (5, 2), (6, 2), (7, 1), (9, 2), (10, 2), (11, 2), (8, 0), (12, 2), (13, 2), (14, 1), (16, 1), (15, 0), (17, 0), (18, 2), (19, 2), (20, 2), (21, 2), (22, 2), (23, 1), (24, 0), (25, 0), (26, 2), (27, 2), (28, 1), (29, 0), (30, 2), (31, 2), (32, 2), (33, 2), (34, 2), (35, 1), (38, 2), (39, 1), (36, 0), (37, 2), (40, 2), (41, 2), (42, 2)] (by kernel_rfl) (by kernel_rfl) (Exm.drew _) ?_
                              obtain ⟨w75, hwd⟩ : ∃ x, x = w73.drew := ⟨_, rfl⟩
                              have l76 : Ext w73 w75 := by rw [hwd]; exact Exm.drew _
                              rw [← hwd]; clear hwd
                              have Lq : Exm [] w73 w75 := l76.up
                              have qB5 := B5
                              have qB12 := B12
                              have qB21 := B21
                              have qB28 := B28
                              have qB35 := B35
                              have qB42 := B42
                              have qB51 := B51
                              have qB70 := B70
                              have qL := L
                              have z_l76 := l76.size
                              have L := L.tr l76.up
                              have B5 := B5.ext l76
                              have B12 := B12.ext l76
                              have B21 := B21.ext l76
                              have B28 := B28.ext l76
                              have B35 := B35.ext l76
                              have B42 := B42.ext l76
                              have B51 := B51.ext l76
                              have B70 := B70.ext l76
                              refine p0 rfl (x_move (v := .bool _) rfl) ?_
                              refine p0 rfl (x_move (v := .bool _) rfl) ?_
                              refine pb rfl (x_eqlb un4 rfl rfl) (fun h150 => ?_) (fun h150 => ?_)
                              · refine p0 rfl (x_move (v := .bool _) rfl) ?_
                                refine p0g rfl rfl rfl rfl rfl (x_move (v := .bool _) rfl) ?_
                                refine p0g rfl rfl rfl rfl rfl (x_not rfl) ?_
                                refine p0g rfl rfl rfl rfl rfl (x_move (v := .bool _) rfl) ?_
                                refine psg rfl rfl rfl rfl rfl (fun wq hwq => x_loadAgB ag26 rfl (qB70.ext hwq) rfl) ?_
                                refine p0g rfl rfl rfl rfl rfl (x_move (v := .int _ _) rfl) ?_
                                refine p0g rfl rfl rfl rfl rfl (x_move (v := .int _ _) rfl) ?_
                                refine p0g rfl rfl rfl rfl rfl (x_add rfl rfl (by omega)) ?_
                                refine pu rfl ?_ (by rintro ⟨_, _, h, _⟩; cases h)
                                refine gt rfl rfl rfl rfl ?_
                                refine sr (zcall cl21 rfl) (i_place _ _ _ (by omega)) ?_
                                intro w77 l78
                                have z_l78 := l78.size
                                have L := L.tr l78.up
                                have Lq := Lq.tr l78.up
                                have B5 := B5.ext l78
                                have B12 := B12.ext l78
                                have B21 := B21.ext l78
                                have B28 := B28.ext l78
                                have B35 := B35.ext l78
                                have B42 := B42.ext l78
                                have B51 := B51.ext l78
                                have B70 := B70.ext l78
                                refine c_end ⟨rfl, fun h => Lq, ?_⟩
                                refine pbg rfl rfl rfl rfl rfl (x_eql rfl rfl) (fun h160 => ?_) (fun h160 => ?_)
                                · refine p0g rfl rfl rfl rfl rfl (x_move (v := .bool _) rfl) ?_
                                  refine psg rfl rfl rfl rfl rfl (fun wq hwq => x_loadAgB ag26 rfl (qB70.ext hwq) rfl) ?_
                                  refine psg rfl rfl rfl rfl rfl (fun wq hwq => x_loadAgB ag26 rfl (qB12.ext hwq) rfl) ?_
                                  refine pu rfl ?_ (by rintro ⟨_, _, h, _⟩; cases h)
                                  refine gt rfl rfl rfl rfl ?_
                                  refine sr (zcall cl33 rfl) (i_settle _ _ _ (by omega)) ?_
                                  intro w79 l80
                                  have z_l80 := l80.size
                                  have L := L.tr l80.up
                                  have Lq := Lq.tr l80.up
                                  have B5 := B5.ext l80
                                  have B12 := B12.ext l80
                                  have B21 := B21.ext l80
                                  have B28 := B28.ext l80
                                  have B35 := B35.ext l80
                                  have B42 := B42.ext l80
                                  have B51 := B51.ext l80
                                  have B70 := B70.ext l80
                                  refine c_end ⟨rfl, fun h => Lq, ?_⟩
                                  refine pu rfl ?_ (by rintro ⟨_, _, h, _⟩; cases h)
                                  refine gt rfl rfl rfl rfl ?_
                                  refine sr (zcall cl33 rfl) (i_settle _ _ _ (by omega)) ?_
                                  intro w81 l82
                                  have z_l82 := l82.size
                                  have L := L.tr l82.up
                                  have Lq := Lq.tr l82.up
                                  have B5 := B5.ext l82
                                  have B12 := B12.ext l82
                                  have B21 := B21.ext l82
                                  have B28 := B28.ext l82
                                  have B35 := B35.ext l82
                                  have B42 := B42.ext l82
                                  have B51 := B51.ext l82
                                  have B70 := B70.ext l82
                                  refine c_end ⟨rfl, fun h => Lq, ?_⟩
                                  refine pbg rfl rfl rfl rfl rfl (x_eqla fe26 rfl rfl) (fun h166 => ?_) (fun h166 => ?_)
                                  · refine p0g rfl rfl rfl rfl rfl (x_pickt (v := .bool _) rfl rfl) ?_
                                    refine p0g rfl rfl rfl rfl rfl (x_pickf (v := .bool _) rfl rfl) ?_
                                    refine p0 rfl (x_pickt (v := .bool _) rfl rfl) ?_
                                    refine p0 rfl (x_move (v := .bool _) rfl) ?_
                                    refine psg rfl rfl rfl rfl rfl (fun wq hwq => x_loadAgB ag26 rfl (qB5.ext hwq) rfl) ?_
                                    refine pu rfl ?_ (by rintro ⟨_, _, h, _⟩; cases h)
                                    refine gt rfl rfl rfl rfl ?_
                                    refine sr (zcall cl33 rfl) (i_settle _ _ _ (by omega)) ?_
                                    intro w83 l84
                                    have z_l84 := l84.size
                                    have L := L.tr l84.up
                                    have Lq := Lq.tr l84.up
                                    have B5 := B5.ext l84
                                    have B12 := B12.ext l84
                                    have B21 := B21.ext l84
                                    have B28 := B28.ext l84
                                    have B35 := B35.ext l84
                                    have B42 := B42.ext l84
                                    have B51 := B51.ext l84
                                    have B70 := B70.ext l84
                                    refine c_end ⟨rfl, fun h => Lq, ?_⟩
                                    refine pu rfl ?_ (by rintro ⟨_, _, h, _⟩; cases h)
                                    refine gt rfl rfl rfl rfl ?_
                                    refine srb (zcall cl19 rfl) (i_cacheOk _ _ _ _ _ (by omega)) (fun h173 w85 l86 => ?_) (fun h173 w85 l86 => ?_)
                                    · have z_l86 := l86.size
                                      have L := L.tr l86.up
                                      have Lq := Lq.tr l86.up
                                      have B5 := B5.ext l86
                                      have B12 := B12.ext l86
                                      have B21 := B21.ext l86
                                      have B28 := B28.ext l86
                                      have B35 := B35.ext l86
                                      have B42 := B42.ext l86
                                      have B51 := B51.ext l86
                                      have B70 := B70.ext l86
                                      refine c_end ⟨rfl, fun h => Lq, ?_⟩
                                      refine p0 rfl (x_pickt (v := .bool _) rfl rfl) ?_
                                      refine p0 rfl (x_move (v := .bool _) rfl) ?_
                                      refine psg rfl rfl rfl rfl rfl (fun wq hwq => x_loadAgB ag26 rfl (qB5.ext hwq) rfl) ?_
                                      refine pu rfl ?_ (by rintro ⟨_, _, h, _⟩; cases h)
                                      refine gt rfl rfl rfl rfl ?_
                                      refine sr (zcall cl33 rfl) (i_settle _ _ _ (by omega)) ?_
                                      intro w87 l88
                                      have z_l88 := l88.size
                                      have L := L.tr l88.up
                                      have Lq := Lq.tr l88.up
                                      have B5 := B5.ext l88
                                      have B12 := B12.ext l88
                                      have B21 := B21.ext l88
                                      have B28 := B28.ext l88
                                      have B35 := B35.ext l88
                                      have B42 := B42.ext l88
                                      have B51 := B51.ext l88
                                      have B70 := B70.ext l88
                                      refine c_end ⟨rfl, fun h => Lq, ?_⟩
                                      refine p0g rfl rfl rfl rfl rfl (x_field (v := .int _ _) fv26_3 sc3 rfl rfl) ?_
                                      refine pbg rfl rfl rfl rfl rfl (x_lss rfl rfl) (fun h179 => ?_) (fun h179 => ?_)
                                      · refine p0 rfl (x_pickt (v := .bool _) rfl rfl) ?_
                                        refine p0 rfl (x_move (v := .bool _) rfl) ?_
                                        refine p0g rfl rfl rfl rfl rfl (x_fieldAddr fa26_0 rfl) ?_
                                        refine psg rfl rfl rfl rfl rfl (fun wq hwq => x_loadB sc9 rfl (qB5.ext hwq) rfl) ?_
                                        refine p0g rfl rfl rfl rfl rfl (x_fieldAddr fa26_0 rfl) ?_
                                        refine psg rfl rfl rfl rfl rfl (fun wq hwq => x_loadB sc9 rfl (qB5.ext hwq) rfl) ?_
                                        refine pu rfl ?_ (by rintro ⟨_, _, h, _⟩; cases h)
                                        refine gt rfl rfl rfl rfl ?_
                                        refine sr (zcall cl39 rfl) (i_cacheNew _ _) ?_
                                        intro w89 l90
                                        have z_l90 := l90.size
                                        have L := L.tr l90.up
                                        have Lq := Lq.tr l90.up
                                        have B5 := B5.ext l90
                                        have B12 := B12.ext l90
                                        have B21 := B21.ext l90
                                        have B28 := B28.ext l90
                                        have B35 := B35.ext l90
                                        have B42 := B42.ext l90
                                        have B51 := B51.ext l90
                                        have B70 := B70.ext l90
                                        refine c_end ⟨rfl, fun h => Lq, ?_⟩
                                        refine p0g rfl rfl rfl rfl rfl (x_field (v := .string _) fv26_0 sc9 rfl rfl) ?_
                                        refine p0g rfl rfl rfl rfl rfl (x_eqls rfl rfl) ?_
                                        refine p0 rfl (x_pickt (v := .bool _) rfl rfl) ?_
                                        refine p0 rfl (x_assign (v := .bool _) rfl) ?_
                                        refine p_nil (np_normal ?_)
                                        refine n_then ?_
                                        refine wp_ret ?_
                                        refine f_ret rfl rfl ?_
                                        exact ⟨ret_bt rfl, L⟩
                                      · exact absurd (settle_ok h35).2.2 h179
                                    · exact absurd (settle_ok h35).1 h173
                                  · exact (h166 (by rw [settle_same (place_sk hk h33).1 (tk_keep hk) ((place_sk hk h33).2.trans (place_tk hk h33).symm)]; simp)).elim
                                · exact absurd (place_sk hk h33).2 h160
                              · exact absurd (by simp only [sk_refill hk, h33, decide_true, decide_false]) h150
                            · exact absurd (refill_keep h35).1 h139
                          · exact absurd (tk_keep hk) h134
      · exact absurd (tk_yes h33).1.1 h35
    · refine s_alloc zr26 ?_
      intro b91 w92 lob91 hib91 l93 B91
      have z_l93 := l93.size
      have L := L.tr l93.up
      have B5 := B5.ext l93
      refine s_storeAg rfl sz26 rfl rfl B91 rfl rfl rfl ?_
      intro w94 l95 el95 B91
      have z_l95 := l95.size
      have L := L.fresh l95 (by omega)
      have B5 := B5.ne l95 (by omega)
      refine s0 (x_assign (v := .int _ _) rfl) ?_
      refine s0 (x_assign (v := .bool _) rfl) ?_
      refine c_end ?_
      refine n_then ?_
      refine wp_seq ?_
      refine wp_seq ?_
      refine c_reg ?_
      refine st (x_loadAgB ag26 rfl B5 rfl) ?_
      refine srb (zcall cl17 rfl) (s_cacheOk _ _ _ _ _ (by omega)) (fun h35 w96 l97 => ?_) (fun h35 w96 l97 => ?_)
      · have z_l97 := l97.size
        have L := L.tr l97.up
        have B5 := B5.ext l97
        have B91 := B91.ext l97
        refine s0 (x_not rfl) ?_
        refine c_end ?_
        refine n_then ?_
        refine c_false rfl ?_
        refine c_skipn ?_
        refine n_then ?_
        refine wp_seq ?_
        have hpl := place_of h35
        have hin := place_in h35
        refine c_reg ?_
        refine st (x_loadAgB ag26 rfl B5 rfl) ?_
        refine sr (zcall cl21 rfl) (i_place _ _ _ (by omega)) ?_
        intro w98 l99
        have z_l99 := l99.size
        have L := L.tr l99.up
        have B5 := B5.ext l99
        have B91 := B91.ext l99
        refine s0 (x_assign (v := .int _ _) rfl) ?_
        refine c_end ?_
        refine n_then ?_
        refine wp_seq ?_
        refine c_reg ?_
        refine s0 (x_fieldAddr fa26_0 rfl) ?_
        refine st (x_loadB sc9 rfl B5 rfl) ?_
        refine s0 (x_move (v := .int _ _) rfl) ?_
        refine s0 (x_build (cs := [.string _, .int _ _]) bd33 (pts_cons (v := .string _) rfl (pts_cons (v := .int _ _) rfl pts_nil)) rfl) ?_
        refine s_alloc zr33 ?_
        intro b100 w101 lob100 hib100 l102 B100
        have z_l102 := l102.size
        have L := L.tr l102.up
        have B5 := B5.ext l102
        have B91 := B91.ext l102
        refine s_storeAg rfl sz33 rfl rfl B100 rfl rfl rfl ?_
        intro w103 l104 el104 B100
        have z_l104 := l104.size
        have L := L.fresh l104 (by omega)
        have B5 := B5.ne l104 (by omega)
        have B91 := B91.ne l104 (by omega)
        refine c_end ?_
        refine n_then ?_
        refine wp_seq ?_
        refine c_reg ?_
        refine st (x_loadAgB ag33 rfl B100 rfl) ?_
        refine s0 (x_move (v := .int _ _) rfl) ?_
        refine sr (zcall cl23 rfl) (s_readBits _ _ _ _ (by omega)) ?_
        intro w105 l106
        have z_l106 := l106.size
        have L := L.tr l106.up
        have B5 := B5.ext l106
        have B91 := B91.ext l106
        have B100 := B100.ext l106
        refine s0 (x_move (v := .tuple _) rfl) ?_
        refine s0 (x_extract rfl rfl) ?_
        refine s0 (x_extract rfl rfl) ?_
        refine s0 (x_extract rfl rfl) ?_
        refine s_alloc zr33 ?_
        intro b107 w108 lob107 hib107 l109 B107
        have z_l109 := l109.size
        have L := L.tr l109.up
        have B5 := B5.ext l109
        have B91 := B91.ext l109
        have B100 := B100.ext l109
        refine s_storeAg rfl sz33 rfl rfl B107 rfl rfl rfl ?_
        intro w110 l111 el111 B107
        have z_l111 := l111.size
        have L := L.fresh l111 (by omega)
        have B5 := B5.ne l111 (by omega)
        have B91 := B91.ne l111 (by omega)
        have B100 := B100.ne l111 (by omega)
        refine s0 (x_assign (v := .int _ _) rfl) ?_
        refine s0 (x_assign (v := .bool _) rfl) ?_
        refine c_end ?_
        refine n_then ?_
        refine wp_seq ?_
        refine wp_seq ?_
        refine c_reg ?_
        refine s0 (x_move (v := .int _ _) rfl) ?_
        refine sb (x_lss rfl rfl) (fun h63 => ?_) (fun h63 => ?_)
        · refine s0 (x_move (v := .bool _) rfl) ?_
          refine gf rfl rfl rfl rfl ?_
          refine gf rfl rfl rfl rfl ?_
          refine s0 (x_pickt (v := .bool _) rfl rfl) ?_
          refine c_end ?_
          refine n_then ?_
          refine c_true rfl ?_
          refine wp_seq ?_
          refine c_reg ?_
          refine s0 (x_move (v := .bool _) rfl) ?_
          refine s0 (x_not rfl) ?_
          refine s0 (x_move (v := .bool _) rfl) ?_
          refine gt rfl rfl rfl rfl ?_
          refine st (x_loadAgB ag26 rfl B91 rfl) ?_
          refine gt rfl rfl rfl rfl ?_
          refine st (x_loadAgB ag26 rfl B5 rfl) ?_
          refine gt rfl rfl rfl rfl ?_
          refine s0 (x_eqla fe26 rfl rfl) ?_
          refine s0 (x_pickt (v := .bool _) rfl rfl) ?_
          refine s0 (x_assign (v := .bool _) rfl) ?_
          refine c_end ?_
          refine n_then ?_
          refine wp_ret (r_then ?_)
          refine f_ret rfl rfl ?_
          exact ⟨ret_bt (by rw [(tk_no (fun h => by have := h.2; omega)).2]; simp), L⟩
        · refine s0 (x_move (v := .bool _) rfl) ?_
          refine gt rfl rfl rfl rfl ?_
          refine s0 (x_move (v := .int _ _) rfl) ?_
          refine gt rfl rfl rfl rfl ?_
          refine sb (x_gtr rfl rfl) (fun h66 => ?_) (fun h66 => ?_)
          · refine s0 (x_pickf (v := .bool _) rfl rfl) ?_
            refine c_end ?_
            refine n_then ?_
            refine c_true rfl ?_
            refine wp_seq ?_
            refine c_reg ?_
            refine s0 (x_move (v := .bool _) rfl) ?_
            refine s0 (x_not rfl) ?_
            refine s0 (x_move (v := .bool _) rfl) ?_
            refine gt rfl rfl rfl rfl ?_
            refine st (x_loadAgB ag26 rfl B91 rfl) ?_
            refine gt rfl rfl rfl rfl ?_
            refine st (x_loadAgB ag26 rfl B5 rfl) ?_
            refine gt rfl rfl rfl rfl ?_
            refine s0 (x_eqla fe26 rfl rfl) ?_
            refine s0 (x_pickt (v := .bool _) rfl rfl) ?_
            refine s0 (x_assign (v := .bool _) rfl) ?_
            refine c_end ?_
            refine n_then ?_
            refine wp_ret (r_then ?_)
            refine f_ret rfl rfl ?_
            exact ⟨ret_bt (by rw [(tk_no (fun h => by have := h.2; omega)).2]; simp), L⟩
          · refine s0 (x_pickf (v := .bool _) rfl rfl) ?_
            refine c_end ?_
            refine n_then ?_
            refine c_false rfl ?_
            refine c_skipn ?_
            refine n_then ?_
            refine wp_seq ?_
            have hk : okN s24 c24 n24 := ⟨h35, by omega, by omega⟩
            have htr := tk_rb hk
            refine c_reg ?_
            refine st (x_loadAgB ag26 rfl B5 rfl) ?_
            refine s0 (x_move (v := .int _ _) rfl) ?_
            refine sr (zcall cl37 rfl) (i_peek _ _ _ _ (by omega)) ?_
            intro w112 l113
            have z_l113 := l113.size
            have L := L.tr l113.up
            have B5 := B5.ext l113
            have B91 := B91.ext l113
            have B100 := B100.ext l113
            have B107 := B107.ext l113
            refine s0 (x_move (v := .tuple _) rfl) ?_
            refine s0 (x_extract rfl rfl) ?_
            refine s0 (x_extract rfl rfl) ?_
            refine s_alloc zr26 ?_
            intro b114 w115 lob114 hib114 l116 B114
            have z_l116 := l116.size
            have L := L.tr l116.up
            have B5 := B5.ext l116
            have B91 := B91.ext l116
            have B100 := B100.ext l116
            have B107 := B107.ext l116
            refine s_storeAg rfl sz26 rfl rfl B114 rfl rfl rfl ?_
            intro w117 l118 el118 B114
            have z_l118 := l118.size
            have L := L.fresh l118 (by omega)
            have B5 := B5.ne l118 (by omega)
            have B91 := B91.ne l118 (by omega)
            have B100 := B100.ne l118 (by omega)
            have B107 := B107.ne l118 (by omega)
            refine s0 (x_assign (v := .int _ _) rfl) ?_
            refine c_end ?_
            refine n_then ?_
            refine wp_seq ?_
            refine c_reg ?_
            refine st (x_loadAgB ag26 rfl B5 rfl) ?_
            refine sr (zcall cl30 rfl) (i_refill _ _ _ (by omega)) ?_
            intro w119 l120
            have z_l120 := l120.size
            have L := L.tr l120.up
            have B5 := B5.ext l120
            have B91 := B91.ext l120
            have B100 := B100.ext l120
            have B107 := B107.ext l120
            have B114 := B114.ext l120
            refine s_alloc zr26 ?_
            intro b121 w122 lob121 hib121 l123 B121
            have z_l123 := l123.size
            have L := L.tr l123.up
            have B5 := B5.ext l123
            have B91 := B91.ext l123
            have B100 := B100.ext l123
            have B107 := B107.ext l123
            have B114 := B114.ext l123
            refine s_storeAg rfl sz26 rfl rfl B121 rfl rfl rfl ?_
            intro w124 l125 el125 B121
            have z_l125 := l125.size
            have L := L.fresh l125 (by omega)
            have B5 := B5.ne l125 (by omega)
            have B91 := B91.ne l125 (by omega)
            have B100 := B100.ne l125 (by omega)
            have B107 := B107.ne l125 (by omega)
            have B114 := B114.ne l125 (by omega)
            refine c_end ?_
            refine n_then ?_
            refine wp_seq ?_
            refine c_reg ?_
            refine st (x_loadAgB ag26 rfl B5 rfl) ?_
            refine sr (zcall cl33 rfl) (i_settle _ _ _ (by omega)) ?_
            intro w126 l127
            have z_l127 := l127.size
            have L := L.tr l127.up
            have B5 := B5.ext l127
            have B91 := B91.ext l127
            have B100 := B100.ext l127
            have B107 := B107.ext l127
            have B114 := B114.ext l127
            have B121 := B121.ext l127
            refine s0 (x_move (v := .int _ _) rfl) ?_
            refine sr (zcall cl37 rfl) (i_peek _ _ _ _ (by omega)) ?_
            intro w128 l129
            have z_l129 := l129.size
            have L := L.tr l129.up
            have B5 := B5.ext l129
            have B91 := B91.ext l129
            have B100 := B100.ext l129
            have B107 := B107.ext l129
            have B114 := B114.ext l129
            have B121 := B121.ext l129
            refine s0 (x_move (v := .tuple _) rfl) ?_
            refine s0 (x_extract rfl rfl) ?_
            refine s0 (x_extract rfl rfl) ?_
            refine s_alloc zr26 ?_
            intro b130 w131 lob130 hib130 l132 B130
            have z_l132 := l132.size
            have L := L.tr l132.up
            have B5 := B5.ext l132
            have B91 := B91.ext l132
            have B100 := B100.ext l132
            have B107 := B107.ext l132
            have B114 := B114.ext l132
            have B121 := B121.ext l132
            refine s_storeAg rfl sz26 rfl rfl B130 rfl rfl rfl ?_
            intro w133 l134 el134 B130
            have z_l134 := l134.size
            have L := L.fresh l134 (by omega)
            have B5 := B5.ne l134 (by omega)
            have B91 := B91.ne l134 (by omega)
            have B100 := B100.ne l134 (by omega)
            have B107 := B107.ne l134 (by omega)
            have B114 := B114.ne l134 (by omega)
            have B121 := B121.ne l134 (by omega)
            refine s0 (x_assign (v := .int _ _) rfl) ?_
            refine c_end ?_
            refine n_then ?_
            refine wp_seq ?_
            refine wp_seq ?_
            refine c_reg ?_
            refine s0 (x_move (v := .bool _) rfl) ?_
            refine s0 (x_move (v := .bool _) rfl) ?_
            refine sb (x_neqb un4 rfl rfl) (fun h92 => ?_) (fun h92 => ?_)
            · exact absurd (by simp [show ¬ rbOk s24 (placeOf s24 c24) n24 from fun h => h33 (htr.2 h)]) h92
            · refine s0 (x_move (v := .bool _) rfl) ?_
              refine gt rfl rfl rfl rfl ?_
              refine s0 (x_move (v := .bool _) rfl) ?_
              refine gt rfl rfl rfl rfl ?_
              refine s0 (x_move (v := .bool _) rfl) ?_
              refine gf rfl rfl rfl rfl ?_
              refine gf rfl rfl rfl rfl ?_
              refine gf rfl rfl rfl rfl ?_
              refine gf rfl rfl rfl rfl ?_
              refine gu rfl rfl rfl ?_
              refine gu rfl rfl rfl ?_
              refine gu rfl rfl rfl ?_
              refine gf rfl rfl rfl rfl ?_
              refine gf rfl rfl rfl rfl ?_
              refine gu rfl rfl rfl ?_
              refine gu rfl rfl rfl ?_
              refine gu rfl rfl rfl ?_
              refine gu rfl rfl rfl ?_
              refine gu rfl rfl rfl ?_
              refine gu rfl rfl rfl ?_
              refine gf rfl rfl rfl rfl ?_
              refine gt rfl rfl rfl rfl ?_
              refine s0 (x_pickf (v := .bool _) rfl rfl) ?_
              refine s0 (x_pickf (v := .bool _) rfl rfl) ?_
              refine s0 (x_move (v := .bool _) rfl) ?_
              refine gt rfl rfl rfl rfl ?_
              refine st (x_loadAgB ag26 rfl B114 rfl) ?_
              refine gt rfl rfl rfl rfl ?_
              refine sr (zcall cl21 rfl) (i_place _ _ _ (by omega)) ?_
              intro w135 l136
              have z_l136 := l136.size
              have L := L.tr l136.up
              have B5 := B5.ext l136
              have B91 := B91.ext l136
              have B100 := B100.ext l136
              have B107 := B107.ext l136
              have B114 := B114.ext l136
              have B121 := B121.ext l136
              have B130 := B130.ext l136
              refine gt rfl rfl rfl rfl ?_
              refine s0 (x_move (v := .int _ _) rfl) ?_
              refine gt rfl rfl rfl rfl ?_
              refine sb (x_neq rfl rfl) (fun h118 => ?_) (fun h118 => ?_)
              · exact absurd (peek_keep hk).2 h118
              · refine s0 (x_pickf (v := .bool _) rfl rfl) ?_
                refine s0 (x_move (v := .bool _) rfl) ?_
                refine gt rfl rfl rfl rfl ?_
                refine st (x_loadAgB ag26 rfl B121 rfl) ?_
                refine gt rfl rfl rfl rfl ?_
                refine sr (zcall cl21 rfl) (i_place _ _ _ (by omega)) ?_
                intro w137 l138
                have z_l138 := l138.size
                have L := L.tr l138.up
                have B5 := B5.ext l138
                have B91 := B91.ext l138
                have B100 := B100.ext l138
                have B107 := B107.ext l138
                have B114 := B114.ext l138
                have B121 := B121.ext l138
                have B130 := B130.ext l138
                refine gt rfl rfl rfl rfl ?_
                refine s0 (x_move (v := .int _ _) rfl) ?_
                refine gt rfl rfl rfl rfl ?_
                refine sb (x_neq rfl rfl) (fun h124 => ?_) (fun h124 => ?_)
                · exact absurd (place_refill h35) h124
                · refine s0 (x_pickf (v := .bool _) rfl rfl) ?_
                  refine s0 (x_move (v := .bool _) rfl) ?_
                  refine gt rfl rfl rfl rfl ?_
                  refine st (x_loadAgB ag26 rfl B130 rfl) ?_
                  refine gt rfl rfl rfl rfl ?_
                  refine sr (zcall cl21 rfl) (i_place _ _ _ (by omega)) ?_
                  intro w139 l140
                  have z_l140 := l140.size
                  have L := L.tr l140.up
                  have B5 := B5.ext l140
                  have B91 := B91.ext l140
                  have B100 := B100.ext l140
                  have B107 := B107.ext l140
                  have B114 := B114.ext l140
                  have B121 := B121.ext l140
                  have B130 := B130.ext l140
                  refine gt rfl rfl rfl rfl ?_
                  refine s0 (x_move (v := .int _ _) rfl) ?_
                  refine gt rfl rfl rfl rfl ?_
                  refine sb (x_neq rfl rfl) (fun h130 => ?_) (fun h130 => ?_)
                  · exact absurd ((peek_keep ⟨(settle_ok h35).1, hk.2⟩).2.trans (settle_ok h35).2.1) h130
                  · refine s0 (x_pickf (v := .bool _) rfl rfl) ?_
                    refine s0 (x_move (v := .bool _) rfl) ?_
                    refine gt rfl rfl rfl rfl ?_
                    refine st (x_loadAgB ag26 rfl B91 rfl) ?_
                    refine gt rfl rfl rfl rfl ?_
                    refine srb (zcall cl19 rfl) (i_cacheOk _ _ _ _ _ (by omega)) (fun h134 w141 l142 => ?_) (fun h134 w141 l142 => ?_)
                    · have z_l142 := l142.size
                      have L := L.tr l142.up
                      have B5 := B5.ext l142
                      have B91 := B91.ext l142
                      have B100 := B100.ext l142
                      have B107 := B107.ext l142
                      have B114 := B114.ext l142
                      have B121 := B121.ext l142
                      have B130 := B130.ext l142
                      refine gt rfl rfl rfl rfl ?_
                      refine s0 (x_not rfl) ?_
                      refine s0 (x_pickf (v := .bool _) rfl rfl) ?_
                      refine s0 (x_move (v := .bool _) rfl) ?_
                      refine gt rfl rfl rfl rfl ?_
                      refine st (x_loadAgB ag26 rfl B121 rfl) ?_
                      refine gt rfl rfl rfl rfl ?_
                      refine srb (zcall cl19 rfl) (i_cacheOk _ _ _ _ _ (by omega)) (fun h139 w143 l144 => ?_) (fun h139 w143 l144 => ?_)
                      · have z_l144 := l144.size
                        have L := L.tr l144.up
                        have B5 := B5.ext l144
                        have B91 := B91.ext l144
                        have B100 := B100.ext l144
                        have B107 := B107.ext l144
                        have B114 := B114.ext l144
                        have B121 := B121.ext l144
                        have B130 := B130.ext l144
                        refine gt rfl rfl rfl rfl ?_
                        refine s0 (x_not rfl) ?_
                        refine s0 (x_pickf (v := .bool _) rfl rfl) ?_
                        refine c_end ?_
                        refine n_then ?_
                        refine c_false rfl ?_
                        refine c_skipn ?_
                        refine n_then ?_
                        refine wp_seq ?_
                        refine c_reg ?_
                        refine st (x_loadAgB ag26 rfl B121 rfl) ?_
                        refine s0 (x_move (v := .int _ _) rfl) ?_
                        refine sr (zcall cl38 rfl) (i_skip _ _ _ _ (by omega)) ?_
                        intro w145 l146
                        have z_l146 := l146.size
                        have L := L.tr l146.up
                        have B5 := B5.ext l146
                        have B91 := B91.ext l146
                        have B100 := B100.ext l146
                        have B107 := B107.ext l146
                        have B114 := B114.ext l146
                        have B121 := B121.ext l146
                        have B130 := B130.ext l146
                        refine s0 (x_move (v := .tuple _) rfl) ?_
                        refine s0 (x_extract rfl rfl) ?_
                        refine s0 (x_extract rfl rfl) ?_
                        refine s_alloc zr26 ?_
                        intro b147 w148 lob147 hib147 l149 B147
                        have z_l149 := l149.size
                        have L := L.tr l149.up
                        have B5 := B5.ext l149
                        have B91 := B91.ext l149
                        have B100 := B100.ext l149
                        have B107 := B107.ext l149
                        have B114 := B114.ext l149
                        have B121 := B121.ext l149
                        have B130 := B130.ext l149
                        refine s_storeAg rfl sz26 rfl rfl B147 rfl rfl rfl ?_
                        intro w150 l151 el151 B147
                        have z_l151 := l151.size
                        have L := L.fresh l151 (by omega)
                        have B5 := B5.ne l151 (by omega)
                        have B91 := B91.ne l151 (by omega)
                        have B100 := B100.ne l151 (by omega)
                        have B107 := B107.ne l151 (by omega)
                        have B114 := B114.ne l151 (by omega)
                        have B121 := B121.ne l151 (by omega)
                        have B130 := B130.ne l151 (by omega)
                        refine s0 (x_assign (v := .bool _) rfl) ?_
                        refine c_end ?_
                        refine n_then ?_
                        refine wp_seq ?_
                        refine c_plan (fun wq => Exm [] w150 wq) 43 [(0, 2), (1, 2), (2, 2), (3, 2), (4, 2), (5, 2), (6, 2), (7, 1), (9, 2), (10, 2), (11, 2), (8, 0), (12, 2), (13, 2), (14, 1), (16, 1), (15, 0), (17, 0), (18, 2), (19, 2), (20, 2), (21, 2), (22, 2), (23, 1), (24, 0), (25, 0), (26, 2), (27, 2), (28, 1), (29, 0), (30, 2), (31, 2), (32, 2), (33, 2), (34, 2), (35, 1), (38, 2), (39, 1), (36, 0), (37, 2), (40, 2), (41, 2), (42, 2)] (by kernel_rfl) (by kernel_rfl) (Exm.drew _) ?_
                        obtain ⟨w152, hwd⟩ : ∃ x, x = w150.drew := ⟨_, rfl⟩
                        have l153 : Ext w150 w152 := by rw [hwd]; exact Exm.drew _
                        rw [← hwd]; clear hwd
                        have Lq : Exm [] w150 w152 := l153.up
                        have qB5 := B5
                        have qB91 := B91
                        have qB100 := B100
                        have qB107 := B107
                        have qB114 := B114
                        have qB121 := B121
                        have qB130 := B130
                        have qB147 := B147
                        have qL := L
                        have z_l153 := l153.size
                        have L := L.tr l153.up
                        have B5 := B5.ext l153
                        have B91 := B91.ext l153
                        have B100 := B100.ext l153
                        have B107 := B107.ext l153
                        have B114 := B114.ext l153
                        have B121 := B121.ext l153
                        have B130 := B130.ext l153
                        have B147 := B147.ext l153
                        refine p0 rfl (x_move (v := .bool _) rfl) ?_
                        refine p0 rfl (x_move (v := .bool _) rfl) ?_
                        refine pb rfl (x_eqlb un4 rfl rfl) (fun h150 => ?_) (fun h150 => ?_)
                        · refine p0 rfl (x_move (v := .bool _) rfl) ?_
                          refine p0g rfl rfl rfl rfl rfl (x_move (v := .bool _) rfl) ?_
                          refine p0g rfl rfl rfl rfl rfl (x_not rfl) ?_
                          refine p0g rfl rfl rfl rfl rfl (x_move (v := .bool _) rfl) ?_
                          refine pf1 rfl rfl rfl rfl rfl ?_
                          refine pf rfl rfl rfl rfl rfl ?_
                          refine pf rfl rfl rfl rfl rfl ?_
                          refine pf rfl rfl rfl rfl rfl ?_
                          refine pu rfl ?_ (by rintro ⟨_, _, h, _⟩; cases h)
                          refine gf rfl rfl rfl rfl ?_
                          refine c_end ⟨rfl, fun h => Lq, ?_⟩
                          refine pf rfl rfl rfl rfl rfl ?_
                          refine pf rfl rfl rfl rfl rfl ?_
                          refine pu1 rfl rfl rfl rfl ?_
                          refine pu1 rfl rfl rfl rfl ?_
                          refine pu rfl ?_ (by rintro ⟨_, _, h, _⟩; cases h)
                          refine gu rfl rfl rfl ?_
                          refine c_end ⟨rfl, fun h => Lq, ?_⟩
                          refine pu rfl ?_ (by rintro ⟨_, _, h, _⟩; cases h)
                          refine gu rfl rfl rfl ?_
                          refine c_end ⟨rfl, fun h => Lq, ?_⟩
                          refine pu2 rfl rfl rfl rfl ?_
                          refine pf rfl rfl rfl rfl rfl ?_
                          refine p0g rfl rfl rfl rfl rfl (x_pickt (v := .bool _) rfl rfl) ?_
                          refine p0 rfl (x_pickt (v := .bool _) rfl rfl) ?_
                          refine p0 rfl (x_move (v := .bool _) rfl) ?_
                          refine psg rfl rfl rfl rfl rfl (fun wq hwq => x_loadAgB ag26 rfl (qB5.ext hwq) rfl) ?_
                          refine pu rfl ?_ (by rintro ⟨_, _, h, _⟩; cases h)
                          refine gt rfl rfl rfl rfl ?_
                          refine sr (zcall cl33 rfl) (i_settle _ _ _ (by omega)) ?_
                          intro w154 l155
                          have z_l155 := l155.size
                          have L := L.tr l155.up
                          have Lq := Lq.tr l155.up
                          have B5 := B5.ext l155
                          have B91 := B91.ext l155
                          have B100 := B100.ext l155
                          have B107 := B107.ext l155
                          have B114 := B114.ext l155
                          have B121 := B121.ext l155
                          have B130 := B130.ext l155
                          have B147 := B147.ext l155
                          refine c_end ⟨rfl, fun h => Lq, ?_⟩
                          refine pu rfl ?_ (by rintro ⟨_, _, h, _⟩; cases h)
                          refine gt rfl rfl rfl rfl ?_
                          refine srb (zcall cl19 rfl) (i_cacheOk _ _ _ _ _ (by omega)) (fun h173 w156 l157 => ?_) (fun h173 w156 l157 => ?_)
                          · have z_l157 := l157.size
                            have L := L.tr l157.up
                            have Lq := Lq.tr l157.up
                            have B5 := B5.ext l157
                            have B91 := B91.ext l157
                            have B100 := B100.ext l157
                            have B107 := B107.ext l157
                            have B114 := B114.ext l157
                            have B121 := B121.ext l157
                            have B130 := B130.ext l157
                            have B147 := B147.ext l157
                            refine c_end ⟨rfl, fun h => Lq, ?_⟩
                            refine p0 rfl (x_pickt (v := .bool _) rfl rfl) ?_
                            refine p0 rfl (x_move (v := .bool _) rfl) ?_
                            refine psg rfl rfl rfl rfl rfl (fun wq hwq => x_loadAgB ag26 rfl (qB5.ext hwq) rfl) ?_
                            refine pu rfl ?_ (by rintro ⟨_, _, h, _⟩; cases h)
                            refine gt rfl rfl rfl rfl ?_
                            refine sr (zcall cl33 rfl) (i_settle _ _ _ (by omega)) ?_
                            intro w158 l159
                            have z_l159 := l159.size
                            have L := L.tr l159.up
                            have Lq := Lq.tr l159.up
                            have B5 := B5.ext l159
                            have B91 := B91.ext l159
                            have B100 := B100.ext l159
                            have B107 := B107.ext l159
                            have B114 := B114.ext l159
                            have B121 := B121.ext l159
                            have B130 := B130.ext l159
                            have B147 := B147.ext l159
                            refine c_end ⟨rfl, fun h => Lq, ?_⟩
                            refine p0g rfl rfl rfl rfl rfl (x_field (v := .int _ _) fv26_3 sc3 rfl rfl) ?_
                            refine pbg rfl rfl rfl rfl rfl (x_lss rfl rfl) (fun h179 => ?_) (fun h179 => ?_)
                            · refine p0 rfl (x_pickt (v := .bool _) rfl rfl) ?_
                              refine p0 rfl (x_move (v := .bool _) rfl) ?_
                              refine p0g rfl rfl rfl rfl rfl (x_fieldAddr fa26_0 rfl) ?_
                              refine psg rfl rfl rfl rfl rfl (fun wq hwq => x_loadB sc9 rfl (qB5.ext hwq) rfl) ?_
                              refine p0g rfl rfl rfl rfl rfl (x_fieldAddr fa26_0 rfl) ?_
                              refine psg rfl rfl rfl rfl rfl (fun wq hwq => x_loadB sc9 rfl (qB5.ext hwq) rfl) ?_
                              refine pu rfl ?_ (by rintro ⟨_, _, h, _⟩; cases h)
                              refine gt rfl rfl rfl rfl ?_
                              refine sr (zcall cl39 rfl) (i_cacheNew _ _) ?_
                              intro w160 l161
                              have z_l161 := l161.size
                              have L := L.tr l161.up
                              have Lq := Lq.tr l161.up
                              have B5 := B5.ext l161
                              have B91 := B91.ext l161
                              have B100 := B100.ext l161
                              have B107 := B107.ext l161
                              have B114 := B114.ext l161
                              have B121 := B121.ext l161
                              have B130 := B130.ext l161
                              have B147 := B147.ext l161
                              refine c_end ⟨rfl, fun h => Lq, ?_⟩
                              refine p0g rfl rfl rfl rfl rfl (x_field (v := .string _) fv26_0 sc9 rfl rfl) ?_
                              refine p0g rfl rfl rfl rfl rfl (x_eqls rfl rfl) ?_
                              refine p0 rfl (x_pickt (v := .bool _) rfl rfl) ?_
                              refine p0 rfl (x_assign (v := .bool _) rfl) ?_
                              refine p_nil (np_normal ?_)
                              refine n_then ?_
                              refine wp_ret ?_
                              refine f_ret rfl rfl ?_
                              exact ⟨ret_bt rfl, L⟩
                            · exact absurd (settle_ok h35).2.2 h179
                          · exact absurd (settle_ok h35).1 h173
                        · exact absurd (by simp only [sk_refill hk, h33, decide_true, decide_false]) h150
                      · exact absurd (refill_keep h35).1 h139
                    · exact absurd (tk_keep hk) h134
      · have z_l97 := l97.size
        have L := L.tr l97.up
        have B5 := B5.ext l97
        have B91 := B91.ext l97
        refine s0 (x_not rfl) ?_
        refine c_end ?_
        refine n_then ?_
        refine c_true rfl ?_
        refine wp_seq ?_
        refine c_reg ?_
        refine s0 (x_move (v := .bool _) rfl) ?_
        refine s0 (x_not rfl) ?_
        refine s0 (x_move (v := .bool _) rfl) ?_
        refine gt rfl rfl rfl rfl ?_
        refine st (x_loadAgB ag26 rfl B5 rfl) ?_
        refine gt rfl rfl rfl rfl ?_
        refine sr (zcall cl21 rfl) (i_place _ _ _ (by omega)) ?_
        intro w162 l163
        have z_l163 := l163.size
        have L := L.tr l163.up
        have B5 := B5.ext l163
        have B91 := B91.ext l163
        refine gt rfl rfl rfl rfl ?_
        refine sb (x_eql rfl rfl) (fun h42 => ?_) (fun h42 => ?_)
        · refine s0 (x_pickt (v := .bool _) rfl rfl) ?_
          refine s0 (x_move (v := .bool _) rfl) ?_
          refine gt rfl rfl rfl rfl ?_
          refine st (x_loadAgB ag26 rfl B91 rfl) ?_
          refine gt rfl rfl rfl rfl ?_
          refine st (x_loadAgB ag26 rfl B5 rfl) ?_
          refine gt rfl rfl rfl rfl ?_
          refine s0 (x_eqla fe26 rfl rfl) ?_
          refine s0 (x_pickt (v := .bool _) rfl rfl) ?_
          refine s0 (x_assign (v := .bool _) rfl) ?_
          refine c_end ?_
          refine n_then ?_
          refine wp_ret (r_then ?_)
          refine f_ret rfl rfl ?_
          exact ⟨ret_bt (by rw [(tk_no (fun h => h35 h.1)).2]; simp), L⟩
        · exact (h42 (by unfold placeOf; rw [if_neg h35])).elim

end Go.Proofs.Ytglepnbcplldeaa
