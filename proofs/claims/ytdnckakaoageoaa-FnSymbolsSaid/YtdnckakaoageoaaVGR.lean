/- What each function of this part returns, for every argument that meets its premises. -/
import Derived.Test.YtdnckakaoageoaaProg
import Derived.Test.YtdnckakaoageoaaVSxF
import Derived.Test.YtdnckakaoageoaaVPlV
import Derived.Test.YtdnckakaoageoaaVF2
import Derived.Test.YtdnckakaoageoaaVF3
import Derived.Test.YtdnckakaoageoaaVF4
import Derived.Test.YtdnckakaoageoaaVF5
import Derived.Test.YtdnckakaoageoaaVF6
import Derived.Test.YtdnckakaoageoaaVFB
import Derived.Test.YtdnckakaoageoaaVFD
import Derived.Test.YtdnckakaoageoaaVFE
import Derived.Test.YtdnckakaoageoaaVFR
namespace Go.Proofs.Ytdnckakaoageoaa
open Go.Sx Go.Pl Go.RowKit
theorem ag42GR : Ag Try.prog 42 2 := ⟨⟨_, Try.underlying42⟩, by kernel_rfl⟩
theorem ag64GR : Ag Try.prog 64 4 := ⟨⟨_, Try.underlying64⟩, by kernel_rfl⟩
theorem cl24GR : Callable Try.prog 24 := callable Try.func24 (by kernel_rfl) rfl
theorem cl61GR : Callable Try.prog 61 := callable Try.func61 (by kernel_rfl) rfl
theorem cl62GR : Callable Try.prog 62 := callable Try.func62 (by kernel_rfl) rfl
theorem cl63GR : Callable Try.prog 63 := callable Try.func63 (by kernel_rfl) rfl
theorem cl64GR : Callable Try.prog 64 := callable Try.func64 (by kernel_rfl) rfl
theorem cl65GR : Callable Try.prog 65 := callable Try.func65 (by kernel_rfl) rfl
theorem cl66GR : Callable Try.prog 66 := callable Try.func66 (by kernel_rfl) rfl
theorem cl67GR : Callable Try.prog 67 := callable Try.func67 (by kernel_rfl) rfl
theorem cl68GR : Callable Try.prog 68 := callable Try.func68 (by kernel_rfl) rfl
theorem cl69GR : Callable Try.prog 69 := callable Try.func69 (by kernel_rfl) rfl
theorem cl70GR : Callable Try.prog 70 := callable Try.func70 (by kernel_rfl) rfl
theorem cl71GR : Callable Try.prog 71 := callable Try.func71 (by kernel_rfl) rfl
theorem fa42_0GR : FieldAt Try.prog 42 0 0 := ⟨_, _, Try.underlying42, rfl, rfl, ⟨0, by unfold Sz; kernel_rfl⟩⟩
theorem fa42_1GR : FieldAt Try.prog 42 1 1 := ⟨_, _, Try.underlying42, rfl, rfl, ⟨0, by unfold Sz; kernel_rfl⟩⟩
theorem sc3GR : Sc Try.prog 3 := ⟨(.int .i64), by kernel_rfl, trivial⟩
theorem sc9GR : Sc Try.prog 9 := ⟨.string, by kernel_rfl, trivial⟩
theorem sz42GR : Sz Try.prog 42 2 := by unfold Sz; kernel_rfl
theorem sz64GR : Sz Try.prog 64 4 := by unfold Sz; kernel_rfl
theorem zr42GR : ZeroV Try.prog 42 [.string .empty, .int .i64 0] := by unfold ZeroV; kernel_rfl
theorem zr64GR : ZeroV Try.prog 64 [.string .empty, .int .i64 0, .int .i64 0, .int .i64 0] := by unfold ZeroV; kernel_rfl
set_option maxRecDepth 4000 in
/-- laws.FnSymbols -/
theorem l_fnSymbols (p : Option Addr) (xs : List Int) (c : Nat) (B : Nat) (w : World) (hp : Sl w p xs.length c 1 (bc xs)) (hr : ∀ x ∈ xs, 0 ≤ x ∧ x ≤ 255) (hpB : Bl p xs.length B) (hB : B ≤ w.heap.size) :
    Calls Try.prog 9 [.slice p xs.length c].toArray w (Ret w (.bool true)) := by
  have L : Exm [] w w := Exm.rfl'
  refine enter (n := 106) Try.func9 rfl rfl rfl ?_
  refine wp_seq ?_
  refine c_reg ?_
  refine s0 (x_assign (v := .bool _) rfl) ?_
  refine c_end ?_
  refine n_then ?_
  refine wp_seq ?_
  refine wp_seq ?_
  refine c_reg ?_
  refine s0 (x_move (v := .slice _ _ _) rfl) ?_
  refine srb (zcall cl24GR rfl) (l_big _ _ _ _) (fun h17 w1 l2 => ?_) (fun h17 w1 l2 => ?_)
  · have z_l2 := l2.size
    have L := L.tr l2.up
    refine c_end ?_
    refine n_then ?_
    refine c_true rfl ?_
    refine wp_seq ?_
    refine c_reg ?_
    refine s0 (x_assign (v := .bool _) rfl) ?_
    refine c_end ?_
    refine n_then ?_
    refine wp_ret (r_then ?_)
    refine f_ret rfl rfl ?_
    exact ⟨rfl, L⟩
  · have z_l2 := l2.size
    have L := L.tr l2.up
    refine c_end ?_
    refine n_then ?_
    refine c_false rfl ?_
    refine c_skipn ?_
    refine n_then ?_
    refine wp_seq ?_
    have hl : xs.length ≤ 1048576 := by omega
    refine c_reg ?_
    refine s0 (x_move (v := .slice _ _ _) rfl) ?_
    refine sp (zcall cl61GR rfl) (s_drawReadSym _ _ _ _ _ (hp.ext L) hr hpB (by omega) (by omega)) ?_
    rintro v20 w3 l4 ⟨s20, a20, p20, n20, xs20, c20, F20, rfl, o20, f20, rfl, hx20, hy20⟩
    have z_l4 := l4.size
    have L := L.tr l4.up
    have g20 := o20.lt
    refine s0 (x_move (v := .tuple _) rfl) ?_
    refine s0 (x_extract rfl rfl) ?_
    refine s0 (x_extract rfl rfl) ?_
    refine s_alloc zr42GR ?_
    intro b5 w6 lob5 hib5 l7 B5
    have z_l7 := l7.size
    have L := L.tr l7.up
    have o20 := o20.ext l7
    refine s_storeAg rfl sz42GR rfl rfl B5 rfl rfl rfl ?_
    intro w8 l9 el9 B5
    have z_l9 := l9.size
    have L := L.fresh l9 (by omega)
    have o20 := o20.ne l9 (by first | assumption | exact nin_of f20 g20 (by omega))
    refine s0 (x_assign (v := .slice _ _ _) rfl) ?_
    refine c_end ?_
    refine n_then ?_
    refine wp_seq ?_
    refine c_reg ?_
    refine st (x_loadAgB ag42GR rfl B5 rfl) ?_
    refine s0 (x_move (v := .slice _ _ _) rfl) ?_
    refine sr (zcall cl62GR rfl) (i_readSym _ _ _ _ _ _ o20.sl (by omega) (by omega)) ?_
    intro w10 l11
    have z_l11 := l11.size
    have L := L.tr l11.up
    have B5 := B5.ext l11
    have o20 := o20.ext l11
    refine s0 (x_move (v := .tuple _) rfl) ?_
    refine s0 (x_extract rfl rfl) ?_
    refine s0 (x_extract rfl rfl) ?_
    refine s0 (x_extract rfl rfl) ?_
    refine s_alloc zr42GR ?_
    intro b12 w13 lob12 hib12 l14 B12
    have z_l14 := l14.size
    have L := L.tr l14.up
    have B5 := B5.ext l14
    have o20 := o20.ext l14
    refine s_storeAg rfl sz42GR rfl rfl B12 rfl rfl rfl ?_
    intro w15 l16 el16 B12
    have z_l16 := l16.size
    have L := L.fresh l16 (by omega)
    have B5 := B5.ne l16 (by omega)
    have o20 := o20.ne l16 (by first | assumption | exact nin_of f20 g20 (by omega))
    refine s0 (x_assign (v := .int _ _) rfl) ?_
    refine s0 (x_assign (v := .int _ _) rfl) ?_
    refine c_end ?_
    refine n_then ?_
    refine wp_seq ?_
    refine c_reg ?_
    refine st (x_loadAgB ag42GR rfl B5 rfl) ?_
    refine s0 (x_move (v := .slice _ _ _) rfl) ?_
    refine sr (zcall cl63GR rfl) (s_readSym _ _ _ _ _ _ o20.sl (by omega) (by omega)) ?_
    intro w17 l18
    have z_l18 := l18.size
    have L := L.tr l18.up
    have B5 := B5.ext l18
    have B12 := B12.ext l18
    have o20 := o20.ext l18
    refine s0 (x_move (v := .tuple _) rfl) ?_
    refine s0 (x_extract rfl rfl) ?_
    refine s0 (x_extract rfl rfl) ?_
    refine s0 (x_extract rfl rfl) ?_
    refine s_alloc zr42GR ?_
    intro b19 w20 lob19 hib19 l21 B19
    have z_l21 := l21.size
    have L := L.tr l21.up
    have B5 := B5.ext l21
    have B12 := B12.ext l21
    have o20 := o20.ext l21
    refine s_storeAg rfl sz42GR rfl rfl B19 rfl rfl rfl ?_
    intro w22 l23 el23 B19
    have z_l23 := l23.size
    have L := L.fresh l23 (by omega)
    have B5 := B5.ne l23 (by omega)
    have B12 := B12.ne l23 (by omega)
    have o20 := o20.ne l23 (by first | assumption | exact nin_of f20 g20 (by omega))
    refine s0 (x_assign (v := .int _ _) rfl) ?_
    refine s0 (x_assign (v := .int _ _) rfl) ?_
    refine c_end ?_
    refine n_then ?_
    refine wp_seq ?_
    refine wp_seq ?_
    refine c_reg ?_
    refine s0 (x_move (v := .int _ _) rfl) ?_
    refine s0 (x_move (v := .int _ _) rfl) ?_
    refine sb (x_neq rfl rfl) (fun h39 => ?_) (fun h39 => ?_)
    · exact absurd rfl h39
    · refine s0 (x_move (v := .bool _) rfl) ?_
      refine gt rfl rfl rfl rfl ?_
      refine s0 (x_move (v := .int _ _) rfl) ?_
      refine gt rfl rfl rfl rfl ?_
      refine s0 (x_move (v := .int _ _) rfl) ?_
      refine gt rfl rfl rfl rfl ?_
      refine sb (x_neq rfl rfl) (fun h43 => ?_) (fun h43 => ?_)
      · exact absurd rfl h43
      · refine s0 (x_pickf (v := .bool _) rfl rfl) ?_
        refine c_end ?_
        refine n_then ?_
        refine c_false rfl ?_
        refine c_skipn ?_
        refine n_then ?_
        refine wp_seq ?_
        refine wp_seq ?_
        refine c_reg ?_
        refine st (x_loadAgB ag42GR rfl B5 rfl) ?_
        refine srb (zcall cl64GR rfl) (s_readerOk _ _ _ (by omega)) (fun h46 w24 l25 => ?_) (fun h46 w24 l25 => ?_)
        · have z_l25 := l25.size
          have L := L.tr l25.up
          have B5 := B5.ext l25
          have B12 := B12.ext l25
          have B19 := B19.ext l25
          have o20 := o20.ext l25
          refine s0 (x_not rfl) ?_
          refine s0 (x_move (v := .bool _) rfl) ?_
          refine gt rfl rfl rfl rfl ?_
          refine s0 (x_move (v := .slice _ _ _) rfl) ?_
          refine gt rfl rfl rfl rfl ?_
          refine srb (zcall cl65GR rfl) (s_codeOk _ _ _ _ o20.sl (by omega)) (fun h50 w26 l27 => ?_) (fun h50 w26 l27 => ?_)
          · have z_l27 := l27.size
            have L := L.tr l27.up
            have B5 := B5.ext l27
            have B12 := B12.ext l27
            have B19 := B19.ext l27
            have o20 := o20.ext l27
            refine gt rfl rfl rfl rfl ?_
            refine s0 (x_not rfl) ?_
            refine s0 (x_pickf (v := .bool _) rfl rfl) ?_
            refine c_end ?_
            refine n_then ?_
            refine c_false rfl ?_
            refine c_skipn ?_
            refine n_then ?_
            refine wp_seq ?_
            refine c_reg ?_
            refine s0 (x_fieldAddr fa42_0GR rfl) ?_
            refine st (x_loadB sc9GR rfl B5 rfl) ?_
            refine sr (zcall cl66GR rfl) (s_cacheNew _ _) ?_
            intro w28 l29
            have z_l29 := l29.size
            have L := L.tr l29.up
            have B5 := B5.ext l29
            have B12 := B12.ext l29
            have B19 := B19.ext l29
            have o20 := o20.ext l29
            refine s_alloc zr64GR ?_
            intro b30 w31 lob30 hib30 l32 B30
            have z_l32 := l32.size
            have L := L.tr l32.up
            have B5 := B5.ext l32
            have B12 := B12.ext l32
            have B19 := B19.ext l32
            have o20 := o20.ext l32
            refine s_storeAg rfl sz64GR rfl rfl B30 rfl rfl rfl ?_
            intro w33 l34 el34 B30
            have z_l34 := l34.size
            have L := L.fresh l34 (by omega)
            have B5 := B5.ne l34 (by omega)
            have B12 := B12.ne l34 (by omega)
            have B19 := B19.ne l34 (by omega)
            have o20 := o20.ne l34 (by first | assumption | exact nin_of f20 g20 (by omega))
            refine c_end ?_
            refine n_then ?_
            refine wp_seq ?_
            refine wp_seq ?_
            refine c_reg ?_
            refine s0 (x_assign (v := .int _ _) rfl) ?_
            refine c_end ?_
            refine n_then ?_
            refine wp_block ?_
            refine c_loop (γ := Ca × Nat) (fun g => 200 - g.2) (fun (g : Ca × Nat) E wl => ∃ E0, E = upd (upd (upd (upd (upd (upd (upd E0 3 (pt b5 0)) 4 (.slice p20 xs20.length c20)) 5 (pt b12 0)) 6 (.int .i64 (rsV s20 a20 xs20))) 7 (.int .i64 (rsE s20 a20 xs20))) 11 (pt b30 0)) 12 (.int .i64 (g.2 : Int)) ∧ (Exm [] w wl) ∧ (w33.heap.size ≤ wl.heap.size) ∧ (Bx wl b5 [.string s20, .int .i64 a20] 42) ∧ (Bx wl b12 [.string s20, .int .i64 (rsAt s20 a20 xs20)] 42) ∧ (Bx wl b19 [.string s20, .int .i64 (rsAt s20 a20 xs20)] 42) ∧ (Bx wl b30 [.string s20, .int .i64 (g.1).pos, .int .i64 (g.1).word, .int .i64 (g.1).hv] 64) ∧ (Rdf wl p20 xs20.length c20 1 (ic xs20) F20) ∧ (caOk s20 g.1) ∧ (8 * g.1.pos - g.1.hv = 16 * (g.2 : Int)) ∧ (16 * (g.2 : Int) ≤ a20)) (Ca.mk 0 0 0, 0) ⟨_, upd_self7 rfl rfl rfl rfl rfl rfl rfl, L, (by omega), B5, B12, B19, B30, o20, (new_ok s20), (by rfl), (by show 16 * ((0 : Nat) : Int) ≤ a20; omega)⟩ ?_
            rintro g E wl35 ⟨E0, rfl, L, Lz, B5, B12, B19, B30, o20, hg, hpl, hi⟩
            have Lz0 := L.size
            have hpo := place_of hg
            have hpi := place_in hg
            refine wp_seq ?_
            refine wp_seq ?_
            have hpo := place_of hg
            have hpi := place_in hg
            refine c_plan (fun wq => Exm [] wl35 wq) 10 (.cons (0, 2) (.cons (1, 2) (.cons (2, 2) (.cons (3, 1) (.cons (6, 2) (.cons (7, 1) (.cons (4, 0) (.cons (5, 2) (.cons (8, 2) (.cons (9, 2) .nil)))))))))) (by kernel_rfl) (by kernel_rfl) (Exm.drew _) ?_
            obtain ⟨w36, hwd⟩ : ∃ x, x = wl35.drew := ⟨_, rfl⟩
            have l37 : Ext wl35 w36 := by rw [hwd]; exact Exm.drew _
            rw [← hwd]; clear hwd
            have Lq : Exm [] wl35 w36 := l37.up
            have qB5 := B5
            have qB12 := B12
            have qB19 := B19
            have qB30 := B30
            have qo20 := o20
            have qL := L
            have z_l37 := l37.size
            have L := L.tr l37.up
            have B5 := B5.ext l37
            have B12 := B12.ext l37
            have B19 := B19.ext l37
            have B30 := B30.ext l37
            have o20 := o20.ext l37
            refine p0 rfl (x_move (v := .int _ _) rfl) ?_
            refine pb rfl (x_lss rfl rfl) (fun h57 => ?_) (fun h57 => ?_)
            · refine p0 rfl (x_move (v := .bool _) rfl) ?_
              refine psg rfl rfl rfl rfl rfl (fun wq hwq => x_loadAgB ag64GR rfl (qB30.ext hwq) rfl) ?_
              refine p0g rfl rfl rfl rfl rfl (x_fieldAddr fa42_1GR rfl) ?_
              refine psg rfl rfl rfl rfl rfl (fun wq hwq => x_loadB sc3GR rfl (qB5.ext hwq) rfl) ?_
              refine pu rfl ?_ (by rintro ⟨_, _, h, _⟩; cases h)
              refine gt rfl rfl rfl rfl ?_
              refine sr (zcall cl67GR rfl) (s_place _ _ _ (by omega)) ?_
              intro w38 l39
              have z_l39 := l39.size
              have L := L.tr l39.up
              have Lq := Lq.tr l39.up
              have B5 := B5.ext l39
              have B12 := B12.ext l39
              have B19 := B19.ext l39
              have B30 := B30.ext l39
              have o20 := o20.ext l39
              refine c_end ⟨rfl, fun h hS => Lq, ?_⟩
              refine p0g rfl rfl rfl rfl rfl (x_add rfl rfl (by omega)) ?_
              refine pbg rfl rfl rfl rfl rfl (x_lss rfl rfl) (fun h64 => ?_) (fun h64 => ?_)
              · refine p0 rfl (x_pickt (v := .bool _) rfl rfl) ?_
                refine p_nil (np_normal ?_)
                refine n_then ?_
                refine c_true rfl ?_
                refine c_skipn ?_
                refine n_then ?_
                refine wp_seq ?_
                refine wp_block ?_
                have hto := sk_to (n := 16) hg (by omega) (by omega)
                refine c_reg ?_
                refine st (x_loadAgB ag64GR rfl B30 rfl) ?_
                refine sr (zcall cl68GR rfl) (s_skip _ g.1 _ _ (by omega)) ?_
                intro w40 l41
                have z_l41 := l41.size
                have L := L.tr l41.up
                have B5 := B5.ext l41
                have B12 := B12.ext l41
                have B19 := B19.ext l41
                have B30 := B30.ext l41
                have o20 := o20.ext l41
                refine s0 (x_move (v := .tuple _) rfl) ?_
                refine s0 (x_extract rfl rfl) ?_
                refine s0 (x_extract rfl rfl) ?_
                refine s_storeAg rfl sz64GR rfl rfl B30 rfl rfl rfl ?_
                intro w42 l43 el43 B30
                have z_l43 := l43.size
                have L := L.fresh l43 (by omega)
                have B5 := B5.ne l43 (by omega)
                have B12 := B12.ne l43 (by omega)
                have B19 := B19.ne l43 (by omega)
                have o20 := o20.ne l43 (by first | assumption | exact nin_of f20 g20 (by omega))
                refine c_end ?_
                refine n_block ?_
                refine n_then ?_
                refine c_reg ?_
                refine s0 (x_move (v := .int _ _) rfl) ?_
                refine s0 (x_add rfl rfl (by omega)) ?_
                refine s0 (x_assign (v := .int _ _) rfl) ?_
                refine c_end ?_
                exact c_round (g' := (skC s20 g.1 16, g.2 + 1)) (by show 200 - (g.2 + 1) < 200 - g.2; omega) ⟨_, upd_self7 rfl rfl rfl rfl rfl rfl (vint (by show _ = ((g.2 + 1 : Nat) : Int); omega)), L, (by omega), B5, B12, B19, B30, o20, hto.1, (by show 8 * (skC s20 g.1 16).pos - (skC s20 g.1 16).hv = 16 * ((g.2 + 1 : Nat) : Int); rw [hto.2]; omega), (by show 16 * ((g.2 + 1 : Nat) : Int) ≤ a20; omega)⟩
              · refine p0 rfl (x_pickt (v := .bool _) rfl rfl) ?_
                refine p_nil (np_normal ?_)
                refine n_then ?_
                refine c_false rfl ?_
                refine wp_exit (e_then (e_then (e_here ?_)))
                refine n_then ?_
                refine wp_seq ?_
                have hpo := place_of hg
                have hpi := place_in hg
                refine c_plan (fun wq => Exm [] w38 wq) 10 (.cons (0, 1) (.cons (1, 2) (.cons (2, 1) (.cons (3, 1) (.cons (4, 0) (.cons (5, 2) (.cons (6, 0) (.cons (7, 2) (.cons (8, 2) (.cons (9, 2) (.cons (10, 0) .nil))))))))))) (by kernel_rfl) (by kernel_rfl) (Exm.drew _) ?_
                obtain ⟨w44, hwd⟩ : ∃ x, x = w38.drew := ⟨_, rfl⟩
                have l45 : Ext w38 w44 := by rw [hwd]; exact Exm.drew _
                rw [← hwd]; clear hwd
                have Lq : Exm [] w38 w44 := l45.up
                have qB5 := B5
                have qB12 := B12
                have qB19 := B19
                have qB30 := B30
                have qo20 := o20
                have qL := L
                have z_l45 := l45.size
                have L := L.tr l45.up
                have B5 := B5.ext l45
                have B12 := B12.ext l45
                have B19 := B19.ext l45
                have B30 := B30.ext l45
                have o20 := o20.ext l45
                refine ps rfl (fun wq hwq => x_loadAgB ag64GR rfl (qB30.ext hwq) rfl) ?_
                refine p0 rfl (x_fieldAddr fa42_1GR rfl) ?_
                refine ps rfl (fun wq hwq => x_loadB sc3GR rfl (qB5.ext hwq) rfl) ?_
                refine ps rfl (fun wq hwq => x_loadAgB ag64GR rfl (qB30.ext hwq) rfl) ?_
                refine pu rfl ?_ (by rintro ⟨_, _, h, _⟩; cases h)
                refine sr (zcall cl67GR rfl) (s_place _ _ _ (by omega)) ?_
                intro w46 l47
                have z_l47 := l47.size
                have L := L.tr l47.up
                have Lq := Lq.tr l47.up
                have B5 := B5.ext l47
                have B12 := B12.ext l47
                have B19 := B19.ext l47
                have B30 := B30.ext l47
                have o20 := o20.ext l47
                refine c_end ⟨rfl, fun h hS => Lq, ?_⟩
                refine p0 rfl (x_sub rfl rfl (by omega)) ?_
                refine pu rfl ?_ (by rintro ⟨_, _, h, _⟩; cases h)
                refine sr (zcall cl68GR rfl) (s_skip _ g.1 _ _ (by omega)) ?_
                intro w48 l49
                have z_l49 := l49.size
                have L := L.tr l49.up
                have Lq := Lq.tr l49.up
                have B5 := B5.ext l49
                have B12 := B12.ext l49
                have B19 := B19.ext l49
                have B30 := B30.ext l49
                have o20 := o20.ext l49
                refine c_end ⟨rfl, fun h hS => Lq, ?_⟩
                refine p0 rfl (x_move (v := .tuple _) rfl) ?_
                refine p0 rfl (x_extract rfl rfl) ?_
                refine p0 rfl (x_extract rfl rfl) ?_
                refine pu rfl ?_ (by rintro ⟨_, _, h, _⟩; cases h)
                refine s_storeAg rfl sz64GR rfl rfl B30 rfl rfl rfl ?_
                intro w50 l51 el51 B30
                have z_l51 := l51.size
                have L := L.fresh l51 (by omega)
                have B5 := B5.ne l51 (by omega)
                have B12 := B12.ne l51 (by omega)
                have B19 := B19.ne l51 (by omega)
                have o20 := o20.ne l51 (by first | assumption | exact nin_of f20 g20 (by omega))
                refine c_end ⟨rfl, fun h hS => absurd h (by decide), ?_⟩
                refine p_nil (np_normal ?_)
                refine n_then ?_
                refine wp_seq ?_
                have hto := sk_to (n := a20 - placeOf s20 g.1) hg (by omega) (by omega)
                have hta : 8 * (skC s20 g.1 (a20 - placeOf s20 g.1)).pos - (skC s20 g.1 (a20 - placeOf s20 g.1)).hv = a20 := by rw [hto.2]; omega
                have htl := symTab_len h50
                refine c_plan (fun wq => Exm [] w50 wq) 12 (.cons (0, 1) (.cons (1, 2) (.fork 2 8 (.fork 3 8 (.cons (4, 2) (.cons (5, 2) (.cons (6, 2) (.cons (7, 2) (.cons (8, 0) (.cons (9, 0) (.cons (10, 2) (.cons (11, 2) .nil)))))))) (.cons (3, 0) (.cons (4, 2) (.cons (5, 2) (.cons (6, 2) (.cons (7, 2) (.cons (9, 0) (.cons (10, 2) (.cons (11, 2) .nil))))))))) (.cons (2, 0) (.cons (3, 0) (.cons (4, 2) (.cons (5, 2) (.cons (6, 2) (.cons (7, 2) (.cons (9, 0) (.cons (10, 2) (.cons (11, 2) .nil)))))))))))) (by kernel_rfl) (by kernel_rfl) (Exm.drew _) ?_
                obtain ⟨w52, hwd⟩ : ∃ x, x = w50.drew := ⟨_, rfl⟩
                have l53 : Ext w50 w52 := by rw [hwd]; exact Exm.drew _
                rw [← hwd]; clear hwd
                have Lq : Exm [] w50 w52 := l53.up
                have qB5 := B5
                have qB12 := B12
                have qB19 := B19
                have qB30 := B30
                have qo20 := o20
                have qL := L
                have z_l53 := l53.size
                have L := L.tr l53.up
                have B5 := B5.ext l53
                have B12 := B12.ext l53
                have B19 := B19.ext l53
                have B30 := B30.ext l53
                have o20 := o20.ext l53
                refine ps rfl (fun wq hwq => x_loadAgB ag64GR rfl (qB30.ext hwq) rfl) ?_
                refine p0 rfl (x_move (v := .slice _ _ _) rfl) ?_
                refine pfork ?_ ?_
                · refine pu rfl ?_ (by rintro ⟨_, _, h, _⟩; cases h)
                  refine sp (zcall cl70GR rfl) (i_symTable _ _ _ _ o20.sl (by omega)) ?_
                  rintro v86 w54 l55 ⟨p86, c86, F86, rfl, o86, f86⟩
                  have z_l55 := l55.size
                  have L := L.tr l55.up
                  have Lq := Lq.tr l55.up
                  have B5 := B5.ext l55
                  have B12 := B12.ext l55
                  have B19 := B19.ext l55
                  have B30 := B30.ext l55
                  have o20 := o20.ext l55
                  have g86 := o86.lt
                  refine c_end ⟨rfl, fun h hS => Lq, ?_⟩
                  refine pfork ?_ ?_
                  · refine pu rfl ?_ (by rintro ⟨_, _, h, _⟩; cases h)
                    refine sr (zcall cl69GR rfl) (i_fastSym _ _ _ _ _ _ (by omega) o86.sl (by omega)) ?_
                    intro w56 l57
                    have z_l57 := l57.size
                    have L := L.tr l57.up
                    have Lq := Lq.tr l57.up
                    have B5 := B5.ext l57
                    have B12 := B12.ext l57
                    have B19 := B19.ext l57
                    have B30 := B30.ext l57
                    have o20 := o20.ext l57
                    have o86 := o86.ext l57
                    refine c_end ⟨rfl, fun h hS => Lq, ?_⟩
                    refine p0 rfl (x_move (v := .tuple _) rfl) ?_
                    refine p0 rfl (x_extract rfl rfl) ?_
                    refine p0 rfl (x_extract rfl rfl) ?_
                    refine p0 rfl (x_extract rfl rfl) ?_
                    refine pu rfl ?_ (by rintro ⟨_, _, h, _⟩; cases h)
                    refine s_alloc zr64GR ?_
                    intro b58 w59 lob58 hib58 l60 B58
                    have z_l60 := l60.size
                    have L := L.tr l60.up
                    have Lq := Lq.tr l60.up
                    have B5 := B5.ext l60
                    have B12 := B12.ext l60
                    have B19 := B19.ext l60
                    have B30 := B30.ext l60
                    have o20 := o20.ext l60
                    have o86 := o86.ext l60
                    refine c_end ⟨rfl, fun h hS => Lq, ?_⟩
                    refine pu rfl ?_ (by rintro ⟨_, _, h, _⟩; cases h)
                    refine s_storeAg rfl sz64GR rfl rfl B58 rfl rfl rfl ?_
                    intro w61 l62 el62 B58
                    have z_l62 := l62.size
                    have L := L.fresh l62 (by omega)
                    have Lq := Lq.fresh l62 (by omega)
                    have B5 := B5.ne l62 (by omega)
                    have B12 := B12.ne l62 (by omega)
                    have B19 := B19.ne l62 (by omega)
                    have B30 := B30.ne l62 (by omega)
                    have o20 := o20.ne l62 (by first | assumption | exact nin_of f20 g20 (by omega))
                    have o86 := o86.ne l62 (by first | assumption | exact nin_of f86 g86 (by omega))
                    refine c_end ⟨rfl, fun h hS => Lq, ?_⟩
                    refine p0 rfl (x_assign (v := .int _ _) rfl) ?_
                    refine p0 rfl (x_assign (v := .int _ _) rfl) ?_
                    refine p_nil (np_normal ?_)
                    refine n_then ?_
                    refine wp_seq ?_
                    obtain ⟨q1, q2, q3⟩ := fs_read hto.1 h50
                    rw [hta] at q1 q2 q3
                    refine c_plan (fun wq => Exm [] w61 wq) 16 (.cons (0, 2) (.cons (1, 2) (.cons (2, 2) (.cons (3, 2) (.cons (4, 2) (.cons (5, 2) (.cons (6, 2) (.cons (7, 2) (.cons (8, 2) (.cons (9, 1) (.cons (11, 2) (.cons (12, 1) (.cons (10, 0) (.cons (13, 2) (.cons (14, 2) (.cons (15, 2) .nil)))))))))))))))) (by kernel_rfl) (by kernel_rfl) (Exm.drew _) ?_
                    obtain ⟨w63, hwd⟩ : ∃ x, x = w61.drew := ⟨_, rfl⟩
                    have l64 : Ext w61 w63 := by rw [hwd]; exact Exm.drew _
                    rw [← hwd]; clear hwd
                    have Lq : Exm [] w61 w63 := l64.up
                    have qB5 := B5
                    have qB12 := B12
                    have qB19 := B19
                    have qB30 := B30
                    have qB58 := B58
                    have qo20 := o20
                    have qo86 := o86
                    have qL := L
                    have z_l64 := l64.size
                    have L := L.tr l64.up
                    have B5 := B5.ext l64
                    have B12 := B12.ext l64
                    have B19 := B19.ext l64
                    have B30 := B30.ext l64
                    have B58 := B58.ext l64
                    have o20 := o20.ext l64
                    have o86 := o86.ext l64
                    refine p0 rfl (x_move (v := .int _ _) rfl) ?_
                    refine p0 rfl (x_move (v := .int _ _) rfl) ?_
                    refine pb rfl (x_eql rfl rfl) (fun h93 => ?_) (fun h93 => ?_)
                    · refine p0 rfl (x_move (v := .bool _) rfl) ?_
                      refine p0g rfl rfl rfl rfl rfl (x_move (v := .int _ _) rfl) ?_
                      refine p0g rfl rfl rfl rfl rfl (x_move (v := .int _ _) rfl) ?_
                      refine pbg rfl rfl rfl rfl rfl (x_eql rfl rfl) (fun h97 => ?_) (fun h97 => ?_)
                      · refine p0 rfl (x_pickt (v := .bool _) rfl rfl) ?_
                        refine p0 rfl (x_move (v := .bool _) rfl) ?_
                        refine psg rfl rfl rfl rfl rfl (fun wq hwq => x_loadAgB ag64GR rfl (qB58.ext hwq) rfl) ?_
                        refine p0g rfl rfl rfl rfl rfl (x_fieldAddr fa42_1GR rfl) ?_
                        refine psg rfl rfl rfl rfl rfl (fun wq hwq => x_loadB sc3GR rfl (qB12.ext hwq) rfl) ?_
                        refine pu rfl ?_ (by rintro ⟨_, _, h, _⟩; cases h)
                        refine gt rfl rfl rfl rfl ?_
                        refine sr (zcall cl71GR rfl) (i_place _ _ _ (by omega)) ?_
                        intro w65 l66
                        have z_l66 := l66.size
                        have L := L.tr l66.up
                        have Lq := Lq.tr l66.up
                        have B5 := B5.ext l66
                        have B12 := B12.ext l66
                        have B19 := B19.ext l66
                        have B30 := B30.ext l66
                        have B58 := B58.ext l66
                        have o20 := o20.ext l66
                        have o86 := o86.ext l66
                        refine c_end ⟨rfl, fun h hS => Lq, ?_⟩
                        refine p0g rfl rfl rfl rfl rfl (x_eql rfl rfl) ?_
                        refine p0 rfl (x_pickt (v := .bool _) rfl rfl) ?_
                        refine p0 rfl (x_assign (v := .bool _) rfl) ?_
                        refine p_nil (np_normal ?_)
                        refine n_then ?_
                        refine wp_ret ?_
                        refine f_ret rfl rfl ?_
                        exact ⟨ret_bt q3, L⟩
                      · exact absurd q2 h97
                    · exact absurd q1 h93
                  · refine pu rfl ?_ (by rintro ⟨_, _, h, _⟩; cases h)
                    refine s_alloc zr64GR ?_
                    intro b67 w68 lob67 hib67 l69 B67
                    have z_l69 := l69.size
                    have L := L.tr l69.up
                    have Lq := Lq.tr l69.up
                    have B5 := B5.ext l69
                    have B12 := B12.ext l69
                    have B19 := B19.ext l69
                    have B30 := B30.ext l69
                    have o20 := o20.ext l69
                    have o86 := o86.ext l69
                    refine c_end ⟨rfl, fun h hS => Lq, ?_⟩
                    refine pu rfl ?_ (by rintro ⟨_, _, h, _⟩; cases h)
                    refine sr (zcall cl69GR rfl) (i_fastSym _ _ _ _ _ _ (by omega) o86.sl (by omega)) ?_
                    intro w70 l71
                    have z_l71 := l71.size
                    have L := L.tr l71.up
                    have Lq := Lq.tr l71.up
                    have B5 := B5.ext l71
                    have B12 := B12.ext l71
                    have B19 := B19.ext l71
                    have B30 := B30.ext l71
                    have B67 := B67.ext l71
                    have o20 := o20.ext l71
                    have o86 := o86.ext l71
                    refine c_end ⟨rfl, fun h hS => Lq, ?_⟩
                    refine p0 rfl (x_move (v := .tuple _) rfl) ?_
                    refine p0 rfl (x_extract rfl rfl) ?_
                    refine p0 rfl (x_extract rfl rfl) ?_
                    refine p0 rfl (x_extract rfl rfl) ?_
                    refine pu rfl ?_ (by rintro ⟨_, _, h, _⟩; cases h)
                    refine s_storeAg rfl sz64GR rfl rfl B67 rfl rfl rfl ?_
                    intro w72 l73 el73 B67
                    have z_l73 := l73.size
                    have L := L.fresh l73 (by omega)
                    have Lq := Lq.fresh l73 (by omega)
                    have B5 := B5.ne l73 (by omega)
                    have B12 := B12.ne l73 (by omega)
                    have B19 := B19.ne l73 (by omega)
                    have B30 := B30.ne l73 (by omega)
                    have o20 := o20.ne l73 (by first | assumption | exact nin_of f20 g20 (by omega))
                    have o86 := o86.ne l73 (by first | assumption | exact nin_of f86 g86 (by omega))
                    refine c_end ⟨rfl, fun h hS => Lq, ?_⟩
                    refine p0 rfl (x_assign (v := .int _ _) rfl) ?_
                    refine p0 rfl (x_assign (v := .int _ _) rfl) ?_
                    refine p_nil (np_normal ?_)
                    refine n_then ?_
                    refine wp_seq ?_
                    obtain ⟨q1, q2, q3⟩ := fs_read hto.1 h50
                    rw [hta] at q1 q2 q3
                    refine c_plan (fun wq => Exm [] w72 wq) 16 (.cons (0, 2) (.cons (1, 2) (.cons (2, 2) (.cons (3, 2) (.cons (4, 2) (.cons (5, 2) (.cons (6, 2) (.cons (7, 2) (.cons (8, 2) (.cons (9, 1) (.cons (11, 2) (.cons (12, 1) (.cons (10, 0) (.cons (13, 2) (.cons (14, 2) (.cons (15, 2) .nil)))))))))))))))) (by kernel_rfl) (by kernel_rfl) (Exm.drew _) ?_
                    obtain ⟨w74, hwd⟩ : ∃ x, x = w72.drew := ⟨_, rfl⟩
                    have l75 : Ext w72 w74 := by rw [hwd]; exact Exm.drew _
                    rw [← hwd]; clear hwd
                    have Lq : Exm [] w72 w74 := l75.up
                    have qB5 := B5
                    have qB12 := B12
                    have qB19 := B19
                    have qB30 := B30
                    have qB67 := B67
                    have qo20 := o20
                    have qo86 := o86
                    have qL := L
                    have z_l75 := l75.size
                    have L := L.tr l75.up
                    have B5 := B5.ext l75
                    have B12 := B12.ext l75
                    have B19 := B19.ext l75
                    have B30 := B30.ext l75
                    have B67 := B67.ext l75
                    have o20 := o20.ext l75
                    have o86 := o86.ext l75
                    refine p0 rfl (x_move (v := .int _ _) rfl) ?_
                    refine p0 rfl (x_move (v := .int _ _) rfl) ?_
                    refine pb rfl (x_eql rfl rfl) (fun h93 => ?_) (fun h93 => ?_)
                    · refine p0 rfl (x_move (v := .bool _) rfl) ?_
                      refine p0g rfl rfl rfl rfl rfl (x_move (v := .int _ _) rfl) ?_
                      refine p0g rfl rfl rfl rfl rfl (x_move (v := .int _ _) rfl) ?_
                      refine pbg rfl rfl rfl rfl rfl (x_eql rfl rfl) (fun h97 => ?_) (fun h97 => ?_)
                      · refine p0 rfl (x_pickt (v := .bool _) rfl rfl) ?_
                        refine p0 rfl (x_move (v := .bool _) rfl) ?_
                        refine psg rfl rfl rfl rfl rfl (fun wq hwq => x_loadAgB ag64GR rfl (qB67.ext hwq) rfl) ?_
                        refine p0g rfl rfl rfl rfl rfl (x_fieldAddr fa42_1GR rfl) ?_
                        refine psg rfl rfl rfl rfl rfl (fun wq hwq => x_loadB sc3GR rfl (qB12.ext hwq) rfl) ?_
                        refine pu rfl ?_ (by rintro ⟨_, _, h, _⟩; cases h)
                        refine gt rfl rfl rfl rfl ?_
                        refine sr (zcall cl71GR rfl) (i_place _ _ _ (by omega)) ?_
                        intro w76 l77
                        have z_l77 := l77.size
                        have L := L.tr l77.up
                        have Lq := Lq.tr l77.up
                        have B5 := B5.ext l77
                        have B12 := B12.ext l77
                        have B19 := B19.ext l77
                        have B30 := B30.ext l77
                        have B67 := B67.ext l77
                        have o20 := o20.ext l77
                        have o86 := o86.ext l77
                        refine c_end ⟨rfl, fun h hS => Lq, ?_⟩
                        refine p0g rfl rfl rfl rfl rfl (x_eql rfl rfl) ?_
                        refine p0 rfl (x_pickt (v := .bool _) rfl rfl) ?_
                        refine p0 rfl (x_assign (v := .bool _) rfl) ?_
                        refine p_nil (np_normal ?_)
                        refine n_then ?_
                        refine wp_ret ?_
                        refine f_ret rfl rfl ?_
                        exact ⟨ret_bt q3, L⟩
                      · exact absurd q2 h97
                    · exact absurd q1 h93
                · refine pu rfl ?_ (by rintro ⟨_, _, h, _⟩; cases h)
                  refine s_alloc zr64GR ?_
                  intro b78 w79 lob78 hib78 l80 B78
                  have z_l80 := l80.size
                  have L := L.tr l80.up
                  have Lq := Lq.tr l80.up
                  have B5 := B5.ext l80
                  have B12 := B12.ext l80
                  have B19 := B19.ext l80
                  have B30 := B30.ext l80
                  have o20 := o20.ext l80
                  refine c_end ⟨rfl, fun h hS => Lq, ?_⟩
                  refine pu rfl ?_ (by rintro ⟨_, _, h, _⟩; cases h)
                  refine sp (zcall cl70GR rfl) (i_symTable _ _ _ _ o20.sl (by omega)) ?_
                  rintro v86 w81 l82 ⟨p86, c86, F86, rfl, o86, f86⟩
                  have z_l82 := l82.size
                  have L := L.tr l82.up
                  have Lq := Lq.tr l82.up
                  have B5 := B5.ext l82
                  have B12 := B12.ext l82
                  have B19 := B19.ext l82
                  have B30 := B30.ext l82
                  have B78 := B78.ext l82
                  have o20 := o20.ext l82
                  have g86 := o86.lt
                  refine c_end ⟨rfl, fun h hS => Lq, ?_⟩
                  refine pu rfl ?_ (by rintro ⟨_, _, h, _⟩; cases h)
                  refine sr (zcall cl69GR rfl) (i_fastSym _ _ _ _ _ _ (by omega) o86.sl (by omega)) ?_
                  intro w83 l84
                  have z_l84 := l84.size
                  have L := L.tr l84.up
                  have Lq := Lq.tr l84.up
                  have B5 := B5.ext l84
                  have B12 := B12.ext l84
                  have B19 := B19.ext l84
                  have B30 := B30.ext l84
                  have B78 := B78.ext l84
                  have o20 := o20.ext l84
                  have o86 := o86.ext l84
                  refine c_end ⟨rfl, fun h hS => Lq, ?_⟩
                  refine p0 rfl (x_move (v := .tuple _) rfl) ?_
                  refine p0 rfl (x_extract rfl rfl) ?_
                  refine p0 rfl (x_extract rfl rfl) ?_
                  refine p0 rfl (x_extract rfl rfl) ?_
                  refine pu rfl ?_ (by rintro ⟨_, _, h, _⟩; cases h)
                  refine s_storeAg rfl sz64GR rfl rfl B78 rfl rfl rfl ?_
                  intro w85 l86 el86 B78
                  have z_l86 := l86.size
                  have L := L.fresh l86 (by omega)
                  have Lq := Lq.fresh l86 (by omega)
                  have B5 := B5.ne l86 (by omega)
                  have B12 := B12.ne l86 (by omega)
                  have B19 := B19.ne l86 (by omega)
                  have B30 := B30.ne l86 (by omega)
                  have o20 := o20.ne l86 (by first | assumption | exact nin_of f20 g20 (by omega))
                  have o86 := o86.ne l86 (by first | assumption | exact nin_of f86 g86 (by omega))
                  refine c_end ⟨rfl, fun h hS => Lq, ?_⟩
                  refine p0 rfl (x_assign (v := .int _ _) rfl) ?_
                  refine p0 rfl (x_assign (v := .int _ _) rfl) ?_
                  refine p_nil (np_normal ?_)
                  refine n_then ?_
                  refine wp_seq ?_
                  obtain ⟨q1, q2, q3⟩ := fs_read hto.1 h50
                  rw [hta] at q1 q2 q3
                  refine c_plan (fun wq => Exm [] w85 wq) 16 (.cons (0, 2) (.cons (1, 2) (.cons (2, 2) (.cons (3, 2) (.cons (4, 2) (.cons (5, 2) (.cons (6, 2) (.cons (7, 2) (.cons (8, 2) (.cons (9, 1) (.cons (11, 2) (.cons (12, 1) (.cons (10, 0) (.cons (13, 2) (.cons (14, 2) (.cons (15, 2) .nil)))))))))))))))) (by kernel_rfl) (by kernel_rfl) (Exm.drew _) ?_
                  obtain ⟨w87, hwd⟩ : ∃ x, x = w85.drew := ⟨_, rfl⟩
                  have l88 : Ext w85 w87 := by rw [hwd]; exact Exm.drew _
                  rw [← hwd]; clear hwd
                  have Lq : Exm [] w85 w87 := l88.up
                  have qB5 := B5
                  have qB12 := B12
                  have qB19 := B19
                  have qB30 := B30
                  have qB78 := B78
                  have qo20 := o20
                  have qo86 := o86
                  have qL := L
                  have z_l88 := l88.size
                  have L := L.tr l88.up
                  have B5 := B5.ext l88
                  have B12 := B12.ext l88
                  have B19 := B19.ext l88
                  have B30 := B30.ext l88
                  have B78 := B78.ext l88
                  have o20 := o20.ext l88
                  have o86 := o86.ext l88
                  refine p0 rfl (x_move (v := .int _ _) rfl) ?_
                  refine p0 rfl (x_move (v := .int _ _) rfl) ?_
                  refine pb rfl (x_eql rfl rfl) (fun h93 => ?_) (fun h93 => ?_)
                  · refine p0 rfl (x_move (v := .bool _) rfl) ?_
                    refine p0g rfl rfl rfl rfl rfl (x_move (v := .int _ _) rfl) ?_
                    refine p0g rfl rfl rfl rfl rfl (x_move (v := .int _ _) rfl) ?_
                    refine pbg rfl rfl rfl rfl rfl (x_eql rfl rfl) (fun h97 => ?_) (fun h97 => ?_)
                    · refine p0 rfl (x_pickt (v := .bool _) rfl rfl) ?_
                      refine p0 rfl (x_move (v := .bool _) rfl) ?_
                      refine psg rfl rfl rfl rfl rfl (fun wq hwq => x_loadAgB ag64GR rfl (qB78.ext hwq) rfl) ?_
                      refine p0g rfl rfl rfl rfl rfl (x_fieldAddr fa42_1GR rfl) ?_
                      refine psg rfl rfl rfl rfl rfl (fun wq hwq => x_loadB sc3GR rfl (qB12.ext hwq) rfl) ?_
                      refine pu rfl ?_ (by rintro ⟨_, _, h, _⟩; cases h)
                      refine gt rfl rfl rfl rfl ?_
                      refine sr (zcall cl71GR rfl) (i_place _ _ _ (by omega)) ?_
                      intro w89 l90
                      have z_l90 := l90.size
                      have L := L.tr l90.up
                      have Lq := Lq.tr l90.up
                      have B5 := B5.ext l90
                      have B12 := B12.ext l90
                      have B19 := B19.ext l90
                      have B30 := B30.ext l90
                      have B78 := B78.ext l90
                      have o20 := o20.ext l90
                      have o86 := o86.ext l90
                      refine c_end ⟨rfl, fun h hS => Lq, ?_⟩
                      refine p0g rfl rfl rfl rfl rfl (x_eql rfl rfl) ?_
                      refine p0 rfl (x_pickt (v := .bool _) rfl rfl) ?_
                      refine p0 rfl (x_assign (v := .bool _) rfl) ?_
                      refine p_nil (np_normal ?_)
                      refine n_then ?_
                      refine wp_ret ?_
                      refine f_ret rfl rfl ?_
                      exact ⟨ret_bt q3, L⟩
                    · exact absurd q2 h97
                  · exact absurd q1 h93
            · refine p0 rfl (x_move (v := .bool _) rfl) ?_
              refine pf1 rfl rfl rfl rfl rfl ?_
              refine pf rfl rfl rfl rfl rfl ?_
              refine pf1 rfl rfl rfl rfl rfl ?_
              refine pu rfl ?_ (by rintro ⟨_, _, h, _⟩; cases h)
              refine gf rfl rfl rfl rfl ?_
              refine c_end ⟨rfl, fun h hS => Lq, ?_⟩
              refine pf rfl rfl rfl rfl rfl ?_
              refine pf rfl rfl rfl rfl rfl ?_
              refine p0 rfl (x_pickf (v := .bool _) rfl rfl) ?_
              refine p_nil (np_normal ?_)
              refine n_then ?_
              refine c_false rfl ?_
              refine wp_exit (e_then (e_then (e_here ?_)))
              refine n_then ?_
              refine wp_seq ?_
              have hpo := place_of hg
              have hpi := place_in hg
              refine c_plan (fun wq => Exm [] w36 wq) 10 (.cons (0, 1) (.cons (1, 2) (.cons (2, 1) (.cons (3, 1) (.cons (4, 0) (.cons (5, 2) (.cons (6, 0) (.cons (7, 2) (.cons (8, 2) (.cons (9, 2) (.cons (10, 0) .nil))))))))))) (by kernel_rfl) (by kernel_rfl) (Exm.drew _) ?_
              obtain ⟨w91, hwd⟩ : ∃ x, x = w36.drew := ⟨_, rfl⟩
              have l92 : Ext w36 w91 := by rw [hwd]; exact Exm.drew _
              rw [← hwd]; clear hwd
              have Lq : Exm [] w36 w91 := l92.up
              have qB5 := B5
              have qB12 := B12
              have qB19 := B19
              have qB30 := B30
              have qo20 := o20
              have qL := L
              have z_l92 := l92.size
              have L := L.tr l92.up
              have B5 := B5.ext l92
              have B12 := B12.ext l92
              have B19 := B19.ext l92
              have B30 := B30.ext l92
              have o20 := o20.ext l92
              refine ps rfl (fun wq hwq => x_loadAgB ag64GR rfl (qB30.ext hwq) rfl) ?_
              refine p0 rfl (x_fieldAddr fa42_1GR rfl) ?_
              refine ps rfl (fun wq hwq => x_loadB sc3GR rfl (qB5.ext hwq) rfl) ?_
              refine ps rfl (fun wq hwq => x_loadAgB ag64GR rfl (qB30.ext hwq) rfl) ?_
              refine pu rfl ?_ (by rintro ⟨_, _, h, _⟩; cases h)
              refine sr (zcall cl67GR rfl) (s_place _ _ _ (by omega)) ?_
              intro w93 l94
              have z_l94 := l94.size
              have L := L.tr l94.up
              have Lq := Lq.tr l94.up
              have B5 := B5.ext l94
              have B12 := B12.ext l94
              have B19 := B19.ext l94
              have B30 := B30.ext l94
              have o20 := o20.ext l94
              refine c_end ⟨rfl, fun h hS => Lq, ?_⟩
              refine p0 rfl (x_sub rfl rfl (by omega)) ?_
              refine pu rfl ?_ (by rintro ⟨_, _, h, _⟩; cases h)
              refine sr (zcall cl68GR rfl) (s_skip _ g.1 _ _ (by omega)) ?_
              intro w95 l96
              have z_l96 := l96.size
              have L := L.tr l96.up
              have Lq := Lq.tr l96.up
              have B5 := B5.ext l96
              have B12 := B12.ext l96
              have B19 := B19.ext l96
              have B30 := B30.ext l96
              have o20 := o20.ext l96
              refine c_end ⟨rfl, fun h hS => Lq, ?_⟩
              refine p0 rfl (x_move (v := .tuple _) rfl) ?_
              refine p0 rfl (x_extract rfl rfl) ?_
              refine p0 rfl (x_extract rfl rfl) ?_
              refine pu rfl ?_ (by rintro ⟨_, _, h, _⟩; cases h)
              refine s_storeAg rfl sz64GR rfl rfl B30 rfl rfl rfl ?_
              intro w97 l98 el98 B30
              have z_l98 := l98.size
              have L := L.fresh l98 (by omega)
              have B5 := B5.ne l98 (by omega)
              have B12 := B12.ne l98 (by omega)
              have B19 := B19.ne l98 (by omega)
              have o20 := o20.ne l98 (by first | assumption | exact nin_of f20 g20 (by omega))
              refine c_end ⟨rfl, fun h hS => absurd h (by decide), ?_⟩
              refine p_nil (np_normal ?_)
              refine n_then ?_
              refine wp_seq ?_
              have hto := sk_to (n := a20 - placeOf s20 g.1) hg (by omega) (by omega)
              have hta : 8 * (skC s20 g.1 (a20 - placeOf s20 g.1)).pos - (skC s20 g.1 (a20 - placeOf s20 g.1)).hv = a20 := by rw [hto.2]; omega
              have htl := symTab_len h50
              refine c_plan (fun wq => Exm [] w97 wq) 12 (.cons (0, 1) (.cons (1, 2) (.fork 2 8 (.fork 3 8 (.cons (4, 2) (.cons (5, 2) (.cons (6, 2) (.cons (7, 2) (.cons (8, 0) (.cons (9, 0) (.cons (10, 2) (.cons (11, 2) .nil)))))))) (.cons (3, 0) (.cons (4, 2) (.cons (5, 2) (.cons (6, 2) (.cons (7, 2) (.cons (9, 0) (.cons (10, 2) (.cons (11, 2) .nil))))))))) (.cons (2, 0) (.cons (3, 0) (.cons (4, 2) (.cons (5, 2) (.cons (6, 2) (.cons (7, 2) (.cons (9, 0) (.cons (10, 2) (.cons (11, 2) .nil)))))))))))) (by kernel_rfl) (by kernel_rfl) (Exm.drew _) ?_
              obtain ⟨w99, hwd⟩ : ∃ x, x = w97.drew := ⟨_, rfl⟩
              have l100 : Ext w97 w99 := by rw [hwd]; exact Exm.drew _
              rw [← hwd]; clear hwd
              have Lq : Exm [] w97 w99 := l100.up
              have qB5 := B5
              have qB12 := B12
              have qB19 := B19
              have qB30 := B30
              have qo20 := o20
              have qL := L
              have z_l100 := l100.size
              have L := L.tr l100.up
              have B5 := B5.ext l100
              have B12 := B12.ext l100
              have B19 := B19.ext l100
              have B30 := B30.ext l100
              have o20 := o20.ext l100
              refine ps rfl (fun wq hwq => x_loadAgB ag64GR rfl (qB30.ext hwq) rfl) ?_
              refine p0 rfl (x_move (v := .slice _ _ _) rfl) ?_
              refine pfork ?_ ?_
              · refine pu rfl ?_ (by rintro ⟨_, _, h, _⟩; cases h)
                refine sp (zcall cl70GR rfl) (i_symTable _ _ _ _ o20.sl (by omega)) ?_
                rintro v86 w101 l102 ⟨p86, c86, F86, rfl, o86, f86⟩
                have z_l102 := l102.size
                have L := L.tr l102.up
                have Lq := Lq.tr l102.up
                have B5 := B5.ext l102
                have B12 := B12.ext l102
                have B19 := B19.ext l102
                have B30 := B30.ext l102
                have o20 := o20.ext l102
                have g86 := o86.lt
                refine c_end ⟨rfl, fun h hS => Lq, ?_⟩
                refine pfork ?_ ?_
                · refine pu rfl ?_ (by rintro ⟨_, _, h, _⟩; cases h)
                  refine sr (zcall cl69GR rfl) (i_fastSym _ _ _ _ _ _ (by omega) o86.sl (by omega)) ?_
                  intro w103 l104
                  have z_l104 := l104.size
                  have L := L.tr l104.up
                  have Lq := Lq.tr l104.up
                  have B5 := B5.ext l104
                  have B12 := B12.ext l104
                  have B19 := B19.ext l104
                  have B30 := B30.ext l104
                  have o20 := o20.ext l104
                  have o86 := o86.ext l104
                  refine c_end ⟨rfl, fun h hS => Lq, ?_⟩
                  refine p0 rfl (x_move (v := .tuple _) rfl) ?_
                  refine p0 rfl (x_extract rfl rfl) ?_
                  refine p0 rfl (x_extract rfl rfl) ?_
                  refine p0 rfl (x_extract rfl rfl) ?_
                  refine pu rfl ?_ (by rintro ⟨_, _, h, _⟩; cases h)
                  refine s_alloc zr64GR ?_
                  intro b105 w106 lob105 hib105 l107 B105
                  have z_l107 := l107.size
                  have L := L.tr l107.up
                  have Lq := Lq.tr l107.up
                  have B5 := B5.ext l107
                  have B12 := B12.ext l107
                  have B19 := B19.ext l107
                  have B30 := B30.ext l107
                  have o20 := o20.ext l107
                  have o86 := o86.ext l107
                  refine c_end ⟨rfl, fun h hS => Lq, ?_⟩
                  refine pu rfl ?_ (by rintro ⟨_, _, h, _⟩; cases h)
                  refine s_storeAg rfl sz64GR rfl rfl B105 rfl rfl rfl ?_
                  intro w108 l109 el109 B105
                  have z_l109 := l109.size
                  have L := L.fresh l109 (by omega)
                  have Lq := Lq.fresh l109 (by omega)
                  have B5 := B5.ne l109 (by omega)
                  have B12 := B12.ne l109 (by omega)
                  have B19 := B19.ne l109 (by omega)
                  have B30 := B30.ne l109 (by omega)
                  have o20 := o20.ne l109 (by first | assumption | exact nin_of f20 g20 (by omega))
                  have o86 := o86.ne l109 (by first | assumption | exact nin_of f86 g86 (by omega))
                  refine c_end ⟨rfl, fun h hS => Lq, ?_⟩
                  refine p0 rfl (x_assign (v := .int _ _) rfl) ?_
                  refine p0 rfl (x_assign (v := .int _ _) rfl) ?_
                  refine p_nil (np_normal ?_)
                  refine n_then ?_
                  refine wp_seq ?_
                  obtain ⟨q1, q2, q3⟩ := fs_read hto.1 h50
                  rw [hta] at q1 q2 q3
                  refine c_plan (fun wq => Exm [] w108 wq) 16 (.cons (0, 2) (.cons (1, 2) (.cons (2, 2) (.cons (3, 2) (.cons (4, 2) (.cons (5, 2) (.cons (6, 2) (.cons (7, 2) (.cons (8, 2) (.cons (9, 1) (.cons (11, 2) (.cons (12, 1) (.cons (10, 0) (.cons (13, 2) (.cons (14, 2) (.cons (15, 2) .nil)))))))))))))))) (by kernel_rfl) (by kernel_rfl) (Exm.drew _) ?_
                  obtain ⟨w110, hwd⟩ : ∃ x, x = w108.drew := ⟨_, rfl⟩
                  have l111 : Ext w108 w110 := by rw [hwd]; exact Exm.drew _
                  rw [← hwd]; clear hwd
                  have Lq : Exm [] w108 w110 := l111.up
                  have qB5 := B5
                  have qB12 := B12
                  have qB19 := B19
                  have qB30 := B30
                  have qB105 := B105
                  have qo20 := o20
                  have qo86 := o86
                  have qL := L
                  have z_l111 := l111.size
                  have L := L.tr l111.up
                  have B5 := B5.ext l111
                  have B12 := B12.ext l111
                  have B19 := B19.ext l111
                  have B30 := B30.ext l111
                  have B105 := B105.ext l111
                  have o20 := o20.ext l111
                  have o86 := o86.ext l111
                  refine p0 rfl (x_move (v := .int _ _) rfl) ?_
                  refine p0 rfl (x_move (v := .int _ _) rfl) ?_
                  refine pb rfl (x_eql rfl rfl) (fun h93 => ?_) (fun h93 => ?_)
                  · refine p0 rfl (x_move (v := .bool _) rfl) ?_
                    refine p0g rfl rfl rfl rfl rfl (x_move (v := .int _ _) rfl) ?_
                    refine p0g rfl rfl rfl rfl rfl (x_move (v := .int _ _) rfl) ?_
                    refine pbg rfl rfl rfl rfl rfl (x_eql rfl rfl) (fun h97 => ?_) (fun h97 => ?_)
                    · refine p0 rfl (x_pickt (v := .bool _) rfl rfl) ?_
                      refine p0 rfl (x_move (v := .bool _) rfl) ?_
                      refine psg rfl rfl rfl rfl rfl (fun wq hwq => x_loadAgB ag64GR rfl (qB105.ext hwq) rfl) ?_
                      refine p0g rfl rfl rfl rfl rfl (x_fieldAddr fa42_1GR rfl) ?_
                      refine psg rfl rfl rfl rfl rfl (fun wq hwq => x_loadB sc3GR rfl (qB12.ext hwq) rfl) ?_
                      refine pu rfl ?_ (by rintro ⟨_, _, h, _⟩; cases h)
                      refine gt rfl rfl rfl rfl ?_
                      refine sr (zcall cl71GR rfl) (i_place _ _ _ (by omega)) ?_
                      intro w112 l113
                      have z_l113 := l113.size
                      have L := L.tr l113.up
                      have Lq := Lq.tr l113.up
                      have B5 := B5.ext l113
                      have B12 := B12.ext l113
                      have B19 := B19.ext l113
                      have B30 := B30.ext l113
                      have B105 := B105.ext l113
                      have o20 := o20.ext l113
                      have o86 := o86.ext l113
                      refine c_end ⟨rfl, fun h hS => Lq, ?_⟩
                      refine p0g rfl rfl rfl rfl rfl (x_eql rfl rfl) ?_
                      refine p0 rfl (x_pickt (v := .bool _) rfl rfl) ?_
                      refine p0 rfl (x_assign (v := .bool _) rfl) ?_
                      refine p_nil (np_normal ?_)
                      refine n_then ?_
                      refine wp_ret ?_
                      refine f_ret rfl rfl ?_
                      exact ⟨ret_bt q3, L⟩
                    · exact absurd q2 h97
                  · exact absurd q1 h93
                · refine pu rfl ?_ (by rintro ⟨_, _, h, _⟩; cases h)
                  refine s_alloc zr64GR ?_
                  intro b114 w115 lob114 hib114 l116 B114
                  have z_l116 := l116.size
                  have L := L.tr l116.up
                  have Lq := Lq.tr l116.up
                  have B5 := B5.ext l116
                  have B12 := B12.ext l116
                  have B19 := B19.ext l116
                  have B30 := B30.ext l116
                  have o20 := o20.ext l116
                  have o86 := o86.ext l116
                  refine c_end ⟨rfl, fun h hS => Lq, ?_⟩
                  refine pu rfl ?_ (by rintro ⟨_, _, h, _⟩; cases h)
                  refine sr (zcall cl69GR rfl) (i_fastSym _ _ _ _ _ _ (by omega) o86.sl (by omega)) ?_
                  intro w117 l118
                  have z_l118 := l118.size
                  have L := L.tr l118.up
                  have Lq := Lq.tr l118.up
                  have B5 := B5.ext l118
                  have B12 := B12.ext l118
                  have B19 := B19.ext l118
                  have B30 := B30.ext l118
                  have B114 := B114.ext l118
                  have o20 := o20.ext l118
                  have o86 := o86.ext l118
                  refine c_end ⟨rfl, fun h hS => Lq, ?_⟩
                  refine p0 rfl (x_move (v := .tuple _) rfl) ?_
                  refine p0 rfl (x_extract rfl rfl) ?_
                  refine p0 rfl (x_extract rfl rfl) ?_
                  refine p0 rfl (x_extract rfl rfl) ?_
                  refine pu rfl ?_ (by rintro ⟨_, _, h, _⟩; cases h)
                  refine s_storeAg rfl sz64GR rfl rfl B114 rfl rfl rfl ?_
                  intro w119 l120 el120 B114
                  have z_l120 := l120.size
                  have L := L.fresh l120 (by omega)
                  have Lq := Lq.fresh l120 (by omega)
                  have B5 := B5.ne l120 (by omega)
                  have B12 := B12.ne l120 (by omega)
                  have B19 := B19.ne l120 (by omega)
                  have B30 := B30.ne l120 (by omega)
                  have o20 := o20.ne l120 (by first | assumption | exact nin_of f20 g20 (by omega))
                  have o86 := o86.ne l120 (by first | assumption | exact nin_of f86 g86 (by omega))
                  refine c_end ⟨rfl, fun h hS => Lq, ?_⟩
                  refine p0 rfl (x_assign (v := .int _ _) rfl) ?_
                  refine p0 rfl (x_assign (v := .int _ _) rfl) ?_
                  refine p_nil (np_normal ?_)
                  refine n_then ?_
                  refine wp_seq ?_
                  obtain ⟨q1, q2, q3⟩ := fs_read hto.1 h50
                  rw [hta] at q1 q2 q3
                  refine c_plan (fun wq => Exm [] w119 wq) 16 (.cons (0, 2) (.cons (1, 2) (.cons (2, 2) (.cons (3, 2) (.cons (4, 2) (.cons (5, 2) (.cons (6, 2) (.cons (7, 2) (.cons (8, 2) (.cons (9, 1) (.cons (11, 2) (.cons (12, 1) (.cons (10, 0) (.cons (13, 2) (.cons (14, 2) (.cons (15, 2) .nil)))))))))))))))) (by kernel_rfl) (by kernel_rfl) (Exm.drew _) ?_
                  obtain ⟨w121, hwd⟩ : ∃ x, x = w119.drew := ⟨_, rfl⟩
                  have l122 : Ext w119 w121 := by rw [hwd]; exact Exm.drew _
                  rw [← hwd]; clear hwd
                  have Lq : Exm [] w119 w121 := l122.up
                  have qB5 := B5
                  have qB12 := B12
                  have qB19 := B19
                  have qB30 := B30
                  have qB114 := B114
                  have qo20 := o20
                  have qo86 := o86
                  have qL := L
                  have z_l122 := l122.size
                  have L := L.tr l122.up
                  have B5 := B5.ext l122
                  have B12 := B12.ext l122
                  have B19 := B19.ext l122
                  have B30 := B30.ext l122
                  have B114 := B114.ext l122
                  have o20 := o20.ext l122
                  have o86 := o86.ext l122
                  refine p0 rfl (x_move (v := .int _ _) rfl) ?_
                  refine p0 rfl (x_move (v := .int _ _) rfl) ?_
                  refine pb rfl (x_eql rfl rfl) (fun h93 => ?_) (fun h93 => ?_)
                  · refine p0 rfl (x_move (v := .bool _) rfl) ?_
                    refine p0g rfl rfl rfl rfl rfl (x_move (v := .int _ _) rfl) ?_
                    refine p0g rfl rfl rfl rfl rfl (x_move (v := .int _ _) rfl) ?_
                    refine pbg rfl rfl rfl rfl rfl (x_eql rfl rfl) (fun h97 => ?_) (fun h97 => ?_)
                    · refine p0 rfl (x_pickt (v := .bool _) rfl rfl) ?_
                      refine p0 rfl (x_move (v := .bool _) rfl) ?_
                      refine psg rfl rfl rfl rfl rfl (fun wq hwq => x_loadAgB ag64GR rfl (qB114.ext hwq) rfl) ?_
                      refine p0g rfl rfl rfl rfl rfl (x_fieldAddr fa42_1GR rfl) ?_
                      refine psg rfl rfl rfl rfl rfl (fun wq hwq => x_loadB sc3GR rfl (qB12.ext hwq) rfl) ?_
                      refine pu rfl ?_ (by rintro ⟨_, _, h, _⟩; cases h)
                      refine gt rfl rfl rfl rfl ?_
                      refine sr (zcall cl71GR rfl) (i_place _ _ _ (by omega)) ?_
                      intro w123 l124
                      have z_l124 := l124.size
                      have L := L.tr l124.up
                      have Lq := Lq.tr l124.up
                      have B5 := B5.ext l124
                      have B12 := B12.ext l124
                      have B19 := B19.ext l124
                      have B30 := B30.ext l124
                      have B114 := B114.ext l124
                      have o20 := o20.ext l124
                      have o86 := o86.ext l124
                      refine c_end ⟨rfl, fun h hS => Lq, ?_⟩
                      refine p0g rfl rfl rfl rfl rfl (x_eql rfl rfl) ?_
                      refine p0 rfl (x_pickt (v := .bool _) rfl rfl) ?_
                      refine p0 rfl (x_assign (v := .bool _) rfl) ?_
                      refine p_nil (np_normal ?_)
                      refine n_then ?_
                      refine wp_ret ?_
                      refine f_ret rfl rfl ?_
                      exact ⟨ret_bt q3, L⟩
                    · exact absurd q2 h97
                  · exact absurd q1 h93
              · refine pu rfl ?_ (by rintro ⟨_, _, h, _⟩; cases h)
                refine s_alloc zr64GR ?_
                intro b125 w126 lob125 hib125 l127 B125
                have z_l127 := l127.size
                have L := L.tr l127.up
                have Lq := Lq.tr l127.up
                have B5 := B5.ext l127
                have B12 := B12.ext l127
                have B19 := B19.ext l127
                have B30 := B30.ext l127
                have o20 := o20.ext l127
                refine c_end ⟨rfl, fun h hS => Lq, ?_⟩
                refine pu rfl ?_ (by rintro ⟨_, _, h, _⟩; cases h)
                refine sp (zcall cl70GR rfl) (i_symTable _ _ _ _ o20.sl (by omega)) ?_
                rintro v86 w128 l129 ⟨p86, c86, F86, rfl, o86, f86⟩
                have z_l129 := l129.size
                have L := L.tr l129.up
                have Lq := Lq.tr l129.up
                have B5 := B5.ext l129
                have B12 := B12.ext l129
                have B19 := B19.ext l129
                have B30 := B30.ext l129
                have B125 := B125.ext l129
                have o20 := o20.ext l129
                have g86 := o86.lt
                refine c_end ⟨rfl, fun h hS => Lq, ?_⟩
                refine pu rfl ?_ (by rintro ⟨_, _, h, _⟩; cases h)
                refine sr (zcall cl69GR rfl) (i_fastSym _ _ _ _ _ _ (by omega) o86.sl (by omega)) ?_
                intro w130 l131
                have z_l131 := l131.size
                have L := L.tr l131.up
                have Lq := Lq.tr l131.up
                have B5 := B5.ext l131
                have B12 := B12.ext l131
                have B19 := B19.ext l131
                have B30 := B30.ext l131
                have B125 := B125.ext l131
                have o20 := o20.ext l131
                have o86 := o86.ext l131
                refine c_end ⟨rfl, fun h hS => Lq, ?_⟩
                refine p0 rfl (x_move (v := .tuple _) rfl) ?_
                refine p0 rfl (x_extract rfl rfl) ?_
                refine p0 rfl (x_extract rfl rfl) ?_
                refine p0 rfl (x_extract rfl rfl) ?_
                refine pu rfl ?_ (by rintro ⟨_, _, h, _⟩; cases h)
                refine s_storeAg rfl sz64GR rfl rfl B125 rfl rfl rfl ?_
                intro w132 l133 el133 B125
                have z_l133 := l133.size
                have L := L.fresh l133 (by omega)
                have Lq := Lq.fresh l133 (by omega)
                have B5 := B5.ne l133 (by omega)
                have B12 := B12.ne l133 (by omega)
                have B19 := B19.ne l133 (by omega)
                have B30 := B30.ne l133 (by omega)
                have o20 := o20.ne l133 (by first | assumption | exact nin_of f20 g20 (by omega))
                have o86 := o86.ne l133 (by first | assumption | exact nin_of f86 g86 (by omega))
                refine c_end ⟨rfl, fun h hS => Lq, ?_⟩
                refine p0 rfl (x_assign (v := .int _ _) rfl) ?_
                refine p0 rfl (x_assign (v := .int _ _) rfl) ?_
                refine p_nil (np_normal ?_)
                refine n_then ?_
                refine wp_seq ?_
                obtain ⟨q1, q2, q3⟩ := fs_read hto.1 h50
                rw [hta] at q1 q2 q3
                refine c_plan (fun wq => Exm [] w132 wq) 16 (.cons (0, 2) (.cons (1, 2) (.cons (2, 2) (.cons (3, 2) (.cons (4, 2) (.cons (5, 2) (.cons (6, 2) (.cons (7, 2) (.cons (8, 2) (.cons (9, 1) (.cons (11, 2) (.cons (12, 1) (.cons (10, 0) (.cons (13, 2) (.cons (14, 2) (.cons (15, 2) .nil)))))))))))))))) (by kernel_rfl) (by kernel_rfl) (Exm.drew _) ?_
                obtain ⟨w134, hwd⟩ : ∃ x, x = w132.drew := ⟨_, rfl⟩
                have l135 : Ext w132 w134 := by rw [hwd]; exact Exm.drew _
                rw [← hwd]; clear hwd
                have Lq : Exm [] w132 w134 := l135.up
                have qB5 := B5
                have qB12 := B12
                have qB19 := B19
                have qB30 := B30
                have qB125 := B125
                have qo20 := o20
                have qo86 := o86
                have qL := L
                have z_l135 := l135.size
                have L := L.tr l135.up
                have B5 := B5.ext l135
                have B12 := B12.ext l135
                have B19 := B19.ext l135
                have B30 := B30.ext l135
                have B125 := B125.ext l135
                have o20 := o20.ext l135
                have o86 := o86.ext l135
                refine p0 rfl (x_move (v := .int _ _) rfl) ?_
                refine p0 rfl (x_move (v := .int _ _) rfl) ?_
                refine pb rfl (x_eql rfl rfl) (fun h93 => ?_) (fun h93 => ?_)
                · refine p0 rfl (x_move (v := .bool _) rfl) ?_
                  refine p0g rfl rfl rfl rfl rfl (x_move (v := .int _ _) rfl) ?_
                  refine p0g rfl rfl rfl rfl rfl (x_move (v := .int _ _) rfl) ?_
                  refine pbg rfl rfl rfl rfl rfl (x_eql rfl rfl) (fun h97 => ?_) (fun h97 => ?_)
                  · refine p0 rfl (x_pickt (v := .bool _) rfl rfl) ?_
                    refine p0 rfl (x_move (v := .bool _) rfl) ?_
                    refine psg rfl rfl rfl rfl rfl (fun wq hwq => x_loadAgB ag64GR rfl (qB125.ext hwq) rfl) ?_
                    refine p0g rfl rfl rfl rfl rfl (x_fieldAddr fa42_1GR rfl) ?_
                    refine psg rfl rfl rfl rfl rfl (fun wq hwq => x_loadB sc3GR rfl (qB12.ext hwq) rfl) ?_
                    refine pu rfl ?_ (by rintro ⟨_, _, h, _⟩; cases h)
                    refine gt rfl rfl rfl rfl ?_
                    refine sr (zcall cl71GR rfl) (i_place _ _ _ (by omega)) ?_
                    intro w136 l137
                    have z_l137 := l137.size
                    have L := L.tr l137.up
                    have Lq := Lq.tr l137.up
                    have B5 := B5.ext l137
                    have B12 := B12.ext l137
                    have B19 := B19.ext l137
                    have B30 := B30.ext l137
                    have B125 := B125.ext l137
                    have o20 := o20.ext l137
                    have o86 := o86.ext l137
                    refine c_end ⟨rfl, fun h hS => Lq, ?_⟩
                    refine p0g rfl rfl rfl rfl rfl (x_eql rfl rfl) ?_
                    refine p0 rfl (x_pickt (v := .bool _) rfl rfl) ?_
                    refine p0 rfl (x_assign (v := .bool _) rfl) ?_
                    refine p_nil (np_normal ?_)
                    refine n_then ?_
                    refine wp_ret ?_
                    refine f_ret rfl rfl ?_
                    exact ⟨ret_bt q3, L⟩
                  · exact absurd q2 h97
                · exact absurd q1 h93
          · have z_l27 := l27.size
            have L := L.tr l27.up
            have B5 := B5.ext l27
            have B12 := B12.ext l27
            have B19 := B19.ext l27
            have o20 := o20.ext l27
            refine gt rfl rfl rfl rfl ?_
            refine s0 (x_not rfl) ?_
            refine s0 (x_pickf (v := .bool _) rfl rfl) ?_
            refine c_end ?_
            refine n_then ?_
            refine c_true rfl ?_
            refine wp_seq ?_
            refine c_reg ?_
            refine s0 (x_assign (v := .bool _) rfl) ?_
            refine c_end ?_
            refine n_then ?_
            refine wp_ret (r_then ?_)
            refine f_ret rfl rfl ?_
            exact ⟨rfl, L⟩
        · have z_l25 := l25.size
          have L := L.tr l25.up
          have B5 := B5.ext l25
          have B12 := B12.ext l25
          have B19 := B19.ext l25
          have o20 := o20.ext l25
          refine s0 (x_not rfl) ?_
          refine s0 (x_move (v := .bool _) rfl) ?_
          refine gf rfl rfl rfl rfl ?_
          refine gf rfl rfl rfl rfl ?_
          refine gf rfl rfl rfl rfl ?_
          refine s0 (x_pickt (v := .bool _) rfl rfl) ?_
          refine c_end ?_
          refine n_then ?_
          refine c_true rfl ?_
          refine wp_seq ?_
          refine c_reg ?_
          refine s0 (x_assign (v := .bool _) rfl) ?_
          refine c_end ?_
          refine n_then ?_
          refine wp_ret (r_then ?_)
          refine f_ret rfl rfl ?_
          exact ⟨rfl, L⟩

end Go.Proofs.Ytdnckakaoageoaa
