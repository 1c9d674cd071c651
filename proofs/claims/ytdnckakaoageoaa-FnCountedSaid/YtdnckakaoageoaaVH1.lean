/- What each function of this part returns, for every argument that meets its premises. -/
import Derived.Test.YtdnckakaoageoaaProg
import Derived.Test.YtdnckakaoageoaaVSxF
import Derived.Test.YtdnckakaoageoaaVPlU
import Derived.Test.YtdnckakaoageoaaVF5
import Derived.Test.YtdnckakaoageoaaVFB
import Derived.Test.YtdnckakaoageoaaVFC
import Derived.Test.YtdnckakaoageoaaVFJ
import Derived.Test.YtdnckakaoageoaaVFK
import Derived.Test.YtdnckakaoageoaaVHF
namespace Go.Proofs.Ytdnckakaoageoaa
open Go.Sx Go.Pl Go.RowKit
theorem ag81H1 : Ag Try.prog 81 2 := ⟨⟨_, Try.underlying81⟩, by kernel_rfl⟩
theorem cl24H1 : Callable Try.prog 24 := callable Try.func24 (by kernel_rfl) rfl
theorem cl55H1 : Callable Try.prog 55 := callable Try.func55 (by kernel_rfl) rfl
theorem cl56H1 : Callable Try.prog 56 := callable Try.func56 (by kernel_rfl) rfl
theorem cl57H1 : Callable Try.prog 57 := callable Try.func57 (by kernel_rfl) rfl
theorem cl58H1 : Callable Try.prog 58 := callable Try.func58 (by kernel_rfl) rfl
theorem cl59H1 : Callable Try.prog 59 := callable Try.func59 (by kernel_rfl) rfl
theorem cl60H1 : Callable Try.prog 60 := callable Try.func60 (by kernel_rfl) rfl
theorem fa81_0H1 : FieldAt Try.prog 81 0 0 := ⟨_, _, Try.underlying81, rfl, rfl, ⟨0, by unfold Sz; kernel_rfl⟩⟩
theorem fa81_1H1 : FieldAt Try.prog 81 1 1 := ⟨_, _, Try.underlying81, rfl, rfl, ⟨0, by unfold Sz; kernel_rfl⟩⟩
theorem fa90_0H1 : FieldAt Try.prog 90 0 0 := ⟨_, _, Try.underlying90, rfl, rfl, ⟨0, by unfold Sz; kernel_rfl⟩⟩
theorem fa90_1H1 : FieldAt Try.prog 90 1 1 := ⟨_, _, Try.underlying90, rfl, rfl, ⟨0, by unfold Sz; kernel_rfl⟩⟩
theorem sc22H1 : Sc Try.prog 22 := ⟨(.slice 3), by kernel_rfl, trivial⟩
theorem sc3H1 : Sc Try.prog 3 := ⟨(.int .i64), by kernel_rfl, trivial⟩
theorem so22H1 : SliceOf Try.prog 22 3 1 8 := ⟨by kernel_rfl, by kernel_rfl⟩
theorem so86H1 : SliceOf Try.prog 86 90 2 16 := ⟨by kernel_rfl, by kernel_rfl⟩
theorem sz81H1 : Sz Try.prog 81 2 := by unfold Sz; kernel_rfl
theorem un22H1 : Try.prog.underlying 22 = some (.slice 3) := by kernel_rfl
theorem un86H1 : Try.prog.underlying 86 = some (.slice 90) := by kernel_rfl
theorem zr81H1 : ZeroV Try.prog 81 [.int .i64 0, .slice none 0 0] := by unfold ZeroV; kernel_rfl
/-- laws.FnCounted -/
theorem l_fnCounted (p : Option Addr) (xs : List Int) (c : Nat) (B : Nat) (w : World) (hp : Sl w p xs.length c 1 (bc xs)) (hr : ∀ x ∈ xs, 0 ≤ x ∧ x ≤ 255) (hpB : Bl p xs.length B) (hB : B ≤ w.heap.size) :
    Calls Try.prog 8 [.slice p xs.length c].toArray w (Ret w (.bool true)) := by
  have L : Exm [] w w := Exm.rfl'
  refine enter (n := 74) Try.func8 rfl rfl rfl ?_
  refine wp_seq ?_
  refine c_reg ?_
  refine s0 (x_assign (v := .bool _) rfl) ?_
  refine c_end ?_
  refine n_then ?_
  refine wp_seq ?_
  refine wp_seq ?_
  refine c_reg ?_
  refine s0 (x_move (v := .slice _ _ _) rfl) ?_
  refine srb (zcall cl24H1 rfl) (l_big _ _ _ _) (fun h11 w1 l2 => ?_) (fun h11 w1 l2 => ?_)
  · have z_l2 := l2.size
    have L := L.tr l2.up
    refine c_end ?_
    refine n_then ?_
    refine c_true rfl ?_
    refine wp_seq ?_
    refine c_reg ?_
    refine s0 (x_assign (v := .bool _) rfl) ?_
    refine c_end ?_
    refine n_then ?_
    refine wp_ret (r_then ?_)
    refine f_ret rfl rfl ?_
    exact ⟨rfl, L⟩
  · have z_l2 := l2.size
    have L := L.tr l2.up
    refine c_end ?_
    refine n_then ?_
    refine c_false rfl ?_
    refine c_skipn ?_
    refine n_then ?_
    refine wp_seq ?_
    have hl : xs.length ≤ 1048576 := by omega
    refine c_reg ?_
    refine s0 (x_move (v := .slice _ _ _) rfl) ?_
    refine sp (zcall cl55H1 rfl) (s_drawBlockBits _ _ _ _ _ (hp.ext L) hr hpB (by omega) (by omega)) ?_
    rintro v14 w3 l4 ⟨md14, p14, ys14, c14, F14, p14r, xs14, c14r, F14r, n14, rfl, o14, f14, hy14, o14r, f14r, hx14, hn14⟩
    have z_l4 := l4.size
    have L := L.tr l4.up
    have g14 := o14.lt
    have g14r := o14r.lt
    refine s0 (x_move (v := .tuple _) rfl) ?_
    refine s0 (x_extract rfl rfl) ?_
    refine s0 (x_extract rfl rfl) ?_
    refine s0 (x_extract rfl rfl) ?_
    refine s_alloc zr81H1 ?_
    intro b5 w6 lob5 hib5 l7 B5
    have z_l7 := l7.size
    have L := L.tr l7.up
    have o14 := o14.ext l7
    have o14r := o14r.ext l7
    refine s_storeAg rfl sz81H1 rfl rfl B5 rfl rfl rfl ?_
    intro w8 l9 el9 B5
    have z_l9 := l9.size
    have L := L.fresh l9 (by omega)
    have o14 := o14.ne l9 (by first | assumption | exact nin_of f14 g14 (by omega))
    have o14r := o14r.ne l9 (by first | assumption | exact nin_of f14r g14r (by omega))
    refine s0 (x_assign (v := .slice _ _ _) rfl) ?_
    refine s0 (x_assign (v := .int _ _) rfl) ?_
    refine c_end ?_
    refine n_then ?_
    refine wp_seq ?_
    have hbl := blockBits_le md14 ys14 xs14 n14
    refine c_reg ?_
    refine st (x_loadAgB ag81H1 rfl B5 rfl) ?_
    refine s0 (x_move (v := .slice _ _ _) rfl) ?_
    refine s0 (x_move (v := .int _ _) rfl) ?_
    refine sp (zcall cl56H1 rfl) (i_blockBits _ _ _ _ _ _ _ _ _ o14r.sl (by omega) o14.sl (by omega)) ?_
    rintro v21 w10 l11 ⟨p21, c21, F21, rfl, o21, f21⟩
    have z_l11 := l11.size
    have L := L.tr l11.up
    have B5 := B5.ext l11
    have o14 := o14.ext l11
    have o14r := o14r.ext l11
    have g21 := o21.lt
    refine s0 (x_assign (v := .slice _ _ _) rfl) ?_
    refine c_end ?_
    refine n_then ?_
    refine wp_seq ?_
    refine wp_seq ?_
    refine c_reg ?_
    refine st (x_loadAgB ag81H1 rfl B5 rfl) ?_
    refine s0 (x_move (v := .slice _ _ _) rfl) ?_
    refine s0 (x_move (v := .int _ _) rfl) ?_
    refine srb (zcall cl57H1 rfl) (s_blockOk _ _ _ _ _ _ _ _ _ o14r.sl (by omega) o14.sl (by omega)) (fun h25 w12 l13 => ?_) (fun h25 w12 l13 => ?_)
    · have z_l13 := l13.size
      have L := L.tr l13.up
      have B5 := B5.ext l13
      have o14 := o14.ext l13
      have o14r := o14r.ext l13
      have o21 := o21.ext l13
      refine s0 (x_not rfl) ?_
      refine c_end ?_
      refine n_then ?_
      refine c_false rfl ?_
      refine c_skipn ?_
      refine n_then ?_
      refine wp_seq ?_
      have hbo : blockOk md14 ys14 xs14 n14 := h25
      have hmr : 0 ≤ md14 ∧ md14 ≤ 5 := hbo.2.1.2.1
      have hx6 : xs14.length = 6 := hbo.2.1.1.2.1
      have hca := codeOk_at hbo.2.1.1 md14.toNat
      have hpl := pairs_len ys14
      have hus := ueSize_range (((pairsOf ys14).length : Int) - 1)
      have hcnt := block_count hbo
      refine c_reg ?_
      refine s0 (x_fieldAddr fa81_1H1 rfl) ?_
      refine st (x_loadB sc22H1 rfl B5 rfl) ?_
      refine sp (zcall cl58H1 rfl) (i_pairsOf _ _ _ _ o14.sl (by omega)) ?_
      rintro v32 w14 l15 ⟨p32, c32, F32, rfl, o32, f32⟩
      have z_l15 := l15.size
      have L := L.tr l15.up
      have B5 := B5.ext l15
      have o14 := o14.ext l15
      have o14r := o14r.ext l15
      have o21 := o21.ext l15
      have g32 := o32.lt
      refine s0 (x_assign (v := .slice _ _ _) rfl) ?_
      refine c_end ?_
      refine n_then ?_
      refine wp_seq ?_
      refine c_reg ?_
      refine s0 (x_move (v := .slice _ _ _) rfl) ?_
      refine s0 (x_fieldAddr fa81_0H1 rfl) ?_
      refine st (x_loadB sc3H1 rfl B5 rfl) ?_
      refine s0 (x_idx so22H1 rfl rfl o14r.sl (by decide) (by omega) (by omega)) ?_
      refine st (x_ldi sc3H1 rfl o14r.sl (by omega) (by omega)) ?_
      refine s0 (x_add rfl rfl (by omega)) ?_
      refine s0 (x_assign (v := .int _ _) rfl) ?_
      refine c_end ?_
      refine n_then ?_
      refine wp_seq ?_
      refine wp_seq ?_
      refine c_reg ?_
      refine s0 (x_move (v := .slice _ _ _) rfl) ?_
      refine s0 (x_lensl un86H1 rfl) ?_
      refine sb (x_gtr rfl rfl) (fun h41 => ?_) (fun h41 => ?_)
      · refine c_end ?_
        refine n_then ?_
        refine c_true rfl ?_
        refine c_reg ?_
        refine s0 (x_move (v := .int _ _) rfl) ?_
        refine s0 (x_move (v := .slice _ _ _) rfl) ?_
        refine s0 (x_lensl un86H1 rfl) ?_
        refine s0 (x_sub rfl rfl (by omega)) ?_
        refine sr (zcall cl59H1 rfl) (i_ueSize _ _) ?_
        intro w16 l17
        have z_l17 := l17.size
        have L := L.tr l17.up
        have B5 := B5.ext l17
        have o14 := o14.ext l17
        have o14r := o14r.ext l17
        have o21 := o21.ext l17
        have o32 := o32.ext l17
        refine s0 (x_add rfl rfl (by omega)) ?_
        refine s0 (x_assign (v := .int _ _) rfl) ?_
        refine c_end ?_
        refine n_then ?_
        refine wp_seq ?_
        refine wp_seq ?_
        refine c_reg ?_
        refine s0 (x_assign (v := .int _ _) rfl) ?_
        refine c_end ?_
        refine n_then ?_
        refine wp_block ?_
        refine c_loop (γ := Nat) (fun k => (pairsOf ys14).length - k) (fun (k : Nat) E wl => ∃ E0, E = upd (upd (upd (upd E0 6 (.slice p21 (blockBits md14 ys14 xs14 n14).length c21)) 7 (.slice p32 (pairsOf ys14).length c32)) 8 (.int .i64 (cnt0 (xs14.getD md14.toNat 0) (pairsOf ys14).length + pairSum (pairsOf ys14) k))) 9 (.int .i64 (k : Int)) ∧ (Exm [] w wl) ∧ (w16.heap.size ≤ wl.heap.size) ∧ (Bx wl b5 [.int .i64 md14, .slice p14 ys14.length c14] 81) ∧ (Own wl p32 (pairsOf ys14).length c32 90 2 ((pairsOf ys14).flatMap erow) F32) ∧ ((k : Int) ≤ (pairsOf ys14).length)) 0 ⟨_, upd_self4 rfl rfl (vint (by first | (unfold cnt0; rw [if_pos (by omega)]; simp [pairSum]) | (unfold cnt0; rw [if_neg (by omega)]; simp [pairSum]))) rfl, L, (by omega), B5, o32, (by omega)⟩ ?_
        rintro k E wl18 ⟨E0, rfl, L, Lz, B5, o32, hk⟩
        have Lz0 := L.size
        have hps := pairSum_rng (pairsOf ys14) k
        have hc0 := cnt0_rng (L := xs14.getD md14.toNat 0) (k := (pairsOf ys14).length) hca
        refine wp_seq ?_
        refine wp_seq ?_
        refine c_reg ?_
        refine s0 (x_move (v := .int _ _) rfl) ?_
        refine s0 (x_move (v := .slice _ _ _) rfl) ?_
        refine s0 (x_lensl un86H1 rfl) ?_
        refine sb (x_lss rfl rfl) (fun h51 => ?_) (fun h51 => ?_)
        · refine c_end ?_
          refine n_then ?_
          refine c_true rfl ?_
          refine c_skipn ?_
          refine n_then ?_
          refine wp_seq ?_
          refine wp_block ?_
          have hpk := pairs_get (ys := ys14) k (by omega)
          have hn1 : -1073741824 ≤ ((pairsOf ys14).getD ((k : Int)).toNat default).2 ∧ ((pairsOf ys14).getD ((k : Int)).toNat default).2 ≤ 1073741824 := by rw [Int.toNat_natCast]; have := hpk.2.1; omega
          have hu1 := ueSize_range ((pairsOf ys14).getD ((k : Int)).toNat default).1
          have hu2 := ueSize_range (numOf ((pairsOf ys14).getD ((k : Int)).toNat default).2)
          refine c_plan (fun wq => Exm [] wl18 wq) 17 (.cons (0, 2) (.cons (1, 2) (.cons (2, 2) (.cons (3, 2) (.cons (4, 2) (.cons (5, 1) (.cons (8, 2) (.cons (9, 2) (.cons (10, 2) (.cons (11, 2) (.cons (12, 1) (.cons (6, 0) (.cons (7, 2) (.cons (13, 0) (.cons (14, 0) (.cons (15, 2) (.cons (16, 2) .nil))))))))))))))))) (by kernel_rfl) (by kernel_rfl) (Exm.drew _) ?_
          obtain ⟨w19, hwd⟩ : ∃ x, x = wl18.drew := ⟨_, rfl⟩
          have l20 : Ext wl18 w19 := by rw [hwd]; exact Exm.drew _
          rw [← hwd]; clear hwd
          have Lq : Exm [] wl18 w19 := l20.up
          have qB5 := B5
          have qo32 := o32
          have qL := L
          have z_l20 := l20.size
          have L := L.tr l20.up
          have B5 := B5.ext l20
          have o32 := o32.ext l20
          refine p0 rfl (x_move (v := .int _ _) rfl) ?_
          refine p0 rfl (x_move (v := .slice _ _ _) rfl) ?_
          refine p0 rfl (x_move (v := .int _ _) rfl) ?_
          refine p0 rfl (x_idx so86H1 rfl rfl o32.sl (by decide) (by omega) (by omega)) ?_
          refine p0 rfl (x_fieldAddr fa90_0H1 rfl) ?_
          refine ps rfl (fun wq hwq => x_ldf (u := .int _ _) erow_len sc3H1 rfl (qo32.ext hwq).sl (by omega) (by omega) (by decide) rfl) ?_
          refine p0 rfl (x_move (v := .slice _ _ _) rfl) ?_
          refine p0 rfl (x_move (v := .int _ _) rfl) ?_
          refine p0 rfl (x_idx so86H1 rfl rfl o32.sl (by decide) (by omega) (by omega)) ?_
          refine p0 rfl (x_fieldAddr fa90_1H1 rfl) ?_
          refine ps rfl (fun wq hwq => x_ldf (u := .int _ _) erow_len sc3H1 rfl (qo32.ext hwq).sl (by omega) (by omega) (by decide) rfl) ?_
          refine pu rfl ?_ (by rintro ⟨_, _, h, _⟩; cases h)
          refine sr (zcall cl59H1 rfl) (i_ueSize _ _) ?_
          intro w21 l22
          have z_l22 := l22.size
          have L := L.tr l22.up
          have Lq := Lq.tr l22.up
          have B5 := B5.ext l22
          have o32 := o32.ext l22
          refine c_end ⟨rfl, fun h hS => Lq, ?_⟩
          refine p0 rfl (x_add rfl rfl (by omega)) ?_
          refine pu rfl ?_ (by rintro ⟨_, _, h, _⟩; cases h)
          refine sr (zcall cl60H1 rfl) (i_numOfLevel _ _ (by omega)) ?_
          intro w23 l24
          have z_l24 := l24.size
          have L := L.tr l24.up
          have Lq := Lq.tr l24.up
          have B5 := B5.ext l24
          have o32 := o32.ext l24
          refine c_end ⟨rfl, fun h hS => Lq, ?_⟩
          refine pu rfl ?_ (by rintro ⟨_, _, h, _⟩; cases h)
          refine sr (zcall cl59H1 rfl) (i_ueSize _ _) ?_
          intro w25 l26
          have z_l26 := l26.size
          have L := L.tr l26.up
          have Lq := Lq.tr l26.up
          have B5 := B5.ext l26
          have o32 := o32.ext l26
          refine c_end ⟨rfl, fun h hS => Lq, ?_⟩
          refine p0 rfl (x_add rfl rfl (by omega)) ?_
          refine p0 rfl (x_assign (v := .int _ _) rfl) ?_
          refine p_nil (np_normal ?_)
          refine n_block ?_
          refine n_then ?_
          refine c_reg ?_
          refine s0 (x_move (v := .int _ _) rfl) ?_
          refine s0 (x_add rfl rfl (by omega)) ?_
          refine s0 (x_assign (v := .int _ _) rfl) ?_
          refine c_end ?_
          exact c_round (g' := k + 1) (by omega) ⟨_, upd_self4 rfl rfl (vint (by simp only [pairSum]; rw [Int.toNat_natCast]; omega)) (vint (by omega)), L, (by omega), B5, o32, (by omega)⟩
        · refine c_end ?_
          refine n_then ?_
          refine c_false rfl ?_
          refine wp_exit (e_then (e_then (e_here ?_)))
          refine n_then ?_
          refine wp_seq ?_
          refine c_reg ?_
          refine s0 (x_move (v := .slice _ _ _) rfl) ?_
          refine s0 (x_lensl un22H1 rfl) ?_
          refine s0 (x_move (v := .int _ _) rfl) ?_
          refine s0 (x_eql rfl rfl) ?_
          refine s0 (x_assign (v := .bool _) rfl) ?_
          refine c_end ?_
          refine n_then ?_
          refine wp_ret ?_
          refine f_ret rfl rfl ?_
          have hke : k = (pairsOf ys14).length := by omega
          exact ⟨ret_bt (by rw [hke]; exact hcnt), L⟩
      · refine c_end ?_
        refine n_then ?_
        refine c_false rfl ?_
        refine c_skipn ?_
        refine n_then ?_
        refine wp_seq ?_
        refine wp_seq ?_
        refine c_reg ?_
        refine s0 (x_assign (v := .int _ _) rfl) ?_
        refine c_end ?_
        refine n_then ?_
        refine wp_block ?_
        refine c_loop (γ := Nat) (fun k => (pairsOf ys14).length - k) (fun (k : Nat) E wl => ∃ E0, E = upd (upd (upd (upd E0 6 (.slice p21 (blockBits md14 ys14 xs14 n14).length c21)) 7 (.slice p32 (pairsOf ys14).length c32)) 8 (.int .i64 (cnt0 (xs14.getD md14.toNat 0) (pairsOf ys14).length + pairSum (pairsOf ys14) k))) 9 (.int .i64 (k : Int)) ∧ (Exm [] w wl) ∧ (w14.heap.size ≤ wl.heap.size) ∧ (Bx wl b5 [.int .i64 md14, .slice p14 ys14.length c14] 81) ∧ (Own wl p32 (pairsOf ys14).length c32 90 2 ((pairsOf ys14).flatMap erow) F32) ∧ ((k : Int) ≤ (pairsOf ys14).length)) 0 ⟨_, upd_self4 rfl rfl (vint (by first | (unfold cnt0; rw [if_pos (by omega)]; simp [pairSum]) | (unfold cnt0; rw [if_neg (by omega)]; simp [pairSum]))) rfl, L, (by omega), B5, o32, (by omega)⟩ ?_
        rintro k E wl27 ⟨E0, rfl, L, Lz, B5, o32, hk⟩
        have Lz0 := L.size
        have hps := pairSum_rng (pairsOf ys14) k
        have hc0 := cnt0_rng (L := xs14.getD md14.toNat 0) (k := (pairsOf ys14).length) hca
        refine wp_seq ?_
        refine wp_seq ?_
        refine c_reg ?_
        refine s0 (x_move (v := .int _ _) rfl) ?_
        refine s0 (x_move (v := .slice _ _ _) rfl) ?_
        refine s0 (x_lensl un86H1 rfl) ?_
        refine sb (x_lss rfl rfl) (fun h51 => ?_) (fun h51 => ?_)
        · refine c_end ?_
          refine n_then ?_
          refine c_true rfl ?_
          refine c_skipn ?_
          refine n_then ?_
          refine wp_seq ?_
          refine wp_block ?_
          have hpk := pairs_get (ys := ys14) k (by omega)
          have hn1 : -1073741824 ≤ ((pairsOf ys14).getD ((k : Int)).toNat default).2 ∧ ((pairsOf ys14).getD ((k : Int)).toNat default).2 ≤ 1073741824 := by rw [Int.toNat_natCast]; have := hpk.2.1; omega
          have hu1 := ueSize_range ((pairsOf ys14).getD ((k : Int)).toNat default).1
          have hu2 := ueSize_range (numOf ((pairsOf ys14).getD ((k : Int)).toNat default).2)
          refine c_plan (fun wq => Exm [] wl27 wq) 17 (.cons (0, 2) (.cons (1, 2) (.cons (2, 2) (.cons (3, 2) (.cons (4, 2) (.cons (5, 1) (.cons (8, 2) (.cons (9, 2) (.cons (10, 2) (.cons (11, 2) (.cons (12, 1) (.cons (6, 0) (.cons (7, 2) (.cons (13, 0) (.cons (14, 0) (.cons (15, 2) (.cons (16, 2) .nil))))))))))))))))) (by kernel_rfl) (by kernel_rfl) (Exm.drew _) ?_
          obtain ⟨w28, hwd⟩ : ∃ x, x = wl27.drew := ⟨_, rfl⟩
          have l29 : Ext wl27 w28 := by rw [hwd]; exact Exm.drew _
          rw [← hwd]; clear hwd
          have Lq : Exm [] wl27 w28 := l29.up
          have qB5 := B5
          have qo32 := o32
          have qL := L
          have z_l29 := l29.size
          have L := L.tr l29.up
          have B5 := B5.ext l29
          have o32 := o32.ext l29
          refine p0 rfl (x_move (v := .int _ _) rfl) ?_
          refine p0 rfl (x_move (v := .slice _ _ _) rfl) ?_
          refine p0 rfl (x_move (v := .int _ _) rfl) ?_
          refine p0 rfl (x_idx so86H1 rfl rfl o32.sl (by decide) (by omega) (by omega)) ?_
          refine p0 rfl (x_fieldAddr fa90_0H1 rfl) ?_
          refine ps rfl (fun wq hwq => x_ldf (u := .int _ _) erow_len sc3H1 rfl (qo32.ext hwq).sl (by omega) (by omega) (by decide) rfl) ?_
          refine p0 rfl (x_move (v := .slice _ _ _) rfl) ?_
          refine p0 rfl (x_move (v := .int _ _) rfl) ?_
          refine p0 rfl (x_idx so86H1 rfl rfl o32.sl (by decide) (by omega) (by omega)) ?_
          refine p0 rfl (x_fieldAddr fa90_1H1 rfl) ?_
          refine ps rfl (fun wq hwq => x_ldf (u := .int _ _) erow_len sc3H1 rfl (qo32.ext hwq).sl (by omega) (by omega) (by decide) rfl) ?_
          refine pu rfl ?_ (by rintro ⟨_, _, h, _⟩; cases h)
          refine sr (zcall cl59H1 rfl) (i_ueSize _ _) ?_
          intro w30 l31
          have z_l31 := l31.size
          have L := L.tr l31.up
          have Lq := Lq.tr l31.up
          have B5 := B5.ext l31
          have o32 := o32.ext l31
          refine c_end ⟨rfl, fun h hS => Lq, ?_⟩
          refine p0 rfl (x_add rfl rfl (by omega)) ?_
          refine pu rfl ?_ (by rintro ⟨_, _, h, _⟩; cases h)
          refine sr (zcall cl60H1 rfl) (i_numOfLevel _ _ (by omega)) ?_
          intro w32 l33
          have z_l33 := l33.size
          have L := L.tr l33.up
          have Lq := Lq.tr l33.up
          have B5 := B5.ext l33
          have o32 := o32.ext l33
          refine c_end ⟨rfl, fun h hS => Lq, ?_⟩
          refine pu rfl ?_ (by rintro ⟨_, _, h, _⟩; cases h)
          refine sr (zcall cl59H1 rfl) (i_ueSize _ _) ?_
          intro w34 l35
          have z_l35 := l35.size
          have L := L.tr l35.up
          have Lq := Lq.tr l35.up
          have B5 := B5.ext l35
          have o32 := o32.ext l35
          refine c_end ⟨rfl, fun h hS => Lq, ?_⟩
          refine p0 rfl (x_add rfl rfl (by omega)) ?_
          refine p0 rfl (x_assign (v := .int _ _) rfl) ?_
          refine p_nil (np_normal ?_)
          refine n_block ?_
          refine n_then ?_
          refine c_reg ?_
          refine s0 (x_move (v := .int _ _) rfl) ?_
          refine s0 (x_add rfl rfl (by omega)) ?_
          refine s0 (x_assign (v := .int _ _) rfl) ?_
          refine c_end ?_
          exact c_round (g' := k + 1) (by omega) ⟨_, upd_self4 rfl rfl (vint (by simp only [pairSum]; rw [Int.toNat_natCast]; omega)) (vint (by omega)), L, (by omega), B5, o32, (by omega)⟩
        · refine c_end ?_
          refine n_then ?_
          refine c_false rfl ?_
          refine wp_exit (e_then (e_then (e_here ?_)))
          refine n_then ?_
          refine wp_seq ?_
          refine c_reg ?_
          refine s0 (x_move (v := .slice _ _ _) rfl) ?_
          refine s0 (x_lensl un22H1 rfl) ?_
          refine s0 (x_move (v := .int _ _) rfl) ?_
          refine s0 (x_eql rfl rfl) ?_
          refine s0 (x_assign (v := .bool _) rfl) ?_
          refine c_end ?_
          refine n_then ?_
          refine wp_ret ?_
          refine f_ret rfl rfl ?_
          have hke : k = (pairsOf ys14).length := by omega
          exact ⟨ret_bt (by rw [hke]; exact hcnt), L⟩
    · have z_l13 := l13.size
      have L := L.tr l13.up
      have B5 := B5.ext l13
      have o14 := o14.ext l13
      have o14r := o14r.ext l13
      have o21 := o21.ext l13
      refine s0 (x_not rfl) ?_
      refine c_end ?_
      refine n_then ?_
      refine c_true rfl ?_
      refine wp_seq ?_
      refine c_reg ?_
      refine s0 (x_move (v := .slice _ _ _) rfl) ?_
      refine s0 (x_lensl un22H1 rfl) ?_
      refine s0 (x_eql rfl rfl) ?_
      refine s0 (x_assign (v := .bool _) rfl) ?_
      refine c_end ?_
      refine n_then ?_
      refine wp_ret (r_then ?_)
      refine f_ret rfl rfl ?_
      exact ⟨ret_bt (by rw [blockBits_no h25]; rfl), L⟩

end Go.Proofs.Ytdnckakaoageoaa
