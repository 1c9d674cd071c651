/- What each function of this part returns, for every argument that meets its premises. -/
import Derived.Test.YtepnknffaecbdaaGreatProg
import Derived.Test.YtepnknffaecbdaaGreatVSxA
import Derived.Test.YtepnknffaecbdaaGreatVTy
import Derived.Test.YtepnknffaecbdaaGreatVPlA
import Derived.Test.YtepnknffaecbdaaGreatVF1
import Derived.Test.YtepnknffaecbdaaGreatVF2
import Derived.Test.YtepnknffaecbdaaGreatVFB
import Derived.Test.YtepnknffaecbdaaGreatVFC
import Derived.Test.YtepnknffaecbdaaGreatVFL
namespace Go.Proofs.YtepnknffaecbdaaGreat
open Go.Sx Go.Pl Go.RowKit
theorem i_lvAny (x : Int) (w : World) :
    Calls Tryz.prog 204 [.int .i64 x].toArray w (Ret w (.int .i64 (k0 x))) := by
 have L : Exm [] w w := Exm.rfl'
 refine enter (n := 3) Tryz.func204 rfl rfl rfl ?_
 refine wp_seq (c_reg (s0 (xaI rfl) (c_end (n_then (wp_seq (c_reg (s0 (xaI rfl) (c_end (n_then (wp_ret (f_ret rfl rfl ?_)))))))))))
 exact ⟨rfl, L⟩

theorem i_lvMany (x : Int) (bn : Nat) (n : Int) (w : World) (hB : Bx w bn [.int .i64 n] 3) (hn : sizeOk n) :
    Calls Tryz.prog 205 [.int .i64 x, pt bn 0].toArray w (Ret w (.int .i64 (kLt (n * n) x))) := by
 have hN := size_sq hn; have L : Exm [] w w := Exm.rfl'
 refine enter (n := 10) Tryz.func205 rfl rfl rfl ?_
 refine wp_seq (c_reg (s0 (xaI rfl) (c_end (n_then (wp_seq (c_reg (s0 (xmI rfl) (st (x_loadB sc3 rfl hB rfl) (st (x_loadB sc3 rfl hB rfl) (s0 (x_mul rfl rfl (by omega)) (s0 (x_lss rfl rfl) ?_)))))))))))
 refine sr (zcall cl93 rfl) (i_unless _ _ _) ?_
 intro w1 l2
 have z_l2 := l2.size; have L := L.tr l2.up; have hB := hB.ext l2
 refine s0 (xaI rfl) (c_end (n_then (wp_ret (f_ret rfl rfl ?_))))
 exact ⟨rfl, L⟩

theorem i_lvRun (x : Int) (bn bp : Nat) (n p : Int) (w : World) (hB : Bx w bn [.int .i64 n] 3) (hP : Bx w bp [.int .i64 p] 3) (hn : sizeOk n) (hp : 0 ≤ p ∧ p ≤ 64) :
    Calls Tryz.prog 206 [.int .i64 x, pt bn 0, pt bp 0].toArray w (Ret w (.int .i64 (kLt (n * n - p) x))) := by
 have hN := size_sq hn; have L : Exm [] w w := Exm.rfl'
 refine enter (n := 13) Tryz.func206 rfl rfl rfl ?_
 refine wp_seq (c_reg (s0 (xaI rfl) (c_end (n_then (wp_seq (c_reg (s0 (xmI rfl) (st (x_loadB sc3 rfl hB rfl) (st (x_loadB sc3 rfl hB rfl) (s0 (x_mul rfl rfl (by omega)) (st (x_loadB sc3 rfl hP rfl) (s0 (x_sub rfl rfl (by omega)) (s0 (x_lss rfl rfl) ?_)))))))))))))
 refine sr (zcall cl93 rfl) (i_unless _ _ _) ?_
 intro w1 l2
 have z_l2 := l2.size; have L := L.tr l2.up; have hB := hB.ext l2; have hP := hP.ext l2
 refine s0 (xaI rfl) (c_end (n_then (wp_ret (f_ret rfl rfl ?_))))
 exact ⟨rfl, L⟩

theorem i_lvLev (x : Int) (w : World) (hx : 0 ≤ x ∧ x < 4294967296) :
    Calls Tryz.prog 208 [.int .i64 x].toArray w (Ret w (.int .i64 (kLv x))) := by
 have L : Exm [] w w := Exm.rfl'
 refine enter (n := 7) Tryz.func208 rfl rfl rfl ?_
 refine wp_seq (c_reg (s0 (xaI rfl) (c_end (n_then (wp_seq (c_reg (s0 (xmI rfl) ?_)))))))
 refine sr (zcall cl207 rfl) (i_levelOf _ _ (by omega)) ?_
 intro w1 l2
 have z_l2 := l2.size; have L := L.tr l2.up
 refine sr (zcall cl77 rfl) (i_within _ _ _ _) ?_
 intro w3 l4
 have z_l4 := l4.size; have L := L.tr l4.up
 refine sr (zcall cl93 rfl) (i_unless _ _ _) ?_
 intro w5 l6
 have z_l6 := l6.size; have L := L.tr l6.up
 refine s0 (xaI rfl) (c_end (n_then (wp_ret (f_ret rfl rfl ?_))))
 exact ⟨rfl, L⟩

theorem i_levels (b : Nat) (s : ByteArray) (f : Fs) (n : Int) (w : World) (hB : Bx w b [.string s, .int .i64 f.a, .int .i64 f.code] 127) (hn : sizeOk n) (hs : s.size ≤ 1048576) :
    Calls Tryz.prog 161 [pt b 0, .int .i64 n].toArray w (RetM [b] w fun v w' => ∃ p c F, v = .slice p (n * n).toNat c ∧ Own w' p (n * n).toNat c 3 1 (ic (lvRes s f (n * n)).l) F ∧ Fr w.heap.size F ∧ Bx w' b [.string s, .int .i64 (lvRes s f (n * n)).f.a, .int .i64 (lvRes s f (n * n)).f.code] 127) := by
 have hbz : b < w.heap.size := (Array.getElem?_eq_some_iff.1 hB).1; have hN := size_sq hn; have L : Exm [b] w w := Exm.rfl'
 refine enter (n := 54) Tryz.func161 rfl rfl rfl ?_
 refine wp_seq (c_reg (s_box rfl rfl ?_))
 intro b1 w2 lob1 hib1 l3 B1
 have z_l3 := l3.size; have L := L.tr l3.up; have hB := hB.ext l3
 refine s0 (xaS rfl) (c_end (n_then (wp_seq (c_reg (st (x_loadB sc3 rfl B1 rfl) (st (x_loadB sc3 rfl B1 rfl) (s0 (x_mul rfl rfl (by omega)) (s_makei so24 zr3 rfl rfl (by omega) (by omega) (by omega) ?_))))))))
 intro p13 F13 w4 l5 o13 f13 g13
 have z_l5 := l5.size; have L := L.tr l5.up; have hB := hB.ext l5; have B1 := B1.ext l5; have hn13 := o13.n1
 refine s_alloc zr3 ?_
 intro b6 w7 lob6 hib6 l8 B6
 have z_l8 := l8.size; have L := L.tr l8.up; have hB := hB.ext l8; have B1 := B1.ext l8; have o13 := o13.ext l8
 refine s0 (xaS rfl) ?_
 refine s_store (v := .int _ _) (cs' := [_]) rfl sz3 rfl rfl rfl rfl B6 rfl rfl ?_
 intro w9 l10 el10 B6
 have z_l10 := l10.size; have L := L.fresh l10 (by omega); have hB := hB.ne l10 (by omega); have B1 := B1.ne l10 (by omega); have o13 := o13.ne l10 (by first|assumption|exact nin_of f13 g13 (by omega))
 refine c_end (n_then (wp_seq (wp_seq (c_reg (s0 (x_move (v := .pointer _) rfl) ?_)))))
 refine spm (zcall cl95 rfl) (i_fbits b _ f _ 204 [] k0 _ hB cl204 (fun x w9 hx9 L9 => i_lvAny x w9) (by omega)) ?_
 rintro v15 w11 l12 ⟨x15, q15, rfl, hx15, hq15, hB⟩
 have z_l12 := l12.size; have L := L.within l12 (by simp)
 have B1 := B1.ne l12 (by omega); have B6 := B6.ne l12 (by omega); have o13 := o13.ne l12 (by first|assumption|exact nin_of f13 g13 (by omega))
 refine sb (x_eql rfl rfl) (fun h16 => ?_) (fun h16 => ?_)
 ·refine c_end (n_then (c_true rfl (wp_seq (c_reg (s0 (xmS rfl) (s0 (xaS rfl) (c_end (n_then ?_))))))))
  refine wp_ret (r_then ?_)
  refine f_ret rfl rfl ?_
  have he : lvRes s f (n * n) = lv0 q15 (n * n) := by unfold lvRes; rw [← hx15, if_pos h16, ← hq15]
  rw [he]
  exact ⟨_, rfl, L, _, _, _, rfl, o13, f13.mono (by omega), hB⟩
 ·refine c_end (n_then (c_false rfl (c_skipn (n_then (wp_seq ?_)))))
  have hfa1 := hq15
  refine c_reg (s0 (x_move (v := .pointer _) rfl) (s0 (x_makeFunc rfl) ?_))
  refine spm (zcall cl97 rfl) (i_fue b _ q15 205 [pt b1 0] (kLt (n * n)) _ hB cl205 (fun x w9 hx9 L9 => i_lvMany x _ _ w9 (B1.ne L9 (by omega)) hn) (by omega)) ?_
  rintro v20 w13 l14 ⟨x20, q20, rfl, hx20, hq20, hB⟩
  have z_l14 := l14.size; have L := L.within l14 (by simp)
  have B1 := B1.ne l14 (by omega); have B6 := B6.ne l14 (by omega); have o13 := o13.ne l14 (by first|assumption|exact nin_of f13 g13 (by omega))
  refine s0 (x_add rfl rfl (by have h : 0 ≤ x20 ∧ x20 ≤ 2147483647 := (by rw [hx20]; exact fnV_range _ _ _); omega)) ?_
  refine s0 (xaI rfl) (c_end (n_then (wp_seq (wp_seq ?_))))
  have hr20 : 0 ≤ x20 ∧ x20 ≤ 2147483647 := by rw [hx20]; exact fnV_range _ _ _
  refine c_reg (s0 (xaI rfl) (c_end (n_then (wp_block ?_))))
  refine c_loop (γ := Nat) (fun k => (1 + x20).toNat - k) (fun (k : Nat) E wl => ∃ E0, E = upd (upd (upd (upd (upd (upd E0 0 (pt b 0)) 3 (pt b1 0)) 5 (.slice p13 (n * n).toNat (n * n).toNat)) 6 (pt b6 0)) 7 (.int .i64 (1 + x20))) 8 (.int .i64 (k : Int)) ∧ (Exm [b] w wl) ∧ (w13.heap.size ≤ wl.heap.size) ∧ (Bx wl b [.string s, .int .i64 (lvIt s (n * n) (lv0 q20 (n * n)) k).f.a, .int .i64 (lvIt s (n * n) (lv0 q20 (n * n)) k).f.code] 127) ∧ (Bx wl b1 [.int .i64 n] 3) ∧ (Bx wl b6 [.int .i64 (lvIt s (n * n) (lv0 q20 (n * n)) k).p] 3) ∧ (Own wl p13 (n * n).toNat (n * n).toNat 3 1 (ic (lvIt s (n * n) (lv0 q20 (n * n)) k).l) F13) ∧ ((k : Int) ≤ 1 + x20) ∧ (lvOk (n * n) (lvIt s (n * n) (lv0 q20 (n * n)) k))) 0 ⟨_, upd_self6 rfl rfl rfl rfl rfl rfl, L, (by omega), hB, B1, B6, o13, (by omega), (lv0_ok (by omega))⟩ ?_
  rintro k E wl15 ⟨E0, rfl, L, Lz, hB, B1, B6, o13, hk, hv⟩
  have Lz0 := L.size
  refine wp_seq (wp_seq (c_reg (s0 (xmI rfl) (s0 (xmI rfl) ?_))))
  refine sb (x_lss rfl rfl) (fun h24 => ?_) (fun h24 => ?_)
  ·refine s0 (x_move (v := .bool _) rfl) (gt rfl rfl rfl rfl (s0 (x_move (v := .pointer _) rfl) (gt rfl rfl rfl rfl (s0 (x_nilCheck rfl) (gt rfl rfl rfl rfl (s0 (x_fieldAddr fa127_1 rfl) (gt rfl rfl rfl rfl (st (x_loadB sc3 rfl hB rfl) (gt rfl rfl rfl rfl ?_)))))))))
   refine sb (x_eql rfl rfl) (fun h30 => ?_) (fun h30 => ?_)
   ·refine s0 (x_pickt (v := .bool _) rfl rfl) (c_end (n_then (c_true rfl (c_skipn (n_then (wp_seq (wp_block (wp_seq ?_))))))))
    have hv1r := hv.1; have hv2r := hv.2.1; have hvp : 0 ≤ (lvIt s (n * n) (lv0 q20 (n * n)) k).p ∧ (lvIt s (n * n) (lv0 q20 (n * n)) k).p ≤ 64 := by omega
    refine c_plan (fun wq => Exm [b] wl15 wq) 5 (.cons (0, 1) (.cons (1, 2) (.cons (2, 2) (.cons (3, 0) (.cons (4, 2) (.cons (5, 0) .nil)))))) (by kernel_rfl) (by kernel_rfl) (Exm.drew _) ?_
    obtain ⟨w16, hwd⟩ : ∃ x, x = wl15.drew := ⟨_, rfl⟩
    have l17 : Ext wl15 w16 := by rw [hwd]; exact Exm.drew _
    rw [← hwd]; clear hwd
    have Lq : Exm [b] wl15 w16 := l17.up; have qB6 := B6; have z_l17 := l17.size; have L := L.tr l17.up; have hB := hB.ext l17; have B1 := B1.ext l17; have B6 := B6.ext l17; have o13 := o13.ext l17
    refine ps rfl (fun wq hwq => x_loadB sc3 rfl (qB6.ne hwq (by omega)) rfl) ?_
    refine p0 rfl (x_move (v := .pointer _) rfl) (p0 rfl (x_makeFunc rfl) (pu rfl ?_))
    refine spm (zcall cl97 rfl) (i_fue b _ (lvIt s (n * n) (lv0 q20 (n * n)) k).f 206 [pt b1 0, pt b6 0] (kLt (n * n - (lvIt s (n * n) (lv0 q20 (n * n)) k).p)) _ hB cl206 (fun x w9 hx9 L9 => i_lvRun x _ _ _ _ w9 (B1.ne L9 (by omega)) (B6.ne L9 (by omega)) hn hvp) (by omega)) ?_
    rintro v37 w18 l19 ⟨x37, q37, rfl, hx37, hq37, hB⟩
    have z_l19 := l19.size; have L := L.within l19 (by simp)
    have Lq := Lq.within l19 (by simp)
    have B1 := B1.ne l19 (by omega); have B6 := B6.ne l19 (by omega); have o13 := o13.ne l19 (by first|assumption|exact nin_of f13 g13 (by omega))
    refine c_end ⟨rfl, fun h hS => Lq, ?_⟩
    refine p0 rfl (x_add rfl rfl (by have h : 0 ≤ x37 ∧ x37 ≤ 2147483647 := (by rw [hx37]; exact fnV_range _ _ _); omega)) ?_
    refine pu rfl ?_
    refine s_store (v := .int _ _) (cs' := [_]) rfl sz3 rfl rfl rfl rfl B6 rfl rfl ?_
    intro w20 l21 el21 B6
    have z_l21 := l21.size; have L := L.fresh l21 (by omega); have hB := hB.ne l21 (by omega); have B1 := B1.ne l21 (by omega); have o13 := o13.ne l21 (by first|assumption|exact nin_of f13 g13 (by omega))
    refine c_end ⟨rfl, fun h hS => absurd h (by decide), ?_⟩
    refine p_nil (np_normal ?_)
    refine n_then (wp_seq ?_)
    have hr37 : 0 ≤ x37 ∧ x37 ≤ 2147483647 := by rw [hx37]; exact fnV_range _ _ _
    refine c_reg (s0 (x_move (v := .pointer _) rfl) ?_)
    refine spm (zcall cl97 rfl) (i_fue b _ q37 208 [] kLv _ hB cl208 (fun x w9 hx9 L9 => i_lvLev x w9 hx9) (by omega)) ?_
    rintro v40 w22 l23 ⟨x40, q40, rfl, hx40, hq40, hB⟩
    have z_l23 := l23.size; have L := L.within l23 (by simp)
    have B1 := B1.ne l23 (by omega); have B6 := B6.ne l23 (by omega); have o13 := o13.ne l23 (by first|assumption|exact nin_of f13 g13 (by omega))
    refine sr (zcall cl207 rfl) (i_levelOf _ _ (by have h := fnV_range s q37 kLv; omega)) ?_
    intro w24 l25
    have z_l25 := l25.size; have L := L.tr l25.up; have hB := hB.ext l25; have B1 := B1.ext l25; have B6 := B6.ext l25; have o13 := o13.ext l25
    refine s0 (xaI rfl) (c_end (n_then (wp_seq ?_)))
    have hr40 : 0 ≤ x40 ∧ x40 ≤ 2147483647 := by rw [hx40]; exact fnV_range _ _ _
    have hF2 : q40 = lvF2 s (n * n) (lvIt s (n * n) (lv0 q20 (n * n)) k) := by rw [hq40, hq37]; rfl
    have hP2 : (lvIt s (n * n) (lv0 q20 (n * n)) k).p + x37 = lvP s (n * n) (lvIt s (n * n) (lv0 q20 (n * n)) k) := by rw [hx37]; rfl
    have hL2 : levelOf x40 = lvL s (n * n) (lvIt s (n * n) (lv0 q20 (n * n)) k) := by rw [hx40, hq37]; rfl
    have hst := lvIt_next (s := s) (N := n * n) (v := lv0 q20 (n * n)) h30
    refine c_reg (s0 (x_move (v := .pointer _) rfl) (s0 (x_nilCheck rfl) (s0 (x_fieldAddr fa127_1 rfl) (st (x_loadB sc3 rfl hB rfl) ?_))))
    refine sb (x_eql rfl rfl) (fun h46 => ?_) (fun h46 => ?_)
    ·refine c_end (n_then (c_true rfl (wp_seq ?_)))
     have hroom := lv_room (s := s) hv (by rw [← hF2]; exact h46)
     have hlen := hv.2.2
     refine c_reg (s0 (xmS rfl) (st (x_loadB sc3 rfl B6 rfl) (s0 (xmI rfl) (s0 (x_idx so24 rfl rfl o13.sl (by decide) (by omega) (by omega)) (s_stoi rfl sz3 rfl rfl o13 (by omega) (by omega) ?_)))))
     intro w26 l27 el27 o13
     have z_l27 := l27.size; have L := L.freshL l27 f13 (by omega); have hB := hB.exm l27 (by first|assumption|exact nin_of f13 g13 (by omega))
     have B1 := B1.exm l27 (by first|assumption|exact nin_of f13 g13 (by omega))
     have B6 := B6.exm l27 (by first|assumption|exact nin_of f13 g13 (by omega))
     have hnl27 := o13.n1
     refine c_end (n_then (c_reg (st (x_loadB sc3 rfl B6 rfl) (s0 (x_add rfl rfl (by omega)) ?_))))
     refine s_store (v := .int _ _) (cs' := [_]) rfl sz3 rfl rfl rfl rfl B6 rfl rfl ?_
     intro w28 l29 el29 B6
     have z_l29 := l29.size; have L := L.fresh l29 (by omega); have hB := hB.ne l29 (by omega); have B1 := B1.ne l29 (by omega); have o13 := o13.ne l29 (by first|assumption|exact nin_of f13 g13 (by omega))
     refine c_end (n_block (n_then ?_))
     have hv1 : lvIt s (n * n) (lv0 q20 (n * n)) (k + 1) = ⟨q40, (lvIt s (n * n) (lv0 q20 (n * n)) k).p + x37 + 1, (lvIt s (n * n) (lv0 q20 (n * n)) k).l.set ((lvIt s (n * n) (lv0 q20 (n * n)) k).p + x37).toNat (levelOf x40)⟩ := by rw [hst, hF2, hP2, hL2]; unfold lvStep; rw [if_pos (by rw [← hF2]; exact h46)]
     refine c_reg (s0 (xmI rfl) (s0 (x_add rfl rfl (by omega)) (s0 (xaI rfl) (c_end ?_))))
     exact c_round (g' := k + 1) (by omega) ⟨_, upd_self6 rfl rfl rfl rfl rfl (vint (by omega)), L, (by omega), (bx_eq (by rw [hv1]) hB), B1, (bx_eq (by rw [hv1]) B6), (by rw [hv1]; exact o13), (by omega), (by rw [hst]; exact lvOk_step hv)⟩
    ·refine c_end (n_then (c_false rfl (c_skipn (n_block (n_then ?_)))))
     have hv1 : lvIt s (n * n) (lv0 q20 (n * n)) (k + 1) = ⟨q40, (lvIt s (n * n) (lv0 q20 (n * n)) k).p + x37, (lvIt s (n * n) (lv0 q20 (n * n)) k).l⟩ := by rw [hst, hF2, hP2]; unfold lvStep; rw [if_neg (by rw [← hF2]; exact h46)]
     refine c_reg (s0 (xmI rfl) (s0 (x_add rfl rfl (by omega)) (s0 (xaI rfl) (c_end ?_))))
     exact c_round (g' := k + 1) (by omega) ⟨_, upd_self6 rfl rfl rfl rfl rfl (vint (by omega)), L, (by omega), (bx_eq (by rw [hv1]) hB), B1, (bx_eq (by rw [hv1]) B6), (by rw [hv1]; exact o13), (by omega), (by rw [hst]; exact lvOk_step hv)⟩
   ·refine s0 (x_pickt (v := .bool _) rfl rfl) (c_end (n_then (c_false rfl ?_)))
    refine wp_exit (e_then (e_then (e_here ?_)))
    refine n_then (wp_seq (c_reg (s0 (xmS rfl) (s0 (xaS rfl) (c_end (n_then (wp_ret (f_ret rfl rfl ?_))))))))
    have he : lvRes s f (n * n) = lvIt s (n * n) (lv0 q20 (n * n)) k := by unfold lvRes; rw [← hx15, if_neg h16, ← hq15, ← hx20, ← hq20]; exact lv_done (by omega) (.inr h30)
    rw [he]
    exact ⟨_, rfl, L, _, _, _, rfl, o13, f13.mono (by omega), hB⟩
  ·refine s0 (x_move (v := .bool _) rfl) (gf rfl rfl rfl rfl (gf rfl rfl rfl rfl (gf rfl rfl rfl rfl (gf rfl rfl rfl rfl (gf rfl rfl rfl rfl (s0 (x_pickf (v := .bool _) rfl rfl) (c_end (n_then (c_false rfl ?_)))))))))
   refine wp_exit (e_then (e_then (e_here ?_)))
   refine n_then (wp_seq (c_reg (s0 (xmS rfl) (s0 (xaS rfl) (c_end (n_then (wp_ret (f_ret rfl rfl ?_))))))))
   have he : lvRes s f (n * n) = lvIt s (n * n) (lv0 q20 (n * n)) k := by unfold lvRes; rw [← hx15, if_neg h16, ← hq15, ← hx20, ← hq20]; exact lv_done (by omega) (.inl (by omega))
   rw [he]
   exact ⟨_, rfl, L, _, _, _, rfl, o13, f13.mono (by omega), hB⟩

theorem i_readBlock (s : ByteArray) (a : Int) (p : Option Addr) (xs : List Int) (c : Nat) (n : Int) (w : World) (hs : s.size ≤ 1048576) (hp : Sl w p xs.length c 1 (ic xs)) (hl : xs.length ≤ 1099511627776) :
    Calls Tryz.prog 102 [.agg [.string s, .int .i64 a].toArray, .slice p xs.length c, .int .i64 n].toArray w (RetP w fun v w' => ∃ p c F, v = .tuple [.agg [.string s, .int .i64 (rbkA s a xs n)].toArray, .agg [.int .i64 (rbkM s a xs n), .slice p (rbkL s a xs n).length c].toArray, .int .i64 (rbkE s a xs n)].toArray ∧ Own w' p (rbkL s a xs n).length c 3 1 (ic (rbkL s a xs n)) F ∧ Fr w.heap.size F) := by
 have L : Exm [] w w := Exm.rfl'
 refine enter (n := 57) Tryz.func102 rfl rfl rfl ?_
 refine wp_seq (c_reg (s_box rfl rfl ?_))
 intro b1 w2 lob1 hib1 l3 B1
 have z_l3 := l3.size; have L := L.tr l3.up
 refine s_alloc zr79 ?_
 intro b4 w5 lob4 hib4 l6 B4
 have z_l6 := l6.size; have L := L.tr l6.up; have B1 := B1.ext l6
 refine s_alloc zr71 ?_
 intro b7 w8 lob7 hib7 l9 B7
 have z_l9 := l9.size; have L := L.tr l9.up; have B1 := B1.ext l9; have B4 := B4.ext l9
 refine s0 (xaI rfl) (c_end (n_then (wp_seq (wp_seq (c_reg (s0 (xmI rfl) ?_))))))
 refine srb (zcall cl145 rfl) (i_sizeOk _ _) (fun h14 w10 l11 => ?_) (fun h14 w10 l11 => ?_)
 ·have z_l11 := l11.size
  have L := L.tr l11.up; have B1 := B1.ext l11; have B4 := B4.ext l11; have B7 := B7.ext l11
  refine s0 (x_not rfl) (c_end (n_then (c_false rfl (c_skipn (n_then (wp_seq (c_reg (st (x_loadAgB ag79 rfl B1 rfl) (s0 (xmS rfl) ?_)))))))))
  refine sr (zcall cl160 rfl) (i_readSym _ _ _ _ _ _ (hp.ext L) (by omega) (by omega)) ?_
  intro w12 l13
  have z_l13 := l13.size; have L := L.tr l13.up; have B1 := B1.ext l13; have B4 := B4.ext l13; have B7 := B7.ext l13
  refine s0 (x_move (v := .tuple _) rfl) (s0 (x_extract rfl rfl) (s0 (x_extract rfl rfl) (s0 (x_extract rfl rfl) (s_storeAg rfl sz79 rfl rfl B1 rfl rfl rfl ?_))))
  intro w14 l15 el15 B1
  have z_l15 := l15.size; have L := L.fresh l15 (by omega); have B4 := B4.ne l15 (by omega); have B7 := B7.ne l15 (by omega)
  refine s0 (xaI rfl) (s0 (xaI rfl) (c_end (n_then (wp_seq (wp_seq (c_reg (s0 (xmI rfl) ?_)))))))
  refine sb (x_neq rfl rfl) (fun h26 => ?_) (fun h26 => ?_)
  ·refine c_end (n_then (c_true rfl (wp_seq (c_reg (st (x_loadAgB ag79 rfl B1 rfl) ?_)))))
   refine s0 (x_build (cs := [.int .i64 0, .slice none 0 0]) bd71 pts_nil rfl) ?_
   refine s0 (xmI rfl) (s_storeAg rfl sz79 rfl rfl B4 rfl rfl rfl ?_)
   intro w16 l17 el17 B4
   have z_l17 := l17.size; have L := L.fresh l17 (by omega); have B1 := B1.ne l17 (by omega); have B7 := B7.ne l17 (by omega)
   refine s_storeAg rfl sz71 rfl rfl B7 rfl rfl rfl ?_
   intro w18 l19 el19 B7
   have z_l19 := l19.size; have L := L.fresh l19 (by omega); have B1 := B1.ne l19 (by omega); have B4 := B4.ne l19 (by omega)
   refine s0 (xaI rfl) (c_end (n_then ?_))
   refine wp_ret (r_then ?_)
   refine f_rets3 rfl (ro_cell rfl ag79 B4 rfl) (ro_cell rfl ag71 B7 rfl) (ro_tmp rfl) ?_
   have hra := rsAt_bad h26
   obtain ⟨e1, e2, e3, e4⟩ := rbk_sym (s := s) (a := a) (xs := xs) h14 h26
   rw [e1, e2, e3, e4, hra]
   exact ⟨_, rfl, L, none, 0, [], rfl, Own.nil, Fr.no⟩
  ·refine c_end (n_then (c_false rfl (c_skipn (n_then (wp_seq (c_reg (st (x_loadAgB ag79 rfl B1 rfl) ?_)))))))
   refine s0 (x_build (cs := [.string _, .int _ _, .int .i64 0]) bd127 (pts_cons (v := .agg _) rfl pts_nil) rfl) ?_
   refine s_box rfl rfl ?_
   intro b20 w21 lob20 hib20 l22 B20
   have z_l22 := l22.size; have L := L.tr l22.up; have B1 := B1.ext l22; have B4 := B4.ext l22; have B7 := B7.ext l22
   refine s0 (x_assign (v := .pointer _) rfl) (c_end (n_then (wp_seq (c_reg (s0 (x_move (v := .pointer _) rfl) (s0 (xmI rfl) ?_))))))
   refine spm (zcall cl161 rfl) (i_levels b20 _ ⟨rsAt s a xs, 0⟩ _ _ B20 h14 (by omega)) ?_
   rintro v35 w23 l24 ⟨p35, c35, F35, rfl, o35, f35, B20⟩
   have z_l24 := l24.size; have L := L.fresh l24 (by omega); have B1 := B1.ne l24 (by omega); have B4 := B4.ne l24 (by omega); have B7 := B7.ne l24 (by omega); have g35 := o35.lt
   refine s0 (xaS rfl) (c_end (n_then (wp_seq (wp_seq (c_reg (s0 (x_move (v := .pointer _) rfl) (s0 (x_nilCheck rfl) (s0 (x_fieldAddr fa127_1 rfl) (st (x_loadB sc3 rfl B20 rfl) ?_)))))))))
   refine sb (x_neq rfl rfl) (fun h40 => ?_) (fun h40 => ?_)
   ·refine c_end (n_then (c_true rfl (wp_seq ?_)))
    refine c_plan (fun wq => Exm [b4, b7] w23 wq) 12 (.cons (0, 2) (.cons (1, 2) (.cons (2, 2) (.cons (3, 1) (.cons (4, 2) (.cons (5, 2) (.cons (6, 2) (.cons (7, 2) (.cons (8, 1) (.cons (9, 0) (.cons (10, 0) (.cons (11, 2) .nil)))))))))))) (by kernel_rfl) (by kernel_rfl) (Exm.drew _) ?_
    obtain ⟨w25, hwd⟩ : ∃ x, x = w23.drew := ⟨_, rfl⟩
    have l26 : Ext w23 w25 := by rw [hwd]; exact Exm.drew _
    rw [← hwd]; clear hwd
    have Lq : Exm [b4, b7] w23 w25 := l26.up; have qB20 := B20; have z_l26 := l26.size; have L := L.tr l26.up; have B1 := B1.ext l26; have B4 := B4.ext l26; have B7 := B7.ext l26; have B20 := B20.ext l26; have o35 := o35.ext l26
    refine p0 rfl (x_move (v := .pointer _) rfl) (p0 rfl (x_nilCheck rfl) (p0 rfl (x_fieldAddr fa127_0 rfl) ?_))
    refine ps rfl (fun wq hwq => x_loadIn ag79 rfl (qB20.exm hwq (by simp; omega)) [.string _, .int _ _] rfl rfl) ?_
    refine p0 rfl (x_build (cs := [.int .i64 0, .slice none 0 0]) bd71 pts_nil rfl) ?_
    refine p0 rfl (x_move (v := .pointer _) rfl) (p0 rfl (x_nilCheck rfl) (p0 rfl (x_fieldAddr fa127_1 rfl) ?_))
    refine ps rfl (fun wq hwq => x_loadB sc3 rfl (qB20.exm hwq (by simp; omega)) rfl) ?_
    refine pu rfl (s_storeAg rfl sz79 rfl rfl B4 rfl rfl rfl ?_)
    intro w27 l28 el28 B4
    have z_l28 := l28.size; have L := L.fresh l28 (by omega); have Lq := Lq.within l28 (by simp)
    have B1 := B1.ne l28 (by omega); have B7 := B7.ne l28 (by omega); have B20 := B20.ne l28 (by omega); have o35 := o35.ne l28 (by first|assumption|exact nin_of f35 g35 (by omega))
    refine c_end ⟨rfl, fun h hS => Lq, ?_⟩
    refine pu rfl (s_storeAg rfl sz71 rfl rfl B7 rfl rfl rfl ?_)
    intro w29 l30 el30 B7
    have z_l30 := l30.size; have L := L.fresh l30 (by omega); have Lq := Lq.within l30 (by simp)
    have B1 := B1.ne l30 (by omega); have B4 := B4.ne l30 (by omega); have B20 := B20.ne l30 (by omega); have o35 := o35.ne l30 (by first|assumption|exact nin_of f35 g35 (by omega))
    refine c_end ⟨rfl, fun h hS => Lq, ?_⟩
    refine p0 rfl (xaI rfl) ?_
    refine p_nil (np_normal ?_)
    refine n_then ?_
    refine wp_ret (r_then ?_)
    refine f_rets3 rfl (ro_cell rfl ag79 B4 rfl) (ro_cell rfl ag71 B7 rfl) (ro_tmp rfl) ?_
    have hx0 := rbk_lv (s := s) (a := a) (xs := xs) h14 (Classical.not_not.1 h26)
    obtain ⟨e3, e4⟩ := rbk_bad (s := s) (a := a) (xs := xs) (n := n) (by rw [hx0.1]; exact h40)
    rw [e3, e4, hx0.1, hx0.2]
    exact ⟨_, rfl, L, none, 0, [], rfl, Own.nil, Fr.no⟩
   ·refine c_end (n_then (c_false rfl (c_skipn (n_then (wp_seq ?_)))))
    have hN := size_sq h14
    refine c_reg (s0 (x_move (v := .pointer _) rfl) (s0 (x_nilCheck rfl) (s0 (x_fieldAddr fa127_0 rfl) (st (x_loadIn ag79 rfl B20 [.string _, .int _ _] rfl rfl) (s0 (xmI rfl) (s0 (xmS rfl) ?_))))))
    refine s0 (x_build (cs := [.int _ _, .slice _ _ _]) bd71 (pts_cons (v := .int _ _) rfl (pts_cons (v := .slice _ _ _) rfl pts_nil)) rfl) ?_
    refine s_storeAg rfl sz79 rfl rfl B4 rfl rfl rfl ?_
    intro w31 l32 el32 B4
    have z_l32 := l32.size; have L := L.fresh l32 (by omega); have B1 := B1.ne l32 (by omega); have B7 := B7.ne l32 (by omega); have B20 := B20.ne l32 (by omega); have o35 := o35.ne l32 (by first|assumption|exact nin_of f35 g35 (by omega))
    refine s_storeAg rfl sz71 rfl rfl B7 rfl rfl rfl ?_
    intro w33 l34 el34 B7
    have z_l34 := l34.size; have L := L.fresh l34 (by omega); have B1 := B1.ne l34 (by omega); have B4 := B4.ne l34 (by omega); have B20 := B20.ne l34 (by omega); have o35 := o35.ne l34 (by first|assumption|exact nin_of f35 g35 (by omega))
    refine s0 (xaI rfl) (c_end (n_then (wp_ret (f_rets3 rfl (ro_cell rfl ag79 B4 rfl) (ro_cell rfl ag71 B7 rfl) (ro_tmp rfl) ?_))))
    have hx0 := rbk_lv (s := s) (a := a) (xs := xs) h14 (Classical.not_not.1 h26); have hz0 : (rbkR s a xs n).f.code = 0 := Classical.not_not.1 h40
    obtain ⟨e3, e4⟩ := rbk_good (s := s) (a := a) (xs := xs) (n := n) (by rw [hx0.1]; exact hz0)
    have hln := lvRes_len (s := s) (N := n * n) ⟨rsAt s a xs, 0⟩ (by omega)
    have hln2 : (rbkR s a xs n).l.length = (n * n).toNat := by show (lvRes s ⟨rsAt s a xs, 0⟩ (n * n)).l.length = (n * n).toNat; omega
    rw [e3, e4, hx0.1, hx0.2, hz0, hln2]
    exact ⟨_, rfl, L, _, _, _, rfl, o35, f35.mono (by omega)⟩
 ·have z_l11 := l11.size
  have L := L.tr l11.up; have B1 := B1.ext l11; have B4 := B4.ext l11; have B7 := B7.ext l11
  refine s0 (x_not rfl) (c_end (n_then (c_true rfl (wp_seq (c_reg (st (x_loadAgB ag79 rfl B1 rfl) ?_))))))
  refine s0 (x_build (cs := [.int .i64 0, .slice none 0 0]) bd71 pts_nil rfl) ?_
  refine s_storeAg rfl sz79 rfl rfl B4 rfl rfl rfl ?_
  intro w35 l36 el36 B4
  have z_l36 := l36.size; have L := L.fresh l36 (by omega); have B1 := B1.ne l36 (by omega); have B7 := B7.ne l36 (by omega)
  refine s_storeAg rfl sz71 rfl rfl B7 rfl rfl rfl ?_
  intro w37 l38 el38 B7
  have z_l38 := l38.size; have L := L.fresh l38 (by omega); have B1 := B1.ne l38 (by omega); have B4 := B4.ne l38 (by omega)
  refine s0 (xaI rfl) (c_end (n_then ?_))
  refine wp_ret (r_then ?_)
  refine f_rets3 rfl (ro_cell rfl ag79 B4 rfl) (ro_cell rfl ag71 B7 rfl) (ro_tmp rfl) ?_
  obtain ⟨e1, e2, e3, e4⟩ := rbk_size (s := s) (a := a) (xs := xs) h14
  rw [e1, e2, e3, e4]
  exact ⟨_, rfl, L, none, 0, [], rfl, Own.nil, Fr.no⟩

theorem s_levelOf (n : Int) (w : World) (hn : n ≤ 9223372036854775807) :
    Calls Tryz.prog 238 [.int .i64 n].toArray w (Ret w (.int .i64 (levelOf n))) := by
 have L : Exm [] w w := Exm.rfl'
 refine enter (n := 15) Tryz.func238 rfl rfl rfl ?_
 refine wp_seq (c_reg (s0 (xaI rfl) (c_end (n_then (wp_seq (wp_seq (c_reg (s0 (xmI rfl) ?_))))))))
 refine sb (x_lss rfl rfl) (fun h4 => ?_) (fun h4 => ?_)
 ·refine c_end (n_then (c_true rfl (wp_seq (c_reg (s0 (xaI rfl) (c_end (n_then ?_)))))))
  refine wp_ret (r_then ?_)
  refine f_ret rfl rfl ?_
  exact ⟨ret_int (by unfold levelOf; rw [if_pos h4]), L⟩
 ·refine c_end (n_then (c_false rfl (c_skipn (n_then (wp_seq (wp_seq (c_reg (s0 (xmI rfl) (s0 (x_rem rfl rfl (by omega) (by omega)) ?_)))))))))
  refine sb (x_eql rfl rfl) (fun h7 => ?_) (fun h7 => ?_)
  ·refine c_end (n_then (c_true rfl (wp_seq (c_reg (s0 (xmI rfl) (s0 (x_quo rfl rfl (by omega) (by omega)) (s0 (x_add rfl rfl (by omega)) (s0 (xaI rfl) (c_end (n_then ?_))))))))))
   refine wp_ret (r_then ?_)
   refine f_ret rfl rfl ?_
   exact ⟨ret_int (by unfold levelOf; rw [if_neg h4, if_pos h7]), L⟩
  ·refine c_end (n_then (c_false rfl (c_skipn (n_then (wp_seq (c_reg (s0 (xmI rfl) (s0 (x_quo rfl rfl (by omega) (by omega)) (s0 (x_neg rfl (by omega)) (s0 (x_sub rfl rfl (by omega)) (s0 (xaI rfl) (c_end (n_then ?_)))))))))))))
   refine wp_ret (f_ret rfl rfl ?_)
   exact ⟨ret_int (by unfold levelOf; rw [if_neg h4, if_neg h7]; omega), L⟩

theorem s_pair (s : ByteArray) (a r : Int) (w : World) (hs : s.size ≤ 1048576) :
    Calls Tryz.prog 231 [.agg [.string s, .int .i64 a].toArray, .int .i64 r].toArray w (RetP w fun v w' => ∃ x y : Int, v = .tuple [.agg [.string s, .int .i64 (fnS s (fnS s ⟨a, 0⟩ (kLt r)) kLv).a].toArray, .agg [.int .i64 x, .int .i64 y].toArray, .int .i64 (fnS s (fnS s ⟨a, 0⟩ (kLt r)) kLv).code].toArray ∧ ((fnS s (fnS s ⟨a, 0⟩ (kLt r)) kLv).code = 0 → x = fnV s ⟨a, 0⟩ (kLt r) ∧ y = levelOf (fnV s (fnS s ⟨a, 0⟩ (kLt r)) kLv))) := by
 have L : Exm [] w w := Exm.rfl'
 refine enter (n := 50) Tryz.func231 rfl rfl rfl ?_
 refine wp_seq (c_reg (s_box rfl rfl ?_))
 intro b1 w2 lob1 hib1 l3 B1
 have z_l3 := l3.size; have L := L.tr l3.up
 refine s_alloc zr79 ?_
 intro b4 w5 lob4 hib4 l6 B4
 have z_l6 := l6.size; have L := L.tr l6.up; have B1 := B1.ext l6
 refine s_alloc zr166 ?_
 intro b7 w8 lob7 hib7 l9 B7
 have z_l9 := l9.size; have L := L.tr l9.up; have B1 := B1.ext l9; have B4 := B4.ext l9
 refine s0 (xaI rfl) (c_end (n_then (wp_seq (c_reg (st (x_loadAgB ag79 rfl B1 rfl) ?_)))))
 refine sr (zcall cl221 rfl) (s_ue _ _ _ (by omega)) ?_
 intro w10 l11
 have z_l11 := l11.size; have L := L.tr l11.up; have B1 := B1.ext l11; have B4 := B4.ext l11; have B7 := B7.ext l11
 refine s0 (x_move (v := .tuple _) rfl) (s0 (x_extract rfl rfl) (s0 (x_extract rfl rfl) (s0 (x_extract rfl rfl) (s_alloc zr79 ?_))))
 intro b12 w13 lob12 hib12 l14 B12
 have z_l14 := l14.size; have L := L.tr l14.up; have B1 := B1.ext l14; have B4 := B4.ext l14; have B7 := B7.ext l14
 refine s_storeAg rfl sz79 rfl rfl B12 rfl rfl rfl ?_
 intro w15 l16 el16 B12
 have z_l16 := l16.size; have L := L.fresh l16 (by omega); have B1 := B1.ne l16 (by omega); have B4 := B4.ne l16 (by omega); have B7 := B7.ne l16 (by omega)
 refine s0 (xaI rfl) (s0 (xaI rfl) (c_end (n_then (wp_seq (wp_seq (c_reg (s0 (xmI rfl) ?_)))))))
 refine sb (x_neq rfl rfl) (fun h19 => ?_) (fun h19 => ?_)
 ·refine c_end (n_then (c_true rfl (wp_seq (c_reg (st (x_loadAgB ag79 rfl B1 rfl) ?_)))))
  refine s0 (x_build (cs := [.int .i64 0, .int .i64 0]) bd166 pts_nil rfl) ?_
  refine s0 (xmI rfl) (s_storeAg rfl sz79 rfl rfl B4 rfl rfl rfl ?_)
  intro w17 l18 el18 B4
  have z_l18 := l18.size; have L := L.fresh l18 (by omega); have B1 := B1.ne l18 (by omega); have B7 := B7.ne l18 (by omega); have B12 := B12.ne l18 (by omega)
  refine s_storeAg rfl sz166 rfl rfl B7 rfl rfl rfl ?_
  intro w19 l20 el20 B7
  have z_l20 := l20.size; have L := L.fresh l20 (by omega); have B1 := B1.ne l20 (by omega); have B4 := B4.ne l20 (by omega); have B12 := B12.ne l20 (by omega)
  refine s0 (xaI rfl) (c_end (n_then ?_))
  refine wp_ret (r_then ?_)
  refine f_rets3 rfl (ro_cell rfl ag79 B4 rfl) (ro_cell rfl ag166 B7 rfl) (ro_tmp rfl) ?_
  have hq1 := (fn_short (f := ⟨a, 0⟩) (chk := kLt r) rfl h19).1
  have hq2 := (fn_err (s := s) (f := fnS s ⟨a, 0⟩ (kLt r)) (chk := kLv) (by rw [hq1]; exact h19)).1
  rw [hq2, hq1]
  exact ⟨_, rfl, L, _, _, rfl, fun h => absurd (show ueE s a = 0 from h) h19⟩
 ·refine c_end (n_then (c_false rfl (c_skipn (n_then (wp_seq (wp_seq ?_))))))
  have hz14 : ueE s a = 0 := Classical.not_not.1 h19
  refine c_reg (s0 (xmI rfl) (s0 (xmI rfl) ?_))
  refine sb (x_geq rfl rfl) (fun h25 => ?_) (fun h25 => ?_)
  ·refine c_end (n_then (c_true rfl (wp_seq (c_reg (st (x_loadAgB ag79 rfl B1 rfl) ?_)))))
   refine s0 (x_build (cs := [.int .i64 0, .int .i64 0]) bd166 pts_nil rfl) ?_
   refine s_storeAg rfl sz79 rfl rfl B4 rfl rfl rfl ?_
   intro w21 l22 el22 B4
   have z_l22 := l22.size; have L := L.fresh l22 (by omega); have B1 := B1.ne l22 (by omega); have B7 := B7.ne l22 (by omega); have B12 := B12.ne l22 (by omega)
   refine s_storeAg rfl sz166 rfl rfl B7 rfl rfl rfl ?_
   intro w23 l24 el24 B7
   have z_l24 := l24.size; have L := L.fresh l24 (by omega); have B1 := B1.ne l24 (by omega); have B4 := B4.ne l24 (by omega); have B12 := B12.ne l24 (by omega)
   refine s0 (xaI rfl) (c_end (n_then ?_))
   refine wp_ret (r_then ?_)
   refine f_rets3 rfl (ro_cell rfl ag79 B4 rfl) (ro_cell rfl ag166 B7 rfl) (ro_tmp rfl) ?_
   have k5 : kLt r (ueV s a) = 5 := if_neg (by omega)
   have hq1 := (fn_bad (f := ⟨a, 0⟩) (chk := kLt r) rfl hz14 (by show kLt r (ueV s a) ≠ 0; rw [k5]; decide)).1.trans (congrArg (Fs.mk a) k5)
   have hq2 := (fn_err (s := s) (f := fnS s ⟨a, 0⟩ (kLt r)) (chk := kLv) (by rw [hq1]; show (5 : Int) ≠ 0; decide)).1
   rw [hq2, hq1]
   exact ⟨_, rfl, L, _, _, rfl, fun h => absurd (show (5 : Int) = 0 from h) (by decide)⟩
  ·refine c_end (n_then (c_false rfl (c_skipn (n_then (wp_seq ?_)))))
   have k1 : kLt r (ueV s a) = 0 := if_pos (by omega); have hq1 := fn_ok (f := ⟨a, 0⟩) (chk := kLt r) rfl hz14 k1
   refine c_reg (st (x_loadAgB ag79 rfl B12 rfl) ?_)
   refine sr (zcall cl221 rfl) (s_ue _ _ _ (by omega)) ?_
   intro w25 l26
   have z_l26 := l26.size; have L := L.tr l26.up; have B1 := B1.ext l26; have B4 := B4.ext l26; have B7 := B7.ext l26; have B12 := B12.ext l26
   refine s0 (x_move (v := .tuple _) rfl) (s0 (x_extract rfl rfl) (s0 (x_extract rfl rfl) (s0 (x_extract rfl rfl) (s_alloc zr79 ?_))))
   intro b27 w28 lob27 hib27 l29 B27
   have z_l29 := l29.size; have L := L.tr l29.up; have B1 := B1.ext l29; have B4 := B4.ext l29; have B7 := B7.ext l29; have B12 := B12.ext l29
   refine s_storeAg rfl sz79 rfl rfl B27 rfl rfl rfl ?_
   intro w30 l31 el31 B27
   have z_l31 := l31.size; have L := L.fresh l31 (by omega); have B1 := B1.ne l31 (by omega); have B4 := B4.ne l31 (by omega); have B7 := B7.ne l31 (by omega); have B12 := B12.ne l31 (by omega)
   refine s0 (xaI rfl) (s0 (xaI rfl) (c_end (n_then (wp_seq (wp_seq (c_reg (s0 (xmI rfl) ?_)))))))
   refine sb (x_neq rfl rfl) (fun h35 => ?_) (fun h35 => ?_)
   ·refine c_end (n_then (c_true rfl (wp_seq (c_reg (st (x_loadAgB ag79 rfl B12 rfl) ?_)))))
    refine s0 (x_build (cs := [.int .i64 0, .int .i64 0]) bd166 pts_nil rfl) ?_
    refine s0 (xmI rfl) (s_storeAg rfl sz79 rfl rfl B4 rfl rfl rfl ?_)
    intro w32 l33 el33 B4
    have z_l33 := l33.size; have L := L.fresh l33 (by omega); have B1 := B1.ne l33 (by omega); have B7 := B7.ne l33 (by omega); have B12 := B12.ne l33 (by omega); have B27 := B27.ne l33 (by omega)
    refine s_storeAg rfl sz166 rfl rfl B7 rfl rfl rfl ?_
    intro w34 l35 el35 B7
    have z_l35 := l35.size; have L := L.fresh l35 (by omega); have B1 := B1.ne l35 (by omega); have B4 := B4.ne l35 (by omega); have B12 := B12.ne l35 (by omega); have B27 := B27.ne l35 (by omega)
    refine s0 (xaI rfl) (c_end (n_then ?_))
    refine wp_ret (r_then ?_)
    refine f_rets3 rfl (ro_cell rfl ag79 B4 rfl) (ro_cell rfl ag166 B7 rfl) (ro_tmp rfl) ?_
    have hq2 := (fn_short (f := ⟨ueAt s a, 0⟩) (chk := kLv) rfl h35).1
    rw [hq1.1, hq2]
    exact ⟨_, rfl, L, _, _, rfl, fun h => absurd (show ueE s (ueAt s a) = 0 from h) h35⟩
   ·refine c_end (n_then (c_false rfl (c_skipn (n_then (wp_seq (wp_seq ?_))))))
    have hz30 : ueE s (ueAt s a) = 0 := Classical.not_not.1 h35; have hur := ueV_range hz30
    refine c_reg (s0 (xmI rfl) ?_)
    refine sr (zcall cl238 rfl) (s_levelOf _ _ (by omega)) ?_
    intro w36 l37
    have z_l37 := l37.size; have L := L.tr l37.up; have B1 := B1.ext l37; have B4 := B4.ext l37; have B7 := B7.ext l37; have B12 := B12.ext l37; have B27 := B27.ext l37
    refine srb (zcall cl85 rfl) (s_l1In _ _ _ _) (fun h41 w38 l39 => ?_) (fun h41 w38 l39 => ?_)
    ·have z_l39 := l39.size
     have L := L.tr l39.up; have B1 := B1.ext l39; have B4 := B4.ext l39; have B7 := B7.ext l39; have B12 := B12.ext l39; have B27 := B27.ext l39
     refine s0 (x_not rfl) (c_end (n_then (c_false rfl (c_skipn (n_then (wp_seq ?_))))))
     refine c_plan (fun wq => Exm [b4, b7] w38 wq) 8 (.cons (0, 1) (.cons (1, 2) (.cons (2, 2) (.cons (3, 0) (.cons (4, 2) (.cons (5, 0) (.cons (6, 0) (.cons (7, 2) .nil)))))))) (by kernel_rfl) (by kernel_rfl) (Exm.drew _) ?_
     obtain ⟨w40, hwd⟩ : ∃ x, x = w38.drew := ⟨_, rfl⟩
     have l41 : Ext w38 w40 := by rw [hwd]; exact Exm.drew _
     rw [← hwd]; clear hwd
     have Lq : Exm [b4, b7] w38 w40 := l41.up; have qB27 := B27; have z_l41 := l41.size; have L := L.tr l41.up; have B1 := B1.ext l41; have B4 := B4.ext l41; have B7 := B7.ext l41; have B12 := B12.ext l41; have B27 := B27.ext l41
     refine ps rfl (fun wq hwq => x_loadAgB ag79 rfl (qB27.exm hwq (by simp; omega)) rfl) ?_
     refine p0 rfl (xmI rfl) (p0 rfl (xmI rfl) (pu rfl ?_))
     refine sr (zcall cl238 rfl) (s_levelOf _ _ (by omega)) ?_
     intro w42 l43
     have z_l43 := l43.size; have L := L.tr l43.up; have Lq := Lq.tr l43.up; have B1 := B1.ext l43; have B4 := B4.ext l43; have B7 := B7.ext l43; have B12 := B12.ext l43; have B27 := B27.ext l43
     refine c_end ⟨rfl, fun h hS => Lq, ?_⟩
     refine p0 rfl (x_build (cs := [.int _ _, .int _ _]) bd166 (pts_cons (v := .int _ _) rfl (pts_cons (v := .int _ _) rfl pts_nil)) rfl) ?_
     refine pu rfl (s_storeAg rfl sz79 rfl rfl B4 rfl rfl rfl ?_)
     intro w44 l45 el45 B4
     have z_l45 := l45.size; have L := L.fresh l45 (by omega); have Lq := Lq.within l45 (by simp)
     have B1 := B1.ne l45 (by omega); have B7 := B7.ne l45 (by omega); have B12 := B12.ne l45 (by omega); have B27 := B27.ne l45 (by omega)
     refine c_end ⟨rfl, fun h hS => Lq, ?_⟩
     refine pu rfl (s_storeAg rfl sz166 rfl rfl B7 rfl rfl rfl ?_)
     intro w46 l47 el47 B7
     have z_l47 := l47.size; have L := L.fresh l47 (by omega); have Lq := Lq.within l47 (by simp)
     have B1 := B1.ne l47 (by omega); have B4 := B4.ne l47 (by omega); have B12 := B12.ne l47 (by omega); have B27 := B27.ne l47 (by omega)
     refine c_end ⟨rfl, fun h hS => Lq, ?_⟩
     refine p0 rfl (xaI rfl) ?_
     refine p_nil (np_normal ?_)
     refine n_then (wp_ret (f_rets3 rfl (ro_cell rfl ag79 B4 rfl) (ro_cell rfl ag166 B7 rfl) (ro_tmp rfl) ?_))
     have k6 : kLv (ueV s (ueAt s a)) = 0 := if_pos h41; have hq2 := fn_ok (f := ⟨ueAt s a, 0⟩) (chk := kLv) rfl hz30 k6
     rw [hq1.1, hq2.1, hq1.2, hq2.2]
     exact ⟨_, rfl, L, _, _, rfl, fun _ => ⟨rfl, rfl⟩⟩
    ·have z_l39 := l39.size
     have L := L.tr l39.up; have B1 := B1.ext l39; have B4 := B4.ext l39; have B7 := B7.ext l39; have B12 := B12.ext l39; have B27 := B27.ext l39
     refine s0 (x_not rfl) (c_end (n_then (c_true rfl (wp_seq (c_reg (st (x_loadAgB ag79 rfl B12 rfl) ?_))))))
     refine s0 (x_build (cs := [.int .i64 0, .int .i64 0]) bd166 pts_nil rfl) ?_
     refine s_storeAg rfl sz79 rfl rfl B4 rfl rfl rfl ?_
     intro w48 l49 el49 B4
     have z_l49 := l49.size; have L := L.fresh l49 (by omega); have B1 := B1.ne l49 (by omega); have B7 := B7.ne l49 (by omega); have B12 := B12.ne l49 (by omega); have B27 := B27.ne l49 (by omega)
     refine s_storeAg rfl sz166 rfl rfl B7 rfl rfl rfl ?_
     intro w50 l51 el51 B7
     have z_l51 := l51.size; have L := L.fresh l51 (by omega); have B1 := B1.ne l51 (by omega); have B4 := B4.ne l51 (by omega); have B12 := B12.ne l51 (by omega); have B27 := B27.ne l51 (by omega)
     refine s0 (xaI rfl) (c_end (n_then ?_))
     refine wp_ret (r_then ?_)
     refine f_rets3 rfl (ro_cell rfl ag79 B4 rfl) (ro_cell rfl ag166 B7 rfl) (ro_tmp rfl) ?_
     have k5 : kLv (ueV s (ueAt s a)) = 5 := if_neg h41
     have hq2 := (fn_bad (f := ⟨ueAt s a, 0⟩) (chk := kLv) rfl hz30 (by show kLv (ueV s (ueAt s a)) ≠ 0; rw [k5]; decide)).1.trans (congrArg (Fs.mk (ueAt s a)) k5)
     rw [hq1.1, hq2]
     exact ⟨_, rfl, L, _, _, rfl, fun h => absurd (show (5 : Int) = 0 from h) (by decide)⟩

theorem s_levels (s : ByteArray) (a n : Int) (w : World) (hs : s.size ≤ 1048576) (hn : sizeOk n) :
    Calls Tryz.prog 223 [.agg [.string s, .int .i64 a].toArray, .int .i64 n].toArray w (RetP w fun v w' => ∃ p c F xs, v = .tuple [.agg [.string s, .int .i64 (lvRes s ⟨a, 0⟩ (n * n)).f.a].toArray, .slice p xs.length c, .int .i64 (lvRes s ⟨a, 0⟩ (n * n)).f.code].toArray ∧ Own w' p xs.length c 3 1 (ic xs) F ∧ Fr w.heap.size F ∧ ((lvRes s ⟨a, 0⟩ (n * n)).f.code = 0 → xs = (lvRes s ⟨a, 0⟩ (n * n)).l)) := by
 have hN := size_sq hn; have hnl : (List.replicate (n * n).toNat (0 : Int)).length = (n * n).toNat := List.length_replicate ..; have L : Exm [] w w := Exm.rfl'
 refine enter (n := 93) Tryz.func223 rfl rfl rfl ?_
 refine wp_seq (c_reg (s_box rfl rfl ?_))
 intro b1 w2 lob1 hib1 l3 B1
 have z_l3 := l3.size; have L := L.tr l3.up
 refine s_alloc zr79 ?_
 intro b4 w5 lob4 hib4 l6 B4
 have z_l6 := l6.size; have L := L.tr l6.up; have B1 := B1.ext l6
 refine s0 (xaS rfl) (s0 (xaI rfl) (c_end (n_then (wp_seq (c_reg (s0 (xmI rfl) (s0 (xmI rfl) (s0 (x_mul rfl rfl (by omega)) (s_makei so24 zr3 rfl rfl (by omega) (by omega) (by omega) ?_)))))))))
 intro p22 F22 w7 l8 o22 f22 g22
 have z_l8 := l8.size; have L := L.tr l8.up; have B1 := B1.ext l8; have B4 := B4.ext l8; have hn22 := o22.n1
 refine s0 (xaS rfl) (c_end (n_then (wp_seq (c_reg (st (x_loadAgB ag79 rfl B1 rfl) ?_)))))
 refine sr (zcall cl176 rfl) (s_readBits _ _ _ _ (by omega)) ?_
 intro w9 l10
 have z_l10 := l10.size; have L := L.tr l10.up; have B1 := B1.ext l10; have B4 := B4.ext l10; have o22 := o22.ext l10
 refine s0 (x_move (v := .tuple _) rfl) (s0 (x_extract rfl rfl) (s0 (x_extract rfl rfl) ?_))
 refine sb (x_extract rfl rfl) (fun h28 => ?_) (fun h28 => ?_)
 ·refine s_alloc zr79 ?_
  intro b11 w12 lob11 hib11 l13 B11
  have z_l13 := l13.size; have L := L.tr l13.up; have B1 := B1.ext l13; have B4 := B4.ext l13; have o22 := o22.ext l13
  refine s_storeAg rfl sz79 rfl rfl B11 rfl rfl rfl ?_
  intro w14 l15 el15 B11
  have z_l15 := l15.size; have L := L.fresh l15 (by omega); have B1 := B1.ne l15 (by omega); have B4 := B4.ne l15 (by omega); have o22 := o22.ne l15 (by first|assumption|exact nin_of f22 g22 (by omega))
  refine s0 (xaI rfl) (s0 (x_assign (v := .bool _) rfl) (c_end (n_then (wp_seq (wp_seq (c_reg (s0 (x_move (v := .bool _) rfl) (s0 (x_not rfl) (c_end (n_then (c_false rfl (c_skipn (n_then ?_)))))))))))))
  refine wp_seq (wp_seq ?_)
  have r1 := fb_ok (f := ⟨a, 0⟩) (n := 1) (chk := k0) rfl h28 rfl
  have ra1 := rbAt_ok h28
  refine c_reg (s0 (xmI rfl) ?_)
  refine sb (x_eql rfl rfl) (fun h34 => ?_) (fun h34 => ?_)
  ·refine c_end (n_then (c_true rfl (wp_seq (c_reg (st (x_loadAgB ag79 rfl B11 rfl) (s0 (xmS rfl) (s_storeAg rfl sz79 rfl rfl B4 rfl rfl rfl ?_)))))))
   intro w16 l17 el17 B4
   have z_l17 := l17.size; have L := L.fresh l17 (by omega); have B1 := B1.ne l17 (by omega); have B11 := B11.ne l17 (by omega); have o22 := o22.ne l17 (by first|assumption|exact nin_of f22 g22 (by omega))
   refine s0 (xaS rfl) (s0 (xaI rfl) (c_end (n_then ?_)))
   refine wp_ret (r_then ?_)
   refine f_rets3 rfl (ro_cell rfl ag79 B4 rfl) (ro_tmp rfl) (ro_tmp rfl) ?_
   rw [lvRes_zero (r1.2.trans h34), r1.1, ra1]
   exact ⟨_, rfl, L, p22, (n * n).toNat, F22, List.replicate (n * n).toNat (0 : Int), (by first | (rw [hnl]; done) | (rw [hnl]; rfl)), (by rw [hnl]; exact o22), f22.mono (by omega), fun _ => rfl⟩
  ·refine c_end (n_then (c_false rfl (c_skipn (n_then (wp_seq ?_)))))
   have hb1 : fbV s ⟨a, 0⟩ 1 k0 ≠ 0 := by rw [r1.2]; exact h34
   refine c_reg (st (x_loadAgB ag79 rfl B11 rfl) ?_)
   refine sr (zcall cl221 rfl) (s_ue _ _ _ (by omega)) ?_
   intro w18 l19
   have z_l19 := l19.size; have L := L.tr l19.up; have B1 := B1.ext l19; have B4 := B4.ext l19; have B11 := B11.ext l19; have o22 := o22.ext l19
   refine s0 (x_move (v := .tuple _) rfl) (s0 (x_extract rfl rfl) (s0 (x_extract rfl rfl) (s0 (x_extract rfl rfl) (s_alloc zr79 ?_))))
   intro b20 w21 lob20 hib20 l22 B20
   have z_l22 := l22.size; have L := L.tr l22.up; have B1 := B1.ext l22; have B4 := B4.ext l22; have B11 := B11.ext l22; have o22 := o22.ext l22
   refine s_storeAg rfl sz79 rfl rfl B20 rfl rfl rfl ?_
   intro w23 l24 el24 B20
   have z_l24 := l24.size; have L := L.fresh l24 (by omega); have B1 := B1.ne l24 (by omega); have B4 := B4.ne l24 (by omega); have B11 := B11.ne l24 (by omega); have o22 := o22.ne l24 (by first|assumption|exact nin_of f22 g22 (by omega))
   refine s0 (xaI rfl) (s0 (xaI rfl) (c_end (n_then (wp_seq (wp_seq (c_reg (s0 (xmI rfl) ?_)))))))
   refine sb (x_neq rfl rfl) (fun h44 => ?_) (fun h44 => ?_)
   ·refine c_end (n_then (c_true rfl (wp_seq (c_reg (st (x_loadAgB ag79 rfl B11 rfl) (s0 (xmS rfl) (s0 (xmI rfl) (s_storeAg rfl sz79 rfl rfl B4 rfl rfl rfl ?_))))))))
    intro w25 l26 el26 B4
    have z_l26 := l26.size; have L := L.fresh l26 (by omega); have B1 := B1.ne l26 (by omega); have B11 := B11.ne l26 (by omega); have B20 := B20.ne l26 (by omega); have o22 := o22.ne l26 (by first|assumption|exact nin_of f22 g22 (by omega))
    refine s0 (xaS rfl) (s0 (xaI rfl) (c_end (n_then ?_)))
    refine wp_ret (r_then ?_)
    refine f_rets3 rfl (ro_cell rfl ag79 B4 rfl) (ro_tmp rfl) (ro_tmp rfl) ?_
    have r2 := (fn_short (f := ⟨rbAt s a 1, 0⟩) (chk := kLt (n * n)) rfl h44).1
    have hb2 : fbS s ⟨a, 0⟩ 1 k0 = ⟨rbAt s a 1, 0⟩ := by rw [r1.1, ra1]
    rw [lvRes_err hb1 (by rw [hb2, r2]; exact h44), hb2, r2]
    exact ⟨_, rfl, L, p22, (n * n).toNat, F22, List.replicate (n * n).toNat (0 : Int), (by first | (rw [hnl]; done) | (rw [hnl]; rfl)), (by rw [hnl]; exact o22), f22.mono (by omega), fun h => absurd (show ueE s (rbAt s a 1) = 0 from h) h44⟩
   ·refine c_end (n_then (c_false rfl (c_skipn (n_then (wp_seq (wp_seq ?_))))))
    have hz39 : ueE s (rbAt s a 1) = 0 := Classical.not_not.1 h44; have hur := ueV_range hz39
    refine c_reg (s0 (xmI rfl) (s0 (x_add rfl rfl (by omega)) (s0 (xmI rfl) (s0 (xmI rfl) (s0 (x_mul rfl rfl (by omega)) ?_)))))
    refine sb (x_gtr rfl rfl) (fun h53 => ?_) (fun h53 => ?_)
    ·refine c_end (n_then (c_true rfl (wp_seq (c_reg (st (x_loadAgB ag79 rfl B11 rfl) (s0 (xmS rfl) (s_storeAg rfl sz79 rfl rfl B4 rfl rfl rfl ?_)))))))
     intro w27 l28 el28 B4
     have z_l28 := l28.size; have L := L.fresh l28 (by omega); have B1 := B1.ne l28 (by omega); have B11 := B11.ne l28 (by omega); have B20 := B20.ne l28 (by omega); have o22 := o22.ne l28 (by first|assumption|exact nin_of f22 g22 (by omega))
     refine s0 (xaS rfl) (s0 (xaI rfl) (c_end (n_then ?_)))
     refine wp_ret (r_then ?_)
     refine f_rets3 rfl (ro_cell rfl ag79 B4 rfl) (ro_tmp rfl) (ro_tmp rfl) ?_
     have k5 : kLt (n * n) (ueV s (rbAt s a 1)) = 5 := if_neg (by omega)
     have r2 := (fn_bad (f := ⟨rbAt s a 1, 0⟩) (chk := kLt (n * n)) rfl hz39 (by show kLt (n * n) (ueV s (rbAt s a 1)) ≠ 0; rw [k5]; decide)).1.trans (congrArg (Fs.mk (rbAt s a 1)) k5)
     have hb2 : fbS s ⟨a, 0⟩ 1 k0 = ⟨rbAt s a 1, 0⟩ := by rw [r1.1, ra1]
     rw [lvRes_err hb1 (by rw [hb2, r2]; show (5 : Int) ≠ 0; decide), hb2, r2]
     exact ⟨_, rfl, L, p22, (n * n).toNat, F22, List.replicate (n * n).toNat (0 : Int), (by first | (rw [hnl]; done) | (rw [hnl]; rfl)), (by rw [hnl]; exact o22), f22.mono (by omega), fun h => absurd (show (5 : Int) = 0 from h) (by decide)⟩
    ·refine c_end (n_then (c_false rfl (c_skipn (n_then (wp_seq ?_)))))
     have k1 : kLt (n * n) (ueV s (rbAt s a 1)) = 0 := if_pos (by omega); have r2 := fn_ok (f := ⟨rbAt s a 1, 0⟩) (chk := kLt (n * n)) rfl hz39 k1
     obtain ⟨q20, hq20⟩ : ∃ q, q = fnS s (fbS s ⟨a, 0⟩ 1 k0) (kLt (n * n)) := ⟨_, rfl⟩
     have hb2 : fbS s ⟨a, 0⟩ 1 k0 = ⟨rbAt s a 1, 0⟩ := by rw [r1.1, ra1]
     have hq20e : q20 = ⟨ueAt s (rbAt s a 1), 0⟩ := by rw [hq20, hb2, r2.1]
     have hmany : fnV s (fbS s ⟨a, 0⟩ 1 k0) (kLt (n * n)) = ueV s (rbAt s a 1) := by rw [hb2, r2.2]
     refine c_reg (s0 (xaI rfl) (c_end (n_then (wp_seq (wp_seq (c_reg (s0 (xaI rfl) (c_end (n_then (wp_block ?_))))))))))
     refine c_loop (γ := Nat) (fun k => (ueV s (rbAt s a 1) + 1).toNat - k) (fun (k : Nat) E wl => ∃ E0, E = upd (upd (upd (upd (upd (upd (upd E0 1 (.int .i64 n)) 4 (pt b4 0)) 7 (.slice p22 (n * n).toNat (n * n).toNat)) 11 (pt b20 0)) 12 (.int .i64 (ueV s (rbAt s a 1)))) 14 (.int .i64 (lvIt s (n * n) (lv0 q20 (n * n)) k).p)) 15 (.int .i64 (k : Int)) ∧ (Exm [] w wl) ∧ (w23.heap.size ≤ wl.heap.size) ∧ (Bx wl b1 [.string s, .int .i64 a] 79) ∧ (Bx wl b4 [.string .empty, .int .i64 0] 79) ∧ (Bx wl b11 [.string s, .int .i64 (rbAt s a 1)] 79) ∧ (Bx wl b20 [.string s, .int .i64 (lvIt s (n * n) (lv0 q20 (n * n)) k).f.a] 79) ∧ (Own wl p22 (n * n).toNat (n * n).toNat 3 1 (ic (lvIt s (n * n) (lv0 q20 (n * n)) k).l) F22) ∧ ((k : Int) ≤ ueV s (rbAt s a 1) + 1) ∧ (lvOk (n * n) (lvIt s (n * n) (lv0 q20 (n * n)) k)) ∧ ((lvIt s (n * n) (lv0 q20 (n * n)) k).f.code = 0)) 0 ⟨_, upd_self7 rfl rfl rfl rfl rfl rfl rfl, L, (by omega), B1, B4, B11, (bx_eq (by show _ = [Value.string s, .int .i64 q20.a]; rw [hq20e]) B20), o22, (by omega), (lv0_ok (by omega)), (by show q20.code = 0; rw [hq20e])⟩ ?_
     rintro k E wl29 ⟨E0, rfl, L, Lz, B1, B4, B11, B20, o22, hk, hv, hc⟩
     have Lz0 := L.size
     refine wp_seq (wp_seq (c_reg (s0 (xmI rfl) (s0 (xmI rfl) ?_))))
     refine sb (x_leq rfl rfl) (fun h58 => ?_) (fun h58 => ?_)
     ·refine c_end (n_then (c_true rfl (c_skipn (n_then (wp_seq (wp_block (wp_seq ?_)))))))
      have hv1r := hv.1; have hv2r := hv.2.1
      refine c_reg (st (x_loadAgB ag79 rfl B20 rfl) (s0 (xmI rfl) (s0 (xmI rfl) (s0 (x_mul rfl rfl (by omega)) (s0 (xmI rfl) (s0 (x_sub rfl rfl (by omega)) ?_))))))
      refine sp (zcall cl231 rfl) (s_pair _ _ _ _ (by omega)) ?_
      rintro v68 w30 l31 ⟨x68, y68, rfl, hx68⟩
      have z_l31 := l31.size; have L := L.tr l31.up; have B1 := B1.ext l31; have B4 := B4.ext l31; have B11 := B11.ext l31; have B20 := B20.ext l31; have o22 := o22.ext l31
      refine s0 (x_move (v := .tuple _) rfl) (s0 (x_extract rfl rfl) (s0 (x_extract rfl rfl) (s0 (x_extract rfl rfl) (s_alloc zr79 ?_))))
      intro b32 w33 lob32 hib32 l34 B32
      have z_l34 := l34.size; have L := L.tr l34.up; have B1 := B1.ext l34; have B4 := B4.ext l34; have B11 := B11.ext l34; have B20 := B20.ext l34; have o22 := o22.ext l34
      refine s_alloc zr166 ?_
      intro b35 w36 lob35 hib35 l37 B35
      have z_l37 := l37.size; have L := L.tr l37.up; have B1 := B1.ext l37; have B4 := B4.ext l37; have B11 := B11.ext l37; have B20 := B20.ext l37; have B32 := B32.ext l37; have o22 := o22.ext l37
      refine s_storeAg rfl sz79 rfl rfl B32 rfl rfl rfl ?_
      intro w38 l39 el39 B32
      have z_l39 := l39.size; have L := L.fresh l39 (by omega); have B1 := B1.ne l39 (by omega); have B4 := B4.ne l39 (by omega); have B11 := B11.ne l39 (by omega); have B20 := B20.ne l39 (by omega); have B35 := B35.ne l39 (by omega); have o22 := o22.ne l39 (by first|assumption|exact nin_of f22 g22 (by omega))
      refine s_storeAg rfl sz166 rfl rfl B35 rfl rfl rfl ?_
      intro w40 l41 el41 B35
      have z_l41 := l41.size; have L := L.fresh l41 (by omega); have B1 := B1.ne l41 (by omega); have B4 := B4.ne l41 (by omega); have B11 := B11.ne l41 (by omega); have B20 := B20.ne l41 (by omega); have B32 := B32.ne l41 (by omega); have o22 := o22.ne l41 (by first|assumption|exact nin_of f22 g22 (by omega))
      refine s0 (xaI rfl) (c_end (n_then (wp_seq (wp_seq ?_))))
      have eF2 : fnS s (fnS s ⟨(lvIt s (n * n) (lv0 q20 (n * n)) k).f.a, 0⟩ (kLt (n * n - (lvIt s (n * n) (lv0 q20 (n * n)) k).p))) kLv = lvF2 s (n * n) (lvIt s (n * n) (lv0 q20 (n * n)) k) := by rw [fs_eta hc]; rfl
      have hst := lvIt_next (s := s) (N := n * n) (v := lv0 q20 (n * n)) hc
      refine c_reg (s0 (xmI rfl) ?_)
      refine sb (x_neq rfl rfl) (fun h73 => ?_) (fun h73 => ?_)
      ·refine c_end (n_then (c_true rfl (wp_seq (c_reg (st (x_loadAgB ag79 rfl B32 rfl) (s0 (xmS rfl) (s0 (xmI rfl) (s_storeAg rfl sz79 rfl rfl B4 rfl rfl rfl ?_))))))))
       intro w42 l43 el43 B4
       have z_l43 := l43.size; have L := L.fresh l43 (by omega); have B1 := B1.ne l43 (by omega); have B11 := B11.ne l43 (by omega); have B20 := B20.ne l43 (by omega); have B32 := B32.ne l43 (by omega); have B35 := B35.ne l43 (by omega); have o22 := o22.ne l43 (by first|assumption|exact nin_of f22 g22 (by omega))
       refine s0 (xaS rfl) (s0 (xaI rfl) (c_end (n_then ?_)))
       refine wp_ret (r_then (r_block (r_then (r_then (r_block (r_then ?_))))))
       refine f_rets3 rfl (ro_cell rfl ag79 B4 rfl) (ro_tmp rfl) (ro_tmp rfl) ?_
       have he : lvRes s ⟨a, 0⟩ (n * n) = lvIt s (n * n) (lv0 q20 (n * n)) (k + 1) := by rw [lvRes_more hb1, ← hq20, hmany]; exact lv_done (by omega) (.inr (by rw [hst]; unfold lvStep; rw [if_neg (by rw [← eF2]; exact h73), ← eF2]; exact h73))
       have hv1 : (lvIt s (n * n) (lv0 q20 (n * n)) (k + 1)).f = lvF2 s (n * n) (lvIt s (n * n) (lv0 q20 (n * n)) k) := by rw [hst]; unfold lvStep; rw [if_neg (by rw [← eF2]; exact h73)]
       have hlen := hv.2.2
       rw [he, hv1, ← eF2]
       have hn22 : (lvIt s (n * n) (lv0 q20 (n * n)) k).l.length = (n * n).toNat := by omega
       exact ⟨_, rfl, L, p22, (n * n).toNat, F22, (lvIt s (n * n) (lv0 q20 (n * n)) k).l, (by first | (rw [hn22]; done) | (rw [hn22]; rfl)), (by rw [hn22]; exact o22), f22.mono (by omega), fun h => absurd h h73⟩
      ·refine c_end (n_then (c_false rfl (c_skipn (n_then (wp_seq ?_)))))
       have hF0 : (lvF2 s (n * n) (lvIt s (n * n) (lv0 q20 (n * n)) k)).code = 0 := by rw [← eF2]; exact Classical.not_not.1 h73
       have hroom := lv_room (s := s) hv hF0; have hlen := hv.2.2; have hxy := hx68 (Classical.not_not.1 h73)
       have hP2 : (lvIt s (n * n) (lv0 q20 (n * n)) k).p + x68 = lvP s (n * n) (lvIt s (n * n) (lv0 q20 (n * n)) k) := by rw [hxy.1, fs_eta hc]; rfl
       have hL2 : y68 = lvL s (n * n) (lvIt s (n * n) (lv0 q20 (n * n)) k) := by rw [hxy.2, fs_eta hc]; rfl
       have hv1 : lvIt s (n * n) (lv0 q20 (n * n)) (k + 1) = ⟨lvF2 s (n * n) (lvIt s (n * n) (lv0 q20 (n * n)) k), (lvIt s (n * n) (lv0 q20 (n * n)) k).p + x68 + 1, (lvIt s (n * n) (lv0 q20 (n * n)) k).l.set ((lvIt s (n * n) (lv0 q20 (n * n)) k).p + x68).toNat y68⟩ := by rw [hst, hP2, hL2]; unfold lvStep; rw [if_pos hF0]
       refine c_reg (s0 (xmS rfl) (s0 (xmI rfl) (s0 (x_fieldAddr fa166_0 rfl) (st (x_loadB sc3 rfl B35 rfl) (s0 (x_add rfl rfl (by omega)) (s0 (x_fieldAddr fa166_1 rfl) (st (x_loadB sc3 rfl B35 rfl) (s0 (x_idx so24 rfl rfl o22.sl (by decide) (by omega) (by omega)) (s_stoi rfl sz3 rfl rfl o22 (by omega) (by omega) ?_)))))))))
       intro w44 l45 el45 o22
       have z_l45 := l45.size; have L := L.freshL l45 f22 (by omega); have B1 := B1.exm l45 (by first|assumption|exact nin_of f22 g22 (by omega))
       have B4 := B4.exm l45 (by first|assumption|exact nin_of f22 g22 (by omega))
       have B11 := B11.exm l45 (by first|assumption|exact nin_of f22 g22 (by omega))
       have B20 := B20.exm l45 (by first|assumption|exact nin_of f22 g22 (by omega))
       have B32 := B32.exm l45 (by first|assumption|exact nin_of f22 g22 (by omega))
       have B35 := B35.exm l45 (by first|assumption|exact nin_of f22 g22 (by omega))
       have hnl45 := o22.n1
       refine c_end (n_then (wp_seq (c_reg (s0 (xmI rfl) (s0 (x_fieldAddr fa166_0 rfl) (st (x_loadB sc3 rfl B35 rfl) (s0 (x_add rfl rfl (by omega)) (s0 (x_add rfl rfl (by omega)) (s0 (xaI rfl) (c_end (n_then (c_reg (st (x_loadAgB ag79 rfl B32 rfl) ?_)))))))))))))
       refine s_storeAg rfl sz79 rfl rfl B20 rfl rfl rfl ?_
       intro w46 l47 el47 B20
       have z_l47 := l47.size; have L := L.fresh l47 (by omega); have B1 := B1.ne l47 (by omega); have B4 := B4.ne l47 (by omega); have B11 := B11.ne l47 (by omega); have B32 := B32.ne l47 (by omega); have B35 := B35.ne l47 (by omega); have o22 := o22.ne l47 (by first|assumption|exact nin_of f22 g22 (by omega))
       refine c_end (n_block (n_then (c_reg (s0 (xmI rfl) (s0 (x_add rfl rfl (by omega)) (s0 (xaI rfl) (c_end ?_)))))))
       exact c_round (g' := k + 1) (by omega) ⟨_, upd_self7 rfl rfl rfl rfl rfl (by rw [hv1]; rfl) (vint (by omega)), L, (by omega), B1, B4, B11, (bx_eq (by rw [hv1, ← eF2]) B20), (by rw [hv1]; exact o22), (by omega), (by rw [hst]; exact lvOk_step hv), (by rw [hv1]; exact hF0)⟩
     ·refine c_end (n_then (c_false rfl ?_))
      refine wp_exit (e_then (e_then (e_here ?_)))
      refine n_then (wp_seq (c_reg (st (x_loadAgB ag79 rfl B20 rfl) (s0 (xmS rfl) (s_storeAg rfl sz79 rfl rfl B4 rfl rfl rfl ?_)))))
      intro w48 l49 el49 B4
      have z_l49 := l49.size; have L := L.fresh l49 (by omega); have B1 := B1.ne l49 (by omega); have B11 := B11.ne l49 (by omega); have B20 := B20.ne l49 (by omega); have o22 := o22.ne l49 (by first|assumption|exact nin_of f22 g22 (by omega))
      refine s0 (xaS rfl) (s0 (xaI rfl) (c_end (n_then (wp_ret (f_rets3 rfl (ro_cell rfl ag79 B4 rfl) (ro_tmp rfl) (ro_tmp rfl) ?_)))))
      have he : lvRes s ⟨a, 0⟩ (n * n) = lvIt s (n * n) (lv0 q20 (n * n)) k := by rw [lvRes_more hb1, ← hq20, hmany]; exact lv_done (by omega) (.inl (by omega))
      have hlen := hv.2.2
      rw [he, hc]
      have hn22 : (lvIt s (n * n) (lv0 q20 (n * n)) k).l.length = (n * n).toNat := by omega
      exact ⟨_, rfl, L, p22, (n * n).toNat, F22, (lvIt s (n * n) (lv0 q20 (n * n)) k).l, (by first | (rw [hn22]; done) | (rw [hn22]; rfl)), (by rw [hn22]; exact o22), f22.mono (by omega), fun _ => rfl⟩
 ·refine s_alloc zr79 ?_
  intro b50 w51 lob50 hib50 l52 B50
  have z_l52 := l52.size; have L := L.tr l52.up; have B1 := B1.ext l52; have B4 := B4.ext l52; have o22 := o22.ext l52
  refine s_storeAg rfl sz79 rfl rfl B50 rfl rfl rfl ?_
  intro w53 l54 el54 B50
  have z_l54 := l54.size; have L := L.fresh l54 (by omega); have B1 := B1.ne l54 (by omega); have B4 := B4.ne l54 (by omega); have o22 := o22.ne l54 (by first|assumption|exact nin_of f22 g22 (by omega))
  refine s0 (xaI rfl) (s0 (x_assign (v := .bool _) rfl) (c_end (n_then (wp_seq (wp_seq (c_reg (s0 (x_move (v := .bool _) rfl) (s0 (x_not rfl) (c_end (n_then (c_true rfl (wp_seq (c_reg ?_)))))))))))))
  refine st (x_loadAgB ag79 rfl B1 rfl) (s0 (xmS rfl) (s_storeAg rfl sz79 rfl rfl B4 rfl rfl rfl ?_))
  intro w55 l56 el56 B4
  have z_l56 := l56.size; have L := L.fresh l56 (by omega); have B1 := B1.ne l56 (by omega); have B50 := B50.ne l56 (by omega); have o22 := o22.ne l56 (by first|assumption|exact nin_of f22 g22 (by omega))
  refine s0 (xaS rfl) (s0 (xaI rfl) (c_end (n_then ?_)))
  refine wp_ret (r_then ?_)
  refine f_rets3 rfl (ro_cell rfl ag79 B4 rfl) (ro_tmp rfl) (ro_tmp rfl) ?_
  have r1 := fb_short (f := ⟨a, 0⟩) (n := 1) (chk := k0) rfl h28
  rw [lvRes_zero r1.2, r1.1]
  exact ⟨_, rfl, L, p22, (n * n).toNat, F22, List.replicate (n * n).toNat (0 : Int), (by first | (rw [hnl]; done) | (rw [hnl]; rfl)), (by rw [hnl]; exact o22), f22.mono (by omega), fun h => absurd (show (1 : Int) = 0 from h) (by decide)⟩

theorem s_readBlock (s : ByteArray) (a : Int) (p : Option Addr) (xs : List Int) (c : Nat) (n : Int) (w : World) (hs : s.size ≤ 1048576) (hp : Sl w p xs.length c 1 (ic xs)) (hl : xs.length ≤ 1099511627776) :
    Calls Tryz.prog 179 [.agg [.string s, .int .i64 a].toArray, .slice p xs.length c, .int .i64 n].toArray w (RetP w fun v w' => ∃ p c F, v = .tuple [.agg [.string s, .int .i64 (rbkA s a xs n)].toArray, .agg [.int .i64 (rbkM s a xs n), .slice p (rbkL s a xs n).length c].toArray, .int .i64 (rbkE s a xs n)].toArray ∧ Own w' p (rbkL s a xs n).length c 3 1 (ic (rbkL s a xs n)) F ∧ Fr w.heap.size F) := by
 have L : Exm [] w w := Exm.rfl'
 refine enter (n := 47) Tryz.func179 rfl rfl rfl ?_
 refine wp_seq (c_reg (s_box rfl rfl ?_))
 intro b1 w2 lob1 hib1 l3 B1
 have z_l3 := l3.size; have L := L.tr l3.up
 refine s_alloc zr79 ?_
 intro b4 w5 lob4 hib4 l6 B4
 have z_l6 := l6.size; have L := L.tr l6.up; have B1 := B1.ext l6
 refine s_alloc zr71 ?_
 intro b7 w8 lob7 hib7 l9 B7
 have z_l9 := l9.size; have L := L.tr l9.up; have B1 := B1.ext l9; have B4 := B4.ext l9
 refine s0 (xaI rfl) (c_end (n_then (wp_seq (wp_seq (c_reg (s0 (xmI rfl) ?_))))))
 refine srb (zcall cl131 rfl) (s_sizeOk _ _) (fun h15 w10 l11 => ?_) (fun h15 w10 l11 => ?_)
 ·have z_l11 := l11.size
  have L := L.tr l11.up; have B1 := B1.ext l11; have B4 := B4.ext l11; have B7 := B7.ext l11
  refine s0 (x_not rfl) (c_end (n_then (c_false rfl (c_skipn (n_then (wp_seq (c_reg (st (x_loadAgB ag79 rfl B1 rfl) (s0 (xmS rfl) ?_)))))))))
  refine sr (zcall cl222 rfl) (s_readSym _ _ _ _ _ _ (hp.ext L) (by omega) (by omega)) ?_
  intro w12 l13
  have z_l13 := l13.size; have L := L.tr l13.up; have B1 := B1.ext l13; have B4 := B4.ext l13; have B7 := B7.ext l13
  refine s0 (x_move (v := .tuple _) rfl) (s0 (x_extract rfl rfl) (s0 (x_extract rfl rfl) (s0 (x_extract rfl rfl) (s_alloc zr79 ?_))))
  intro b14 w15 lob14 hib14 l16 B14
  have z_l16 := l16.size; have L := L.tr l16.up; have B1 := B1.ext l16; have B4 := B4.ext l16; have B7 := B7.ext l16
  refine s_storeAg rfl sz79 rfl rfl B14 rfl rfl rfl ?_
  intro w17 l18 el18 B14
  have z_l18 := l18.size; have L := L.fresh l18 (by omega); have B1 := B1.ne l18 (by omega); have B4 := B4.ne l18 (by omega); have B7 := B7.ne l18 (by omega)
  refine s0 (xaI rfl) (s0 (xaI rfl) (c_end (n_then (wp_seq (wp_seq (c_reg (s0 (xmI rfl) ?_)))))))
  refine sb (x_neq rfl rfl) (fun h27 => ?_) (fun h27 => ?_)
  ·refine c_end (n_then (c_true rfl (wp_seq (c_reg (st (x_loadAgB ag79 rfl B1 rfl) ?_)))))
   refine s0 (x_build (cs := [.int .i64 0, .slice none 0 0]) bd71 pts_nil rfl) ?_
   refine s0 (xmI rfl) (s_storeAg rfl sz79 rfl rfl B4 rfl rfl rfl ?_)
   intro w19 l20 el20 B4
   have z_l20 := l20.size; have L := L.fresh l20 (by omega); have B1 := B1.ne l20 (by omega); have B7 := B7.ne l20 (by omega); have B14 := B14.ne l20 (by omega)
   refine s_storeAg rfl sz71 rfl rfl B7 rfl rfl rfl ?_
   intro w21 l22 el22 B7
   have z_l22 := l22.size; have L := L.fresh l22 (by omega); have B1 := B1.ne l22 (by omega); have B4 := B4.ne l22 (by omega); have B14 := B14.ne l22 (by omega)
   refine s0 (xaI rfl) (c_end (n_then ?_))
   refine wp_ret (r_then ?_)
   refine f_rets3 rfl (ro_cell rfl ag79 B4 rfl) (ro_cell rfl ag71 B7 rfl) (ro_tmp rfl) ?_
   obtain ⟨e1, e2, e3, e4⟩ := rbk_sym (s := s) (a := a) (xs := xs) h15 h27
   rw [e1, e2, e3, e4]
   exact ⟨_, rfl, L, none, 0, [], rfl, Own.nil, Fr.no⟩
  ·refine c_end (n_then (c_false rfl (c_skipn (n_then (wp_seq (c_reg (st (x_loadAgB ag79 rfl B14 rfl) (s0 (xmI rfl) ?_))))))))
   refine sp (zcall cl223 rfl) (s_levels _ _ _ _ (by omega) h15) ?_
   rintro v34 w23 l24 ⟨p34, c34, F34, xs34, rfl, o34, f34, hx34⟩
   have z_l24 := l24.size; have L := L.tr l24.up; have B1 := B1.ext l24; have B4 := B4.ext l24; have B7 := B7.ext l24; have B14 := B14.ext l24; have g34 := o34.lt
   refine s0 (x_move (v := .tuple _) rfl) (s0 (x_extract rfl rfl) (s0 (x_extract rfl rfl) (s0 (x_extract rfl rfl) (s_alloc zr79 ?_))))
   intro b25 w26 lob25 hib25 l27 B25
   have z_l27 := l27.size; have L := L.tr l27.up; have B1 := B1.ext l27; have B4 := B4.ext l27; have B7 := B7.ext l27; have B14 := B14.ext l27; have o34 := o34.ext l27
   refine s_storeAg rfl sz79 rfl rfl B25 rfl rfl rfl ?_
   intro w28 l29 el29 B25
   have z_l29 := l29.size; have L := L.fresh l29 (by omega); have B1 := B1.ne l29 (by omega); have B4 := B4.ne l29 (by omega); have B7 := B7.ne l29 (by omega); have B14 := B14.ne l29 (by omega); have o34 := o34.ne l29 (by first|assumption|exact nin_of f34 g34 (by omega))
   refine s0 (xaS rfl) (s0 (xaI rfl) (c_end (n_then (wp_seq (wp_seq (c_reg (s0 (xmI rfl) ?_)))))))
   refine sb (x_neq rfl rfl) (fun h39 => ?_) (fun h39 => ?_)
   ·refine c_end (n_then (c_true rfl (wp_seq (c_reg (st (x_loadAgB ag79 rfl B25 rfl) ?_)))))
    refine s0 (x_build (cs := [.int .i64 0, .slice none 0 0]) bd71 pts_nil rfl) ?_
    refine s0 (xmI rfl) (s_storeAg rfl sz79 rfl rfl B4 rfl rfl rfl ?_)
    intro w30 l31 el31 B4
    have z_l31 := l31.size; have L := L.fresh l31 (by omega); have B1 := B1.ne l31 (by omega); have B7 := B7.ne l31 (by omega); have B14 := B14.ne l31 (by omega); have B25 := B25.ne l31 (by omega); have o34 := o34.ne l31 (by first|assumption|exact nin_of f34 g34 (by omega))
    refine s_storeAg rfl sz71 rfl rfl B7 rfl rfl rfl ?_
    intro w32 l33 el33 B7
    have z_l33 := l33.size; have L := L.fresh l33 (by omega); have B1 := B1.ne l33 (by omega); have B4 := B4.ne l33 (by omega); have B14 := B14.ne l33 (by omega); have B25 := B25.ne l33 (by omega); have o34 := o34.ne l33 (by first|assumption|exact nin_of f34 g34 (by omega))
    refine s0 (xaI rfl) (c_end (n_then ?_))
    refine wp_ret (r_then ?_)
    refine f_rets3 rfl (ro_cell rfl ag79 B4 rfl) (ro_cell rfl ag71 B7 rfl) (ro_tmp rfl) ?_
    have hx0 := rbk_lv (s := s) (a := a) (xs := xs) h15 (Classical.not_not.1 h27)
    obtain ⟨e3, e4⟩ := rbk_bad (s := s) (a := a) (xs := xs) (n := n) (by rw [hx0.1]; exact h39)
    rw [e3, e4, hx0.1, hx0.2]
    exact ⟨_, rfl, L, none, 0, [], rfl, Own.nil, Fr.no⟩
   ·refine c_end (n_then (c_false rfl (c_skipn (n_then (wp_seq (c_reg (st (x_loadAgB ag79 rfl B25 rfl) (s0 (xmI rfl) (s0 (xmS rfl) ?_)))))))))
    refine s0 (x_build (cs := [.int _ _, .slice _ _ _]) bd71 (pts_cons (v := .int _ _) rfl (pts_cons (v := .slice _ _ _) rfl pts_nil)) rfl) ?_
    refine s_storeAg rfl sz79 rfl rfl B4 rfl rfl rfl ?_
    intro w34 l35 el35 B4
    have z_l35 := l35.size; have L := L.fresh l35 (by omega); have B1 := B1.ne l35 (by omega); have B7 := B7.ne l35 (by omega); have B14 := B14.ne l35 (by omega); have B25 := B25.ne l35 (by omega); have o34 := o34.ne l35 (by first|assumption|exact nin_of f34 g34 (by omega))
    refine s_storeAg rfl sz71 rfl rfl B7 rfl rfl rfl ?_
    intro w36 l37 el37 B7
    have z_l37 := l37.size; have L := L.fresh l37 (by omega); have B1 := B1.ne l37 (by omega); have B4 := B4.ne l37 (by omega); have B14 := B14.ne l37 (by omega); have B25 := B25.ne l37 (by omega); have o34 := o34.ne l37 (by first|assumption|exact nin_of f34 g34 (by omega))
    refine s0 (xaI rfl) (c_end (n_then (wp_ret (f_rets3 rfl (ro_cell rfl ag79 B4 rfl) (ro_cell rfl ag71 B7 rfl) (ro_tmp rfl) ?_))))
    have hx0 := rbk_lv (s := s) (a := a) (xs := xs) h15 (Classical.not_not.1 h27); have hz0 : (rbkR s a xs n).f.code = 0 := Classical.not_not.1 h39
    obtain ⟨e3, e4⟩ := rbk_good (s := s) (a := a) (xs := xs) (n := n) (by rw [hx0.1]; exact hz0)
    have e5 : (rbkR s a xs n).l = xs34 := (hx34 hz0).symm
    rw [e3, e4, hx0.1, hx0.2, hz0, e5]
    exact ⟨_, rfl, L, _, _, _, rfl, o34, f34.mono (by omega)⟩
 ·have z_l11 := l11.size
  have L := L.tr l11.up; have B1 := B1.ext l11; have B4 := B4.ext l11; have B7 := B7.ext l11
  refine s0 (x_not rfl) (c_end (n_then (c_true rfl (wp_seq (c_reg (st (x_loadAgB ag79 rfl B1 rfl) ?_))))))
  refine s0 (x_build (cs := [.int .i64 0, .slice none 0 0]) bd71 pts_nil rfl) ?_
  refine s_storeAg rfl sz79 rfl rfl B4 rfl rfl rfl ?_
  intro w38 l39 el39 B4
  have z_l39 := l39.size; have L := L.fresh l39 (by omega); have B1 := B1.ne l39 (by omega); have B7 := B7.ne l39 (by omega)
  refine s_storeAg rfl sz71 rfl rfl B7 rfl rfl rfl ?_
  intro w40 l41 el41 B7
  have z_l41 := l41.size; have L := L.fresh l41 (by omega); have B1 := B1.ne l41 (by omega); have B4 := B4.ne l41 (by omega)
  refine s0 (xaI rfl) (c_end (n_then ?_))
  refine wp_ret (r_then ?_)
  refine f_rets3 rfl (ro_cell rfl ag79 B4 rfl) (ro_cell rfl ag71 B7 rfl) (ro_tmp rfl) ?_
  obtain ⟨e1, e2, e3, e4⟩ := rbk_size (s := s) (a := a) (xs := xs) h15
  rw [e1, e2, e3, e4]
  exact ⟨_, rfl, L, none, 0, [], rfl, Own.nil, Fr.no⟩

end Go.Proofs.YtepnknffaecbdaaGreat
