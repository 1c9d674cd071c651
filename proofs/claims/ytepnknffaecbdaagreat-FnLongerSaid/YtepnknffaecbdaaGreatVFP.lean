/- What each function of this part returns, for every argument that meets its premises. -/
import Derived.Test.YtepnknffaecbdaaGreatProg
import Derived.Test.YtepnknffaecbdaaGreatVSxA
import Derived.Test.YtepnknffaecbdaaGreatVTy
import Derived.Test.YtepnknffaecbdaaGreatVPlA
import Derived.Test.YtepnknffaecbdaaGreatVF1
import Derived.Test.YtepnknffaecbdaaGreatVF2
import Derived.Test.YtepnknffaecbdaaGreatVFB
import Derived.Test.YtepnknffaecbdaaGreatVFC
import Derived.Test.YtepnknffaecbdaaGreatVFL
namespace Go.Proofs.YtepnknffaecbdaaGreat
open Go.Sx Go.Pl Go.RowKit
theorem i_lvAny (x : Int) (w : World) :
    Calls Tryz.prog 204 [.int .i64 x].toArray w (Ret w (.int .i64 (k0 x))) := by
 have L : Exm [] w w := Exm.rfl'
 refine enter (n := 3) Tryz.func204 rfl rfl rfl ?_
 refine wp_seq (c_reg (s0 (xaI rfl) (c_end (n_then (wp_seq (c_reg (s0 (xaI rfl) (c_end (n_then (wp_ret (f_ret rfl rfl ?_)))))))))))
 exact ⟨rfl, L⟩

theorem i_lvMany (x : Int) (bn : Nat) (n : Int) (w : World) (hB : Bx w bn [.int .i64 n] 3) (hn : sizeOk n) :
    Calls Tryz.prog 205 [.int .i64 x, pt bn 0].toArray w (Ret w (.int .i64 (kLt (n * n) x))) := by
 have hN := size_sq hn; have L : Exm [] w w := Exm.rfl'
 refine enter (n := 10) Tryz.func205 rfl rfl rfl ?_
 refine wp_seq (c_reg (s0 (xaI rfl) (c_end (n_then (wp_seq (c_reg (s0 (xmI rfl) (st (x_loadB sc3 rfl hB rfl) (st (x_loadB sc3 rfl hB rfl) (s0 (x_mul rfl rfl (by omega)) (s0 (x_lss rfl rfl) ?_)))))))))))
 refine sr (zcall cl93 rfl) (i_unless _ _ _) ?_
 intro w1 l2
 have z_l2 := l2.size; have L := L.tr l2.up; have hB := hB.ext l2
 refine s0 (xaI rfl) (c_end (n_then (wp_ret (f_ret rfl rfl ?_))))
 exact ⟨rfl, L⟩

theorem i_lvRun (x : Int) (bn bp : Nat) (n p : Int) (w : World) (hB : Bx w bn [.int .i64 n] 3) (hP : Bx w bp [.int .i64 p] 3) (hn : sizeOk n) (hp : 0 ≤ p ∧ p ≤ 64) :
    Calls Tryz.prog 206 [.int .i64 x, pt bn 0, pt bp 0].toArray w (Ret w (.int .i64 (kLt (n * n - p) x))) := by
 have hN := size_sq hn; have L : Exm [] w w := Exm.rfl'
 refine enter (n := 13) Tryz.func206 rfl rfl rfl ?_
 refine wp_seq (c_reg (s0 (xaI rfl) (c_end (n_then (wp_seq (c_reg (s0 (xmI rfl) (st (x_loadB sc3 rfl hB rfl) (st (x_loadB sc3 rfl hB rfl) (s0 (x_mul rfl rfl (by omega)) (st (x_loadB sc3 rfl hP rfl) (s0 (x_sub rfl rfl (by omega)) (s0 (x_lss rfl rfl) ?_)))))))))))))
 refine sr (zcall cl93 rfl) (i_unless _ _ _) ?_
 intro w1 l2
 have z_l2 := l2.size; have L := L.tr l2.up; have hB := hB.ext l2; have hP := hP.ext l2
 refine s0 (xaI rfl) (c_end (n_then (wp_ret (f_ret rfl rfl ?_))))
 exact ⟨rfl, L⟩

theorem i_lvLev (x : Int) (w : World) (hx : 0 ≤ x ∧ x < 4294967296) :
    Calls Tryz.prog 208 [.int .i64 x].toArray w (Ret w (.int .i64 (kLv x))) := by
 have L : Exm [] w w := Exm.rfl'
 refine enter (n := 7) Tryz.func208 rfl rfl rfl ?_
 refine wp_seq (c_reg (s0 (xaI rfl) (c_end (n_then (wp_seq (c_reg (s0 (xmI rfl) ?_)))))))
 refine sr (zcall cl207 rfl) (i_levelOf _ _ (by omega)) ?_
 intro w1 l2
 have z_l2 := l2.size; have L := L.tr l2.up
 refine sr (zcall cl77 rfl) (i_within _ _ _ _) ?_
 intro w3 l4
 have z_l4 := l4.size; have L := L.tr l4.up
 refine sr (zcall cl93 rfl) (i_unless _ _ _) ?_
 intro w5 l6
 have z_l6 := l6.size; have L := L.tr l6.up
 refine s0 (xaI rfl) (c_end (n_then (wp_ret (f_ret rfl rfl ?_))))
 exact ⟨rfl, L⟩

theorem i_levels (b : Nat) (s : ByteArray) (f : Fs) (n : Int) (w : World) (hB : Bx w b [.string s, .int .i64 f.a, .int .i64 f.code] 127) (hn : sizeOk n) (hs : s.size ≤ 1048576) :
    Calls Tryz.prog 161 [pt b 0, .int .i64 n].toArray w (RetM [b] w fun v w' => ∃ p c F, v = .slice p (n * n).toNat c ∧ Own w' p (n * n).toNat c 3 1 (ic (lvRes s f (n * n)).l) F ∧ Fr w.heap.size F ∧ Bx w' b [.string s, .int .i64 (lvRes s f (n * n)).f.a, .int .i64 (lvRes s f (n * n)).f.code] 127) := by
 have hbz : b < w.heap.size := (Array.getElem?_eq_some_iff.1 hB).1; have hN := size_sq hn; have L : Exm [b] w w := Exm.rfl'
 refine enter (n := 54) Tryz.func161 rfl rfl rfl ?_
 refine wp_seq (c_reg (s_box rfl rfl ?_))
 intro b1 w2 lob1 hib1 l3 B1
 have z_l3 := l3.size; have L := L.tr l3.up; have hB := hB.ext l3
 refine s0 (xaS rfl) (c_end (n_then (wp_seq (c_reg (st (x_loadB sc3 rfl B1 rfl) (st (x_loadB sc3 rfl B1 rfl) (s0 (x_mul rfl rfl (by omega)) (s_makei so24 zr3 rfl rfl (by omega) (by omega) (by omega) ?_))))))))
 intro p13 F13 w4 l5 o13 f13 g13
 have z_l5 := l5.size; have L := L.tr l5.up; have hB := hB.ext l5; have B1 := B1.ext l5; have hn13 := o13.n1
 refine s_alloc zr3 ?_
 intro b6 w7 lob6 hib6 l8 B6
 have z_l8 := l8.size; have L := L.tr l8.up; have hB := hB.ext l8; have B1 := B1.ext l8; have o13 := o13.ext l8
 refine s0 (xaS rfl) ?_
 refine s_store (v := .int _ _) (cs' := [_]) rfl sz3 rfl rfl rfl rfl B6 rfl rfl ?_
 intro w9 l10 el10 B6
 have z_l10 := l10.size; have L := L.fresh l10 (by omega); have hB := hB.ne l10 (by omega); have B1 := B1.ne l10 (by omega); have o13 := o13.ne l10 (by first|assumption|exact nin_of f13 g13 (by omega))
 refine c_end (n_then (wp_seq (wp_seq (c_reg (s0 (x_move (v := .pointer _) rfl) ?_)))))
 refine spm (zcall cl95 rfl) (i_fbits b _ f _ 204 [] k0 _ hB cl204 (fun x w9 hx9 L9 => i_lvAny x w9) (by omega)) ?_
 rintro v15 w11 l12 ⟨x15, q15, rfl, hx15, hq15, hB⟩
 have z_l12 := l12.size; have L := L.within l12 (by simp)
 have B1 := B1.ne l12 (by omega); have B6 := B6.ne l12 (by omega); have o13 := o13.ne l12 (by first|assumption|exact nin_of f13 g13 (by omega))
 refine sb (x_eql rfl rfl) (fun h16 => ?_) (fun h16 => ?_)
 ·refine c_end (n_then (c_true rfl (wp_seq (c_reg (s0 (xmS rfl) (s0 (xaS rfl) (c_end (n_then ?_))))))))
  refine wp_ret (r_then ?_)
  refine f_ret rfl rfl ?_
  have he : lvRes s f (n * n) = lv0 q15 (n * n) := by unfold lvRes; rw [← hx15, if_pos h16, ← hq15]
  rw [he]
  exact ⟨_, rfl, L, _, _, _, rfl, o13, f13.mono (by omega), hB⟩
 ·refine c_end (n_then (c_false rfl (c_skipn (n_then (wp_seq ?_)))))
  have hfa1 := hq15
  refine c_reg (s0 (x_move (v := .pointer _) rfl) (s0 (x_makeFunc rfl) ?_))
  refine spm (zcall cl97 rfl) (i_fue b _ q15 205 [pt b1 0] (kLt (n * n)) _ hB cl205 (fun x w9 hx9 L9 => i_lvMany x _ _ w9 (B1.ne L9 (by omega)) hn) (by omega)) ?_
  rintro v20 w13 l14 ⟨x20, q20, rfl, hx20, hq20, hB⟩
  have z_l14 := l14.size; have L := L.within l14 (by simp)
  have B1 := B1.ne l14 (by omega); have B6 := B6.ne l14 (by omega); have o13 := o13.ne l14 (by first|assumption|exact nin_of f13 g13 (by omega))
  refine s0 (x_add rfl rfl (by have h : 0 ≤ x20 ∧ x20 ≤ 2147483647 := (by rw [hx20]; exact fnV_range _ _ _); omega)) ?_
  refine s0 (xaI rfl) (c_end (n_then (wp_seq (wp_seq ?_))))
  have hr20 : 0 ≤ x20 ∧ x20 ≤ 2147483647 := by rw [hx20]; exact fnV_range _ _ _
  refine c_reg (s0 (xaI rfl) (c_end (n_then (wp_block ?_))))
  refine c_loop (γ := Nat) (fun k => (1 + x20).toNat - k) (fun (k : Nat) E wl => ∃ E0, E = upd (upd (upd (upd (upd (upd E0 0 (pt b 0)) 3 (pt b1 0)) 5 (.slice p13 (n * n).toNat (n * n).toNat)) 6 (pt b6 0)) 7 (.int .i64 (1 + x20))) 8 (.int .i64 (k : Int)) ∧ (Exm [b] w wl) ∧ (w13.heap.size ≤ wl.heap.size) ∧ (Bx wl b [.string s, .int .i64 (lvIt s (n * n) (lv0 q20 (n * n)) k).f.a, .int .i64 (lvIt s (n * n) (lv0 q20 (n * n)) k).f.code] 127) ∧ (Bx wl b1 [.int .i64 n] 3) ∧ (Bx wl b6 [.int .i64 (lvIt s (n * n) (lv0 q20 (n * n)) k).p] 3) ∧ (Own wl p13 (n * n).toNat (n * n).toNat 3 1 (ic (lvIt s (n * n) (lv0 q20 (n * n)) k).l) F13) ∧ ((k : Int) ≤ 1 + x20) ∧ (lvOk (n * n) (lvIt s (n * n) (lv0 q20 (n * n)) k))) 0 ⟨_, upd_self6 rfl rfl rfl rfl rfl rfl, L, (by omega), hB, B1, B6, o13, (by omega), (lv0_ok (by omega))⟩ ?_
  rintro k E wl15 ⟨E0, rfl, L, Lz, hB, B1, B6, o13, hk, hv⟩
  have Lz0 := L.size
  refine wp_seq (wp_seq (c_reg (s0 (xmI rfl) (s0 (xmI rfl) ?_))))
  refine sb (x_lss rfl rfl) (fun h24 => ?_) (fun h24 => ?_)
  ·refine s0 (x_move (v := .bool _) rfl) (gt rfl rfl rfl rfl (s0 (x_move (v := .pointer _) rfl) (gt rfl rfl rfl rfl (s0 (x_nilCheck rfl) (gt rfl rfl rfl rfl (s0 (x_fieldAddr fa127_1 rfl) (gt rfl rfl rfl rfl (st (x_loadB sc3 rfl hB rfl) (gt rfl rfl rfl rfl ?_)))))))))
   refine sb (x_eql rfl rfl) (fun h30 => ?_) (fun h30 => ?_)
   ·refine s0 (x_pickt (v := .bool _) rfl rfl) (c_end (n_then (c_true rfl (c_skipn (n_then (wp_seq (wp_block (wp_seq ?_))))))))
    have hv1r := hv.1; have hv2r := hv.2.1; have hvp : 0 ≤ (lvIt s (n * n) (lv0 q20 (n * n)) k).p ∧ (lvIt s (n * n) (lv0 q20 (n * n)) k).p ≤ 64 := by omega
    refine c_plan (fun wq => Exm [b] wl15 wq) 5 (.cons (0, 1) (.cons (1, 2) (.cons (2, 2) (.cons (3, 0) (.cons (4, 2) (.cons (5, 0) .nil)))))) (by kernel_rfl) (by kernel_rfl) (Exm.drew _) ?_
    obtain ⟨w16, hwd⟩ : ∃ x, x = wl15.drew := ⟨_, rfl⟩
    have l17 : Ext wl15 w16 := by rw [hwd]; exact Exm.drew _
    rw [← hwd]; clear hwd
    have Lq : Exm [b] wl15 w16 := l17.up; have qB6 := B6; have z_l17 := l17.size; have L := L.tr l17.up; have hB := hB.ext l17; have B1 := B1.ext l17; have B6 := B6.ext l17; have o13 := o13.ext l17
    refine ps rfl (fun wq hwq => x_loadB sc3 rfl (qB6.ne hwq (by omega)) rfl) ?_
    refine p0 rfl (x_move (v := .pointer _) rfl) (p0 rfl (x_makeFunc rfl) (pu rfl ?_))
    refine spm (zcall cl97 rfl) (i_fue b _ (lvIt s (n * n) (lv0 q20 (n * n)) k).f 206 [pt b1 0, pt b6 0] (kLt (n * n - (lvIt s (n * n) (lv0 q20 (n * n)) k).p)) _ hB cl206 (fun x w9 hx9 L9 => i_lvRun x _ _ _ _ w9 (B1.ne L9 (by omega)) (B6.ne L9 (by omega)) hn hvp) (by omega)) ?_
    rintro v37 w18 l19 ⟨x37, q37, rfl, hx37, hq37, hB⟩
    have z_l19 := l19.size; have L := L.within l19 (by simp)
    have Lq := Lq.within l19 (by simp)
    have B1 := B1.ne l19 (by omega); have B6 := B6.ne l19 (by omega); have o13 := o13.ne l19 (by first|assumption|exact nin_of f13 g13 (by omega))
    refine c_end ⟨rfl, fun h hS => Lq, ?_⟩
    refine p0 rfl (x_add rfl rfl (by have h : 0 ≤ x37 ∧ x37 ≤ 2147483647 := (by rw [hx37]; exact fnV_range _ _ _); omega)) ?_
    refine pu rfl ?_
    refine s_store (v := .int _ _) (cs' := [_]) rfl sz3 rfl rfl rfl rfl B6 rfl rfl ?_
    intro w20 l21 el21 B6
    have z_l21 := l21.size; have L := L.fresh l21 (by omega); have hB := hB.ne l21 (by omega); have B1 := B1.ne l21 (by omega); have o13 := o13.ne l21 (by first|assumption|exact nin_of f13 g13 (by omega))
    refine c_end ⟨rfl, fun h hS => absurd h (by decide), ?_⟩
    refine p_nil (np_normal ?_)
    refine n_then (wp_seq ?_)
    have hr37 : 0 ≤ x37 ∧ x37 ≤ 2147483647 := by rw [hx37]; exact fnV_range _ _ _
    refine c_reg (s0 (x_move (v := .pointer _) rfl) ?_)
    refine spm (zcall cl97 rfl) (i_fue b _ q37 208 [] kLv _ hB cl208 (fun x w9 hx9 L9 => i_lvLev x w9 hx9) (by omega)) ?_
    rintro v40 w22 l23 ⟨x40, q40, rfl, hx40, hq40, hB⟩
    have z_l23 := l23.size; have L := L.within l23 (by simp)
    have B1 := B1.ne l23 (by omega); have B6 := B6.ne l23 (by omega); have o13 := o13.ne l23 (by first|assumption|exact nin_of f13 g13 (by omega))
    refine sr (zcall cl207 rfl) (i_levelOf _ _ (by have h := fnV_range s q37 kLv; omega)) ?_
    intro w24 l25
    have z_l25 := l25.size; have L := L.tr l25.up; have hB := hB.ext l25; have B1 := B1.ext l25; have B6 := B6.ext l25; have o13 := o13.ext l25
    refine s0 (xaI rfl) (c_end (n_then (wp_seq ?_)))
    have hr40 : 0 ≤ x40 ∧ x40 ≤ 2147483647 := by rw [hx40]; exact fnV_range _ _ _
    have hF2 : q40 = lvF2 s (n * n) (lvIt s (n * n) (lv0 q20 (n * n)) k) := by rw [hq40, hq37]; rfl
    have hP2 : (lvIt s (n * n) (lv0 q20 (n * n)) k).p + x37 = lvP s (n * n) (lvIt s (n * n) (lv0 q20 (n * n)) k) := by rw [hx37]; rfl
    have hL2 : levelOf x40 = lvL s (n * n) (lvIt s (n * n) (lv0 q20 (n * n)) k) := by rw [hx40, hq37]; rfl
    have hst := lvIt_next (s := s) (N := n * n) (v := lv0 q20 (n * n)) h30
    refine c_reg (s0 (x_move (v := .pointer _) rfl) (s0 (x_nilCheck rfl) (s0 (x_fieldAddr fa127_1 rfl) (st (x_loadB sc3 rfl hB rfl) ?_))))
    refine sb (x_eql rfl rfl) (fun h46 => ?_) (fun h46 => ?_)
    ·refine c_end (n_then (c_true rfl (wp_seq ?_)))
     have hroom := lv_room (s := s) hv (by rw [← hF2]; exact h46)
     have hlen := hv.2.2
     refine c_reg (s0 (xmS rfl) (st (x_loadB sc3 rfl B6 rfl) (s0 (xmI rfl) (s0 (x_idx so24 rfl rfl o13.sl (by decide) (by omega) (by omega)) (s_stoi rfl sz3 rfl rfl o13 (by omega) (by omega) ?_)))))
     intro w26 l27 el27 o13
     have z_l27 := l27.size; have L := L.freshL l27 f13 (by omega); have hB := hB.exm l27 (by first|assumption|exact nin_of f13 g13 (by omega))
     have B1 := B1.exm l27 (by first|assumption|exact nin_of f13 g13 (by omega))
     have B6 := B6.exm l27 (by first|assumption|exact nin_of f13 g13 (by omega))
     have hnl27 := o13.n1
     refine c_end (n_then (c_reg (st (x_loadB sc3 rfl B6 rfl) (s0 (x_add rfl rfl (by omega)) ?_))))
     refine s_store (v := .int _ _) (cs' := [_]) rfl sz3 rfl rfl rfl rfl B6 rfl rfl ?_
     intro w28 l29 el29 B6
     have z_l29 := l29.size; have L := L.fresh l29 (by omega); have hB := hB.ne l29 (by omega); have B1 := B1.ne l29 (by omega); have o13 := o13.ne l29 (by first|assumption|exact nin_of f13 g13 (by omega))
     refine c_end (n_block (n_then ?_))
     have hv1 : lvIt s (n * n) (lv0 q20 (n * n)) (k + 1) = ⟨q40, (lvIt s (n * n) (lv0 q20 (n * n)) k).p + x37 + 1, (lvIt s (n * n) (lv0 q20 (n * n)) k).l.set ((lvIt s (n * n) (lv0 q20 (n * n)) k).p + x37).toNat (levelOf x40)⟩ := by rw [hst, hF2, hP2, hL2]; unfold lvStep; rw [if_pos (by rw [← hF2]; exact h46)]
     refine c_reg (s0 (xmI rfl) (s0 (x_add rfl rfl (by omega)) (s0 (xaI rfl) (c_end ?_))))
     exact c_round (g' := k + 1) (by omega) ⟨_, upd_self6 rfl rfl rfl rfl rfl (vint (by omega)), L, (by omega), (bx_eq (by rw [hv1]) hB), B1, (bx_eq (by rw [hv1]) B6), (by rw [hv1]; exact o13), (by omega), (by rw [hst]; exact lvOk_step hv)⟩
    ·refine c_end (n_then (c_false rfl (c_skipn (n_block (n_then ?_)))))
     have hv1 : lvIt s (n * n) (lv0 q20 (n * n)) (k + 1) = ⟨q40, (lvIt s (n * n) (lv0 q20 (n * n)) k).p + x37, (lvIt s (n * n) (lv0 q20 (n * n)) k).l⟩ := by rw [hst, hF2, hP2]; unfold lvStep; rw [if_neg (by rw [← hF2]; exact h46)]
     refine c_reg (s0 (xmI rfl) (s0 (x_add rfl rfl (by omega)) (s0 (xaI rfl) (c_end ?_))))
     exact c_round (g' := k + 1) (by omega) ⟨_, upd_self6 rfl rfl rfl rfl rfl (vint (by omega)), L, (by omega), (bx_eq (by rw [hv1]) hB), B1, (bx_eq (by rw [hv1]) B6), (by rw [hv1]; exact o13), (by omega), (by rw [hst]; exact lvOk_step hv)⟩
   ·refine s0 (x_pickt (v := .bool _) rfl rfl) (c_end (n_then (c_false rfl ?_)))
    refine wp_exit (e_then (e_then (e_here ?_)))
    refine n_then (wp_seq (c_reg (s0 (xmS rfl) (s0 (xaS rfl) (c_end (n_then (wp_ret (f_ret rfl rfl ?_))))))))
    have he : lvRes s f (n * n) = lvIt s (n * n) (lv0 q20 (n * n)) k := by unfold lvRes; rw [← hx15, if_neg h16, ← hq15, ← hx20, ← hq20]; exact lv_done (by omega) (.inr h30)
    rw [he]
    exact ⟨_, rfl, L, _, _, _, rfl, o13, f13.mono (by omega), hB⟩
  ·refine s0 (x_move (v := .bool _) rfl) (gf rfl rfl rfl rfl (gf rfl rfl rfl rfl (gf rfl rfl rfl rfl (gf rfl rfl rfl rfl (gf rfl rfl rfl rfl (s0 (x_pickf (v := .bool _) rfl rfl) (c_end (n_then (c_false rfl ?_)))))))))
   refine wp_exit (e_then (e_then (e_here ?_)))
   refine n_then (wp_seq (c_reg (s0 (xmS rfl) (s0 (xaS rfl) (c_end (n_then (wp_ret (f_ret rfl rfl ?_))))))))
   have he : lvRes s f (n * n) = lvIt s (n * n) (lv0 q20 (n * n)) k := by unfold lvRes; rw [← hx15, if_neg h16, ← hq15, ← hx20, ← hq20]; exact lv_done (by omega) (.inl (by omega))
   rw [he]
   exact ⟨_, rfl, L, _, _, _, rfl, o13, f13.mono (by omega), hB⟩

theorem i_readBlock (s : ByteArray) (a : Int) (p : Option Addr) (xs : List Int) (c : Nat) (n : Int) (w : World) (hs : s.size ≤ 1048576) (hp : Sl w p xs.length c 1 (ic xs)) (hl : xs.length ≤ 1099511627776) :
    Calls Tryz.prog 102 [.agg [.string s, .int .i64 a].toArray, .slice p xs.length c, .int .i64 n].toArray w (RetP w fun v w' => ∃ p c F, v = .tuple [.agg [.string s, .int .i64 (rbkA s a xs n)].toArray, .agg [.int .i64 (rbkM s a xs n), .slice p (rbkL s a xs n).length c].toArray, .int .i64 (rbkE s a xs n)].toArray ∧ Own w' p (rbkL s a xs n).length c 3 1 (ic (rbkL s a xs n)) F ∧ Fr w.heap.size F) := by
 have L : Exm [] w w := Exm.rfl'
 refine enter (n := 57) Tryz.func102 rfl rfl rfl ?_
 refine wp_seq (c_reg (s_box rfl rfl ?_))
 intro b1 w2 lob1 hib1 l3 B1
 have z_l3 := l3.size; have L := L.tr l3.up
 refine s_alloc zr79 ?_
 intro b4 w5 lob4 hib4 l6 B4
 have z_l6 := l6.size; have L := L.tr l6.up; have B1 := B1.ext l6
 refine s_alloc zr71 ?_
 intro b7 w8 lob7 hib7 l9 B7
 have z_l9 := l9.size; have L := L.tr l9.up; have B1 := B1.ext l9; have B4 := B4.ext l9
 refine s0 (xaI rfl) (c_end (n_then (wp_seq (wp_seq (c_reg (s0 (xmI rfl) ?_))))))
 refine srb (zcall cl145 rfl) (i_sizeOk _ _) (fun h14 w10 l11 => ?_) (fun h14 w10 l11 => ?_)
 ·have z_l11 := l11.size
  have L := L.tr l11.up; have B1 := B1.ext l11; have B4 := B4.ext l11; have B7 := B7.ext l11
  refine s0 (x_not rfl) (c_end (n_then (c_false rfl (c_skipn (n_then (wp_seq (c_reg (st (x_loadAgB ag79 rfl B1 rfl) (s0 (xmS rfl) ?_)))))))))
  refine sr (zcall cl160 rfl) (i_readSym _ _ _ _ _ _ (hp.ext L) (by omega) (by omega)) ?_
  intro w12 l13
  have z_l13 := l13.size; have L := L.tr l13.up; have B1 := B1.ext l13; have B4 := B4.ext l13; have B7 := B7.ext l13
  refine s0 (x_move (v := .tuple _) rfl) (s0 (x_extract rfl rfl) (s0 (x_extract rfl rfl) (s0 (x_extract rfl rfl) (s_storeAg rfl sz79 rfl rfl B1 rfl rfl rfl ?_))))
  intro w14 l15 el15 B1
  have z_l15 := l15.size; have L := L.fresh l15 (by omega); have B4 := B4.ne l15 (by omega); have B7 := B7.ne l15 (by omega)
  refine s0 (xaI rfl) (s0 (xaI rfl) (c_end (n_then (wp_seq (wp_seq (c_reg (s0 (xmI rfl) ?_)))))))
  refine sb (x_neq rfl rfl) (fun h26 => ?_) (fun h26 => ?_)
  ·refine c_end (n_then (c_true rfl (wp_seq (c_reg (st (x_loadAgB ag79 rfl B1 rfl) ?_)))))
   refine s0 (x_build (cs := [.int .i64 0, .slice none 0 0]) bd71 pts_nil rfl) ?_
   refine s0 (xmI rfl) (s_storeAg rfl sz79 rfl rfl B4 rfl rfl rfl ?_)
   intro w16 l17 el17 B4
   have z_l17 := l17.size; have L := L.fresh l17 (by omega); have B1 := B1.ne l17 (by omega); have B7 := B7.ne l17 (by omega)
   refine s_storeAg rfl sz71 rfl rfl B7 rfl rfl rfl ?_
   intro w18 l19 el19 B7
   have z_l19 := l19.size; have L := L.fresh l19 (by omega); have B1 := B1.ne l19 (by omega); have B4 := B4.ne l19 (by omega)
   refine s0 (xaI rfl) (c_end (n_then ?_))
   refine wp_ret (r_then ?_)
   refine f_rets3 rfl (ro_cell rfl ag79 B4 rfl) (ro_cell rfl ag71 B7 rfl) (ro_tmp rfl) ?_
   have hra := rsAt_bad h26
   obtain ⟨e1, e2, e3, e4⟩ := rbk_sym (s := s) (a := a) (xs := xs) h14 h26
   rw [e1, e2, e3, e4, hra]
   exact ⟨_, rfl, L, none, 0, [], rfl, Own.nil, Fr.no⟩
  ·refine c_end (n_then (c_false rfl (c_skipn (n_then (wp_seq (c_reg (st (x_loadAgB ag79 rfl B1 rfl) ?_)))))))
   refine s0 (x_build (cs := [.string _, .int _ _, .int .i64 0]) bd127 (pts_cons (v := .agg _) rfl pts_nil) rfl) ?_
   refine s_box rfl rfl ?_
   intro b20 w21 lob20 hib20 l22 B20
   have z_l22 := l22.size; have L := L.tr l22.up; have B1 := B1.ext l22; have B4 := B4.ext l22; have B7 := B7.ext l22
   refine s0 (x_assign (v := .pointer _) rfl) (c_end (n_then (wp_seq (c_reg (s0 (x_move (v := .pointer _) rfl) (s0 (xmI rfl) ?_))))))
   refine spm (zcall cl161 rfl) (i_levels b20 _ ⟨rsAt s a xs, 0⟩ _ _ B20 h14 (by omega)) ?_
   rintro v35 w23 l24 ⟨p35, c35, F35, rfl, o35, f35, B20⟩
   have z_l24 := l24.size; have L := L.fresh l24 (by omega); have B1 := B1.ne l24 (by omega); have B4 := B4.ne l24 (by omega); have B7 := B7.ne l24 (by omega); have g35 := o35.lt
   refine s0 (xaS rfl) (c_end (n_then (wp_seq (wp_seq (c_reg (s0 (x_move (v := .pointer _) rfl) (s0 (x_nilCheck rfl) (s0 (x_fieldAddr fa127_1 rfl) (st (x_loadB sc3 rfl B20 rfl) ?_)))))))))
   refine sb (x_neq rfl rfl) (fun h40 => ?_) (fun h40 => ?_)
   ·refine c_end (n_then (c_true rfl (wp_seq ?_)))
    refine c_plan (fun wq => Exm [b4, b7] w23 wq) 12 (.cons (0, 2) (.cons (1, 2) (.cons (2, 2) (.cons (3, 1) (.cons (4, 2) (.cons (5, 2) (.cons (6, 2) (.cons (7, 2) (.cons (8, 1) (.cons (9, 0) (.cons (10, 0) (.cons (11, 2) .nil)))))))))))) (by kernel_rfl) (by kernel_rfl) (Exm.drew _) ?_
    obtain ⟨w25, hwd⟩ : ∃ x, x = w23.drew := ⟨_, rfl⟩
    have l26 : Ext w23 w25 := by rw [hwd]; exact Exm.drew _
    rw [← hwd]; clear hwd
    have Lq : Exm [b4, b7] w23 w25 := l26.up; have qB20 := B20; have z_l26 := l26.size; have L := L.tr l26.up; have B1 := B1.ext l26; have B4 := B4.ext l26; have B7 := B7.ext l26; have B20 := B20.ext l26; have o35 := o35.ext l26
    refine p0 rfl (x_move (v := .pointer _) rfl) (p0 rfl (x_nilCheck rfl) (p0 rfl (x_fieldAddr fa127_0 rfl) ?_))
    refine ps rfl (fun wq hwq => x_loadIn ag79 rfl (qB20.exm hwq (by simp; omega)) [.string _, .int _ _] rfl rfl) ?_
    refine p0 rfl (x_build (cs := [.int .i64 0, .slice none 0 0]) bd71 pts_nil rfl) ?_
    refine p0 rfl (x_move (v := .pointer _) rfl) (p0 rfl (x_nilCheck rfl) (p0 rfl (x_fieldAddr fa127_1 rfl) ?_))
    refine ps rfl (fun wq hwq => x_loadB sc3 rfl (qB20.exm hwq (by simp; omega)) rfl) ?_
    refine pu rfl (s_storeAg rfl sz79 rfl rfl B4 rfl rfl rfl ?_)
    intro w27 l28 el28 B4
    have z_l28 := l28.size; have L := L.fresh l28 (by omega); have Lq := Lq.within l28 (by simp)
    have B1 := B1.ne l28 (by omega); have B7 := B7.ne l28 (by omega); have B20 := B20.ne l28 (by omega); have o35 := o35.ne l28 (by first|assumption|exact nin_of f35 g35 (by omega))
    refine c_end ⟨rfl, fun h hS => Lq, ?_⟩
    refine pu rfl (s_storeAg rfl sz71 rfl rfl B7 rfl rfl rfl ?_)
    intro w29 l30 el30 B7
    have z_l30 := l30.size; have L := L.fresh l30 (by omega); have Lq := Lq.within l30 (by simp)
    have B1 := B1.ne l30 (by omega); have B4 := B4.ne l30 (by omega); have B20 := B20.ne l30 (by omega); have o35 := o35.ne l30 (by first|assumption|exact nin_of f35 g35 (by omega))
    refine c_end ⟨rfl, fun h hS => Lq, ?_⟩
    refine p0 rfl (xaI rfl) ?_
    refine p_nil (np_normal ?_)
    refine n_then ?_
    refine wp_ret (r_then ?_)
    refine f_rets3 rfl (ro_cell rfl ag79 B4 rfl) (ro_cell rfl ag71 B7 rfl) (ro_tmp rfl) ?_
    have hx0 := rbk_lv (s := s) (a := a) (xs := xs) h14 (Classical.not_not.1 h26)
    obtain ⟨e3, e4⟩ := rbk_bad (s := s) (a := a) (xs := xs) (n := n) (by rw [hx0.1]; exact h40)
    rw [e3, e4, hx0.1, hx0.2]
    exact ⟨_, rfl, L, none, 0, [], rfl, Own.nil, Fr.no⟩
   ·refine c_end (n_then (c_false rfl (c_skipn (n_then (wp_seq ?_)))))
    have hN := size_sq h14
    refine c_reg (s0 (x_move (v := .pointer _) rfl) (s0 (x_nilCheck rfl) (s0 (x_fieldAddr fa127_0 rfl) (st (x_loadIn ag79 rfl B20 [.string _, .int _ _] rfl rfl) (s0 (xmI rfl) (s0 (xmS rfl) ?_))))))
    refine s0 (x_build (cs := [.int _ _, .slice _ _ _]) bd71 (pts_cons (v := .int _ _) rfl (pts_cons (v := .slice _ _ _) rfl pts_nil)) rfl) ?_
    refine s_storeAg rfl sz79 rfl rfl B4 rfl rfl rfl ?_
    intro w31 l32 el32 B4
    have z_l32 := l32.size; have L := L.fresh l32 (by omega); have B1 := B1.ne l32 (by omega); have B7 := B7.ne l32 (by omega); have B20 := B20.ne l32 (by omega); have o35 := o35.ne l32 (by first|assumption|exact nin_of f35 g35 (by omega))
    refine s_storeAg rfl sz71 rfl rfl B7 rfl rfl rfl ?_
    intro w33 l34 el34 B7
    have z_l34 := l34.size; have L := L.fresh l34 (by omega); have B1 := B1.ne l34 (by omega); have B4 := B4.ne l34 (by omega); have B20 := B20.ne l34 (by omega); have o35 := o35.ne l34 (by first|assumption|exact nin_of f35 g35 (by omega))
    refine s0 (xaI rfl) (c_end (n_then (wp_ret (f_rets3 rfl (ro_cell rfl ag79 B4 rfl) (ro_cell rfl ag71 B7 rfl) (ro_tmp rfl) ?_))))
    have hx0 := rbk_lv (s := s) (a := a) (xs := xs) h14 (Classical.not_not.1 h26); have hz0 : (rbkR s a xs n).f.code = 0 := Classical.not_not.1 h40
    obtain ⟨e3, e4⟩ := rbk_good (s := s) (a := a) (xs := xs) (n := n) (by rw [hx0.1]; exact hz0)
    have hln := lvRes_len (s := s) (N := n * n) ⟨rsAt s a xs, 0⟩ (by omega)
    have hln2 : (rbkR s a xs n).l.length = (n * n).toNat := by show (lvRes s ⟨rsAt s a xs, 0⟩ (n * n)).l.length = (n * n).toNat; omega
    rw [e3, e4, hx0.1, hx0.2, hz0, hln2]
    exact ⟨_, rfl, L, _, _, _, rfl, o35, f35.mono (by omega)⟩
 ·have z_l11 := l11.size
  have L := L.tr l11.up; have B1 := B1.ext l11; have B4 := B4.ext l11; have B7 := B7.ext l11
  refine s0 (x_not rfl) (c_end (n_then (c_true rfl (wp_seq (c_reg (st (x_loadAgB ag79 rfl B1 rfl) ?_))))))
  refine s0 (x_build (cs := [.int .i64 0, .slice none 0 0]) bd71 pts_nil rfl) ?_
  refine s_storeAg rfl sz79 rfl rfl B4 rfl rfl rfl ?_
  intro w35 l36 el36 B4
  have z_l36 := l36.size; have L := L.fresh l36 (by omega); have B1 := B1.ne l36 (by omega); have B7 := B7.ne l36 (by omega)
  refine s_storeAg rfl sz71 rfl rfl B7 rfl rfl rfl ?_
  intro w37 l38 el38 B7
  have z_l38 := l38.size; have L := L.fresh l38 (by omega); have B1 := B1.ne l38 (by omega); have B4 := B4.ne l38 (by omega)
  refine s0 (xaI rfl) (c_end (n_then ?_))
  refine wp_ret (r_then ?_)
  refine f_rets3 rfl (ro_cell rfl ag79 B4 rfl) (ro_cell rfl ag71 B7 rfl) (ro_tmp rfl) ?_
  obtain ⟨e1, e2, e3, e4⟩ := rbk_size (s := s) (a := a) (xs := xs) h14
  rw [e1, e2, e3, e4]
  exact ⟨_, rfl, L, none, 0, [], rfl, Own.nil, Fr.no⟩

end Go.Proofs.YtepnknffaecbdaaGreat
