/- What each function of this part returns, for every argument that meets its premises. -/
import Derived.Test.YtepnknffaecbdaaGreatProg
import Derived.Test.YtepnknffaecbdaaGreatVSxA
import Derived.Test.YtepnknffaecbdaaGreatVTy
import Derived.Test.YtepnknffaecbdaaGreatVPlA
namespace Go.Proofs.YtepnknffaecbdaaGreat
open Go.Sx Go.Pl Go.RowKit
theorem s_byte (b B : Nat) (w : World) (hcu : Cu w b B 104) :
    Calls Tryz.prog 128 [pt b 0].toArray w (RetM [b] w fun v w' => (∃ x : Int, v = .int .i64 x ∧ (0 ≤ x ∧ x ≤ 255)) ∧ Cu w' b B 104) := by
 have hcb := hcu.lt
 obtain ⟨p, c, xs, i, hh, B0, hp, hr, hpB, hbB, hi, hl⟩ := hcu
 have hap : 0 < xs.length → Ap p b := fun h0 a ha => Nat.ne_of_lt (Nat.lt_of_lt_of_le (hpB h0 a ha) hbB)
 have L : Exm [b] w w := Exm.rfl'
 refine enter (n := 58) Tryz.func128 rfl rfl rfl ?_
 refine wp_seq (c_reg (s0 (xaI rfl) (c_end (n_then (wp_seq (c_reg (s0 (x_move (v := .pointer _) rfl) (s0 (x_move (v := .pointer _) rfl) (s0 (x_nilCheck rfl) (s0 (x_fieldAddr fa104_2 rfl) (st (x_loadB sc3 rfl B0 rfl) (s0 (x_mulk rfl rfl) (s0 (x_addk rfl rfl) ?_)))))))))))))
 refine s0 (x_nilCheck rfl) (s0 (x_fieldAddr fa104_2 rfl) ?_)
 refine s_store (v := .int _ _) (cs' := [_, _, _]) rfl sz3 rfl rfl rfl rfl B0 rfl rfl ?_
 intro w1 l2 el2 B0
 have z_l2 := l2.size; have L := L.within l2 (by simp)
 refine c_end (n_then (wp_seq ?_))
 refine c_plan (fun wq => Exm [] w1 wq) 13 (.cons (0, 2) (.cons (1, 2) (.cons (2, 2) (.cons (3, 1) (.cons (4, 2) (.cons (5, 2) (.cons (6, 2) (.cons (7, 2) (.cons (8, 1) (.cons (9, 2) (.cons (10, 2) (.cons (11, 2) (.cons (12, 2) .nil))))))))))))) (by kernel_rfl) (by kernel_rfl) (Exm.drew _) ?_
 obtain ⟨w3, hwd⟩ : ∃ x, x = w1.drew := ⟨_, rfl⟩
 have l4 : Ext w1 w3 := by rw [hwd]; exact Exm.drew _
 rw [← hwd]; clear hwd
 have Lq : Exm [] w1 w3 := l4.up; have qB0 := B0; have qL := L; have z_l4 := l4.size; have L := L.tr l4.up; have B0 := B0.ext l4
 refine p0 rfl (x_move (v := .pointer _) rfl) (p0 rfl (x_nilCheck rfl) (p0 rfl (x_fieldAddr fa104_2 rfl) ?_))
 refine ps rfl (fun wq hwq => x_loadB sc3 rfl (qB0.ext hwq) rfl) ?_
 refine p0 rfl (x_shrc 33 8589934592 rfl rfl (by decide) (by decide)) (p0 rfl (x_move (v := .pointer _) rfl) (p0 rfl (x_nilCheck rfl) (p0 rfl (x_fieldAddr fa104_2 rfl) ?_)))
 refine ps rfl (fun wq hwq => x_loadB sc3 rfl (qB0.ext hwq) rfl) ?_
 refine p0 rfl (x_shrc 45 35184372088832 rfl rfl (by decide) (by decide)) ?_
 refine p0 rfl (x_bits (by simp) rfl rfl) ?_
 refine p0 rfl (x_bits (by simp) rfl rfl) ?_
 refine p0 rfl (xaI rfl) ?_
 refine p_nil (np_normal ?_)
 refine n_then (wp_seq (wp_seq ?_))
 refine c_plan (fun wq => Exm [] w3 wq) 10 (.cons (0, 2) (.cons (1, 2) (.cons (2, 2) (.cons (3, 1) (.cons (4, 2) (.cons (5, 2) (.cons (6, 2) (.cons (7, 1) (.cons (8, 2) (.cons (9, 2) .nil)))))))))) (by kernel_rfl) (by kernel_rfl) (Exm.drew _) ?_
 obtain ⟨w5, hwd⟩ : ∃ x, x = w3.drew := ⟨_, rfl⟩
 have l6 : Ext w3 w5 := by rw [hwd]; exact Exm.drew _
 rw [← hwd]; clear hwd
 have Lq : Exm [] w3 w5 := l6.up; have qB0 := B0; have qL := L; have z_l6 := l6.size; have L := L.tr l6.up; have B0 := B0.ext l6
 refine p0 rfl (x_move (v := .pointer _) rfl) (p0 rfl (x_nilCheck rfl) (p0 rfl (x_fieldAddr fa104_1 rfl) ?_))
 refine ps rfl (fun wq hwq => x_loadB sc3 rfl (qB0.ext hwq) rfl) ?_
 refine p0 rfl (x_move (v := .pointer _) rfl) (p0 rfl (x_nilCheck rfl) (p0 rfl (x_fieldAddr fa104_0 rfl) ?_))
 refine ps rfl (fun wq hwq => x_loadB sc22 rfl (qB0.ext hwq) rfl) ?_
 refine p0 rfl (x_lensl un22 rfl) ?_
 refine pb rfl (x_lss rfl rfl) (fun h34 => ?_) (fun h34 => ?_)
 ·refine p_nil (np_normal ?_)
  refine n_then (c_true rfl (wp_seq ?_))
  have hbv := getD_byte hr i.toNat
  refine c_plan (fun wq => Exm [] w5 wq) 15 (.cons (0, 2) (.cons (1, 2) (.cons (2, 2) (.cons (3, 2) (.cons (4, 1) (.cons (5, 2) (.cons (6, 2) (.cons (7, 2) (.cons (8, 1) (.cons (9, 2) (.cons (10, 1) (.cons (11, 2) (.cons (12, 2) (.cons (13, 2) (.cons (14, 2) .nil))))))))))))))) (by kernel_rfl) (by kernel_rfl) (Exm.drew _) ?_
  obtain ⟨w7, hwd⟩ : ∃ x, x = w5.drew := ⟨_, rfl⟩
  have l8 : Ext w5 w7 := by rw [hwd]; exact Exm.drew _
  rw [← hwd]; clear hwd
  have Lq : Exm [] w5 w7 := l8.up; have qB0 := B0; have qL := L; have z_l8 := l8.size; have L := L.tr l8.up; have B0 := B0.ext l8
  refine p0 rfl (xmI rfl) (p0 rfl (x_move (v := .pointer _) rfl) (p0 rfl (x_nilCheck rfl) (p0 rfl (x_fieldAddr fa104_0 rfl) ?_)))
  refine ps rfl (fun wq hwq => x_loadB sc22 rfl (qB0.ext hwq) rfl) ?_
  refine p0 rfl (x_move (v := .pointer _) rfl) (p0 rfl (x_nilCheck rfl) (p0 rfl (x_fieldAddr fa104_1 rfl) ?_))
  refine ps rfl (fun wq hwq => x_loadB sc3 rfl (qB0.ext hwq) rfl) ?_
  refine p0 rfl (x_idx so22 rfl rfl (hp.kp L hap) (by decide) (by omega) (by omega)) ?_
  refine ps rfl (fun wq hwq => x_ldb sc5 rfl ((hp.kp qL hap).ext hwq) (by omega) (by omega)) ?_
  refine p0 rfl (x_convi us5 un3 rfl (by omega)) (p0 rfl (x_addk rfl rfl) ?_)
  refine p0 rfl (x_bits (by simp) rfl rfl) ?_
  refine p0 rfl (xaI rfl) ?_
  refine p_nil (np_normal ?_)
  refine n_then (c_reg (s0 (x_move (v := .pointer _) rfl) (s0 (x_move (v := .pointer _) rfl) (s0 (x_nilCheck rfl) (s0 (x_fieldAddr fa104_1 rfl) (st (x_loadB sc3 rfl B0 rfl) (s0 (x_add rfl rfl (by omega)) (s0 (x_nilCheck rfl) (s0 (x_fieldAddr fa104_1 rfl) ?_)))))))))
  refine s_store (v := .int _ _) (cs' := [_, _, _]) rfl sz3 rfl rfl rfl rfl B0 rfl rfl ?_
  intro w9 l10 el10 B0
  have z_l10 := l10.size; have L := L.within l10 (by simp)
  refine c_end (n_then (wp_seq (c_reg (s0 (xmI rfl) (s0 (xaI rfl) (c_end (n_then (wp_ret (f_ret rfl rfl ?_)))))))))
  exact ⟨_, rfl, L, ⟨_, rfl, bits_and_le _ (by omega) (by omega)⟩, p, c, xs, _, _, B0, hp.kp L hap, hr, hpB, hbB, ⟨by omega, by omega⟩, hl⟩
 ·refine p_nil (np_normal ?_)
  refine n_then (c_false rfl (c_skipn (n_then (wp_seq (c_reg (s0 (xmI rfl) (s0 (xaI rfl) (c_end (n_then (wp_ret (f_ret rfl rfl ?_)))))))))))
  exact ⟨_, rfl, L, ⟨_, rfl, bits_and_le _ (by omega) (by omega)⟩, p, c, xs, _, _, B0, hp.kp L hap, hr, hpB, hbB, hi, hl⟩

theorem s_below (b B : Nat) (n : Int) (w : World) (hcu : Cu w b B 104) :
    Calls Tryz.prog 63 [pt b 0, .int .i64 n].toArray w (RetM [b] w fun v w' => (∃ x : Int, v = .int .i64 x ∧ ((n ≤ 0 ∧ x = 0) ∨ (0 ≤ x ∧ x < n))) ∧ Cu w' b B 104) := by
 have hcb := hcu.lt; have L : Exm [b] w w := Exm.rfl'
 refine enter (n := 37) Tryz.func63 rfl rfl rfl ?_
 refine wp_seq (c_reg (s0 (xaI rfl) (c_end (n_then (wp_seq (wp_seq (c_reg (s0 (xmI rfl) ?_))))))))
 refine sb (x_leq rfl rfl) (fun h10 => ?_) (fun h10 => ?_)
 ·refine c_end (n_then (c_true rfl (wp_seq (c_reg (s0 (xaI rfl) (c_end (n_then ?_)))))))
  refine wp_ret (r_then ?_)
  refine f_ret rfl rfl ?_
  exact ⟨_, rfl, L, ⟨_, rfl, .inl ⟨h10, rfl⟩⟩, hcu⟩
 ·refine c_end (n_then (c_false rfl (c_skipn (n_then (wp_seq (wp_seq (c_reg (s0 (xmI rfl) ?_))))))))
  refine sb (x_leq rfl rfl) (fun h12 => ?_) (fun h12 => ?_)
  ·refine c_end (n_then (c_true rfl (wp_seq (c_reg (s0 (x_move (v := .pointer _) rfl) ?_)))))
   refine spm (zcall cl128 rfl) (s_byte b _ _ hcu) ?_
   rintro v14 w1 l2 ⟨⟨x14, rfl, hx14⟩, hcu⟩
   have z_l2 := l2.size; have L := L.within l2 (by simp)
   refine s0 (xmI rfl) (s0 (x_rem rfl rfl (by omega) (by omega)) (s0 (xaI rfl) (c_end (n_then ?_))))
   refine wp_ret (r_then ?_)
   refine f_ret rfl rfl ?_
   exact ⟨_, rfl, L, ⟨_, rfl, .inr ⟨Int.emod_nonneg _ (by omega), Int.emod_lt_of_pos _ (by omega)⟩⟩, hcu⟩
  ·refine c_end (n_then (c_false rfl (c_skipn (n_then (wp_seq (c_reg (s0 (x_move (v := .pointer _) rfl) ?_)))))))
   refine spm (zcall cl128 rfl) (s_byte b _ _ hcu) ?_
   rintro v18 w3 l4 ⟨⟨x18, rfl, hx18⟩, hcu⟩
   have z_l4 := l4.size; have L := L.within l4 (by simp)
   refine s0 (xaI rfl) (c_end (n_then (wp_seq (c_reg (s0 (x_move (v := .pointer _) rfl) ?_)))))
   refine spm (zcall cl128 rfl) (s_byte b _ _ hcu) ?_
   rintro v20 w5 l6 ⟨⟨x20, rfl, hx20⟩, hcu⟩
   have z_l6 := l6.size; have L := L.within l6 (by simp)
   refine s0 (xaI rfl) (c_end (n_then (wp_seq (c_reg (s0 (x_move (v := .pointer _) rfl) ?_)))))
   refine spm (zcall cl128 rfl) (s_byte b _ _ hcu) ?_
   rintro v22 w7 l8 ⟨⟨x22, rfl, hx22⟩, hcu⟩
   have z_l8 := l8.size; have L := L.within l8 (by simp)
   refine s0 (xaI rfl) (c_end (n_then (wp_seq (c_reg (s0 (x_move (v := .pointer _) rfl) ?_)))))
   refine spm (zcall cl128 rfl) (s_byte b _ _ hcu) ?_
   rintro v24 w9 l10 ⟨⟨x24, rfl, hx24⟩, hcu⟩
   have z_l10 := l10.size; have L := L.within l10 (by simp)
   refine s0 (xaI rfl) (c_end (n_then (wp_seq (c_reg (s0 (xmI rfl) (s0 (x_mul rfl rfl (by omega)) (s0 (xmI rfl) (s0 (x_mul rfl rfl (by omega)) (s0 (x_add rfl rfl (by omega)) (s0 (xmI rfl) (s0 (x_mul rfl rfl (by omega)) (s0 (x_add rfl rfl (by omega)) (s0 (xmI rfl) ?_)))))))))))))
   refine s0 (x_add rfl rfl (by omega)) (s0 (xmI rfl) (s0 (x_rem rfl rfl (by omega) (by omega)) (s0 (xaI rfl) (c_end (n_then (wp_ret (f_ret rfl rfl ?_)))))))
   exact ⟨_, rfl, L, ⟨_, rfl, .inr ⟨Int.emod_nonneg _ (by omega), Int.emod_lt_of_pos _ (by omega)⟩⟩, hcu⟩

theorem s_once (b B : Nat) (n : Int) (w : World) (hcu : Cu w b B 104) :
    Calls Tryz.prog 184 [pt b 0, .int .i64 n].toArray w (RetM [b] w fun v w' => (∃ x : Bool, v = .bool x) ∧ Cu w' b B 104) := by
 have hcb := hcu.lt; have L : Exm [b] w w := Exm.rfl'
 refine enter (n := 9) Tryz.func184 rfl rfl rfl ?_
 refine wp_seq (c_reg (s0 (x_assign (v := .bool _) rfl) (c_end (n_then (wp_seq (c_reg (s0 (x_move (v := .pointer _) rfl) (s0 (xmI rfl) ?_))))))))
 refine spm (zcall cl63 rfl) (s_below b _ _ _ hcu) ?_
 rintro v7 w1 l2 ⟨⟨x7, rfl, hx7⟩, hcu⟩
 have z_l2 := l2.size; have L := L.within l2 (by simp)
 refine s0 (x_eql rfl rfl) (s0 (x_assign (v := .bool _) rfl) (c_end (n_then (wp_ret (f_ret rfl rfl ?_)))))
 exact ⟨_, rfl, L, ⟨_, rfl⟩, hcu⟩

theorem s_pick (b B : Nat) (p : Option Addr) (m : Nat) (xs : List Int) (c : Nat) (w : World) (hcu : Cu w b B 104) (F : List Nat) (ho : Own w p m c 3 1 (ic xs) F) (hF : b ∉ F) (hn : 0 < m) :
    Calls Tryz.prog 129 [pt b 0, .slice p m c].toArray w (RetM [b] w fun v w' => (∃ x : Int, v = .int .i64 x ∧ (∃ j : Nat, j < xs.length ∧ x = xs.getD j 0)) ∧ Cu w' b B 104) := by
 have hcb := hcu.lt; have hp := ho.sl; have hmn := hp.n
 have hap : Ap p b := ho.ap (by rw [ic_length]; omega) hF
 have L : Exm [b] w w := Exm.rfl'
 refine enter (n := 12) Tryz.func129 rfl rfl rfl ?_
 refine wp_seq (c_reg (s0 (xaI rfl) (c_end (n_then (wp_seq (c_reg (s0 (xmS rfl) (s0 (x_move (v := .pointer _) rfl) (s0 (xmS rfl) (s0 (x_lensl un24 rfl) ?_))))))))))
 refine spm (zcall cl63 rfl) (s_below b _ _ _ hcu) ?_
 rintro v9 w1 l2 ⟨⟨x9, rfl, hx9⟩, hcu⟩
 have z_l2 := l2.size; have L := L.within l2 (by simp)
 refine s0 (x_idx so24 rfl rfl (hp.ne L hap) (by decide) (by omega) (by omega)) (st (x_ldi sc3 rfl (hp.ne L hap) (by omega) (by omega)) (s0 (xaI rfl) (c_end (n_then (wp_ret (f_ret rfl rfl ?_))))))
 exact ⟨_, rfl, L, ⟨_, rfl, _, (by omega : x9.toNat < xs.length), rfl⟩, hcu⟩

theorem s_new (p : Option Addr) (xs : List Int) (c : Nat) (B : Nat) (w : World) (hp : Sl w p xs.length c 1 (bc xs)) (hr : ∀ x ∈ xs, 0 ≤ x ∧ x ≤ 255) (hpB : Bl p xs.length B) (hB : B ≤ w.heap.size) (hl : xs.length ≤ 1048576) :
    Calls Tryz.prog 27 [.slice p xs.length c].toArray w (RetP w fun v w' => ∃ b, v = pt b 0 ∧ (w.heap.size ≤ b ∧ b < w'.heap.size) ∧ Cu w' b B 104) := by
 have L : Exm [] w w := Exm.rfl'
 refine enter (n := 32) Tryz.func27 rfl rfl rfl ?_
 refine wp_seq (c_reg (s0 (x_assign (v := .pointer _) rfl) (c_end (n_then (wp_seq (c_reg (s0 (xmS rfl) (s0 (x_lensl un22 rfl) (s0 (x_add rfl rfl (by omega)) (s0 (xaI rfl) (c_end (n_then (wp_seq ?_)))))))))))))
 refine wp_seq (c_reg (s0 (xaI rfl) (c_end (n_then (wp_block ?_)))))
 refine c_loop (γ := Nat × Int) (fun g => xs.length - g.1) (fun (g : Nat × Int) E wl => ∃ E0, E = upd (upd (upd E0 0 (.slice p xs.length c)) 3 (.int .i64 g.2)) 4 (.int .i64 (g.1 : Int)) ∧ (Exm [] w wl) ∧ ((g.1 : Int) ≤ xs.length) ∧ (0 ≤ g.2 ∧ g.2 ≤ 1073741823)) (0, 10101 + xs.length) ⟨_, upd_self3 rfl rfl rfl, L, (by simp), (by show 0 ≤ 10101 + (xs.length : Int) ∧ _; omega)⟩ ?_
 rintro g E wl1 ⟨E0, rfl, L, hk, hh⟩
 have Lz0 := L.size
 refine wp_seq (wp_seq (c_reg (s0 (xmI rfl) (s0 (xmS rfl) (s0 (x_lensl un22 rfl) ?_)))))
 refine sb (x_lss rfl rfl) (fun h11 => ?_) (fun h11 => ?_)
 ·refine s0 (x_move (v := .bool _) rfl) (gt rfl rfl rfl rfl (s0 (xmI rfl) (gt rfl rfl rfl rfl ?_)))
  refine sb (x_lss rfl rfl) (fun h14 => ?_) (fun h14 => ?_)
  ·refine s0 (x_pickt (v := .bool _) rfl rfl) (c_end (n_then (c_true rfl (c_skipn (n_then (wp_seq (wp_block ?_)))))))
   have hbv := getD_byte hr ((g.1 : Int).toNat)
   refine c_reg (s0 (xmI rfl) (s0 (x_mul rfl rfl (by omega)) (s0 (xmS rfl) (s0 (xmI rfl) (s0 (x_idx so22 rfl rfl hp (by decide) (by omega) (by omega)) (st (x_ldb sc5 rfl (hp.ext L) (by omega) (by omega)) (s0 (x_convi us5 un3 rfl (by omega)) (s0 (x_add rfl rfl (by omega)) (s0 (x_add rfl rfl (by omega)) ?_)))))))))
   refine s0 (x_bits (by simp) rfl rfl) ?_
   refine s0 (xaI rfl) (c_end (n_block (n_then (c_reg (s0 (xmI rfl) (s0 (x_add rfl rfl (by omega)) (s0 (xaI rfl) (c_end ?_))))))))
   exact c_round (g' := (g.1 + 1, _)) (by show xs.length - (g.1 + 1) < xs.length - g.1; omega) ⟨_, upd_self3 rfl rfl (vint (by show (g.1 : Int) + 1 = ((g.1 + 1 : Nat) : Int); omega)), L, (by show ((g.1 + 1 : Nat) : Int) ≤ _; omega), (bits_and_le _ (by omega) (by omega))⟩
  ·refine s0 (x_pickt (v := .bool _) rfl rfl) (c_end (n_then (c_false rfl ?_)))
   refine wp_exit (e_then (e_then (e_here ?_)))
   refine n_then (wp_seq (c_reg (s0 (xmS rfl) (s0 (xmI rfl) ?_))))
   refine s0 (x_build (cs := [.slice _ _ _, .int .i64 0, .int _ _]) bd104 (pts_cons (v := .slice _ _ _) rfl (pts_cons (v := .int _ _) rfl pts_nil)) rfl) ?_
   refine s_box rfl rfl ?_
   intro b2 w3 lob2 hib2 l4 B2
   have z_l4 := l4.size; have L := L.tr l4.up
   refine s0 (x_assign (v := .pointer _) rfl) (c_end (n_then (wp_ret (f_ret rfl rfl ?_))))
   exact ⟨_, rfl, L, _, rfl, ⟨by omega, by omega⟩, p, c, xs, _, _, B2, hp.ext L, hr, hpB, by omega, ⟨by omega, by omega⟩, hl⟩
 ·refine s0 (x_move (v := .bool _) rfl) (gf rfl rfl rfl rfl (gf rfl rfl rfl rfl (s0 (x_pickf (v := .bool _) rfl rfl) (c_end (n_then (c_false rfl ?_))))))
  refine wp_exit (e_then (e_then (e_here ?_)))
  refine n_then (wp_seq (c_reg (s0 (xmS rfl) (s0 (xmI rfl) ?_))))
  refine s0 (x_build (cs := [.slice _ _ _, .int .i64 0, .int _ _]) bd104 (pts_cons (v := .slice _ _ _) rfl (pts_cons (v := .int _ _) rfl pts_nil)) rfl) ?_
  refine s_box rfl rfl ?_
  intro b5 w6 lob5 hib5 l7 B5
  have z_l7 := l7.size; have L := L.tr l7.up
  refine s0 (x_assign (v := .pointer _) rfl) (c_end (n_then (wp_ret (f_ret rfl rfl ?_))))
  exact ⟨_, rfl, L, _, rfl, ⟨by omega, by omega⟩, p, c, xs, _, _, B5, hp.ext L, hr, hpB, by omega, ⟨by omega, by omega⟩, hl⟩

theorem l_big (p : Option Addr) (n c : Nat) (w : World) :
    Calls Tryz.prog 7 [.slice p n c].toArray w (Ret w (.bool (decide ((n : Int) > 1048576)))) := by
 have L : Exm [] w w := Exm.rfl'
 refine enter (n := 6) Tryz.func7 rfl rfl rfl ?_
 refine wp_seq (c_reg (s0 (x_assign (v := .bool _) rfl) (c_end (n_then (wp_seq (c_reg (s0 (xmS rfl) (s0 (x_lensl un22 rfl) (s0 (x_gtr rfl rfl) (s0 (x_assign (v := .bool _) rfl) (c_end (n_then (wp_ret ?_)))))))))))))
 refine f_ret rfl rfl ?_
 exact ⟨rfl, L⟩

theorem l_at (p : Option Addr) (xs : List Int) (c : Nat) (i : Int) (w : World) (hp : Sl w p xs.length c 1 (bc xs)) (hr : ∀ x ∈ xs, 0 ≤ x ∧ x ≤ 255) (hi : 0 ≤ i ∧ i ≤ 1099511627776) (hl : xs.length ≤ 1048576) :
    Calls Tryz.prog 15 [.slice p xs.length c, .int .i64 i].toArray w (RetP w fun v w' => ∃ x : Int, v = .int .i64 x ∧ 0 ≤ x ∧ x ≤ 255) := by
 have L : Exm [] w w := Exm.rfl'
 refine enter (n := 21) Tryz.func15 rfl rfl rfl ?_
 refine wp_seq (c_reg (s0 (xaI rfl) (c_end (n_then (wp_seq (wp_seq (c_reg (s0 (xmI rfl) (s0 (xmS rfl) (s0 (x_lensl un22 rfl) ?_))))))))))
 refine sb (x_lss rfl rfl) (fun h8 => ?_) (fun h8 => ?_)
 ·refine c_end (n_then (c_true rfl (wp_seq ?_)))
  have hbv := getD_byte hr i.toNat
  refine c_reg (s0 (xmS rfl) (s0 (xmI rfl) (s0 (x_idx so22 rfl rfl hp (by decide) (by omega) (by omega)) (st (x_ldb sc5 rfl (hp.ext L) (by omega) (by omega)) (s0 (x_convi us5 un3 rfl (by omega)) (s0 (xaI rfl) (c_end (n_then ?_))))))))
  refine wp_ret (r_then ?_)
  refine f_ret rfl rfl ?_
  exact ⟨_, rfl, L, _, rfl, hbv⟩
 ·refine c_end (n_then (c_false rfl (c_skipn (n_then (wp_seq (c_reg (s0 (xmI rfl) (s0 (x_mul rfl rfl (by omega)) (s0 (xmS rfl) (s0 (x_lensl un22 rfl) (s0 (x_mul rfl rfl (by omega)) (s0 (x_add rfl rfl (by omega)) (s0 (x_rem rfl rfl (by omega) (by omega)) ?_)))))))))))))
  refine s0 (xaI rfl) (c_end (n_then (wp_ret (f_ret rfl rfl ?_))))
  exact ⟨_, rfl, L, _, rfl, by omega, by omega⟩

end Go.Proofs.YtepnknffaecbdaaGreat
