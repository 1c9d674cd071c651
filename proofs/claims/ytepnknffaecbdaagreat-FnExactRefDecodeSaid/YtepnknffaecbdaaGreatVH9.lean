/- What each function of this part returns, for every argument that meets its premises. -/
import Derived.Test.YtepnknffaecbdaaGreatProg
import Derived.Test.YtepnknffaecbdaaGreatVSxA
import Derived.Test.YtepnknffaecbdaaGreatVTy
import Derived.Test.YtepnknffaecbdaaGreatVPlA
import Derived.Test.YtepnknffaecbdaaGreatVFF
import Derived.Test.YtepnknffaecbdaaGreatVFH
import Derived.Test.YtepnknffaecbdaaGreatVFI
import Derived.Test.YtepnknffaecbdaaGreatVFJ
import Derived.Test.YtepnknffaecbdaaGreatVFM
import Derived.Test.YtepnknffaecbdaaGreatVFV
import Derived.Test.YtepnknffaecbdaaGreatVH6
import Derived.Test.YtepnknffaecbdaaGreatVH8
import Derived.Test.YtepnknffaecbdaaGreatVHA
namespace Go.Proofs.YtepnknffaecbdaaGreat
open Go.Sx Go.Pl Go.RowKit
section
variable {P : Program} {n : Nat} {E : Env} {ty T T' : TypeId} {x y : Operand}
theorem x_quoe {a b : Int} (v : Int) (hx : opd n E x = .int .i64 a) (hy : opd n E y = .int .i64 b) (h : 0 ≤ a ∧ 0 < b ∧ a ≤ 9223372036854775807 ∧ a / b = v) : X0 P n E (.binOp .quo T x y T') ty (.int .i64 v) := by
  obtain ⟨h1, h2, h3, rfl⟩ := h; exact x_quo hx hy (by omega) (by omega)
end

theorem s_across2 (W H : Int) (pR : Option Addr) (cR : Nat) (pA : Option Addr) (n c : Nat) (xs : List Int) (a b q : Int) (FA : List Nat) (w : World) (oA : Own w pA n c 3 1 (ic xs) FA) (hxs : xs.length = n) (hl : n ≤ 1048576) (hW : 8 ≤ W ∧ W ≤ 32) (hm : W % 8 = 0) (hH : H ≤ 32) (hn : (n : Int) = W * H) (ha : 0 ≤ a ∧ a ≤ b ∧ b ≤ H) (hq : ∀ w2 : World, Exm FA w w2 → Sl w2 pR n cR 1 (ic xs)) :
    Calls Tryz.prog 117 [.agg [.int .i64 W, .int .i64 H, .slice pR n cR].toArray, .agg [.int .i64 W, .int .i64 H, .slice pA n c].toArray, .int .i64 q, .int .i64 a, .int .i64 b].toArray w (RetM FA w fun v w' => v = .agg [.int .i64 W, .int .i64 H, .slice pA n c].toArray ∧ Own w' pA n c 3 1 (ic (egs q xs (vRows W a (b - a).toNat))) FA) := by
 have fA : Fr 0 FA := fun _ _ => Nat.zero_le _
 have gA := oA.lt; have hnA := oA.n1; have L : Exm FA w w := Exm.rfl'
 refine enter (n := 74) Tryz.func117 rfl rfl rfl ?_
 refine wp_seq (c_reg (s_box rfl rfl ?_))
 intro b1 w2 lob1 hib1 l3 B1
 have z_l3 := l3.size; have L := L.tr l3.up; have oA := oA.ext l3
 refine s_box rfl rfl ?_
 intro b4 w5 lob4 hib4 l6 B4
 have z_l6 := l6.size; have L := L.tr l6.up; have B1 := B1.ext l6; have oA := oA.ext l6
 refine s_alloc zr36 ?_
 intro b7 w8 lob7 hib7 l9 B7
 have z_l9 := l9.size; have L := L.tr l9.up; have B1 := B1.ext l9; have B4 := B4.ext l9; have oA := oA.ext l9
 refine c_end (n_then (wp_seq (wp_seq (c_reg (s0 (xmI rfl) (s0 (xaI rfl) (c_end (n_then (wp_block ?_)))))))))
 refine c_loop (γ := Nat) (fun j => (b - a).toNat - j) (fun (j : Nat) E wl => ∃ E0, E = upd (upd (upd (upd (upd (upd E0 2 (.int .i64 q)) 4 (.int .i64 b)) 5 (pt b1 0)) 6 (pt b4 0)) 10 (pt b7 0)) 11 (.int .i64 (a + j)) ∧ (Exm FA w wl) ∧ (w8.heap.size ≤ wl.heap.size) ∧ (Bx wl b1 [.int .i64 W, .int .i64 H, .slice pR n cR] 36) ∧ (Bx wl b4 [.int .i64 W, .int .i64 H, .slice pA n c] 36) ∧ (Bx wl b7 [.int .i64 0, .int .i64 0, .slice none 0 0] 36) ∧ (Own wl pA n c 3 1 (ic (egs q xs (vRows W a j))) FA) ∧ ((j : Int) ≤ b - a)) 0 ⟨_, upd_self6 rfl rfl rfl rfl rfl (vint (by omega)), L, (by omega), B1, B4, B7, oA, (by omega)⟩ ?_
 rintro j E wl10 ⟨E0, rfl, L, Lz, B1, B4, B7, oA, hj⟩
 have Lz0 := L.size
 refine wp_seq (wp_seq (c_reg (s0 (xmI rfl) (s0 (xmI rfl) ?_))))
 refine sb (x_lss rfl rfl) (fun h19 => ?_) (fun h19 => ?_)
 ·refine c_end (n_then (c_true rfl (c_skipn (n_then (wp_seq (wp_block (wp_seq (c_reg (s0 (xaI rfl) (c_end (n_then (wp_block ?_))))))))))))
  refine c_loop (γ := Nat) (fun i => (W / 8 - 1).toNat - i) (fun (i : Nat) E wl => ∃ E0, E = upd (upd (upd (upd (upd (upd (upd E0 2 (.int .i64 q)) 4 (.int .i64 b)) 5 (pt b1 0)) 6 (pt b4 0)) 10 (pt b7 0)) 11 (.int .i64 (a + j))) 12 (.int .i64 (8 + 8 * (i : Int))) ∧ (Exm FA w wl) ∧ (wl10.heap.size ≤ wl.heap.size) ∧ (Bx wl b1 [.int .i64 W, .int .i64 H, .slice pR n cR] 36) ∧ (Bx wl b4 [.int .i64 W, .int .i64 H, .slice pA n c] 36) ∧ (Bx wl b7 [.int .i64 0, .int .i64 0, .slice none 0 0] 36) ∧ (Own wl pA n c 3 1 (ic (egs q xs (vRows W a j ++ vRow W (a + j) i))) FA) ∧ (8 + 8 * (i : Int) ≤ W)) 0 ⟨_, upd_self7 rfl rfl rfl rfl rfl rfl (vint (by omega)), L, (by omega), B1, B4, B7, (by rw [vRow_zero, List.append_nil]; exact oA), (by omega)⟩ ?_
  rintro i E wl11 ⟨E0, rfl, L, Lz, B1, B4, B7, oA, hi⟩
  have Lz0 := L.size; have hy := row_in hW hn (show 0 ≤ a + (j : Int) by omega) (show a + (j : Int) ≤ H - 1 by omega)
  have hlen := egs_length q (vRows W a j ++ vRow W (a + j) i) xs
  refine wp_seq (wp_seq (c_reg (s0 (xmI rfl) (s0 (x_fieldAddr fa36_0 rfl) (st (x_loadB sc3 rfl B1 rfl) ?_)))))
  refine sb (x_lss rfl rfl) (fun h25 => ?_) (fun h25 => ?_)
  ·refine c_end (n_then (c_true rfl (c_skipn (n_then (wp_seq (wp_block (wp_seq (c_reg (s0 (xmI rfl) (s0 (x_fieldAddr fa36_0 rfl) (st (x_loadB sc3 rfl B1 rfl) (s0 (x_mul rfl rfl (by omega)) (s0 (xmI rfl) ?_)))))))))))))
   refine s0 (x_add rfl rfl (by omega)) (s0 (xaI rfl) (c_end (n_then (wp_seq ?_))))
   refine c_plan (fun wq => Exm [] wl11 wq) 30 (.cons (0, 2) (.cons (1, 1) (.cons (2, 2) (.cons (3, 2) (.cons (4, 2) (.cons (5, 1) (.cons (6, 2) (.cons (7, 1) (.cons (8, 2) (.cons (9, 2) (.cons (10, 2) (.cons (11, 1) (.cons (12, 2) (.cons (13, 1) (.cons (14, 2) (.cons (15, 2) (.cons (16, 1) (.cons (17, 2) (.cons (18, 1) (.cons (19, 2) (.cons (20, 2) (.cons (21, 2) (.cons (22, 1) (.cons (23, 2) (.cons (24, 0) (.cons (25, 2) (.cons (26, 2) (.cons (27, 2) (.cons (28, 2) (.cons (29, 2) .nil)))))))))))))))))))))))))))))) (by kernel_rfl) (by kernel_rfl) (Exm.drew _) ?_
   obtain ⟨w12, hwd⟩ : ∃ x, x = wl11.drew := ⟨_, rfl⟩
   have l13 : Ext wl11 w12 := by rw [hwd]; exact Exm.drew _
   rw [← hwd]; clear hwd
   have Lq : Exm [] wl11 w12 := l13.up; have qB1 := B1; have qL := L; have z_l13 := l13.size; have L := L.tr l13.up; have B1 := B1.ext l13; have B4 := B4.ext l13; have B7 := B7.ext l13; have oA := oA.ext l13
   refine p0 rfl (x_fieldAddr fa36_2 rfl) ?_
   refine ps rfl (fun wq hwq => x_loadB sc24 rfl (qB1.ext hwq) rfl) ?_
   refine p0 rfl (xmI rfl) (p0 rfl (x_sub rfl rfl (by omega)) (p0 rfl (x_idx so24 rfl rfl (hq _ L) (by decide) (by omega) (by omega)) ?_))
   refine ps rfl (fun wq hwq => x_ldi sc3 rfl ((hq _ qL).ext hwq) (by omega) (by omega)) ?_
   refine p0 rfl (x_fieldAddr fa36_2 rfl) ?_
   refine ps rfl (fun wq hwq => x_loadB sc24 rfl (qB1.ext hwq) rfl) ?_
   refine p0 rfl (xmI rfl) (p0 rfl (x_sub rfl rfl (by omega)) (p0 rfl (x_idx so24 rfl rfl (hq _ L) (by decide) (by omega) (by omega)) ?_))
   refine ps rfl (fun wq hwq => x_ldi sc3 rfl ((hq _ qL).ext hwq) (by omega) (by omega)) ?_
   refine p0 rfl (x_fieldAddr fa36_2 rfl) ?_
   refine ps rfl (fun wq hwq => x_loadB sc24 rfl (qB1.ext hwq) rfl) ?_
   refine p0 rfl (xmI rfl) (p0 rfl (x_idx so24 rfl rfl (hq _ L) (by decide) (by omega) (by omega)) ?_)
   refine ps rfl (fun wq hwq => x_ldi sc3 rfl ((hq _ qL).ext hwq) (by omega) (by omega)) ?_
   refine p0 rfl (x_fieldAddr fa36_2 rfl) ?_
   refine ps rfl (fun wq hwq => x_loadB sc24 rfl (qB1.ext hwq) rfl) ?_
   refine p0 rfl (xmI rfl) (p0 rfl (x_add rfl rfl (by omega)) (p0 rfl (x_idx so24 rfl rfl (hq _ L) (by decide) (by omega) (by omega)) ?_))
   refine ps rfl (fun wq hwq => x_ldi sc3 rfl ((hq _ qL).ext hwq) (by omega) (by omega)) ?_
   refine p0 rfl (xmI rfl) (pu rfl ?_)
   refine sr (zcall cl173 rfl) (s_edgeOf _ _ _ _ _ _) ?_
   intro w14 l15
   have z_l15 := l15.size; have L := L.tr l15.up; have Lq := Lq.tr l15.up; have B1 := B1.ext l15; have B4 := B4.ext l15; have B7 := B7.ext l15; have oA := oA.ext l15
   refine c_end ⟨rfl, fun h hS => Lq, ?_⟩
   refine p0 rfl (x_move (v := .tuple _) rfl) (p0 rfl (x_extract rfl rfl) (p0 rfl (x_extract rfl rfl) (p0 rfl (xaI rfl) (p0 rfl (xaI rfl) ?_))))
   refine p_nil (np_normal ?_)
   refine n_then (wp_seq (c_reg (s0 (x_fieldAddr fa36_2 rfl) (st (x_loadB sc24 rfl B4 rfl) (s0 (xmI rfl) (s0 (x_sub rfl rfl (by omega)) (s0 (xmI rfl) (s0 (x_idx so24 rfl rfl oA.sl (by decide) (by omega) (by omega)) (s_stoi rfl sz3 rfl rfl oA (by omega) (by omega) ?_)))))))))
   intro w16 l17 el17 oA
   have z_l17 := l17.size; have L := L.withinL l17 (by simp)
   have B1 := B1.exm l17 (by first|assumption|exact nin_of fA gA (by omega))
   have B4 := B4.exm l17 (by first|assumption|exact nin_of fA gA (by omega))
   have B7 := B7.exm l17 (by first|assumption|exact nin_of fA gA (by omega))
   have hnl17 := oA.n1
   refine c_end (n_then (c_reg (s0 (x_fieldAddr fa36_2 rfl) (st (x_loadB sc24 rfl B4 rfl) (s0 (xmI rfl) (s0 (xmI rfl) (s0 (x_idx so24 rfl rfl oA.sl (by decide) (by omega) (by omega)) (s_stoi rfl sz3 rfl rfl oA (by omega) (by omega) ?_))))))))
   intro w18 l19 el19 oA
   have z_l19 := l19.size; have L := L.withinL l19 (by simp)
   have B1 := B1.exm l19 (by first|assumption|exact nin_of fA gA (by omega))
   have B4 := B4.exm l19 (by first|assumption|exact nin_of fA gA (by omega))
   have B7 := B7.exm l19 (by first|assumption|exact nin_of fA gA (by omega))
   have hnl19 := oA.n1
   refine c_end (n_block (n_then (c_reg (s0 (xmI rfl) (s0 (x_add rfl rfl (by omega)) (s0 (xaI rfl) (c_end ?_)))))))
   exact c_round (g' := i + 1) (by omega) ⟨_, upd_self7 rfl rfl rfl rfl rfl rfl (vint (by omega)), L, (by omega), B1, B4, B7, (by rw [vRow_succ, ← List.append_assoc, ac_next (ac_far hW.1 hm ha.1)]; exact oA), (by omega)⟩
  ·refine c_end (n_then (c_false rfl ?_))
   refine wp_exit (e_then (e_then (e_here ?_)))
   refine n_block (n_then (c_reg (s0 (xmI rfl) (s0 (x_add rfl rfl (by omega)) (s0 (xaI rfl) (c_end ?_))))))
   exact c_round (g' := j + 1) (by omega) ⟨_, upd_self6 rfl rfl rfl rfl rfl (vint (by omega)), L, (by omega), B1, B4, B7, (by rw [vRows_succ, show (W / 8 - 1).toNat = i by omega]; exact oA), (by omega)⟩
 ·refine c_end (n_then (c_false rfl ?_))
  refine wp_exit (e_then (e_then (e_here ?_)))
  refine n_then (wp_seq (c_reg (st (x_loadAgB ag36 rfl B4 rfl) (s_storeAg rfl sz36 rfl rfl B7 rfl rfl rfl ?_))))
  intro w20 l21 el21 B7
  have z_l21 := l21.size; have L := L.fresh l21 (by omega); have B1 := B1.ne l21 (by omega); have B4 := B4.ne l21 (by omega); have oA := oA.ne l21 (by first|assumption|exact nin_of fA gA (by omega))
  refine c_end (n_then (wp_ret (f_retc rfl rfl ag36 B7 rfl ?_)))
  obtain hje : j = (b - a).toNat := by omega
  rw [hje] at oA
  exact ⟨_, rfl, L, rfl, oA⟩

theorem s_down2 (W H : Int) (pR : Option Addr) (cR : Nat) (pA : Option Addr) (n c : Nat) (xs : List Int) (y q : Int) (l0 : List (Int × Int)) (FA : List Nat) (w : World) (oA : Own w pA n c 3 1 (ic (egs q xs l0)) FA) (hxs : xs.length = n) (hl : n ≤ 1048576) (hW : 8 ≤ W ∧ W ≤ 32) (hm : W % 8 = 0) (hH : H ≤ 32) (hn : (n : Int) = W * H) (hy : 2 ≤ y ∧ y ≤ H - 2) (hl0 : ∀ e ∈ l0, e.2 = W ∧ W ≤ e.1 ∧ e.1 + 2 * W < y * W) (hq : ∀ w2 : World, Exm FA w w2 → Sl w2 pR n cR 1 (ic xs)) :
    Calls Tryz.prog 118 [.agg [.int .i64 W, .int .i64 H, .slice pR n cR].toArray, .agg [.int .i64 W, .int .i64 H, .slice pA n c].toArray, .int .i64 q, .int .i64 y].toArray w (RetM FA w fun v w' => v = .agg [.int .i64 W, .int .i64 H, .slice pA n c].toArray ∧ Own w' pA n c 3 1 (ic (egs q xs (l0 ++ hRow W y W.toNat))) FA) := by
 have fA : Fr 0 FA := fun _ _ => Nat.zero_le _
 have gA := oA.lt; have hnA := oA.n1; have L : Exm FA w w := Exm.rfl'
 refine enter (n := 71) Tryz.func118 rfl rfl rfl ?_
 refine wp_seq (c_reg (s_box rfl rfl ?_))
 intro b1 w2 lob1 hib1 l3 B1
 have z_l3 := l3.size; have L := L.tr l3.up; have oA := oA.ext l3
 refine s_box rfl rfl ?_
 intro b4 w5 lob4 hib4 l6 B4
 have z_l6 := l6.size; have L := L.tr l6.up; have B1 := B1.ext l6; have oA := oA.ext l6
 refine s_alloc zr36 ?_
 intro b7 w8 lob7 hib7 l9 B7
 have z_l9 := l9.size; have L := L.tr l9.up; have B1 := B1.ext l9; have B4 := B4.ext l9; have oA := oA.ext l9
 refine c_end (n_then (wp_seq (c_reg (s0 (x_fieldAddr fa36_0 rfl) (st (x_loadB sc3 rfl B1 rfl) (s0 (xaI rfl) (c_end (n_then (wp_seq (wp_seq (c_reg (s0 (xaI rfl) (c_end ?_)))))))))))))
 refine n_then (wp_block ?_)
 refine c_loop (γ := Nat) (fun i => W.toNat - i) (fun (i : Nat) E wl => ∃ E0, E = upd (upd (upd (upd (upd (upd (upd E0 2 (.int .i64 q)) 3 (.int .i64 y)) 4 (pt b1 0)) 5 (pt b4 0)) 8 (pt b7 0)) 9 (.int .i64 W)) 10 (.int .i64 (i : Int)) ∧ (Exm FA w wl) ∧ (w8.heap.size ≤ wl.heap.size) ∧ (Bx wl b1 [.int .i64 W, .int .i64 H, .slice pR n cR] 36) ∧ (Bx wl b4 [.int .i64 W, .int .i64 H, .slice pA n c] 36) ∧ (Bx wl b7 [.int .i64 0, .int .i64 0, .slice none 0 0] 36) ∧ (Own wl pA n c 3 1 (ic (egs q xs (l0 ++ hRow W y i))) FA) ∧ ((i : Int) ≤ W)) 0 ⟨_, upd_self7 rfl rfl rfl rfl rfl rfl rfl, L, (by omega), B1, B4, B7, (by rw [show hRow W y 0 = [] from rfl, List.append_nil]; exact oA), (by omega)⟩ ?_
 rintro i E wl10 ⟨E0, rfl, L, Lz, B1, B4, B7, oA, hi⟩
 have Lz0 := L.size; have hy2 := rows_in hW hn hy.1 hy.2; have hlen := egs_length q (l0 ++ hRow W y i) xs
 refine wp_seq (wp_seq (c_reg (s0 (xmI rfl) (s0 (xmI rfl) ?_))))
 refine sb (x_lss rfl rfl) (fun h18 => ?_) (fun h18 => ?_)
 ·refine c_end (n_then (c_true rfl (c_skipn (n_then (wp_seq (wp_block (wp_seq (c_reg (s0 (xmI rfl) (s0 (xmI rfl) (s0 (x_mul rfl rfl (by omega)) (s0 (xmI rfl) (s0 (x_add rfl rfl (by omega)) ?_)))))))))))))
  refine s0 (xaI rfl) (c_end (n_then (wp_seq ?_)))
  refine c_plan (fun wq => Exm [] wl10 wq) 34 (.cons (0, 2) (.cons (1, 1) (.cons (2, 2) (.cons (3, 2) (.cons (4, 2) (.cons (5, 2) (.cons (6, 2) (.cons (7, 1) (.cons (8, 2) (.cons (9, 1) (.cons (10, 2) (.cons (11, 2) (.cons (12, 2) (.cons (13, 2) (.cons (14, 1) (.cons (15, 2) (.cons (16, 1) (.cons (17, 2) (.cons (18, 2) (.cons (19, 1) (.cons (20, 2) (.cons (21, 1) (.cons (22, 2) (.cons (23, 2) (.cons (24, 2) (.cons (25, 2) (.cons (26, 1) (.cons (27, 2) (.cons (28, 0) (.cons (29, 2) (.cons (30, 2) (.cons (31, 2) (.cons (32, 2) (.cons (33, 2) .nil)))))))))))))))))))))))))))))))))) (by kernel_rfl) (by kernel_rfl) (Exm.drew _) ?_
  obtain ⟨w11, hwd⟩ : ∃ x, x = wl10.drew := ⟨_, rfl⟩
  have l12 : Ext wl10 w11 := by rw [hwd]; exact Exm.drew _
  rw [← hwd]; clear hwd
  have Lq : Exm [] wl10 w11 := l12.up; have qB1 := B1; have qL := L; have z_l12 := l12.size; have L := L.tr l12.up; have B1 := B1.ext l12; have B4 := B4.ext l12; have B7 := B7.ext l12; have oA := oA.ext l12
  refine p0 rfl (x_fieldAddr fa36_2 rfl) ?_
  refine ps rfl (fun wq hwq => x_loadB sc24 rfl (qB1.ext hwq) rfl) ?_
  refine p0 rfl (xmI rfl) (p0 rfl (xmI rfl) (p0 rfl (x_mul rfl rfl (by omega)) (p0 rfl (x_sub rfl rfl (by omega)) (p0 rfl (x_idx so24 rfl rfl (hq _ L) (by decide) (by omega) (by omega)) ?_))))
  refine ps rfl (fun wq hwq => x_ldi sc3 rfl ((hq _ qL).ext hwq) (by omega) (by omega)) ?_
  refine p0 rfl (x_fieldAddr fa36_2 rfl) ?_
  refine ps rfl (fun wq hwq => x_loadB sc24 rfl (qB1.ext hwq) rfl) ?_
  refine p0 rfl (xmI rfl) (p0 rfl (xmI rfl) (p0 rfl (x_sub rfl rfl (by omega)) (p0 rfl (x_idx so24 rfl rfl (hq _ L) (by decide) (by omega) (by omega)) ?_)))
  refine ps rfl (fun wq hwq => x_ldi sc3 rfl ((hq _ qL).ext hwq) (by omega) (by omega)) ?_
  refine p0 rfl (x_fieldAddr fa36_2 rfl) ?_
  refine ps rfl (fun wq hwq => x_loadB sc24 rfl (qB1.ext hwq) rfl) ?_
  refine p0 rfl (xmI rfl) (p0 rfl (x_idx so24 rfl rfl (hq _ L) (by decide) (by omega) (by omega)) ?_)
  refine ps rfl (fun wq hwq => x_ldi sc3 rfl ((hq _ qL).ext hwq) (by omega) (by omega)) ?_
  refine p0 rfl (x_fieldAddr fa36_2 rfl) ?_
  refine ps rfl (fun wq hwq => x_loadB sc24 rfl (qB1.ext hwq) rfl) ?_
  refine p0 rfl (xmI rfl) (p0 rfl (xmI rfl) (p0 rfl (x_add rfl rfl (by omega)) (p0 rfl (x_idx so24 rfl rfl (hq _ L) (by decide) (by omega) (by omega)) ?_)))
  refine ps rfl (fun wq hwq => x_ldi sc3 rfl ((hq _ qL).ext hwq) (by omega) (by omega)) ?_
  refine p0 rfl (xmI rfl) (pu rfl ?_)
  refine sr (zcall cl173 rfl) (s_edgeOf _ _ _ _ _ _) ?_
  intro w13 l14
  have z_l14 := l14.size; have L := L.tr l14.up; have Lq := Lq.tr l14.up; have B1 := B1.ext l14; have B4 := B4.ext l14; have B7 := B7.ext l14; have oA := oA.ext l14
  refine c_end ⟨rfl, fun h hS => Lq, ?_⟩
  refine p0 rfl (x_move (v := .tuple _) rfl) (p0 rfl (x_extract rfl rfl) (p0 rfl (x_extract rfl rfl) (p0 rfl (xaI rfl) (p0 rfl (xaI rfl) ?_))))
  refine p_nil (np_normal ?_)
  refine n_then (wp_seq (c_reg (s0 (x_fieldAddr fa36_2 rfl) (st (x_loadB sc24 rfl B4 rfl) (s0 (xmI rfl) (s0 (xmI rfl) (s0 (x_sub rfl rfl (by omega)) (s0 (xmI rfl) (s0 (x_idx so24 rfl rfl oA.sl (by decide) (by omega) (by omega)) (s_stoi rfl sz3 rfl rfl oA (by omega) (by omega) ?_))))))))))
  intro w15 l16 el16 oA
  have z_l16 := l16.size; have L := L.withinL l16 (by simp)
  have B1 := B1.exm l16 (by first|assumption|exact nin_of fA gA (by omega))
  have B4 := B4.exm l16 (by first|assumption|exact nin_of fA gA (by omega))
  have B7 := B7.exm l16 (by first|assumption|exact nin_of fA gA (by omega))
  have hnl16 := oA.n1
  refine c_end (n_then (c_reg (s0 (x_fieldAddr fa36_2 rfl) (st (x_loadB sc24 rfl B4 rfl) (s0 (xmI rfl) (s0 (xmI rfl) (s0 (x_idx so24 rfl rfl oA.sl (by decide) (by omega) (by omega)) (s_stoi rfl sz3 rfl rfl oA (by omega) (by omega) ?_))))))))
  intro w17 l18 el18 oA
  have z_l18 := l18.size; have L := L.withinL l18 (by simp)
  have B1 := B1.exm l18 (by first|assumption|exact nin_of fA gA (by omega))
  have B4 := B4.exm l18 (by first|assumption|exact nin_of fA gA (by omega))
  have B7 := B7.exm l18 (by first|assumption|exact nin_of fA gA (by omega))
  have hnl18 := oA.n1
  refine c_end (n_block (n_then (c_reg (s0 (xmI rfl) (s0 (x_add rfl rfl (by omega)) (s0 (xaI rfl) (c_end ?_)))))))
  exact c_round (g' := i + 1) (by omega) ⟨_, upd_self7 rfl rfl rfl rfl rfl rfl (vint (by omega)), L, (by omega), B1, B4, B7, (by rw [hRow_succ, ← List.append_assoc, dn_next (by omega) (by omega) (dn_far hW.1 hy.1 (by omega) hl0)]; exact oA), (by omega)⟩
 ·refine c_end (n_then (c_false rfl ?_))
  refine wp_exit (e_then (e_then (e_here ?_)))
  refine n_then (wp_seq (c_reg (st (x_loadAgB ag36 rfl B4 rfl) (s_storeAg rfl sz36 rfl rfl B7 rfl rfl rfl ?_))))
  intro w19 l20 el20 B7
  have z_l20 := l20.size; have L := L.fresh l20 (by omega); have B1 := B1.ne l20 (by omega); have B4 := B4.ne l20 (by omega); have oA := oA.ne l20 (by first|assumption|exact nin_of fA gA (by omega))
  refine c_end (n_then (wp_ret (f_retc rfl rfl ag36 B7 rfl ?_)))
  obtain hje : i = W.toNat := by omega
  rw [hje] at oA
  exact ⟨_, rfl, L, rfl, oA⟩

theorem s_deblockRef (W H q : Int) (p : Option Addr) (n c : Nat) (xs : List Int) (w : World) (hp : Sl w p n c 1 (ic xs)) (hl : n ≤ 1048576) :
    Calls Tryz.prog 51 [.agg [.int .i64 W, .int .i64 H, .slice p n c].toArray, .int .i64 q].toArray w (RetP w fun v w' => ∃ p' c' F', v = .agg [.int .i64 W, .int .i64 H, .slice p' n c'].toArray ∧ Own w' p' n c' 3 1 (ic (dbOf W H q xs)) F' ∧ Fr w.heap.size F') := by
 have hn0 := hp.n; have L : Exm [] w w := Exm.rfl'
 refine enter (n := 39) Tryz.func51 rfl rfl rfl ?_
 refine wp_seq (c_reg (s_box rfl rfl ?_))
 intro b1 w2 lob1 hib1 l3 B1
 have z_l3 := l3.size; have L := L.tr l3.up
 refine s_alloc zr36 ?_
 intro b4 w5 lob4 hib4 l6 B4
 have z_l6 := l6.size; have L := L.tr l6.up; have B1 := B1.ext l6
 refine c_end (n_then (wp_seq (wp_seq (c_reg (st (x_loadAgB ag36 rfl B1 rfl) ?_)))))
 refine srb (zcall cl11 rfl) (s_frameOk _ _ _ _ _ _ _ (hp.ext L) (by omega)) (fun h9 w7 l8 => ?_) (fun h9 w7 l8 => ?_)
 ·have z_l8 := l8.size
  have L := L.tr l8.up; have B1 := B1.ext l8; have B4 := B4.ext l8
  refine s0 (x_not rfl) (s0 (x_move (v := .bool _) rfl) (gt rfl rfl rfl rfl (s0 (xmI rfl) (gt rfl rfl rfl rfl ?_))))
  refine sr (zcall cl116 rfl) (s_alphaOf _ _) ?_
  intro w9 l10
  have z_l10 := l10.size; have L := L.tr l10.up; have B1 := B1.ext l10; have B4 := B4.ext l10
  refine gt rfl rfl rfl rfl ?_
  refine sb (x_eql rfl rfl) (fun h14 => ?_) (fun h14 => ?_)
  ·refine s0 (x_pickf (v := .bool _) rfl rfl) (c_end (n_then (c_true rfl (wp_seq (c_reg (st (x_loadAgB ag36 rfl B1 rfl) ?_))))))
   refine sp (zcall cl111 rfl) (s_copy _ _ _ _ _ _ _ (hp.ext L) (by omega)) ?_
   rintro v17 w11 l12 ⟨p17, c17, F17, rfl, o17, f17⟩
   have z_l12 := l12.size; have L := L.tr l12.up; have B1 := B1.ext l12; have B4 := B4.ext l12; have g17 := o17.lt
   refine s_storeAg rfl sz36 rfl rfl B4 rfl rfl rfl ?_
   intro w13 l14 el14 B4
   have z_l14 := l14.size; have L := L.fresh l14 (by omega); have B1 := B1.ne l14 (by omega); have o17 := o17.ne l14 (by first|assumption|exact nin_of f17 g17 (by omega))
   refine c_end (n_then ?_)
   refine wp_ret (r_then ?_)
   refine f_retc rfl rfl ag36 B4 rfl ?_
   rw [db_no (fun h => by have := (alpha_pos q).2 h.2; omega)]
   exact ⟨_, rfl, L, _, _, _, rfl, o17, f17.mono (by omega)⟩
  ·refine s0 (x_pickf (v := .bool _) rfl rfl) (c_end (n_then (c_false rfl (c_skipn (n_then (wp_seq ?_))))))
   have hq : fqOk W H q xs := ⟨h9, (alpha_pos q).1 (by have := alpha_range q; omega)⟩
   have hg := fr_geo h9
   refine c_plan (fun wq => Exm [] w9 wq) 9 (.cons (0, 1) (.cons (1, 1) (.cons (3, 2) (.cons (4, 2) (.cons (5, 1) (.fork 2 7 (.fork 6 7 (.cons (7, 0) (.cons (8, 0) .nil)) (.cons (6, 0) (.cons (8, 0) .nil))) (.cons (2, 0) (.cons (6, 0) (.cons (8, 0) .nil))))))))) (by kernel_rfl) (by kernel_rfl) (Exm.drew _) ?_
   obtain ⟨w15, hwd⟩ : ∃ x, x = w9.drew := ⟨_, rfl⟩
   have l16 : Ext w9 w15 := by rw [hwd]; exact Exm.drew _
   rw [← hwd]; clear hwd
   have Lq : Exm [] w9 w15 := l16.up; have qB1 := B1; have z_l16 := l16.size; have L := L.tr l16.up; have B1 := B1.ext l16; have B4 := B4.ext l16
   refine ps rfl (fun wq hwq => x_loadAgB ag36 rfl (qB1.ext hwq) rfl) ?_
   refine ps rfl (fun wq hwq => x_loadAgB ag36 rfl (qB1.ext hwq) rfl) ?_
   refine p0 rfl (xmI rfl) (p0 rfl (x_fieldAddr fa36_1 rfl) ?_)
   refine ps rfl (fun wq hwq => x_loadB sc3 rfl (qB1.ext hwq) rfl) ?_
   refine pfork ?_ ?_
   ·refine pu rfl ?_
    refine sp (zcall cl111 rfl) (s_copy _ _ _ _ _ _ _ (hp.ext L) (by omega)) ?_
    rintro v20 w17 l18 ⟨p20, c20, F20, rfl, o20, f20⟩
    have z_l18 := l18.size; have L := L.tr l18.up; have Lq := Lq.tr l18.up; have B1 := B1.ext l18; have B4 := B4.ext l18; have g20 := o20.lt
    refine c_end ⟨rfl, fun h hS => Lq, ?_⟩
    refine pfork ?_ ?_
    ·refine pu rfl ?_
     refine spm (zcall cl117 rfl) (s_across2 _ _ _ _ _ _ _ _ _ _ _ _ _ o20 (by omega) (by omega) (by omega) (by omega) (by omega) (by omega) (by omega) (fun w2 h => hp.ext (L.freshL h f20 (by omega)))) ?_
     rintro v24 w19 l20 ⟨rfl, o20⟩
     have z_l20 := l20.size; have L := L.freshL l20 f20 (by omega); have Lq := Lq.freshL l20 f20 (by omega); have B1 := B1.exm l20 (by first|assumption|exact nin_of f20 g20 (by omega))
     have B4 := B4.exm l20 (by first|assumption|exact nin_of f20 g20 (by omega))
     refine c_end ⟨rfl, fun h hS => Lq, ?_⟩
     refine pu rfl (s_alloc zr36 ?_)
     intro b21 w22 lob21 hib21 l23 B21
     have z_l23 := l23.size; have L := L.tr l23.up; have Lq := Lq.tr l23.up; have B1 := B1.ext l23; have B4 := B4.ext l23; have o20 := o20.ext l23
     refine c_end ⟨rfl, fun h hS => Lq, ?_⟩
     refine pu rfl (s_storeAg rfl sz36 rfl rfl B21 rfl rfl rfl ?_)
     intro w24 l25 el25 B21
     have z_l25 := l25.size; have L := L.fresh l25 (by omega); have Lq := Lq.fresh l25 (by omega); have B1 := B1.ne l25 (by omega); have B4 := B4.ne l25 (by omega); have o20 := o20.ne l25 (by first|assumption|exact nin_of f20 g20 (by omega))
     refine c_end ⟨rfl, fun h hS => Lq, ?_⟩
     refine p_nil (np_normal ?_)
     refine n_then (wp_seq (c_reg (st (x_loadAgB ag36 rfl B21 rfl) ?_)))
     refine sp (zcall cl111 rfl) (s_copy _ _ _ _ _ _ _ o20.sl (by omega)) ?_
     rintro v26 w26 l27 ⟨p26, c26, F26, rfl, o26, f26⟩
     have z_l27 := l27.size; have L := L.tr l27.up; have B1 := B1.ext l27; have B4 := B4.ext l27; have B21 := B21.ext l27; have o20 := o20.ext l27; have g26 := o26.lt
     refine s_alloc zr36 ?_
     intro b28 w29 lob28 hib28 l30 B28
     have z_l30 := l30.size; have L := L.tr l30.up; have B1 := B1.ext l30; have B4 := B4.ext l30; have B21 := B21.ext l30; have o20 := o20.ext l30; have o26 := o26.ext l30
     refine s_storeAg rfl sz36 rfl rfl B28 rfl rfl rfl ?_
     intro w31 l32 el32 B28
     have z_l32 := l32.size; have L := L.fresh l32 (by omega); have B1 := B1.ne l32 (by omega); have B4 := B4.ne l32 (by omega); have B21 := B21.ne l32 (by omega); have o20 := o20.ne l32 (by first|assumption|exact nin_of f20 g20 (by omega))
     have o26 := o26.ne l32 (by first|assumption|exact nin_of f26 g26 (by omega))
     refine c_end (n_then (wp_seq (wp_seq (c_reg (s0 (xaI rfl) (c_end (n_then (wp_block ?_))))))))
     refine c_loop (γ := Nat) (fun j => (H / 8).toNat - j) (fun (j : Nat) E wl => ∃ E0, E = upd (upd (upd (upd (upd (upd E0 1 (.int .i64 q)) 2 (pt b1 0)) 4 (pt b4 0)) 5 (pt b21 0)) 6 (pt b28 0)) 7 (.int .i64 (8 * ((j : Int) + 1))) ∧ (Exm [] w wl) ∧ (w31.heap.size ≤ wl.heap.size) ∧ (Bx wl b1 [.int .i64 W, .int .i64 H, .slice p n c] 36) ∧ (Bx wl b4 [.int .i64 0, .int .i64 0, .slice none 0 0] 36) ∧ (Bx wl b21 [.int .i64 W, .int .i64 H, .slice p20 n c20] 36) ∧ (Bx wl b28 [.int .i64 W, .int .i64 H, .slice p26 n c26] 36) ∧ (Own wl p20 n c20 3 1 (ic (egs q xs (vRows W 0 (H - 0).toNat))) F20) ∧ (Own wl p26 n c26 3 1 (ic (egs q (egs q xs (vRows W 0 (H - 0).toNat)) (hRows W j))) F26) ∧ (8 * ((j : Int) + 1) ≤ H)) 0 ⟨_, upd_self6 rfl rfl rfl rfl rfl rfl, L, (by omega), B1, B4, B21, B28, o20, o26, (by omega)⟩ ?_
     rintro j E wl33 ⟨E0, rfl, L, Lz, B1, B4, B21, B28, o20, o26, hj⟩
     have Lz0 := L.size
     refine wp_seq (wp_seq (c_reg (s0 (xmI rfl) (s0 (x_fieldAddr fa36_1 rfl) (st (x_loadB sc3 rfl B1 rfl) ?_)))))
     refine sb (x_lss rfl rfl) (fun h30 => ?_) (fun h30 => ?_)
     ·refine c_end (n_then (c_true rfl (c_skipn (n_then (wp_seq (wp_block ?_))))))
      have hgl : (egs q xs (vRows W 0 (H - 0).toNat)).length = n := by rw [egs_length]; omega
      refine c_reg (st (x_loadAgB ag36 rfl B21 rfl) (st (x_loadAgB ag36 rfl B28 rfl) (s0 (xmI rfl) (s0 (xmI rfl) ?_))))
      refine spm (zcall cl118 rfl) (s_down2 _ _ _ _ _ _ _ (egs q xs (vRows W 0 (H - 0).toNat)) _ _ (hRows W j) _ _ o26 (by omega) (by omega) (by omega) (by omega) (by omega) (by omega) ⟨by omega, by omega⟩ (hr_far (by omega)) (fun w2 h => (o20.exm h (by first|assumption|exact Dj.symm (by assumption)|exact dj_of f26 g26 f20 g20 (by omega))).sl)) ?_
      rintro v37 w34 l35 ⟨rfl, o26⟩
      have z_l35 := l35.size; have L := L.freshL l35 f26 (by omega); have B1 := B1.exm l35 (by first|assumption|exact nin_of f26 g26 (by omega))
      have B4 := B4.exm l35 (by first|assumption|exact nin_of f26 g26 (by omega))
      have B21 := B21.exm l35 (by first|assumption|exact nin_of f26 g26 (by omega))
      have B28 := B28.exm l35 (by first|assumption|exact nin_of f26 g26 (by omega))
      have o20 := o20.exm l35 (by first|assumption|exact Dj.symm (by assumption)|exact dj_of f26 g26 f20 g20 (by omega))
      refine s_storeAg rfl sz36 rfl rfl B28 rfl rfl rfl ?_
      intro w36 l37 el37 B28
      have z_l37 := l37.size; have L := L.fresh l37 (by omega); have B1 := B1.ne l37 (by omega); have B4 := B4.ne l37 (by omega); have B21 := B21.ne l37 (by omega); have o20 := o20.ne l37 (by first|assumption|exact nin_of f20 g20 (by omega))
      have o26 := o26.ne l37 (by first|assumption|exact nin_of f26 g26 (by omega))
      refine c_end (n_block (n_then (c_reg (s0 (xmI rfl) (s0 (x_add rfl rfl (by omega)) (s0 (xaI rfl) (c_end ?_)))))))
      exact c_round (g' := j + 1) (by omega) ⟨_, upd_self6 rfl rfl rfl rfl rfl (vint (by omega)), L, (by omega), B1, B4, B21, B28, o20, (by rw [hRows_succ]; exact o26), (by omega)⟩
     ·refine c_end (n_then (c_false rfl ?_))
      refine wp_exit (e_then (e_then (e_here ?_)))
      refine n_then (wp_seq (c_reg (st (x_loadAgB ag36 rfl B28 rfl) (s_storeAg rfl sz36 rfl rfl B4 rfl rfl rfl ?_))))
      intro w38 l39 el39 B4
      have z_l39 := l39.size; have L := L.fresh l39 (by omega); have B1 := B1.ne l39 (by omega); have B21 := B21.ne l39 (by omega); have B28 := B28.ne l39 (by omega); have o20 := o20.ne l39 (by first|assumption|exact nin_of f20 g20 (by omega))
      have o26 := o26.ne l39 (by first|assumption|exact nin_of f26 g26 (by omega))
      refine c_end (n_then (wp_ret (f_retc rfl rfl ag36 B4 rfl ?_)))
      rw [← db_impl hq (j := j) (by omega)]
      exact ⟨_, rfl, L, _, _, _, rfl, o26, f26.mono (by omega)⟩
    ·refine pu rfl (s_alloc zr36 ?_)
     intro b40 w41 lob40 hib40 l42 B40
     have z_l42 := l42.size; have L := L.tr l42.up; have Lq := Lq.tr l42.up; have B1 := B1.ext l42; have B4 := B4.ext l42; have o20 := o20.ext l42
     refine c_end ⟨rfl, fun h hS => Lq, ?_⟩
     refine pu rfl ?_
     refine spm (zcall cl117 rfl) (s_across2 _ _ _ _ _ _ _ _ _ _ _ _ _ o20 (by omega) (by omega) (by omega) (by omega) (by omega) (by omega) (by omega) (fun w2 h => hp.ext (L.freshL h f20 (by omega)))) ?_
     rintro v24 w43 l44 ⟨rfl, o20⟩
     have z_l44 := l44.size; have L := L.freshL l44 f20 (by omega); have Lq := Lq.freshL l44 f20 (by omega); have B1 := B1.exm l44 (by first|assumption|exact nin_of f20 g20 (by omega))
     have B4 := B4.exm l44 (by first|assumption|exact nin_of f20 g20 (by omega))
     have B40 := B40.exm l44 (by first|assumption|exact nin_of f20 g20 (by omega))
     refine c_end ⟨rfl, fun h hS => Lq, ?_⟩
     refine pu rfl (s_storeAg rfl sz36 rfl rfl B40 rfl rfl rfl ?_)
     intro w45 l46 el46 B40
     have z_l46 := l46.size; have L := L.fresh l46 (by omega); have Lq := Lq.fresh l46 (by omega); have B1 := B1.ne l46 (by omega); have B4 := B4.ne l46 (by omega); have o20 := o20.ne l46 (by first|assumption|exact nin_of f20 g20 (by omega))
     refine c_end ⟨rfl, fun h hS => Lq, ?_⟩
     refine p_nil (np_normal ?_)
     refine n_then (wp_seq (c_reg (st (x_loadAgB ag36 rfl B40 rfl) ?_)))
     refine sp (zcall cl111 rfl) (s_copy _ _ _ _ _ _ _ o20.sl (by omega)) ?_
     rintro v26 w47 l48 ⟨p26, c26, F26, rfl, o26, f26⟩
     have z_l48 := l48.size; have L := L.tr l48.up; have B1 := B1.ext l48; have B4 := B4.ext l48; have B40 := B40.ext l48; have o20 := o20.ext l48; have g26 := o26.lt
     refine s_alloc zr36 ?_
     intro b49 w50 lob49 hib49 l51 B49
     have z_l51 := l51.size; have L := L.tr l51.up; have B1 := B1.ext l51; have B4 := B4.ext l51; have B40 := B40.ext l51; have o20 := o20.ext l51; have o26 := o26.ext l51
     refine s_storeAg rfl sz36 rfl rfl B49 rfl rfl rfl ?_
     intro w52 l53 el53 B49
     have z_l53 := l53.size; have L := L.fresh l53 (by omega); have B1 := B1.ne l53 (by omega); have B4 := B4.ne l53 (by omega); have B40 := B40.ne l53 (by omega); have o20 := o20.ne l53 (by first|assumption|exact nin_of f20 g20 (by omega))
     have o26 := o26.ne l53 (by first|assumption|exact nin_of f26 g26 (by omega))
     refine c_end (n_then (wp_seq (wp_seq (c_reg (s0 (xaI rfl) (c_end (n_then (wp_block ?_))))))))
     refine c_loop (γ := Nat) (fun j => (H / 8).toNat - j) (fun (j : Nat) E wl => ∃ E0, E = upd (upd (upd (upd (upd (upd E0 1 (.int .i64 q)) 2 (pt b1 0)) 4 (pt b4 0)) 5 (pt b40 0)) 6 (pt b49 0)) 7 (.int .i64 (8 * ((j : Int) + 1))) ∧ (Exm [] w wl) ∧ (w52.heap.size ≤ wl.heap.size) ∧ (Bx wl b1 [.int .i64 W, .int .i64 H, .slice p n c] 36) ∧ (Bx wl b4 [.int .i64 0, .int .i64 0, .slice none 0 0] 36) ∧ (Bx wl b40 [.int .i64 W, .int .i64 H, .slice p20 n c20] 36) ∧ (Bx wl b49 [.int .i64 W, .int .i64 H, .slice p26 n c26] 36) ∧ (Own wl p20 n c20 3 1 (ic (egs q xs (vRows W 0 (H - 0).toNat))) F20) ∧ (Own wl p26 n c26 3 1 (ic (egs q (egs q xs (vRows W 0 (H - 0).toNat)) (hRows W j))) F26) ∧ (8 * ((j : Int) + 1) ≤ H)) 0 ⟨_, upd_self6 rfl rfl rfl rfl rfl rfl, L, (by omega), B1, B4, B40, B49, o20, o26, (by omega)⟩ ?_
     rintro j E wl54 ⟨E0, rfl, L, Lz, B1, B4, B40, B49, o20, o26, hj⟩
     have Lz0 := L.size
     refine wp_seq (wp_seq (c_reg (s0 (xmI rfl) (s0 (x_fieldAddr fa36_1 rfl) (st (x_loadB sc3 rfl B1 rfl) ?_)))))
     refine sb (x_lss rfl rfl) (fun h30 => ?_) (fun h30 => ?_)
     ·refine c_end (n_then (c_true rfl (c_skipn (n_then (wp_seq (wp_block ?_))))))
      have hgl : (egs q xs (vRows W 0 (H - 0).toNat)).length = n := by rw [egs_length]; omega
      refine c_reg (st (x_loadAgB ag36 rfl B40 rfl) (st (x_loadAgB ag36 rfl B49 rfl) (s0 (xmI rfl) (s0 (xmI rfl) ?_))))
      refine spm (zcall cl118 rfl) (s_down2 _ _ _ _ _ _ _ (egs q xs (vRows W 0 (H - 0).toNat)) _ _ (hRows W j) _ _ o26 (by omega) (by omega) (by omega) (by omega) (by omega) (by omega) ⟨by omega, by omega⟩ (hr_far (by omega)) (fun w2 h => (o20.exm h (by first|assumption|exact Dj.symm (by assumption)|exact dj_of f26 g26 f20 g20 (by omega))).sl)) ?_
      rintro v37 w55 l56 ⟨rfl, o26⟩
      have z_l56 := l56.size; have L := L.freshL l56 f26 (by omega); have B1 := B1.exm l56 (by first|assumption|exact nin_of f26 g26 (by omega))
      have B4 := B4.exm l56 (by first|assumption|exact nin_of f26 g26 (by omega))
      have B40 := B40.exm l56 (by first|assumption|exact nin_of f26 g26 (by omega))
      have B49 := B49.exm l56 (by first|assumption|exact nin_of f26 g26 (by omega))
      have o20 := o20.exm l56 (by first|assumption|exact Dj.symm (by assumption)|exact dj_of f26 g26 f20 g20 (by omega))
      refine s_storeAg rfl sz36 rfl rfl B49 rfl rfl rfl ?_
      intro w57 l58 el58 B49
      have z_l58 := l58.size; have L := L.fresh l58 (by omega); have B1 := B1.ne l58 (by omega); have B4 := B4.ne l58 (by omega); have B40 := B40.ne l58 (by omega); have o20 := o20.ne l58 (by first|assumption|exact nin_of f20 g20 (by omega))
      have o26 := o26.ne l58 (by first|assumption|exact nin_of f26 g26 (by omega))
      refine c_end (n_block (n_then (c_reg (s0 (xmI rfl) (s0 (x_add rfl rfl (by omega)) (s0 (xaI rfl) (c_end ?_)))))))
      exact c_round (g' := j + 1) (by omega) ⟨_, upd_self6 rfl rfl rfl rfl rfl (vint (by omega)), L, (by omega), B1, B4, B40, B49, o20, (by rw [hRows_succ]; exact o26), (by omega)⟩
     ·refine c_end (n_then (c_false rfl ?_))
      refine wp_exit (e_then (e_then (e_here ?_)))
      refine n_then (wp_seq (c_reg (st (x_loadAgB ag36 rfl B49 rfl) (s_storeAg rfl sz36 rfl rfl B4 rfl rfl rfl ?_))))
      intro w59 l60 el60 B4
      have z_l60 := l60.size; have L := L.fresh l60 (by omega); have B1 := B1.ne l60 (by omega); have B40 := B40.ne l60 (by omega); have B49 := B49.ne l60 (by omega); have o20 := o20.ne l60 (by first|assumption|exact nin_of f20 g20 (by omega))
      have o26 := o26.ne l60 (by first|assumption|exact nin_of f26 g26 (by omega))
      refine c_end (n_then (wp_ret (f_retc rfl rfl ag36 B4 rfl ?_)))
      rw [← db_impl hq (j := j) (by omega)]
      exact ⟨_, rfl, L, _, _, _, rfl, o26, f26.mono (by omega)⟩
   ·refine pu rfl (s_alloc zr36 ?_)
    intro b61 w62 lob61 hib61 l63 B61
    have z_l63 := l63.size; have L := L.tr l63.up; have Lq := Lq.tr l63.up; have B1 := B1.ext l63; have B4 := B4.ext l63
    refine c_end ⟨rfl, fun h hS => Lq, ?_⟩
    refine pu rfl ?_
    refine sp (zcall cl111 rfl) (s_copy _ _ _ _ _ _ _ (hp.ext L) (by omega)) ?_
    rintro v20 w64 l65 ⟨p20, c20, F20, rfl, o20, f20⟩
    have z_l65 := l65.size; have L := L.tr l65.up; have Lq := Lq.tr l65.up; have B1 := B1.ext l65; have B4 := B4.ext l65; have B61 := B61.ext l65; have g20 := o20.lt
    refine c_end ⟨rfl, fun h hS => Lq, ?_⟩
    refine pu rfl ?_
    refine spm (zcall cl117 rfl) (s_across2 _ _ _ _ _ _ _ _ _ _ _ _ _ o20 (by omega) (by omega) (by omega) (by omega) (by omega) (by omega) (by omega) (fun w2 h => hp.ext (L.freshL h f20 (by omega)))) ?_
    rintro v24 w66 l67 ⟨rfl, o20⟩
    have z_l67 := l67.size; have L := L.freshL l67 f20 (by omega); have Lq := Lq.freshL l67 f20 (by omega); have B1 := B1.exm l67 (by first|assumption|exact nin_of f20 g20 (by omega))
    have B4 := B4.exm l67 (by first|assumption|exact nin_of f20 g20 (by omega))
    have B61 := B61.exm l67 (by first|assumption|exact nin_of f20 g20 (by omega))
    refine c_end ⟨rfl, fun h hS => Lq, ?_⟩
    refine pu rfl (s_storeAg rfl sz36 rfl rfl B61 rfl rfl rfl ?_)
    intro w68 l69 el69 B61
    have z_l69 := l69.size; have L := L.fresh l69 (by omega); have Lq := Lq.fresh l69 (by omega); have B1 := B1.ne l69 (by omega); have B4 := B4.ne l69 (by omega); have o20 := o20.ne l69 (by first|assumption|exact nin_of f20 g20 (by omega))
    refine c_end ⟨rfl, fun h hS => Lq, ?_⟩
    refine p_nil (np_normal ?_)
    refine n_then (wp_seq (c_reg (st (x_loadAgB ag36 rfl B61 rfl) ?_)))
    refine sp (zcall cl111 rfl) (s_copy _ _ _ _ _ _ _ o20.sl (by omega)) ?_
    rintro v26 w70 l71 ⟨p26, c26, F26, rfl, o26, f26⟩
    have z_l71 := l71.size; have L := L.tr l71.up; have B1 := B1.ext l71; have B4 := B4.ext l71; have B61 := B61.ext l71; have o20 := o20.ext l71; have g26 := o26.lt
    refine s_alloc zr36 ?_
    intro b72 w73 lob72 hib72 l74 B72
    have z_l74 := l74.size; have L := L.tr l74.up; have B1 := B1.ext l74; have B4 := B4.ext l74; have B61 := B61.ext l74; have o20 := o20.ext l74; have o26 := o26.ext l74
    refine s_storeAg rfl sz36 rfl rfl B72 rfl rfl rfl ?_
    intro w75 l76 el76 B72
    have z_l76 := l76.size; have L := L.fresh l76 (by omega); have B1 := B1.ne l76 (by omega); have B4 := B4.ne l76 (by omega); have B61 := B61.ne l76 (by omega); have o20 := o20.ne l76 (by first|assumption|exact nin_of f20 g20 (by omega))
    have o26 := o26.ne l76 (by first|assumption|exact nin_of f26 g26 (by omega))
    refine c_end (n_then (wp_seq (wp_seq (c_reg (s0 (xaI rfl) (c_end (n_then (wp_block ?_))))))))
    refine c_loop (γ := Nat) (fun j => (H / 8).toNat - j) (fun (j : Nat) E wl => ∃ E0, E = upd (upd (upd (upd (upd (upd E0 1 (.int .i64 q)) 2 (pt b1 0)) 4 (pt b4 0)) 5 (pt b61 0)) 6 (pt b72 0)) 7 (.int .i64 (8 * ((j : Int) + 1))) ∧ (Exm [] w wl) ∧ (w75.heap.size ≤ wl.heap.size) ∧ (Bx wl b1 [.int .i64 W, .int .i64 H, .slice p n c] 36) ∧ (Bx wl b4 [.int .i64 0, .int .i64 0, .slice none 0 0] 36) ∧ (Bx wl b61 [.int .i64 W, .int .i64 H, .slice p20 n c20] 36) ∧ (Bx wl b72 [.int .i64 W, .int .i64 H, .slice p26 n c26] 36) ∧ (Own wl p20 n c20 3 1 (ic (egs q xs (vRows W 0 (H - 0).toNat))) F20) ∧ (Own wl p26 n c26 3 1 (ic (egs q (egs q xs (vRows W 0 (H - 0).toNat)) (hRows W j))) F26) ∧ (8 * ((j : Int) + 1) ≤ H)) 0 ⟨_, upd_self6 rfl rfl rfl rfl rfl rfl, L, (by omega), B1, B4, B61, B72, o20, o26, (by omega)⟩ ?_
    rintro j E wl77 ⟨E0, rfl, L, Lz, B1, B4, B61, B72, o20, o26, hj⟩
    have Lz0 := L.size
    refine wp_seq (wp_seq (c_reg (s0 (xmI rfl) (s0 (x_fieldAddr fa36_1 rfl) (st (x_loadB sc3 rfl B1 rfl) ?_)))))
    refine sb (x_lss rfl rfl) (fun h30 => ?_) (fun h30 => ?_)
    ·refine c_end (n_then (c_true rfl (c_skipn (n_then (wp_seq (wp_block ?_))))))
     have hgl : (egs q xs (vRows W 0 (H - 0).toNat)).length = n := by rw [egs_length]; omega
     refine c_reg (st (x_loadAgB ag36 rfl B61 rfl) (st (x_loadAgB ag36 rfl B72 rfl) (s0 (xmI rfl) (s0 (xmI rfl) ?_))))
     refine spm (zcall cl118 rfl) (s_down2 _ _ _ _ _ _ _ (egs q xs (vRows W 0 (H - 0).toNat)) _ _ (hRows W j) _ _ o26 (by omega) (by omega) (by omega) (by omega) (by omega) (by omega) ⟨by omega, by omega⟩ (hr_far (by omega)) (fun w2 h => (o20.exm h (by first|assumption|exact Dj.symm (by assumption)|exact dj_of f26 g26 f20 g20 (by omega))).sl)) ?_
     rintro v37 w78 l79 ⟨rfl, o26⟩
     have z_l79 := l79.size; have L := L.freshL l79 f26 (by omega); have B1 := B1.exm l79 (by first|assumption|exact nin_of f26 g26 (by omega))
     have B4 := B4.exm l79 (by first|assumption|exact nin_of f26 g26 (by omega))
     have B61 := B61.exm l79 (by first|assumption|exact nin_of f26 g26 (by omega))
     have B72 := B72.exm l79 (by first|assumption|exact nin_of f26 g26 (by omega))
     have o20 := o20.exm l79 (by first|assumption|exact Dj.symm (by assumption)|exact dj_of f26 g26 f20 g20 (by omega))
     refine s_storeAg rfl sz36 rfl rfl B72 rfl rfl rfl ?_
     intro w80 l81 el81 B72
     have z_l81 := l81.size; have L := L.fresh l81 (by omega); have B1 := B1.ne l81 (by omega); have B4 := B4.ne l81 (by omega); have B61 := B61.ne l81 (by omega); have o20 := o20.ne l81 (by first|assumption|exact nin_of f20 g20 (by omega))
     have o26 := o26.ne l81 (by first|assumption|exact nin_of f26 g26 (by omega))
     refine c_end (n_block (n_then (c_reg (s0 (xmI rfl) (s0 (x_add rfl rfl (by omega)) (s0 (xaI rfl) (c_end ?_)))))))
     exact c_round (g' := j + 1) (by omega) ⟨_, upd_self6 rfl rfl rfl rfl rfl (vint (by omega)), L, (by omega), B1, B4, B61, B72, o20, (by rw [hRows_succ]; exact o26), (by omega)⟩
    ·refine c_end (n_then (c_false rfl ?_))
     refine wp_exit (e_then (e_then (e_here ?_)))
     refine n_then (wp_seq (c_reg (st (x_loadAgB ag36 rfl B72 rfl) (s_storeAg rfl sz36 rfl rfl B4 rfl rfl rfl ?_))))
     intro w82 l83 el83 B4
     have z_l83 := l83.size; have L := L.fresh l83 (by omega); have B1 := B1.ne l83 (by omega); have B61 := B61.ne l83 (by omega); have B72 := B72.ne l83 (by omega); have o20 := o20.ne l83 (by first|assumption|exact nin_of f20 g20 (by omega))
     have o26 := o26.ne l83 (by first|assumption|exact nin_of f26 g26 (by omega))
     refine c_end (n_then (wp_ret (f_retc rfl rfl ag36 B4 rfl ?_)))
     rw [← db_impl hq (j := j) (by omega)]
     exact ⟨_, rfl, L, _, _, _, rfl, o26, f26.mono (by omega)⟩
 ·have z_l8 := l8.size
  have L := L.tr l8.up; have B1 := B1.ext l8; have B4 := B4.ext l8
  refine s0 (x_not rfl) (s0 (x_move (v := .bool _) rfl) (gf rfl rfl rfl rfl (gf rfl rfl rfl rfl (gf rfl rfl rfl rfl (s0 (x_pickt (v := .bool _) rfl rfl) (c_end (n_then (c_true rfl (wp_seq (c_reg (st (x_loadAgB ag36 rfl B1 rfl) ?_)))))))))))
  refine sp (zcall cl111 rfl) (s_copy _ _ _ _ _ _ _ (hp.ext L) (by omega)) ?_
  rintro v17 w84 l85 ⟨p17, c17, F17, rfl, o17, f17⟩
  have z_l85 := l85.size; have L := L.tr l85.up; have B1 := B1.ext l85; have B4 := B4.ext l85; have g17 := o17.lt
  refine s_storeAg rfl sz36 rfl rfl B4 rfl rfl rfl ?_
  intro w86 l87 el87 B4
  have z_l87 := l87.size; have L := L.fresh l87 (by omega); have B1 := B1.ne l87 (by omega); have o17 := o17.ne l87 (by first|assumption|exact nin_of f17 g17 (by omega))
  refine c_end (n_then ?_)
  refine wp_ret (r_then ?_)
  refine f_retc rfl rfl ag36 B4 rfl ?_
  rw [db_no (fun h => h9 h.1)]
  exact ⟨_, rfl, L, _, _, _, rfl, o17, f17.mono (by omega)⟩

theorem s_spot (a b q : Int) (y z : Bool) (pA : Option Addr) (nA cA : Nat) (i k : Nat) (e : Bool) (w : World) (ha : 8 ≤ a ∧ a ≤ 32) (hi : i ≤ 1024) (hk : (k : Int) < manyOf e) :
    Calls Tryz.prog 48 [.agg [.int .i64 a, .int .i64 b, .int .i64 q, .bool y, .bool z, .slice pA nA cA].toArray, .int .i64 (i : Int), .int .i64 (k : Int), .int .i64 (side e)].toArray w (Ret w (.tuple [.int .i64 (spX a i k), .int .i64 (spY a i k)].toArray)) := by
 have hsk : (side e = 8 ∧ (k : Int) = 0) ∨ (side e = 4 ∧ (k : Int) ≤ 3) := by cases e; exact .inr ⟨rfl, by simp [manyOf] at hk; omega⟩; exact .inl ⟨rfl, by simp [manyOf] at hk; omega⟩
 have L : Exm [] w w := Exm.rfl'
 refine enter (n := 40) Tryz.func48 rfl rfl rfl ?_
 refine wp_seq (c_reg (s_box rfl rfl ?_))
 intro b1 w2 lob1 hib1 l3 B1
 have z_l3 := l3.size; have L := L.tr l3.up
 refine s0 (xaI rfl) (s0 (xaI rfl) (c_end (n_then (wp_seq ?_))))
 have hr1 := Int.emod_nonneg (i : Int) (show a / 8 ≠ 0 by omega)
 have hr2 := Int.emod_lt_of_pos (i : Int) (show 0 < a / 8 by omega)
 have hr3 : 0 ≤ (i : Int) / (a / 8) := Int.ediv_nonneg (by omega) (by omega); have hr4 : (i : Int) / (a / 8) ≤ i := Int.ediv_le_self (a / 8) (by omega)
 refine c_reg (s0 (xmI rfl) (s0 (x_fieldAddr fa26_0 rfl) (st (x_loadB sc3 rfl B1 rfl) (s0 (x_quo rfl rfl (by omega) (by omega)) (s0 (x_rem rfl rfl (by omega) (by omega)) (s0 (x_mul rfl rfl (by omega)) (s0 (xaI rfl) (c_end (n_then (wp_seq (c_reg (s0 (xmI rfl) (s0 (x_fieldAddr fa26_0 rfl) ?_)))))))))))))
 refine st (x_loadB sc3 rfl B1 rfl) (s0 (x_quo rfl rfl (by omega) (by omega)) (s0 (x_quo rfl rfl (by omega) (by omega)) (s0 (x_mul rfl rfl (by omega)) (s0 (xaI rfl) (c_end (n_then (wp_seq ?_)))))))
 refine c_plan (fun wq => Exm [] w2 wq) 18 (.cons (0, 2) (.cons (1, 2) (.cons (2, 2) (.cons (3, 2) (.cons (4, 2) (.cons (5, 2) (.cons (6, 2) (.cons (7, 2) (.cons (8, 2) (.cons (9, 2) (.cons (10, 2) (.cons (11, 2) (.cons (12, 2) (.cons (13, 2) (.cons (14, 2) (.cons (15, 2) (.cons (16, 2) (.cons (17, 2) .nil)))))))))))))))))) (by kernel_rfl) (by kernel_rfl) (Exm.drew _) ?_
 obtain ⟨w4, hwd⟩ : ∃ x, x = w2.drew := ⟨_, rfl⟩
 have l5 : Ext w2 w4 := by rw [hwd]; exact Exm.drew _
 rw [← hwd]; clear hwd
 have Lq : Exm [] w2 w4 := l5.up; have z_l5 := l5.size; have L := L.tr l5.up
 refine p0 rfl (xmI rfl) (p0 rfl (xmI rfl) (p0 rfl (xmI rfl) ?_))
 refine p0 rfl (x_quoe (if side e = 8 then 1 else 2) rfl rfl (by rcases hsk with h | h <;> rw [h.1] <;> decide)) ?_
 refine p0 rfl (x_rem rfl rfl (by omega) (by split <;> omega)) ?_
 refine p0 rfl (xmI rfl) ?_
 refine p0 rfl (x_mule ((k : Int) % 2 * 4) rfl rfl (by rcases hsk with h | h <;> rw [h.1]; (rw [h.2]; decide); rfl) (by omega)) ?_
 refine p0 rfl (x_add rfl rfl (by omega)) (p0 rfl (xmI rfl) (p0 rfl (xmI rfl) (p0 rfl (xmI rfl) ?_)))
 refine p0 rfl (x_quoe (if side e = 8 then 1 else 2) rfl rfl (by rcases hsk with h | h <;> rw [h.1] <;> decide)) ?_
 refine p0 rfl (x_quo rfl rfl (by omega) (by split <;> omega)) ?_
 refine p0 rfl (xmI rfl) ?_
 refine p0 rfl (x_mule ((k : Int) / 2 * 4) rfl rfl (by rcases hsk with h | h <;> rw [h.1]; (rw [h.2]; decide); rfl) (by omega)) ?_
 refine p0 rfl (x_add rfl rfl (by omega)) (p0 rfl (xaI rfl) (p0 rfl (xaI rfl) ?_))
 refine p_nil (np_normal ?_)
 refine n_then (wp_ret (f_rets2 rfl (ro_tmp rfl) (ro_tmp rfl) ?_))
 exact ⟨rfl, L⟩

set_option maxHeartbeats 4000000 in
theorem s_buildRef_t (a b q : Int) (y : Bool) (r : Option Addr) (xs : List Int) (e : Nat) (p : Option Addr) (ms : List Mk) (c : Nat) (w : World) (hx : Sl w r xs.length e 1 (ic xs)) (hp : RdMs w p ms c) (hl0 : xs.length ≤ 1099511627776) (hl : ms.length ≤ 1099511627776) (hb : ∀ m ∈ ms, smallM 1099511627776 m) :
    Calls Tryz.prog 18 [.agg [.int .i64 a, .int .i64 b, .int .i64 q, .bool y, .bool true, .slice r xs.length e, .slice p ms.length c].toArray].toArray w (RetP w fun v w' => ∃ (p : Option Addr) (c : Nat) (F : List Nat), v = .agg [.int .i64 (brS a b q xs (ms.map Mk.pl) a), .int .i64 (brS a b q xs (ms.map Mk.pl) b), .slice p (brX a b q y true xs (ms.map Mk.pl)).length c].toArray ∧ Own w' p (brX a b q y true xs (ms.map Mk.pl)).length c 3 1 (ic (brX a b q y true xs (ms.map Mk.pl))) F ∧ Fr w.heap.size F) := by
 have L : Exm [] w w := Exm.rfl'
 refine enter (n := 79) Tryz.func18 rfl rfl rfl ?_
 refine wp_seq (c_reg (s_box rfl rfl ?_))
 intro b1 w2 lob1 hib1 l3 B1
 have z_l3 := l3.size; have L := L.tr l3.up
 refine s_alloc zr36 ?_
 intro b4 w5 lob4 hib4 l6 B4
 have z_l6 := l6.size; have L := L.tr l6.up; have B1 := B1.ext l6
 refine c_end (n_then (wp_seq (wp_seq (c_reg (st (x_loadAgB ag29 rfl B1 rfl) ?_)))))
 refine srb (zcall cl9 rfl) (s_streamOk _ _ _ _ _ _ _ _ _ _ _ _ (hx.ext L) (hp.ext L) (by omega) (by omega) (by assumption)) (fun h9 w7 l8 => ?_) (fun h9 w7 l8 => ?_)
 ·have z_l8 := l8.size
  have L := L.tr l8.up; have B1 := B1.ext l8; have B4 := B4.ext l8
  refine s0 (x_not rfl) (c_end (n_then (c_false rfl (c_skipn (n_then (wp_seq ?_))))))
  have hso := stream_iff.1 h9; have hsd : sidesOk a b := hso.1.1; have hsm := sides_mul hsd; have hmr := many_range hsd; have hW : 8 ≤ a ∧ a ≤ 32 := hsd.1
  refine c_reg (s0 (x_fieldAddr fa29_0 rfl) (s0 (x_fieldAddr fa26_0 rfl) (st (x_loadB sc3 rfl B1 rfl) (s0 (x_fieldAddr fa29_0 rfl) (s0 (x_fieldAddr fa26_1 rfl) (st (x_loadB sc3 rfl B1 rfl) ?_))))))
  refine sp (zcall cl47 rfl) (s_frameNew _ _ _ hsd) ?_
  rintro v18 w9 l10 ⟨p18, c18, F18, rfl, o18, f18⟩
  have z_l10 := l10.size; have L := L.tr l10.up; have B1 := B1.ext l10; have B4 := B4.ext l10; have g18 := o18.lt
  refine s_alloc zr36 ?_
  intro b11 w12 lob11 hib11 l13 B11
  have z_l13 := l13.size; have L := L.tr l13.up; have B1 := B1.ext l13; have B4 := B4.ext l13; have o18 := o18.ext l13
  refine s_storeAg rfl sz36 rfl rfl B11 rfl rfl rfl ?_
  intro w14 l15 el15 B11
  have z_l15 := l15.size; have L := L.fresh l15 (by omega); have B1 := B1.ne l15 (by omega); have B4 := B4.ne l15 (by omega); have o18 := o18.ne l15 (by first|assumption|exact nin_of f18 g18 (by omega))
  refine c_end (n_then (wp_seq (wp_seq (c_reg (s0 (xaI rfl) (c_end (n_then (wp_block ?_))))))))
  refine c_loop (γ := Nat) (fun i => ms.length - i) (fun (i : Nat) E wl => ∃ E0 pz900 cz900 Fz900, E = upd (upd (upd (upd E0 1 (pt b1 0)) 2 (pt b4 0)) 3 (pt b11 0)) 4 (.int .i64 (i : Int)) ∧ (Exm [] w wl) ∧ (w14.heap.size ≤ wl.heap.size) ∧ (Bx wl b1 [.int .i64 a, .int .i64 b, .int .i64 q, .bool y, .bool true, .slice r xs.length e, .slice p ms.length c] 29) ∧ (Bx wl b4 [.int .i64 0, .int .i64 0, .slice none 0 0] 36) ∧ (Bx wl b11 [.int .i64 a, .int .i64 b, .slice pz900 (bldM a b q y (ms.map Mk.pl) i).length cz900] 36) ∧ (Own wl pz900 (((bldM a b q y (ms.map Mk.pl) i)).length) cz900 3 1 (ic ((bldM a b q y (ms.map Mk.pl) i))) Fz900) ∧ (Fr (w7.heap.size) Fz900) ∧ (Lt Fz900 wl.heap.size) ∧ (b1 ∉ Fz900) ∧ (b4 ∉ Fz900) ∧ (b11 ∉ Fz900) ∧ ((i : Int) ≤ ms.length)) 0 ⟨_, _, _, _, upd_self4 rfl rfl rfl rfl, L, (by omega), B1, B4, (bx_s2 (bldM_length a b q y (ms.map Mk.pl) 0).symm B11), (ownN o18 (bldM_length a b q y (ms.map Mk.pl) 0).symm), (f18.mono (by omega)), (g18.mono (by omega)), (by first|assumption|exact nin_of f18 g18 (by omega)), (by first|assumption|exact nin_of f18 g18 (by omega)), (by first|assumption|exact nin_of f18 g18 (by omega)), (by omega)⟩ ?_
  rintro i E wl16 ⟨E0, pz900, cz900, Fz900, rfl, L, Lz, B1, B4, B11, oz900, fz900, gz900, ab1_z900, ab4_z900, ab11_z900, hi⟩
  have Lz0 := L.size; have hbml := bldM_length a b q y (ms.map Mk.pl) i
  refine wp_seq (wp_seq (c_reg (s0 (xmI rfl) (s0 (x_fieldAddr fa29_1 rfl) (st (x_loadB sc27 rfl B1 rfl) (s0 (x_lensl un27 rfl) ?_))))))
  refine sb (x_lss rfl rfl) (fun h23 => ?_) (fun h23 => ?_)
  ·refine c_end (n_then (c_true rfl (c_skipn (n_then (wp_seq (wp_block (wp_seq (c_reg (s0 (xaI rfl) (c_end (n_then (wp_block ?_))))))))))))
   refine c_loop (γ := Nat) (fun k => (ms.getD (i : Int).toNat default).bs.length - k) (fun (k : Nat) E wl => ∃ E0 pz900 cz900 Fz900, E = upd (upd (upd (upd (upd E0 1 (pt b1 0)) 2 (pt b4 0)) 3 (pt b11 0)) 4 (.int .i64 (i : Int))) 5 (.int .i64 (k : Int)) ∧ (Exm [] w wl) ∧ (wl16.heap.size ≤ wl.heap.size) ∧ (Bx wl b1 [.int .i64 a, .int .i64 b, .int .i64 q, .bool y, .bool true, .slice r xs.length e, .slice p ms.length c] 29) ∧ (Bx wl b4 [.int .i64 0, .int .i64 0, .slice none 0 0] 36) ∧ (Bx wl b11 [.int .i64 a, .int .i64 b, .slice pz900 (bldB a b q y (ms.map Mk.pl) i (bldM a b q y (ms.map Mk.pl) i) k).length cz900] 36) ∧ (Own wl pz900 (((bldB a b q y (ms.map Mk.pl) i (bldM a b q y (ms.map Mk.pl) i) k)).length) cz900 3 1 (ic ((bldB a b q y (ms.map Mk.pl) i (bldM a b q y (ms.map Mk.pl) i) k))) Fz900) ∧ (Fr (w7.heap.size) Fz900) ∧ (Lt Fz900 wl.heap.size) ∧ (b1 ∉ Fz900) ∧ (b4 ∉ Fz900) ∧ (b11 ∉ Fz900) ∧ ((k : Int) ≤ (ms.getD (i : Int).toNat default).bs.length)) 0 ⟨_, _, _, _, upd_self5 rfl rfl rfl rfl rfl, L, (by omega), B1, B4, B11, oz900, (fz900.mono (by omega)), (gz900.mono (by omega)), (by first|assumption|exact nin_of fz900 gz900 (by omega)), (by first|assumption|exact nin_of fz900 gz900 (by omega)), (by first|assumption|exact nin_of fz900 gz900 (by omega)), (by omega)⟩ ?_
   rintro k E wl17 ⟨E0, pz900, cz900, Fz900, rfl, L, Lz, B1, B4, B11, oz900, fz900, gz900, ab1_z900, ab4_z900, ab11_z900, hk⟩
   have Lz0 := L.size; have hbbl := bldB_length a b q y (ms.map Mk.pl) i (bldM a b q y (ms.map Mk.pl) i) k
   refine wp_seq (wp_seq (c_reg (s0 (xmI rfl) (s0 (x_fieldAddr fa29_1 rfl) (st (x_loadB sc27 rfl B1 rfl) (s0 (xmI rfl) (s0 (x_idx so27 rfl rfl hp.1 (by decide) (by omega) (by omega)) (s0 (x_fieldAddr fa34_1 rfl) (st (x_ldf (u := .slice _ _ _) mrow_len sc32 rfl (hp.1.ext L) (by omega) (by omega) (by decide) rfl) (s0 (x_lensl un32 rfl) ?_))))))))))
   refine sb (x_lss rfl rfl) (fun h34 => ?_) (fun h34 => ?_)
   ·refine c_end (n_then (c_true rfl (c_skipn (n_then (wp_seq (wp_block (wp_seq ?_)))))))
    have hmo := hso.2.2 (i : Int).toNat (by omega); have hme := manyOf_in (ms.getD (i : Int).toNat default).eight
    have hbl : ((ms.getD (i : Int).toNat default).bs.length : Int) = manyOf (ms.getD (i : Int).toNat default).eight := by have h1 := hmo.1; rw [List.length_map, many_eq] at h1; exact h1
    refine c_plan (fun wq => Exm [] wl17 wq) 17 (.cons (0, 2) (.cons (1, 1) (.cons (2, 2) (.cons (3, 2) (.cons (4, 2) (.cons (5, 1) (.cons (6, 2) (.cons (7, 2) (.cons (8, 2) (.cons (9, 1) (.cons (10, 0) (.cons (11, 0) (.cons (12, 2) (.cons (13, 2) (.cons (14, 2) (.cons (15, 2) (.cons (16, 2) .nil))))))))))))))))) (by kernel_rfl) (by kernel_rfl) (Exm.drew _) ?_
    obtain ⟨w18, hwd⟩ : ∃ x, x = wl17.drew := ⟨_, rfl⟩
    have l19 : Ext wl17 w18 := by rw [hwd]; exact Exm.drew _
    rw [← hwd]; clear hwd
    have Lq : Exm [] wl17 w18 := l19.up; have qB1 := B1; have qB11 := B11; have qL := L; have z_l19 := l19.size; have L := L.tr l19.up; have B1 := B1.ext l19; have B4 := B4.ext l19; have B11 := B11.ext l19; have oz900 := oz900.ext l19
    refine p0 rfl (x_fieldAddr fa29_0 rfl) ?_
    refine ps rfl (fun wq hwq => x_loadIn ag26 rfl (qB1.ext hwq) [.int _ _, .int _ _, .int _ _, .bool _, .bool _, .slice _ _ _] rfl rfl) ?_
    refine p0 rfl (xmI rfl) (p0 rfl (xmI rfl) (p0 rfl (x_fieldAddr fa29_1 rfl) ?_))
    refine ps rfl (fun wq hwq => x_loadB sc27 rfl (qB1.ext hwq) rfl) ?_
    refine p0 rfl (xmI rfl) (p0 rfl (x_idx so27 rfl rfl hp.1 (by decide) (by omega) (by omega)) (p0 rfl (x_fieldAddr fa34_0 rfl) ?_))
    refine ps rfl (fun wq hwq => x_ldf (u := .bool _) mrow_len sc4 rfl ((hp.1.ext qL).ext hwq) (by omega) (by omega) (by decide) rfl) ?_
    refine pu rfl ?_
    refine sr (zcall cl49 rfl) (s_side _ _) ?_
    intro w20 l21
    have z_l21 := l21.size; have L := L.tr l21.up; have Lq := Lq.tr l21.up; have B1 := B1.ext l21; have B4 := B4.ext l21; have B11 := B11.ext l21; have oz900 := oz900.ext l21
    refine c_end ⟨rfl, fun h hS => Lq, ?_⟩
    refine pu rfl ?_
    refine sr (zcall cl48 rfl) (s_spot _ _ _ _ _ _ _ _ i k _ _ (by omega) (by omega) (by omega)) ?_
    intro w22 l23
    have z_l23 := l23.size; have L := L.tr l23.up; have Lq := Lq.tr l23.up; have B1 := B1.ext l23; have B4 := B4.ext l23; have B11 := B11.ext l23; have oz900 := oz900.ext l23
    refine c_end ⟨rfl, fun h hS => Lq, ?_⟩
    refine p0 rfl (x_move (v := .tuple _) rfl) (p0 rfl (x_extract rfl rfl) (p0 rfl (x_extract rfl rfl) (p0 rfl (xaI rfl) (p0 rfl (xaI rfl) ?_))))
    refine p_nil (np_normal ?_)
    refine n_then ?_
    have hbm := hb _ (getD_mem (xs := ms) (i := (i : Int)) (by omega) (by omega)); have hmo := hso.2.2 (i : Int).toNat (by omega); have hme := manyOf_in (ms.getD (i : Int).toNat default).eight
    have hbl : ((ms.getD (i : Int).toNat default).bs.length : Int) = manyOf (ms.getD (i : Int).toNat default).eight := by have h1 := hmo.1; rw [List.length_map, many_eq] at h1; exact h1
    have hbk := hbm.2 _ (getD_mem (xs := (ms.getD (i : Int).toNat default).bs) (i := (k : Int)) (by omega) (by omega))
    have hpb : plB (ms.map Mk.pl) i k = Bk.pl ((ms.getD (i : Int).toNat default).bs.getD (k : Int).toNat default) := pl_blk (i := i) (k := k) (by omega) (by have h1 : (k : Int) < (ms.getD (i : Int).toNat default).bs.length := (by omega); exact Int.ofNat_lt.1 h1)
    refine c_plan (fun wq => Exm [] w22 wq) 18 (.cons (0, 1) (.cons (1, 2) (.cons (2, 1) (.cons (3, 2) (.cons (4, 2) (.cons (5, 2) (.cons (6, 1) (.cons (7, 2) (.cons (8, 2) (.cons (9, 2) (.cons (10, 1) (.cons (11, 2) (.cons (12, 2) (.cons (13, 1) (.cons (14, 0) (.cons (15, 2) (.cons (16, 2) (.cons (17, 2) (.cons (18, 0) .nil))))))))))))))))))) (by kernel_rfl) (by kernel_rfl) (Exm.drew _) ?_
    obtain ⟨w24, hwd⟩ : ∃ x, x = w22.drew := ⟨_, rfl⟩
    have l25 : Ext w22 w24 := by rw [hwd]; exact Exm.drew _
    rw [← hwd]; clear hwd
    have Lq : Exm [] w22 w24 := l25.up; have qB1 := B1; have qB11 := B11; have qL := L; have z_l25 := l25.size; have L := L.tr l25.up; have B1 := B1.ext l25; have B4 := B4.ext l25; have B11 := B11.ext l25; have oz900 := oz900.ext l25
    refine ps rfl (fun wq hwq => x_loadAgB ag36 rfl (qB11.ext hwq) rfl) ?_
    refine p0 rfl (x_fieldAddr fa29_0 rfl) ?_
    refine ps rfl (fun wq hwq => x_loadIn ag26 rfl (qB1.ext hwq) [.int _ _, .int _ _, .int _ _, .bool _, .bool _, .slice _ _ _] rfl rfl) ?_
    refine p0 rfl (xmI rfl) (p0 rfl (xmI rfl) (p0 rfl (x_fieldAddr fa29_1 rfl) ?_))
    refine ps rfl (fun wq hwq => x_loadB sc27 rfl (qB1.ext hwq) rfl) ?_
    refine p0 rfl (xmI rfl) (p0 rfl (x_idx so27 rfl rfl hp.1 (by decide) (by omega) (by omega)) (p0 rfl (x_fieldAddr fa34_1 rfl) ?_))
    refine ps rfl (fun wq hwq => x_ldf (u := .slice _ _ _) mrow_len sc32 rfl ((hp.1.ext qL).ext hwq) (by omega) (by omega) (by decide) rfl) ?_
    refine p0 rfl (xmI rfl) (p0 rfl (x_idx so32 rfl rfl ((hp.2 _ (getD_mem (by omega) (by omega))).ext L).1 (by decide) (by omega) (by omega)) ?_)
    refine ps rfl (fun wq hwq => x_ldr brow_len ag71 rfl (((hp.2 _ (getD_mem (by omega) (by omega))).ext qL).1.ext hwq) (by omega) (by omega)) ?_
    refine pu rfl ?_
    refine sp (zcall cl50 rfl) (s_putRef _ _ _ _ _ _ _ _ _ _ _ _ _ _ _ _ _ _ _ _ oz900.sl (((hp.2 _ (getD_mem (by omega) (by omega))).ext L).2 _ (getD_mem (by omega) (by omega))) (by omega) (by omega)) ?_
    rintro v67 w26 l27 ⟨p67, c67, F67, rfl, o67, f67⟩
    have z_l27 := l27.size; have L := L.tr l27.up; have Lq := Lq.tr l27.up; have B1 := B1.ext l27; have B4 := B4.ext l27; have B11 := B11.ext l27; have oz900 := oz900.ext l27; have g67 := o67.lt
    refine c_end ⟨rfl, fun h hS => Lq, ?_⟩
    refine p0 rfl (x_move (v := .tuple _) rfl) (p0 rfl (x_extract rfl rfl) (p0 rfl (x_extract rfl rfl) (pu rfl (s_storeAg rfl sz36 rfl rfl B11 rfl rfl rfl ?_))))
    intro w28 l29 el29 B11
    have z_l29 := l29.size; have L := L.fresh l29 (by omega); have B1 := B1.ne l29 (by omega); have B4 := B4.ne l29 (by omega); have oz900 := oz900.ne l29 (by first|assumption|exact nin_of fz900 gz900 (by omega))
    have o67 := o67.ne l29 (by first|assumption|exact nin_of f67 g67 (by omega))
    refine c_end ⟨rfl, fun h hS => absurd h (by decide), ?_⟩
    refine p_nil (np_normal ?_)
    refine n_block (n_then (c_reg (s0 (xmI rfl) (s0 (x_add rfl rfl (by omega)) (s0 (xaI rfl) (c_end ?_))))))
    exact c_round (g' := k + 1) (by omega) ⟨_, _, _, _, upd_self5 rfl rfl rfl rfl (vint (by omega)), L, (by omega), B1, B4, (bx_s2 (by rw [bldB_length, bldB_length]) B11), (by simp only [bldB]; rw [hpb]; exact ownN o67 (putL_length _ _ _ _ _ _ _ _ _).symm), (f67.mono (by omega)), (g67.mono (by omega)), (by first|assumption|exact nin_of f67 g67 (by omega)), (by first|assumption|exact nin_of f67 g67 (by omega)), (by first|assumption|exact nin_of f67 g67 (by omega)), (by omega)⟩
   ·refine c_end (n_then (c_false rfl ?_))
    refine wp_exit (e_then (e_then (e_here ?_)))
    refine n_block (n_then (c_reg (s0 (xmI rfl) (s0 (x_add rfl rfl (by omega)) (s0 (xaI rfl) (c_end ?_))))))
    have hke : k = ((ms.map Mk.pl).getD i default).2.length := by rw [pl_len (by omega)]; have h1 : (k : Int) = (ms.getD (i : Int).toNat default).bs.length := (by omega); exact Int.ofNat.inj h1
    exact c_round (g' := i + 1) (by omega) ⟨_, _, _, _, upd_self4 rfl rfl rfl (vint (by omega)), L, (by omega), B1, B4, (bx_s2 (by rw [bldB_length, bldM_length, bldM_length]) B11), (by have h9 := ownN oz900 (show _ = (bldM a b q y (ms.map Mk.pl) (i + 1)).length by rw [bldB_length, bldM_length, bldM_length]); rw [hke] at h9; exact h9), (fz900.mono (by omega)), (gz900.mono (by omega)), (by first|assumption|exact nin_of fz900 gz900 (by omega)), (by first|assumption|exact nin_of fz900 gz900 (by omega)), (by first|assumption|exact nin_of fz900 gz900 (by omega)), (by omega)⟩
  ·refine c_end (n_then (c_false rfl ?_))
   refine wp_exit (e_then (e_then (e_here ?_)))
   refine n_then (wp_seq (wp_seq (c_reg (s0 (x_fieldAddr fa29_0 rfl) (s0 (x_fieldAddr fa26_4 rfl) (st (x_loadB sc4 rfl B1 rfl) (c_end (n_then (c_true rfl (wp_seq (c_reg (st (x_loadAgB ag36 rfl B11 rfl) (s0 (x_fieldAddr fa29_0 rfl) ?_)))))))))))))
   refine s0 (x_fieldAddr fa26_2 rfl) (st (x_loadB sc3 rfl B1 rfl) ?_)
   refine sp (zcall cl51 rfl) (s_deblockRef _ _ _ _ _ _ _ _ oz900.sl (by omega)) ?_
   rintro v77 w30 l31 ⟨p77, c77, F77, rfl, o77, f77⟩
   have z_l31 := l31.size; have L := L.tr l31.up; have B1 := B1.ext l31; have B4 := B4.ext l31; have B11 := B11.ext l31; have oz900 := oz900.ext l31; have g77 := o77.lt
   refine s_storeAg rfl sz36 rfl rfl B4 rfl rfl rfl ?_
   intro w32 l33 el33 B4
   have z_l33 := l33.size; have L := L.fresh l33 (by omega); have B1 := B1.ne l33 (by omega); have B11 := B11.ne l33 (by omega); have oz900 := oz900.ne l33 (by first|assumption|exact nin_of fz900 gz900 (by omega))
   have o77 := o77.ne l33 (by first|assumption|exact nin_of f77 g77 (by omega))
   refine c_end (n_then ?_)
   refine wp_ret (r_then ?_)
   refine f_retc rfl rfl ag36 B4 rfl ?_
   have hie : i = (ms.map Mk.pl).length := by rw [List.length_map]; omega
   obtain ⟨e1, e2, e3⟩ := br_yes (y := y) (z := true) h9
   rw [e1, e2, e3, if_pos rfl, ← hie]
   exact ⟨_, rfl, L, p77, c77, F77, (by rw [dbOf_length]), ownN o77 (dbOf_length _ _ _ _).symm, f77.mono (by omega)⟩
 ·have z_l8 := l8.size
  have L := L.tr l8.up; have B1 := B1.ext l8; have B4 := B4.ext l8
  refine s0 (x_not rfl) (c_end (n_then (c_true rfl (wp_seq (c_reg ?_)))))
  refine s0 (x_build (cs := [.int .i64 0, .int .i64 0, .slice none 0 0]) bd36 pts_nil rfl) ?_
  refine s_storeAg rfl sz36 rfl rfl B4 rfl rfl rfl ?_
  intro w34 l35 el35 B4
  have z_l35 := l35.size; have L := L.fresh l35 (by omega); have B1 := B1.ne l35 (by omega)
  refine c_end (n_then ?_)
  refine wp_ret (r_then ?_)
  refine f_retc rfl rfl ag36 B4 rfl ?_
  obtain ⟨e1, e2, e3⟩ := br_no (y := y) (z := true) h9
  rw [e1, e2, e3]
  exact ⟨_, rfl, L, none, 0, [], rfl, Own.nil, Fr.no⟩

set_option maxHeartbeats 4000000 in
theorem s_buildRef_f (a b q : Int) (y : Bool) (r : Option Addr) (xs : List Int) (e : Nat) (p : Option Addr) (ms : List Mk) (c : Nat) (w : World) (hx : Sl w r xs.length e 1 (ic xs)) (hp : RdMs w p ms c) (hl0 : xs.length ≤ 1099511627776) (hl : ms.length ≤ 1099511627776) (hb : ∀ m ∈ ms, smallM 1099511627776 m) :
    Calls Tryz.prog 18 [.agg [.int .i64 a, .int .i64 b, .int .i64 q, .bool y, .bool false, .slice r xs.length e, .slice p ms.length c].toArray].toArray w (RetP w fun v w' => ∃ (p : Option Addr) (c : Nat) (F : List Nat), v = .agg [.int .i64 (brS a b q xs (ms.map Mk.pl) a), .int .i64 (brS a b q xs (ms.map Mk.pl) b), .slice p (brX a b q y false xs (ms.map Mk.pl)).length c].toArray ∧ Own w' p (brX a b q y false xs (ms.map Mk.pl)).length c 3 1 (ic (brX a b q y false xs (ms.map Mk.pl))) F ∧ Fr w.heap.size F) := by
 have L : Exm [] w w := Exm.rfl'
 refine enter (n := 79) Tryz.func18 rfl rfl rfl ?_
 refine wp_seq (c_reg (s_box rfl rfl ?_))
 intro b1 w2 lob1 hib1 l3 B1
 have z_l3 := l3.size; have L := L.tr l3.up
 refine s_alloc zr36 ?_
 intro b4 w5 lob4 hib4 l6 B4
 have z_l6 := l6.size; have L := L.tr l6.up; have B1 := B1.ext l6
 refine c_end (n_then (wp_seq (wp_seq (c_reg (st (x_loadAgB ag29 rfl B1 rfl) ?_)))))
 refine srb (zcall cl9 rfl) (s_streamOk _ _ _ _ _ _ _ _ _ _ _ _ (hx.ext L) (hp.ext L) (by omega) (by omega) (by assumption)) (fun h9 w7 l8 => ?_) (fun h9 w7 l8 => ?_)
 ·have z_l8 := l8.size
  have L := L.tr l8.up; have B1 := B1.ext l8; have B4 := B4.ext l8
  refine s0 (x_not rfl) (c_end (n_then (c_false rfl (c_skipn (n_then (wp_seq ?_))))))
  have hso := stream_iff.1 h9; have hsd : sidesOk a b := hso.1.1; have hsm := sides_mul hsd; have hmr := many_range hsd; have hW : 8 ≤ a ∧ a ≤ 32 := hsd.1
  refine c_reg (s0 (x_fieldAddr fa29_0 rfl) (s0 (x_fieldAddr fa26_0 rfl) (st (x_loadB sc3 rfl B1 rfl) (s0 (x_fieldAddr fa29_0 rfl) (s0 (x_fieldAddr fa26_1 rfl) (st (x_loadB sc3 rfl B1 rfl) ?_))))))
  refine sp (zcall cl47 rfl) (s_frameNew _ _ _ hsd) ?_
  rintro v18 w9 l10 ⟨p18, c18, F18, rfl, o18, f18⟩
  have z_l10 := l10.size; have L := L.tr l10.up; have B1 := B1.ext l10; have B4 := B4.ext l10; have g18 := o18.lt
  refine s_alloc zr36 ?_
  intro b11 w12 lob11 hib11 l13 B11
  have z_l13 := l13.size; have L := L.tr l13.up; have B1 := B1.ext l13; have B4 := B4.ext l13; have o18 := o18.ext l13
  refine s_storeAg rfl sz36 rfl rfl B11 rfl rfl rfl ?_
  intro w14 l15 el15 B11
  have z_l15 := l15.size; have L := L.fresh l15 (by omega); have B1 := B1.ne l15 (by omega); have B4 := B4.ne l15 (by omega); have o18 := o18.ne l15 (by first|assumption|exact nin_of f18 g18 (by omega))
  refine c_end (n_then (wp_seq (wp_seq (c_reg (s0 (xaI rfl) (c_end (n_then (wp_block ?_))))))))
  refine c_loop (γ := Nat) (fun i => ms.length - i) (fun (i : Nat) E wl => ∃ E0 pz900 cz900 Fz900, E = upd (upd (upd (upd E0 1 (pt b1 0)) 2 (pt b4 0)) 3 (pt b11 0)) 4 (.int .i64 (i : Int)) ∧ (Exm [] w wl) ∧ (w14.heap.size ≤ wl.heap.size) ∧ (Bx wl b1 [.int .i64 a, .int .i64 b, .int .i64 q, .bool y, .bool false, .slice r xs.length e, .slice p ms.length c] 29) ∧ (Bx wl b4 [.int .i64 0, .int .i64 0, .slice none 0 0] 36) ∧ (Bx wl b11 [.int .i64 a, .int .i64 b, .slice pz900 (bldM a b q y (ms.map Mk.pl) i).length cz900] 36) ∧ (Own wl pz900 (((bldM a b q y (ms.map Mk.pl) i)).length) cz900 3 1 (ic ((bldM a b q y (ms.map Mk.pl) i))) Fz900) ∧ (Fr (w7.heap.size) Fz900) ∧ (Lt Fz900 wl.heap.size) ∧ (b1 ∉ Fz900) ∧ (b4 ∉ Fz900) ∧ (b11 ∉ Fz900) ∧ ((i : Int) ≤ ms.length)) 0 ⟨_, _, _, _, upd_self4 rfl rfl rfl rfl, L, (by omega), B1, B4, (bx_s2 (bldM_length a b q y (ms.map Mk.pl) 0).symm B11), (ownN o18 (bldM_length a b q y (ms.map Mk.pl) 0).symm), (f18.mono (by omega)), (g18.mono (by omega)), (by first|assumption|exact nin_of f18 g18 (by omega)), (by first|assumption|exact nin_of f18 g18 (by omega)), (by first|assumption|exact nin_of f18 g18 (by omega)), (by omega)⟩ ?_
  rintro i E wl16 ⟨E0, pz900, cz900, Fz900, rfl, L, Lz, B1, B4, B11, oz900, fz900, gz900, ab1_z900, ab4_z900, ab11_z900, hi⟩
  have Lz0 := L.size; have hbml := bldM_length a b q y (ms.map Mk.pl) i
  refine wp_seq (wp_seq (c_reg (s0 (xmI rfl) (s0 (x_fieldAddr fa29_1 rfl) (st (x_loadB sc27 rfl B1 rfl) (s0 (x_lensl un27 rfl) ?_))))))
  refine sb (x_lss rfl rfl) (fun h23 => ?_) (fun h23 => ?_)
  ·refine c_end (n_then (c_true rfl (c_skipn (n_then (wp_seq (wp_block (wp_seq (c_reg (s0 (xaI rfl) (c_end (n_then (wp_block ?_))))))))))))
   refine c_loop (γ := Nat) (fun k => (ms.getD (i : Int).toNat default).bs.length - k) (fun (k : Nat) E wl => ∃ E0 pz900 cz900 Fz900, E = upd (upd (upd (upd (upd E0 1 (pt b1 0)) 2 (pt b4 0)) 3 (pt b11 0)) 4 (.int .i64 (i : Int))) 5 (.int .i64 (k : Int)) ∧ (Exm [] w wl) ∧ (wl16.heap.size ≤ wl.heap.size) ∧ (Bx wl b1 [.int .i64 a, .int .i64 b, .int .i64 q, .bool y, .bool false, .slice r xs.length e, .slice p ms.length c] 29) ∧ (Bx wl b4 [.int .i64 0, .int .i64 0, .slice none 0 0] 36) ∧ (Bx wl b11 [.int .i64 a, .int .i64 b, .slice pz900 (bldB a b q y (ms.map Mk.pl) i (bldM a b q y (ms.map Mk.pl) i) k).length cz900] 36) ∧ (Own wl pz900 (((bldB a b q y (ms.map Mk.pl) i (bldM a b q y (ms.map Mk.pl) i) k)).length) cz900 3 1 (ic ((bldB a b q y (ms.map Mk.pl) i (bldM a b q y (ms.map Mk.pl) i) k))) Fz900) ∧ (Fr (w7.heap.size) Fz900) ∧ (Lt Fz900 wl.heap.size) ∧ (b1 ∉ Fz900) ∧ (b4 ∉ Fz900) ∧ (b11 ∉ Fz900) ∧ ((k : Int) ≤ (ms.getD (i : Int).toNat default).bs.length)) 0 ⟨_, _, _, _, upd_self5 rfl rfl rfl rfl rfl, L, (by omega), B1, B4, B11, oz900, (fz900.mono (by omega)), (gz900.mono (by omega)), (by first|assumption|exact nin_of fz900 gz900 (by omega)), (by first|assumption|exact nin_of fz900 gz900 (by omega)), (by first|assumption|exact nin_of fz900 gz900 (by omega)), (by omega)⟩ ?_
   rintro k E wl17 ⟨E0, pz900, cz900, Fz900, rfl, L, Lz, B1, B4, B11, oz900, fz900, gz900, ab1_z900, ab4_z900, ab11_z900, hk⟩
   have Lz0 := L.size; have hbbl := bldB_length a b q y (ms.map Mk.pl) i (bldM a b q y (ms.map Mk.pl) i) k
   refine wp_seq (wp_seq (c_reg (s0 (xmI rfl) (s0 (x_fieldAddr fa29_1 rfl) (st (x_loadB sc27 rfl B1 rfl) (s0 (xmI rfl) (s0 (x_idx so27 rfl rfl hp.1 (by decide) (by omega) (by omega)) (s0 (x_fieldAddr fa34_1 rfl) (st (x_ldf (u := .slice _ _ _) mrow_len sc32 rfl (hp.1.ext L) (by omega) (by omega) (by decide) rfl) (s0 (x_lensl un32 rfl) ?_))))))))))
   refine sb (x_lss rfl rfl) (fun h34 => ?_) (fun h34 => ?_)
   ·refine c_end (n_then (c_true rfl (c_skipn (n_then (wp_seq (wp_block (wp_seq ?_)))))))
    have hmo := hso.2.2 (i : Int).toNat (by omega); have hme := manyOf_in (ms.getD (i : Int).toNat default).eight
    have hbl : ((ms.getD (i : Int).toNat default).bs.length : Int) = manyOf (ms.getD (i : Int).toNat default).eight := by have h1 := hmo.1; rw [List.length_map, many_eq] at h1; exact h1
    refine c_plan (fun wq => Exm [] wl17 wq) 17 (.cons (0, 2) (.cons (1, 1) (.cons (2, 2) (.cons (3, 2) (.cons (4, 2) (.cons (5, 1) (.cons (6, 2) (.cons (7, 2) (.cons (8, 2) (.cons (9, 1) (.cons (10, 0) (.cons (11, 0) (.cons (12, 2) (.cons (13, 2) (.cons (14, 2) (.cons (15, 2) (.cons (16, 2) .nil))))))))))))))))) (by kernel_rfl) (by kernel_rfl) (Exm.drew _) ?_
    obtain ⟨w18, hwd⟩ : ∃ x, x = wl17.drew := ⟨_, rfl⟩
    have l19 : Ext wl17 w18 := by rw [hwd]; exact Exm.drew _
    rw [← hwd]; clear hwd
    have Lq : Exm [] wl17 w18 := l19.up; have qB1 := B1; have qB11 := B11; have qL := L; have z_l19 := l19.size; have L := L.tr l19.up; have B1 := B1.ext l19; have B4 := B4.ext l19; have B11 := B11.ext l19; have oz900 := oz900.ext l19
    refine p0 rfl (x_fieldAddr fa29_0 rfl) ?_
    refine ps rfl (fun wq hwq => x_loadIn ag26 rfl (qB1.ext hwq) [.int _ _, .int _ _, .int _ _, .bool _, .bool _, .slice _ _ _] rfl rfl) ?_
    refine p0 rfl (xmI rfl) (p0 rfl (xmI rfl) (p0 rfl (x_fieldAddr fa29_1 rfl) ?_))
    refine ps rfl (fun wq hwq => x_loadB sc27 rfl (qB1.ext hwq) rfl) ?_
    refine p0 rfl (xmI rfl) (p0 rfl (x_idx so27 rfl rfl hp.1 (by decide) (by omega) (by omega)) (p0 rfl (x_fieldAddr fa34_0 rfl) ?_))
    refine ps rfl (fun wq hwq => x_ldf (u := .bool _) mrow_len sc4 rfl ((hp.1.ext qL).ext hwq) (by omega) (by omega) (by decide) rfl) ?_
    refine pu rfl ?_
    refine sr (zcall cl49 rfl) (s_side _ _) ?_
    intro w20 l21
    have z_l21 := l21.size; have L := L.tr l21.up; have Lq := Lq.tr l21.up; have B1 := B1.ext l21; have B4 := B4.ext l21; have B11 := B11.ext l21; have oz900 := oz900.ext l21
    refine c_end ⟨rfl, fun h hS => Lq, ?_⟩
    refine pu rfl ?_
    refine sr (zcall cl48 rfl) (s_spot _ _ _ _ _ _ _ _ i k _ _ (by omega) (by omega) (by omega)) ?_
    intro w22 l23
    have z_l23 := l23.size; have L := L.tr l23.up; have Lq := Lq.tr l23.up; have B1 := B1.ext l23; have B4 := B4.ext l23; have B11 := B11.ext l23; have oz900 := oz900.ext l23
    refine c_end ⟨rfl, fun h hS => Lq, ?_⟩
    refine p0 rfl (x_move (v := .tuple _) rfl) (p0 rfl (x_extract rfl rfl) (p0 rfl (x_extract rfl rfl) (p0 rfl (xaI rfl) (p0 rfl (xaI rfl) ?_))))
    refine p_nil (np_normal ?_)
    refine n_then ?_
    have hbm := hb _ (getD_mem (xs := ms) (i := (i : Int)) (by omega) (by omega)); have hmo := hso.2.2 (i : Int).toNat (by omega); have hme := manyOf_in (ms.getD (i : Int).toNat default).eight
    have hbl : ((ms.getD (i : Int).toNat default).bs.length : Int) = manyOf (ms.getD (i : Int).toNat default).eight := by have h1 := hmo.1; rw [List.length_map, many_eq] at h1; exact h1
    have hbk := hbm.2 _ (getD_mem (xs := (ms.getD (i : Int).toNat default).bs) (i := (k : Int)) (by omega) (by omega))
    have hpb : plB (ms.map Mk.pl) i k = Bk.pl ((ms.getD (i : Int).toNat default).bs.getD (k : Int).toNat default) := pl_blk (i := i) (k := k) (by omega) (by have h1 : (k : Int) < (ms.getD (i : Int).toNat default).bs.length := (by omega); exact Int.ofNat_lt.1 h1)
    refine c_plan (fun wq => Exm [] w22 wq) 18 (.cons (0, 1) (.cons (1, 2) (.cons (2, 1) (.cons (3, 2) (.cons (4, 2) (.cons (5, 2) (.cons (6, 1) (.cons (7, 2) (.cons (8, 2) (.cons (9, 2) (.cons (10, 1) (.cons (11, 2) (.cons (12, 2) (.cons (13, 1) (.cons (14, 0) (.cons (15, 2) (.cons (16, 2) (.cons (17, 2) (.cons (18, 0) .nil))))))))))))))))))) (by kernel_rfl) (by kernel_rfl) (Exm.drew _) ?_
    obtain ⟨w24, hwd⟩ : ∃ x, x = w22.drew := ⟨_, rfl⟩
    have l25 : Ext w22 w24 := by rw [hwd]; exact Exm.drew _
    rw [← hwd]; clear hwd
    have Lq : Exm [] w22 w24 := l25.up; have qB1 := B1; have qB11 := B11; have qL := L; have z_l25 := l25.size; have L := L.tr l25.up; have B1 := B1.ext l25; have B4 := B4.ext l25; have B11 := B11.ext l25; have oz900 := oz900.ext l25
    refine ps rfl (fun wq hwq => x_loadAgB ag36 rfl (qB11.ext hwq) rfl) ?_
    refine p0 rfl (x_fieldAddr fa29_0 rfl) ?_
    refine ps rfl (fun wq hwq => x_loadIn ag26 rfl (qB1.ext hwq) [.int _ _, .int _ _, .int _ _, .bool _, .bool _, .slice _ _ _] rfl rfl) ?_
    refine p0 rfl (xmI rfl) (p0 rfl (xmI rfl) (p0 rfl (x_fieldAddr fa29_1 rfl) ?_))
    refine ps rfl (fun wq hwq => x_loadB sc27 rfl (qB1.ext hwq) rfl) ?_
    refine p0 rfl (xmI rfl) (p0 rfl (x_idx so27 rfl rfl hp.1 (by decide) (by omega) (by omega)) (p0 rfl (x_fieldAddr fa34_1 rfl) ?_))
    refine ps rfl (fun wq hwq => x_ldf (u := .slice _ _ _) mrow_len sc32 rfl ((hp.1.ext qL).ext hwq) (by omega) (by omega) (by decide) rfl) ?_
    refine p0 rfl (xmI rfl) (p0 rfl (x_idx so32 rfl rfl ((hp.2 _ (getD_mem (by omega) (by omega))).ext L).1 (by decide) (by omega) (by omega)) ?_)
    refine ps rfl (fun wq hwq => x_ldr brow_len ag71 rfl (((hp.2 _ (getD_mem (by omega) (by omega))).ext qL).1.ext hwq) (by omega) (by omega)) ?_
    refine pu rfl ?_
    refine sp (zcall cl50 rfl) (s_putRef _ _ _ _ _ _ _ _ _ _ _ _ _ _ _ _ _ _ _ _ oz900.sl (((hp.2 _ (getD_mem (by omega) (by omega))).ext L).2 _ (getD_mem (by omega) (by omega))) (by omega) (by omega)) ?_
    rintro v67 w26 l27 ⟨p67, c67, F67, rfl, o67, f67⟩
    have z_l27 := l27.size; have L := L.tr l27.up; have Lq := Lq.tr l27.up; have B1 := B1.ext l27; have B4 := B4.ext l27; have B11 := B11.ext l27; have oz900 := oz900.ext l27; have g67 := o67.lt
    refine c_end ⟨rfl, fun h hS => Lq, ?_⟩
    refine p0 rfl (x_move (v := .tuple _) rfl) (p0 rfl (x_extract rfl rfl) (p0 rfl (x_extract rfl rfl) (pu rfl (s_storeAg rfl sz36 rfl rfl B11 rfl rfl rfl ?_))))
    intro w28 l29 el29 B11
    have z_l29 := l29.size; have L := L.fresh l29 (by omega); have B1 := B1.ne l29 (by omega); have B4 := B4.ne l29 (by omega); have oz900 := oz900.ne l29 (by first|assumption|exact nin_of fz900 gz900 (by omega))
    have o67 := o67.ne l29 (by first|assumption|exact nin_of f67 g67 (by omega))
    refine c_end ⟨rfl, fun h hS => absurd h (by decide), ?_⟩
    refine p_nil (np_normal ?_)
    refine n_block (n_then (c_reg (s0 (xmI rfl) (s0 (x_add rfl rfl (by omega)) (s0 (xaI rfl) (c_end ?_))))))
    exact c_round (g' := k + 1) (by omega) ⟨_, _, _, _, upd_self5 rfl rfl rfl rfl (vint (by omega)), L, (by omega), B1, B4, (bx_s2 (by rw [bldB_length, bldB_length]) B11), (by simp only [bldB]; rw [hpb]; exact ownN o67 (putL_length _ _ _ _ _ _ _ _ _).symm), (f67.mono (by omega)), (g67.mono (by omega)), (by first|assumption|exact nin_of f67 g67 (by omega)), (by first|assumption|exact nin_of f67 g67 (by omega)), (by first|assumption|exact nin_of f67 g67 (by omega)), (by omega)⟩
   ·refine c_end (n_then (c_false rfl ?_))
    refine wp_exit (e_then (e_then (e_here ?_)))
    refine n_block (n_then (c_reg (s0 (xmI rfl) (s0 (x_add rfl rfl (by omega)) (s0 (xaI rfl) (c_end ?_))))))
    have hke : k = ((ms.map Mk.pl).getD i default).2.length := by rw [pl_len (by omega)]; have h1 : (k : Int) = (ms.getD (i : Int).toNat default).bs.length := (by omega); exact Int.ofNat.inj h1
    exact c_round (g' := i + 1) (by omega) ⟨_, _, _, _, upd_self4 rfl rfl rfl (vint (by omega)), L, (by omega), B1, B4, (bx_s2 (by rw [bldB_length, bldM_length, bldM_length]) B11), (by have h9 := ownN oz900 (show _ = (bldM a b q y (ms.map Mk.pl) (i + 1)).length by rw [bldB_length, bldM_length, bldM_length]); rw [hke] at h9; exact h9), (fz900.mono (by omega)), (gz900.mono (by omega)), (by first|assumption|exact nin_of fz900 gz900 (by omega)), (by first|assumption|exact nin_of fz900 gz900 (by omega)), (by first|assumption|exact nin_of fz900 gz900 (by omega)), (by omega)⟩
  ·refine c_end (n_then (c_false rfl ?_))
   refine wp_exit (e_then (e_then (e_here ?_)))
   refine n_then (wp_seq (wp_seq (c_reg (s0 (x_fieldAddr fa29_0 rfl) (s0 (x_fieldAddr fa26_4 rfl) (st (x_loadB sc4 rfl B1 rfl) (c_end (n_then (c_false rfl (c_skipn (n_then (wp_seq (c_reg ?_)))))))))))))
   refine st (x_loadAgB ag36 rfl B11 rfl) (s_storeAg rfl sz36 rfl rfl B4 rfl rfl rfl ?_)
   intro w30 l31 el31 B4
   have z_l31 := l31.size; have L := L.fresh l31 (by omega); have B1 := B1.ne l31 (by omega); have B11 := B11.ne l31 (by omega); have oz900 := oz900.ne l31 (by first|assumption|exact nin_of fz900 gz900 (by omega))
   refine c_end (n_then (wp_ret (f_retc rfl rfl ag36 B4 rfl ?_)))
   have hie : i = (ms.map Mk.pl).length := by rw [List.length_map]; omega
   obtain ⟨e1, e2, e3⟩ := br_yes (y := y) (z := false) h9
   rw [e1, e2, e3, if_neg (by decide), ← hie]
   exact ⟨_, rfl, L, _, _, _, rfl, oz900, fz900.mono (by omega)⟩
 ·have z_l8 := l8.size
  have L := L.tr l8.up; have B1 := B1.ext l8; have B4 := B4.ext l8
  refine s0 (x_not rfl) (c_end (n_then (c_true rfl (wp_seq (c_reg ?_)))))
  refine s0 (x_build (cs := [.int .i64 0, .int .i64 0, .slice none 0 0]) bd36 pts_nil rfl) ?_
  refine s_storeAg rfl sz36 rfl rfl B4 rfl rfl rfl ?_
  intro w32 l33 el33 B4
  have z_l33 := l33.size; have L := L.fresh l33 (by omega); have B1 := B1.ne l33 (by omega)
  refine c_end (n_then ?_)
  refine wp_ret (r_then ?_)
  refine f_retc rfl rfl ag36 B4 rfl ?_
  obtain ⟨e1, e2, e3⟩ := br_no (y := y) (z := false) h9
  rw [e1, e2, e3]
  exact ⟨_, rfl, L, none, 0, [], rfl, Own.nil, Fr.no⟩

theorem s_buildRef (a b q : Int) (y z : Bool) (r : Option Addr) (xs : List Int) (e : Nat) (p : Option Addr) (ms : List Mk) (c : Nat) (w : World) (hx : Sl w r xs.length e 1 (ic xs)) (hp : RdMs w p ms c) (hl0 : xs.length ≤ 1099511627776) (hl : ms.length ≤ 1099511627776) (hb : ∀ m ∈ ms, smallM 1099511627776 m) : Calls Tryz.prog 18 [.agg [.int .i64 a, .int .i64 b, .int .i64 q, .bool y, .bool z, .slice r xs.length e, .slice p ms.length c].toArray].toArray w (RetP w fun v w' => ∃ (p : Option Addr) (c : Nat) (F : List Nat), v = .agg [.int .i64 (brS a b q xs (ms.map Mk.pl) a), .int .i64 (brS a b q xs (ms.map Mk.pl) b), .slice p (brX a b q y z xs (ms.map Mk.pl)).length c].toArray ∧ Own w' p (brX a b q y z xs (ms.map Mk.pl)).length c 3 1 (ic (brX a b q y z xs (ms.map Mk.pl))) F ∧ Fr w.heap.size F) := by
  cases z
  · exact s_buildRef_f a b q y r xs e p ms c w hx hp hl0 hl hb
  · exact s_buildRef_t a b q y r xs e p ms c w hx hp hl0 hl hb

end Go.Proofs.YtepnknffaecbdaaGreat
