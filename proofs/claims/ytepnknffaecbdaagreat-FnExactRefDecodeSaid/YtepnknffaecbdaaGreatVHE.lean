/- What each function of this part returns, for every argument that meets its premises. -/
import Derived.Test.YtepnknffaecbdaaGreatProg
import Derived.Test.YtepnknffaecbdaaGreatVSxA
import Derived.Test.YtepnknffaecbdaaGreatVTy
import Derived.Test.YtepnknffaecbdaaGreatVPlA
import Derived.Test.YtepnknffaecbdaaGreatVF1
import Derived.Test.YtepnknffaecbdaaGreatVF7
import Derived.Test.YtepnknffaecbdaaGreatVF9
import Derived.Test.YtepnknffaecbdaaGreatVHA
import Derived.Test.YtepnknffaecbdaaGreatVHB
namespace Go.Proofs.YtepnknffaecbdaaGreat
open Go.Sx Go.Pl Go.RowKit
theorem sg_t {s H a b : Int} (h : (s = 1 ∧ a = H) ∨ (s = -1 ∧ -a = H)) (e : b = -a) : (-s = 1 ∧ b = H) ∨ (-s = -1 ∧ -b = H) := by omega
theorem sg_f {s H a b : Int} (h : (s = 1 ∧ a = H) ∨ (s = -1 ∧ -a = H)) (e : b = a) : (s = 1 ∧ b = H) ∨ (s = -1 ∧ -b = H) := by omega
theorem matA_row {r : Nat} (h : r < 4) : matA.getD r [] = (List.range 4).map (RW 4 r) := by
  have : ∀ r : Fin 4, matA.getD r.1 [] = (List.range 4).map (RW 4 r.1) := by decide
  exact this ⟨r, h⟩

theorem s_l12Row (n r : Nat) (w : World) (hn : n = 4 ∨ n = 8) (hr : r < n) :
    Calls Tryz.prog 237 [.int .i64 (n : Int), .int .i64 (r : Int)].toArray w (RetP w fun v w' => ∃ (p : Option Addr) (k c : Nat) (xs : List Int) (F : List Nat), v = .slice p k c ∧ Rdf w' p k c 1 (ic xs) F ∧ Fr w.heap.size F ∧ k = n ∧ xs = (List.range n).map (RW n r)) := by
 have L : Exm [] w w := Exm.rfl'
 refine enter (n := 41) Tryz.func237 rfl rfl rfl ?_
 refine wp_seq (c_reg (s0 (xaS rfl) (c_end (n_then (wp_seq (wp_seq (c_reg (s0 (xmI rfl) ?_))))))))
 refine sb (x_eql rfl rfl) (fun h10 => ?_) (fun h10 => ?_)
 ·refine c_end (n_then (c_true rfl (wp_seq ?_)))
  have hr4 : r < 4 := by omega
  refine c_reg ?_
  refine s_bsi (xs := [_, _, _, _]) so24 zr3 (pts_cons rfl (pts_cons rfl (pts_cons rfl (pts_cons rfl pts_nil)))) rfl rfl rfl ?_
  intro p11 F11 w1 l2 o11 f11 g11
  have z_l2 := l2.size; have L := L.tr l2.up; have hn11 := o11.n1
  refine s_bsi (xs := [_, _, _, _]) so24 zr3 (pts_cons rfl (pts_cons rfl (pts_cons rfl (pts_cons rfl pts_nil)))) rfl rfl rfl ?_
  intro p12 F12 w3 l4 o12 f12 g12
  have z_l4 := l4.size; have L := L.tr l4.up; have o11 := o11.ext l4; have hn12 := o12.n1
  refine s_bsi (xs := [_, _, _, _]) so24 zr3 (pts_cons rfl (pts_cons rfl (pts_cons rfl (pts_cons rfl pts_nil)))) rfl rfl rfl ?_
  intro p13 F13 w5 l6 o13 f13 g13
  have z_l6 := l6.size; have L := L.tr l6.up; have o11 := o11.ext l6; have o12 := o12.ext l6; have hn13 := o13.n1
  refine s_bsi (xs := [_, _, _, _]) so24 zr3 (pts_cons rfl (pts_cons rfl (pts_cons rfl (pts_cons rfl pts_nil)))) rfl rfl rfl ?_
  intro p14 F14 w7 l8 o14 f14 g14
  have z_l8 := l8.size; have L := L.tr l8.up; have o11 := o11.ext l8; have o12 := o12.ext l8; have o13 := o13.ext l8; have hn14 := o14.n1
  refine s_bsr (g := fun x : Li => .slice x.p x.xs.length x.c) (xs := [⟨p11, [1, 1, 1, 1], 4, F11⟩, ⟨p12, [2, 1, -1, -2], 4, F12⟩, ⟨p13, [1, -1, -1, 1], 4, F13⟩, ⟨p14, [1, -2, 2, -1], 4, F14⟩]) (fun _ => rfl) lrow_len so187 zr24 (pts_cons rfl (pts_cons rfl (pts_cons rfl (pts_cons rfl pts_nil)))) rfl rfl rfl ?_
  intro p15 F15 w9 l10 o15 f15 g15
  have z_l10 := l10.size; have L := L.tr l10.up; have o11 := o11.ext l10; have o12 := o12.ext l10; have o13 := o13.ext l10; have o14 := o14.ext l10; have hn15 := o15.nr lrow_len (by decide)
  refine s0 (xmI rfl) (s0 (x_idx so187 rfl rfl o15.sl (by decide) (by omega) (by omega)) (st (x_ldf (k := 0) lrow_len sc24 rfl o15.sl (by omega) (by omega) (by decide) rfl) (s0 (xaS rfl) (c_end (n_then ?_)))))
  refine wp_ret (r_then ?_)
  refine f_ret rfl rfl ?_
  obtain rfl : n = 4 := by omega
  have hrow := four (φ := fun x : Li => (Rdf _ x.p x.xs.length x.c 1 (ic x.xs) x.F ∧ Fr w.heap.size x.F) ∧ x.xs.length = 4) ⟨⟨o11.rdf, f11.mono (by omega)⟩, rfl⟩ ⟨⟨o12.rdf, f12.mono (by omega)⟩, rfl⟩ ⟨⟨o13.rdf, f13.mono (by omega)⟩, rfl⟩ ⟨⟨o14.rdf, f14.mono (by omega)⟩, rfl⟩ _ (getD_mem (xs := ([⟨p11, [1, 1, 1, 1], 4, F11⟩, ⟨p12, [2, 1, -1, -2], 4, F12⟩, ⟨p13, [1, -1, -1, 1], 4, F13⟩, ⟨p14, [1, -2, 2, -1], 4, F14⟩] : List Li)) (i := (r : Int)) (by omega) (by  omega))
  exact ⟨_, rfl, L, _, _, _, _, _, rfl, hrow.1.1, hrow.1.2, hrow.2, by rw [← map_getD]; exact matA_row hr4⟩
 ·refine c_end (n_then (c_false rfl (c_skipn (n_then (wp_seq (c_reg (s_bs0 so24 ?_)))))))
  intro p19 F19 w11 l12 o19 f19 g19
  have o19 : Own w11 p19 0 0 3 1 (ic []) F19 := o19; have z_l12 := l12.size; have L := L.tr l12.up
  refine s0 (xaS rfl) (c_end (n_then (wp_seq (wp_seq (c_reg (s0 (xaI rfl) (c_end (n_then (wp_block ?_)))))))))
  refine c_loop (γ := Nat) (fun k => 8 - k) (fun (k : Nat) E wl => ∃ E0 pz5 cz5 Fz5, E = upd (upd (upd E0 1 (.int .i64 (r : Int))) 5 (.slice pz5 (((List.range k).map (RW n r)).length) cz5)) 6 (.int .i64 (k : Int)) ∧ (Exm [] w wl) ∧ (w11.heap.size ≤ wl.heap.size) ∧ (Own wl pz5 (((List.range k).map (RW n r)).length) cz5 3 1 (ic ((List.range k).map (RW n r))) Fz5) ∧ (Fr (w.heap.size) Fz5) ∧ (Lt Fz5 wl.heap.size) ∧ ((k : Int) ≤ 8)) 0 ⟨_, _, _, _, upd_self3 rfl (slice_len rfl) rfl, L, (by omega), o19, (f19.mono (by omega)), (g19.mono (by omega)), (by omega)⟩ ?_
  rintro k E wl13 ⟨E0, pz5, cz5, Fz5, rfl, L, Lz, oz5, fz5, gz5, hk⟩
  have Lz0 := L.size; have hkl : ((List.range k).map (RW n r)).length = k := by simp
  refine wp_seq (wp_seq (c_reg (s0 (xmI rfl) ?_)))
  refine sb (x_lss rfl rfl) (fun h21 => ?_) (fun h21 => ?_)
  ·refine c_end (n_then (c_true rfl (c_skipn (n_then (wp_seq (wp_block (wp_seq (c_reg (s0 (xaI rfl) (c_end (n_then (wp_seq (wp_seq ?_)))))))))))))
   refine c_reg (s0 (xmI rfl) (s0 (xmI rfl) (s0 (x_and8 rfl rfl (by omega) (by omega)) (s0 (xaI rfl) (c_end (n_then (wp_block ?_)))))))
   refine c_loop (γ := Nat × Int) (fun g => g.1) (fun (g : Nat × Int) E wl => ∃ E0, E = upd (upd (upd (upd (upd E0 1 (.int .i64 (r : Int))) 5 (.slice pz5 ((List.range k).map (RW n r)).length cz5)) 6 (.int .i64 (k : Int))) 7 (.int .i64 g.2)) 8 (.int .i64 (g.1 : Int)) ∧ (Exm [] w wl) ∧ (wl13.heap.size ≤ wl.heap.size) ∧ (Own wl pz5 ((List.range k).map (RW n r)).length cz5 3 1 (ic ((List.range k).map (RW n r))) Fz5) ∧ (g.1 ≤ 7) ∧ ((g.2 = 1 ∧ sg g.1 = hEnt r k) ∨ (g.2 = -1 ∧ -(sg g.1) = hEnt r k))) (r &&& k, 1) ⟨_, upd_self5 rfl rfl rfl rfl rfl, L, (by omega), oz5, (by show r &&& k ≤ 7; exact Nat.le_trans Nat.and_le_left (by omega)), (.inl ⟨rfl, rfl⟩)⟩ ?_
   rintro g E wl14 ⟨E0, rfl, L, Lz, oz5, hg7, hsg⟩
   have Lz0 := L.size; have hst := sg_step hg7
   refine wp_seq (wp_seq (c_reg (s0 (xmI rfl) ?_)))
   refine sb (x_gtr rfl rfl) (fun h28 => ?_) (fun h28 => ?_)
   ·refine c_end (n_then (c_true rfl (c_skipn (n_then (wp_seq (wp_block (wp_seq ?_)))))))
    have ha1 : g.1 &&& 1 = g.1 % 2 := Nat.and_one_is_mod _
    refine c_reg (s0 (xmI rfl) (s0 (x_and8 (b := 1) rfl rfl (by omega) (by omega)) ?_))
    refine sb (x_eql rfl rfl) (fun h33 => ?_) (fun h33 => ?_)
    ·refine c_end (n_then (c_true rfl (c_reg (s0 (xmI rfl) (s0 (x_neg rfl (by omega)) (s0 (xaI rfl) (c_end (n_block (n_then (c_reg (s0 (xmI rfl) (s0 (x_shrc 1 2 rfl rfl (by decide) (by decide)) (s0 (xaI rfl) ?_)))))))))))))
     refine c_end ?_
     have ha2 : g.1 &&& 1 = g.1 % 2 := Nat.and_one_is_mod _
     have hodd : ((g.1 &&& 1 : Nat) : Int) = 1 ↔ g.1 % 2 = 1 := by rw [ha2]; omega
     exact c_round (g' := (g.1 / 2, _)) (by show g.1 / 2 < g.1; omega) ⟨_, upd_self5 rfl rfl rfl rfl (vint (by show _ = ((g.1 / 2 : Nat) : Int); omega)), L, (by omega), oz5, (by show g.1 / 2 ≤ 7; omega), (by first | exact sg_t hsg (hst.1 (hodd.1 h33)) | exact sg_f hsg (hst.2 (by have := mt hodd.2 h33; omega)))⟩
    ·refine c_end (n_then (c_false rfl (c_skipn (n_block (n_then (c_reg (s0 (xmI rfl) (s0 (x_shrc 1 2 rfl rfl (by decide) (by decide)) (s0 (xaI rfl) (c_end ?_))))))))))
     have ha2 : g.1 &&& 1 = g.1 % 2 := Nat.and_one_is_mod _
     have hodd : ((g.1 &&& 1 : Nat) : Int) = 1 ↔ g.1 % 2 = 1 := by rw [ha2]; omega
     exact c_round (g' := (g.1 / 2, _)) (by show g.1 / 2 < g.1; omega) ⟨_, upd_self5 rfl rfl rfl rfl (vint (by show _ = ((g.1 / 2 : Nat) : Int); omega)), L, (by omega), oz5, (by show g.1 / 2 ≤ 7; omega), (by first | exact sg_t hsg (hst.1 (hodd.1 h33)) | exact sg_f hsg (hst.2 (by have := mt hodd.2 h33; omega)))⟩
   ·refine c_end (n_then (c_false rfl ?_))
    refine wp_exit (e_then (e_then (e_here ?_)))
    refine n_then ?_
    have hg0 : g.1 = 0 := by omega
    rw [hg0, sg_zero] at hsg
    have hse : g.2 = RW n r k := by unfold RW; rw [if_neg (by omega)]; omega
    refine c_reg (s0 (xmS rfl) (s0 (xmI rfl) ?_))
    refine s_bsi (xs := [_]) so24 zr3 (pts_cons rfl pts_nil) rfl rfl rfl ?_
    intro p38 F38 w15 l16 o38 f38 g38
    have z_l16 := l16.size; have L := L.tr l16.up; have oz5 := oz5.ext l16; have hn38 := o38.n1
    refine s_appi (B := w.heap.size) so24 zr3 rfl rfl (xs := _) oz5 o38.sl fz5 (by omega) (by omega) (by omega) ?_
    intro p39 c39 F39 w17 l18 o39 hn39 k39 f39 g39
    have z_l18 := l18.size; have L := L.freshL l18 fz5 (by omega); have d38_39 : Dj F38 F39 := k39.dj (by first|assumption|exact Dj.symm (by assumption)|exact dj_of f38 g38 fz5 gz5 (by omega)) g38 (by omega)
    have o38 := o38.exm l18 (by first|assumption|exact Dj.symm (by assumption)|exact dj_of fz5 gz5 f38 g38 (by omega))
    refine s0 (xaS rfl) (c_end (n_block (n_then (c_reg (s0 (xmI rfl) (s0 (x_add rfl rfl (by omega)) (s0 (xaI rfl) (c_end ?_))))))))
    exact c_round (g' := k + 1) (by omega) ⟨_, _, _, _, upd_self3 rfl (slice_len (by simp)) (vint (by omega)), L, (by omega), (by rw [List.range_succ, List.map_append]; rw [hse] at o39; exact o39), (f39.mono (by omega)), (g39.mono (by omega)), (by omega)⟩
  ·refine c_end (n_then (c_false rfl ?_))
   refine wp_exit (e_then (e_then (e_here ?_)))
   refine n_then (wp_seq (c_reg (s0 (xmS rfl) (s0 (xaS rfl) (c_end (n_then (wp_ret (f_ret rfl rfl ?_))))))))
   exact ⟨_, rfl, L, _, _, _, _, _, rfl, oz5.rdf, fz5.mono (by omega), by simp; omega, by rw [show k = n by omega]⟩

theorem s_l12Fits (p : Option Addr) (xs : List Int) (c : Nat) (n : Nat) (w : World) (hp : Sl w p xs.length c 1 (ic xs)) (hl : xs.length ≤ 1099511627776) (hn : n ≤ 8) :
    Calls Tryz.prog 228 [.slice p xs.length c, .int .i64 (n : Int)].toArray w (Ret w (.bool (decide (fitsW xs (n * n))))) := by
 obtain ⟨N, hN⟩ : ∃ N : Nat, N = n * n := ⟨_, rfl⟩
 have hNi : (n : Int) * n = N := by rw [hN, Int.natCast_mul]
 have hN64 : N ≤ 64 := by rw [hN]; exact Nat.mul_le_mul hn hn
 have L : Exm [] w w := Exm.rfl'
 refine enter (n := 24) Tryz.func228 rfl rfl rfl ?_
 refine wp_seq (c_reg (s0 (x_assign (v := .bool _) rfl) (c_end (n_then (wp_seq (wp_seq (c_reg (s0 (xaI rfl) (c_end (n_then (wp_block ?_)))))))))))
 refine c_loop (γ := Nat) (fun k => xs.length - k) (fun (k : Nat) E wl => ∃ E0, E = upd (upd (upd E0 0 (.slice p xs.length c)) 1 (.int .i64 (n : Int))) 5 (.int .i64 (k : Int)) ∧ (Exm [] w wl) ∧ ((k : Int) ≤ xs.length) ∧ (∀ j : Nat, j < k → -1000000000 ≤ xs.getD j 0 ∧ xs.getD j 0 ≤ 1000000000)) 0 ⟨_, upd_self3 rfl rfl rfl, L, (by omega), (by intro j hj; omega)⟩ ?_
 rintro k E wl1 ⟨E0, rfl, L, hk, hall⟩
 have Lz0 := L.size
 refine wp_seq (wp_seq (c_reg (s0 (xmI rfl) (s0 (xmS rfl) (s0 (x_lensl un24 rfl) ?_)))))
 refine sb (x_lss rfl rfl) (fun h9 => ?_) (fun h9 => ?_)
 ·refine c_end (n_then (c_true rfl (c_skipn (n_then (wp_seq (wp_block (wp_seq (c_reg (s0 (xmS rfl) (s0 (xmI rfl) (s0 (x_idx so24 rfl rfl hp (by decide) (by omega) (by omega)) (st (x_ldi sc3 rfl (hp.ext L) (by omega) (by omega)) ?_))))))))))))
  refine srb (zcall cl85 rfl) (s_l1In _ _ _ _) (fun h16 w2 l3 => ?_) (fun h16 w2 l3 => ?_)
  ·have z_l3 := l3.size
   have L := L.tr l3.up
   refine s0 (x_not rfl) (c_end (n_then (c_false rfl (c_skipn (n_block (n_then (c_reg (s0 (xmI rfl) (s0 (x_add rfl rfl (by omega)) (s0 (xaI rfl) (c_end ?_)))))))))))
   exact c_round (g' := k + 1) (by omega) ⟨_, upd_self3 rfl rfl (vint (by omega)), L, (by omega), (upto_succ' hall (by simpa using h16))⟩
  ·have z_l3 := l3.size
   have L := L.tr l3.up
   refine s0 (x_not rfl) (c_end (n_then (c_true rfl (wp_seq (c_reg (s0 (x_assign (v := .bool _) rfl) (c_end (n_then ?_))))))))
   refine wp_ret (r_block (r_then (r_then (r_block (r_then ?_)))))
   refine f_ret rfl rfl ?_
   exact ⟨ret_f (fun h => h16 (by simpa using h.2 k (by omega))), L⟩
 ·refine c_end (n_then (c_false rfl ?_))
  refine wp_exit (e_then (e_then (e_here ?_)))
  refine n_then (wp_seq (c_reg (s0 (xmS rfl) (s0 (x_lensl un24 rfl) (s0 (xmI rfl) (s0 (xmI rfl) (s0 (x_mule (N : Int) rfl rfl hNi (by omega)) (s0 (x_eql rfl rfl) (s0 (x_assign (v := .bool _) rfl) (c_end (n_then (wp_ret (f_ret rfl rfl ?_)))))))))))))
  exact ⟨ret_dec2 ⟨fun h => ⟨by omega, fun j hj => hall j (by omega)⟩, fun h => by have := h.1; omega⟩, L⟩

theorem s_l12Mul (p : Option Addr) (xs : List Int) (c : Nat) (n : Nat) (w : World) (hp : Sl w p xs.length c 1 (ic xs)) (hl : xs.length ≤ 1099511627776) (hn4 : n = 4 ∨ n = 8) (hfit : fitsW xs (n * n)) :
    Calls Tryz.prog 229 [.slice p xs.length c, .int .i64 (n : Int), .bool true].toArray w (RetP w fun v w' => ∃ p c F, v = .slice p (prodL (MW n) xs n).length c ∧ Own w' p (prodL (MW n) xs n).length c 3 1 (ic (prodL (MW n) xs n)) F ∧ Fr w.heap.size F) := by
 have hn : n ≤ 8 := by omega
 have hs := MW_small hn4; have hfl := hfit.1; have hin := fits_inW hfit; have hhr := half_range hs hin hn
 obtain ⟨N, hN⟩ : ∃ N : Nat, N = n * n := ⟨_, rfl⟩
 have hNi : (n : Int) * n = N := by rw [hN, Int.natCast_mul]
 have hN64 : N ≤ 64 := by rw [hN]; exact Nat.mul_le_mul hn hn
 have L : Exm [] w w := Exm.rfl'
 refine enter (n := 164) Tryz.func229 rfl rfl rfl ?_
 refine wp_seq (c_reg (s0 (xaS rfl) (c_end (n_then (wp_seq (c_reg (s0 (xmI rfl) (s0 (xmI rfl) (s0 (x_mule (N : Int) rfl rfl hNi (by omega)) (s_makei so24 zr3 rfl rfl (by omega) (by omega) (by omega) ?_))))))))))
 intro p22 F22 w1 l2 o22 f22 g22
 have z_l2 := l2.size; have L := L.tr l2.up; have hn22 := o22.n1
 refine s0 (xaS rfl) (c_end (n_then (wp_seq (wp_seq ?_))))
 have o22 := ownI o22 (ys := colS (RW n) n 0 0) (by rw [colS_zero, ← hN]; try rfl)
 refine c_reg (s0 (xaI rfl) (c_end (n_then (wp_block ?_))))
 refine c_loop (γ := Nat) (fun r => n - r) (fun (r : Nat) E wl => ∃ E0, E = upd (upd (upd (upd (upd E0 0 (.slice p xs.length c)) 1 (.int .i64 (n : Int))) 2 (.bool true)) 7 (.slice p22 N N)) 8 (.int .i64 (r : Int)) ∧ (Exm [] w wl) ∧ (w1.heap.size ≤ wl.heap.size) ∧ (Own wl p22 N N 3 1 (ic (colS (RW n) n r 0)) F22) ∧ ((r : Int) ≤ n)) 0 ⟨_, upd_self5 rfl rfl rfl rfl rfl, L, (by omega), o22, (by omega)⟩ ?_
 rintro r E wl3 ⟨E0, rfl, L, Lz, o22, hler⟩
 have Lz0 := L.size
 refine wp_seq (wp_seq (c_reg (s0 (xmI rfl) (s0 (xmI rfl) ?_))))
 refine sb (x_lss rfl rfl) (fun h25 => ?_) (fun h25 => ?_)
 ·refine c_end (n_then (c_true rfl (c_skipn (n_then (wp_seq (wp_block (wp_seq (c_reg (s0 (xmI rfl) (s0 (xmI rfl) ?_))))))))))
  refine sp (zcall cl237 rfl) (s_l12Row _ _ _ (by assumption) (by omega)) ?_
  rintro v30 w4 l5 ⟨p30, k30, c30, xs30, F30, rfl, o30, f30, hk30, rfl⟩
  have z_l5 := l5.size; have L := L.tr l5.up; have o22 := o22.ext l5; have g30 := o30.lt
  refine s0 (xaS rfl) (c_end (n_then (wp_seq (c_reg (s0 (xaI rfl) (c_end (n_then (wp_block ?_))))))))
  refine c_loop (γ := Nat) (fun i => n - i) (fun (i : Nat) E wl => ∃ E0, E = upd (upd (upd (upd (upd (upd (upd E0 0 (.slice p xs.length c)) 1 (.int .i64 (n : Int))) 2 (.bool true)) 7 (.slice p22 N N)) 8 (.int .i64 (r : Int))) 9 (.slice p30 k30 c30)) 10 (.int .i64 (i : Int)) ∧ (Exm [] w wl) ∧ (w4.heap.size ≤ wl.heap.size) ∧ (Own wl p22 N N 3 1 (ic (colS (RW n) n r i)) F22) ∧ (Rdf wl p30 k30 c30 1 (ic ((List.range n).map (RW n r))) F30) ∧ ((i : Int) ≤ n)) 0 ⟨_, upd_self7 rfl rfl rfl rfl rfl rfl rfl, L, (by omega), o22, o30, (by omega)⟩ ?_
  rintro i E wl6 ⟨E0, rfl, L, Lz, o22, o30, hlei⟩
  have Lz0 := L.size
  refine wp_seq (wp_seq (c_reg (s0 (xmI rfl) (s0 (xmI rfl) ?_))))
  refine sb (x_lss rfl rfl) (fun h33 => ?_) (fun h33 => ?_)
  ·refine c_end (n_then (c_true rfl (c_skipn (n_then (wp_seq (wp_block (wp_seq (c_reg (s0 (x_move (v := .bool _) rfl) (c_end (n_then (c_true rfl ?_))))))))))))
   have hrwl : ((List.range n).map (RW n r)).length = n := by simp
   have hcl := colS_length (RW n) n r i; have hq := q_lt (n := n) (r := i) (k := r) (by omega) (by omega); have e1 : (((i * n : Nat) : Int) + (r : Int)).toNat = i * n + r := by omega
   refine c_reg (s0 (xmS rfl) (s0 (xmI rfl) (s0 (xmI rfl) (s0 (x_mule ((i * n : Nat) : Int) rfl rfl (Int.natCast_mul _ _).symm (by omega)) (s0 (xmI rfl) (s0 (x_add rfl rfl (by omega)) (s0 (xmS rfl) (s0 (xmI rfl) (s0 (x_idx so24 rfl rfl o30.sl (by decide) (by omega) (by omega)) (st (x_ldi sc3 rfl o30.sl (by omega) (by omega)) (s0 (x_idx so24 rfl rfl o22.sl (by decide) (by omega) (by omega)) (s_stoi rfl sz3 rfl rfl o22 (by omega) (by omega) ?_))))))))))))
   intro w7 l8 el8 o22
   have z_l8 := l8.size; have L := L.freshL l8 f22 (by omega); have o30 := o30.exm l8 (by first|assumption|exact Dj.symm (by assumption)|exact dj_of f22 g22 f30 g30 (by omega))
   have hnl8 := o22.n1
   refine c_end (n_block (n_then (c_reg (s0 (xmI rfl) (s0 (x_add rfl rfl (by omega)) (s0 (xaI rfl) (c_end ?_)))))))
   have o22 := ownI o22 (ys := colS (RW n) n r (i + 1)) (by rw [e1]; exact colS_set _ (by omega) (by omega) (row_get _ (by omega)))
   exact c_round (g' := i + 1) (by omega) ⟨_, upd_self7 rfl rfl rfl rfl rfl rfl (vint (by omega)), L, (by omega), o22, o30, (by omega)⟩
  ·refine c_end (n_then (c_false rfl ?_))
   refine wp_exit (e_then (e_then (e_here ?_)))
   refine n_block (n_then (c_reg (s0 (xmI rfl) (s0 (x_add rfl rfl (by omega)) (s0 (xaI rfl) (c_end ?_))))))
   have hie : i = n := by omega
   rw [hie] at o22
   have o22 := ownI o22 (ys := colS (RW n) n (r + 1) 0) (colS_next _ _ _)
   exact c_round (g' := r + 1) (by omega) ⟨_, upd_self5 rfl rfl rfl rfl (vint (by omega)), L, (by omega), o22, (by omega)⟩
 ·refine c_end (n_then (c_false rfl ?_))
  refine wp_exit (e_then (e_then (e_here ?_)))
  refine n_then (wp_seq ?_)
  have hre : r = n := by omega
  have o22 := ownI o22 (ys := (flatM (MW n) n)) (by rw [hre]; exact colS_end _ (Nat.le_refl _))
  refine c_reg (s0 (xmI rfl) (s0 (xmI rfl) (s0 (x_mule (N : Int) rfl rfl hNi (by omega)) (s_makei so24 zr3 rfl rfl (by omega) (by omega) (by omega) ?_))))
  intro p62 F62 w9 l10 o62 f62 g62
  have z_l10 := l10.size; have L := L.tr l10.up; have o22 := o22.ext l10; have hn62 := o62.n1
  refine s0 (xaS rfl) (c_end (n_then (wp_seq (c_reg (s0 (xmI rfl) (s0 (xmI rfl) (s0 (x_mule (N : Int) rfl rfl hNi (by omega)) (s_makei so24 zr3 rfl rfl (by omega) (by omega) (by omega) ?_))))))))
  intro p66 F66 w11 l12 o66 f66 g66
  have z_l12 := l12.size; have L := L.tr l12.up; have o22 := o22.ext l12; have o62 := o62.ext l12; have hn66 := o66.n1
  refine s0 (xaS rfl) (c_end (n_then (wp_seq (wp_seq ?_))))
  have o62 := ownI o62 (ys := accS (T1 (MW n) xs n) N n (0 * n) 0) (by rw [Nat.zero_mul, accS_zero]; try rfl)
  refine c_reg (s0 (xaI rfl) (c_end (n_then (wp_block ?_))))
  refine c_loop (γ := Nat) (fun y => n - y) (fun (y : Nat) E wl => ∃ E0, E = upd (upd (upd (upd (upd (upd E0 0 (.slice p xs.length c)) 1 (.int .i64 (n : Int))) 7 (.slice p22 N N)) 11 (.slice p62 N N)) 12 (.slice p66 N N)) 13 (.int .i64 (y : Int)) ∧ (Exm [] w wl) ∧ (w11.heap.size ≤ wl.heap.size) ∧ (Own wl p62 N N 3 1 (ic (accS (T1 (MW n) xs n) N n (y * n) 0)) F62) ∧ (Own wl p22 N N 3 1 (ic ((flatM (MW n) n))) F22) ∧ (Own wl p66 N N 3 1 (ic (List.replicate N 0)) F66) ∧ ((y : Int) ≤ n)) 0 ⟨_, upd_self6 rfl rfl rfl rfl rfl rfl, L, (by omega), o62, o22, o66, (by omega)⟩ ?_
  rintro y E wl13 ⟨E0, rfl, L, Lz, o62, o22, o66, hley⟩
  have Lz0 := L.size
  refine wp_seq (wp_seq (c_reg (s0 (xmI rfl) (s0 (xmI rfl) ?_))))
  refine sb (x_lss rfl rfl) (fun h69 => ?_) (fun h69 => ?_)
  ·refine c_end (n_then (c_true rfl (c_skipn (n_then (wp_seq (wp_block (wp_seq (c_reg (s0 (xaI rfl) (c_end (n_then (wp_block ?_))))))))))))
   refine c_loop (γ := Nat) (fun k => n - k) (fun (k : Nat) E wl => ∃ E0, E = upd (upd (upd (upd (upd (upd (upd E0 0 (.slice p xs.length c)) 1 (.int .i64 (n : Int))) 7 (.slice p22 N N)) 11 (.slice p62 N N)) 12 (.slice p66 N N)) 13 (.int .i64 (y : Int))) 14 (.int .i64 (k : Int)) ∧ (Exm [] w wl) ∧ (wl13.heap.size ≤ wl.heap.size) ∧ (Own wl p62 N N 3 1 (ic (accS (T1 (MW n) xs n) N n (y * n + k) 0)) F62) ∧ (Own wl p22 N N 3 1 (ic ((flatM (MW n) n))) F22) ∧ (Own wl p66 N N 3 1 (ic (List.replicate N 0)) F66) ∧ ((k : Int) ≤ n)) 0 ⟨_, upd_self7 rfl rfl rfl rfl rfl rfl rfl, L, (by omega), o62, o22, o66, (by omega)⟩ ?_
   rintro k E wl14 ⟨E0, rfl, L, Lz, o62, o22, o66, hlek⟩
   have Lz0 := L.size
   refine wp_seq (wp_seq (c_reg (s0 (xmI rfl) (s0 (xmI rfl) ?_))))
   refine sb (x_lss rfl rfl) (fun h74 => ?_) (fun h74 => ?_)
   ·refine c_end (n_then (c_true rfl (c_skipn (n_then (wp_seq (wp_block (wp_seq (c_reg (s0 (xaI rfl) (c_end (n_then (wp_block ?_))))))))))))
    refine c_loop (γ := Nat) (fun i => n - i) (fun (i : Nat) E wl => ∃ E0, E = upd (upd (upd (upd (upd (upd (upd (upd E0 0 (.slice p xs.length c)) 1 (.int .i64 (n : Int))) 7 (.slice p22 N N)) 11 (.slice p62 N N)) 12 (.slice p66 N N)) 13 (.int .i64 (y : Int))) 14 (.int .i64 (k : Int))) 15 (.int .i64 (i : Int)) ∧ (Exm [] w wl) ∧ (wl14.heap.size ≤ wl.heap.size) ∧ (Own wl p62 N N 3 1 (ic (accS (T1 (MW n) xs n) N n (y * n + k) i)) F62) ∧ (Own wl p22 N N 3 1 (ic ((flatM (MW n) n))) F22) ∧ (Own wl p66 N N 3 1 (ic (List.replicate N 0)) F66) ∧ ((i : Int) ≤ n)) 0 ⟨_, upd_self8 rfl rfl rfl rfl rfl rfl rfl rfl, L, (by omega), o62, o22, o66, (by omega)⟩ ?_
    rintro i E wl15 ⟨E0, rfl, L, Lz, o62, o22, o66, hlei⟩
    have Lz0 := L.size
    refine wp_seq (wp_seq (c_reg (s0 (xmI rfl) (s0 (xmI rfl) ?_))))
    refine sb (x_lss rfl rfl) (fun h79 => ?_) (fun h79 => ?_)
    ·refine c_end (n_then (c_true rfl (c_skipn (n_then (wp_seq (wp_block ?_))))))
     have hal := accS_length (T1 (MW n) xs n) N n (y * n + k) i; have hhl : (halfL (MW n) xs n).length = n * n := accL_length _ _ _; have hfm := flatM_length (MW n) n; have hq := q_lt (n := n) (r := y) (k := k) (by omega) (by omega); have hq2 := q_lt (n := n) (r := i) (k := k) (by omega) (by omega); have hq3 := q_lt (n := n) (r := y) (k := i) (by omega) (by omega); have e2 : (((i * n : Nat) : Int) + (k : Int)).toNat = i * n + k := by omega
     have e3 : (((y * n : Nat) : Int) + (i : Int)).toNat = y * n + i := by omega
     have hTe : (T1 (MW n) xs n) (y * n + k) i = (flatM (MW n) n).getD (((y * n : Nat) : Int) + (i : Int)).toNat 0 * xs.getD (((i * n : Nat) : Int) + (k : Int)).toNat 0 := by rw [T1_at (by omega), e3, flatM_get _ (by omega) (by omega), e2]
     have e1 : (((y * n : Nat) : Int) + (k : Int)).toNat = y * n + k := by omega
     have hcur : (accS (T1 (MW n) xs n) N n (y * n + k) i).getD (((y * n : Nat) : Int) + (k : Int)).toNat 0 = accP (T1 (MW n) xs n) (y * n + k) i := by rw [e1]; exact accS_get _ (by omega)
     have hTr : -2000000000 ≤ (T1 (MW n) xs n) (y * n + k) i ∧ (T1 (MW n) xs n) (y * n + k) i ≤ 2000000000 := T1_range hs hin (by omega) (by omega : i < n)
     have hac := accP_range (T := T1 (MW n) xs n) (q := y * n + k) (B := 2000000000) (n := i) fun j hj => T1_range hs hin (by omega) (by omega : j < n)
     rw [hTe] at hTr
     refine c_plan (fun wq => Exm [] wl15 wq) 33 (.cons (0, 2) (.cons (1, 2) (.cons (2, 2) (.cons (3, 2) (.cons (4, 2) (.cons (5, 2) (.cons (6, 2) (.cons (7, 2) (.cons (8, 2) (.cons (9, 2) (.cons (10, 2) (.cons (11, 2) (.cons (12, 2) (.cons (13, 1) (.cons (14, 2) (.cons (15, 2) (.cons (16, 2) (.cons (17, 2) (.cons (18, 2) (.cons (19, 2) (.cons (20, 2) (.cons (21, 1) (.cons (22, 2) (.cons (23, 2) (.cons (24, 2) (.cons (25, 2) (.cons (26, 2) (.cons (27, 2) (.cons (28, 2) (.cons (29, 1) (.cons (30, 2) (.cons (31, 2) (.cons (32, 2) (.cons (33, 0) .nil)))))))))))))))))))))))))))))))))) (by kernel_rfl) (by kernel_rfl) (Exm.drew _) ?_
     obtain ⟨w16, hwd⟩ : ∃ x, x = wl15.drew := ⟨_, rfl⟩
     have l17 : Ext wl15 w16 := by rw [hwd]; exact Exm.drew _
     rw [← hwd]; clear hwd
     have Lq : Exm [] wl15 w16 := l17.up; have qo62 := o62; have qo22 := o22; have qL := L; have z_l17 := l17.size; have L := L.tr l17.up; have o62 := o62.ext l17; have o22 := o22.ext l17; have o66 := o66.ext l17
     refine p0 rfl (xmS rfl) (p0 rfl (xmI rfl) (p0 rfl (xmI rfl) (p0 rfl (x_mule ((y * n : Nat) : Int) rfl rfl (Int.natCast_mul _ _).symm (by omega)) (p0 rfl (xmI rfl) (p0 rfl (x_add rfl rfl (by omega)) (p0 rfl (xmS rfl) (p0 rfl (xmI rfl) (p0 rfl (xmI rfl) (p0 rfl (x_mule ((y * n : Nat) : Int) rfl rfl (Int.natCast_mul _ _).symm (by omega)) (p0 rfl (xmI rfl) (p0 rfl (x_add rfl rfl (by omega)) (p0 rfl (x_idx so24 rfl rfl o62.sl (by decide) (by omega) (by omega)) ?_))))))))))))
     refine ps rfl (fun wq hwq => x_ldi sc3 rfl (qo62.ext hwq).sl (by omega) (by omega)) ?_
     refine p0 rfl (xmS rfl) (p0 rfl (xmI rfl) (p0 rfl (xmI rfl) (p0 rfl (x_mule ((y * n : Nat) : Int) rfl rfl (Int.natCast_mul _ _).symm (by omega)) (p0 rfl (xmI rfl) (p0 rfl (x_add rfl rfl (by omega)) (p0 rfl (x_idx so24 rfl rfl o22.sl (by decide) (by omega) (by omega)) ?_))))))
     refine ps rfl (fun wq hwq => x_ldi sc3 rfl (qo22.ext hwq).sl (by omega) (by omega)) ?_
     refine p0 rfl (xmS rfl) (p0 rfl (xmI rfl) (p0 rfl (xmI rfl) (p0 rfl (x_mule ((i * n : Nat) : Int) rfl rfl (Int.natCast_mul _ _).symm (by omega)) (p0 rfl (xmI rfl) (p0 rfl (x_add rfl rfl (by omega)) (p0 rfl (x_idx so24 rfl rfl hp (by decide) (by omega) (by omega)) ?_))))))
     refine ps rfl (fun wq hwq => x_ldi sc3 rfl ((hp.ext qL).ext hwq) (by omega) (by omega)) ?_
     refine p0 rfl (x_mul rfl rfl (by omega)) (p0 rfl (x_add rfl rfl (by omega)) (p0 rfl (x_idx so24 rfl rfl o62.sl (by decide) (by omega) (by omega)) (pu rfl (s_stoi rfl sz3 rfl rfl o62 (by omega) (by omega) ?_))))
     intro w18 l19 el19 o62
     have z_l19 := l19.size; have L := L.freshL l19 f62 (by omega); have o22 := o22.exm l19 (by first|assumption|exact Dj.symm (by assumption)|exact dj_of f62 g62 f22 g22 (by omega))
     have o66 := o66.exm l19 (by first|assumption|exact Dj.symm (by assumption)|exact dj_of f62 g62 f66 g66 (by omega))
     have hnl19 := o62.n1
     refine c_end ⟨rfl, fun h hS => absurd h (by decide), ?_⟩
     refine p_nil (np_normal ?_)
     refine n_block (n_then (c_reg (s0 (xmI rfl) (s0 (x_add rfl rfl (by omega)) (s0 (xaI rfl) (c_end ?_))))))
     have o62 := ownI o62 (ys := accS (T1 (MW n) xs n) N n (y * n + k) (i + 1)) (by rw [e1]; exact accS_set _ (by omega) (by rw [accS_get _ (by omega), hTe]))
     exact c_round (g' := i + 1) (by omega) ⟨_, upd_self8 rfl rfl rfl rfl rfl rfl rfl (vint (by omega)), L, (by omega), o62, o22, o66, (by omega)⟩
    ·refine c_end (n_then (c_false rfl ?_))
     refine wp_exit (e_then (e_then (e_here ?_)))
     refine n_block (n_then (c_reg (s0 (xmI rfl) (s0 (x_add rfl rfl (by omega)) (s0 (xaI rfl) (c_end ?_))))))
     have hie : i = n := by omega
     rw [hie] at o62
     have o62 := ownI o62 (ys := accS (T1 (MW n) xs n) N n (y * n + (k + 1)) 0) (accS_next _ _ _ _)
     exact c_round (g' := k + 1) (by omega) ⟨_, upd_self7 rfl rfl rfl rfl rfl rfl (vint (by omega)), L, (by omega), o62, o22, o66, (by omega)⟩
   ·refine c_end (n_then (c_false rfl ?_))
    refine wp_exit (e_then (e_then (e_here ?_)))
    refine n_block (n_then (c_reg (s0 (xmI rfl) (s0 (x_add rfl rfl (by omega)) (s0 (xaI rfl) (c_end ?_))))))
    have hke : k = n := by omega
    rw [hke] at o62
    have o62 := ownI o62 (ys := accS (T1 (MW n) xs n) N n ((y + 1) * n) 0) (by rw [Nat.add_mul, Nat.one_mul])
    exact c_round (g' := y + 1) (by omega) ⟨_, upd_self6 rfl rfl rfl rfl rfl (vint (by omega)), L, (by omega), o62, o22, o66, (by omega)⟩
  ·refine c_end (n_then (c_false rfl ?_))
   refine wp_exit (e_then (e_then (e_here ?_)))
   refine n_then (wp_seq (wp_seq ?_))
   have hye : y = n := by omega
   have o62 := ownI o62 (ys := halfL (MW n) xs n) (by rw [hye]; unfold halfL; rw [← hN]; exact accS_end _ (by omega))
   have o66 := ownI o66 (ys := accS (T2 (MW n) (halfL (MW n) xs n) n) N n (0 * n) 0) (by rw [Nat.zero_mul, accS_zero]; try rfl)
   refine c_reg (s0 (xaI rfl) (c_end (n_then (wp_block ?_))))
   refine c_loop (γ := Nat) (fun v => n - v) (fun (v : Nat) E wl => ∃ E0, E = upd (upd (upd (upd (upd E0 1 (.int .i64 (n : Int))) 7 (.slice p22 N N)) 11 (.slice p62 N N)) 12 (.slice p66 N N)) 16 (.int .i64 (v : Int)) ∧ (Exm [] w wl) ∧ (wl13.heap.size ≤ wl.heap.size) ∧ (Own wl p66 N N 3 1 (ic (accS (T2 (MW n) (halfL (MW n) xs n) n) N n (v * n) 0)) F66) ∧ (Own wl p22 N N 3 1 (ic ((flatM (MW n) n))) F22) ∧ (Own wl p62 N N 3 1 (ic (halfL (MW n) xs n)) F62) ∧ ((v : Int) ≤ n)) 0 ⟨_, upd_self5 rfl rfl rfl rfl rfl, L, (by omega), o66, o22, o62, (by omega)⟩ ?_
   rintro v E wl20 ⟨E0, rfl, L, Lz, o66, o22, o62, hlev⟩
   have Lz0 := L.size
   refine wp_seq (wp_seq (c_reg (s0 (xmI rfl) (s0 (xmI rfl) ?_))))
   refine sb (x_lss rfl rfl) (fun h117 => ?_) (fun h117 => ?_)
   ·refine c_end (n_then (c_true rfl (c_skipn (n_then (wp_seq (wp_block (wp_seq (c_reg (s0 (xaI rfl) (c_end (n_then (wp_block ?_))))))))))))
    refine c_loop (γ := Nat) (fun x => n - x) (fun (x : Nat) E wl => ∃ E0, E = upd (upd (upd (upd (upd (upd E0 1 (.int .i64 (n : Int))) 7 (.slice p22 N N)) 11 (.slice p62 N N)) 12 (.slice p66 N N)) 16 (.int .i64 (v : Int))) 17 (.int .i64 (x : Int)) ∧ (Exm [] w wl) ∧ (wl20.heap.size ≤ wl.heap.size) ∧ (Own wl p66 N N 3 1 (ic (accS (T2 (MW n) (halfL (MW n) xs n) n) N n (v * n + x) 0)) F66) ∧ (Own wl p22 N N 3 1 (ic ((flatM (MW n) n))) F22) ∧ (Own wl p62 N N 3 1 (ic (halfL (MW n) xs n)) F62) ∧ ((x : Int) ≤ n)) 0 ⟨_, upd_self6 rfl rfl rfl rfl rfl rfl, L, (by omega), o66, o22, o62, (by omega)⟩ ?_
    rintro x E wl21 ⟨E0, rfl, L, Lz, o66, o22, o62, hlex⟩
    have Lz0 := L.size
    refine wp_seq (wp_seq (c_reg (s0 (xmI rfl) (s0 (xmI rfl) ?_))))
    refine sb (x_lss rfl rfl) (fun h122 => ?_) (fun h122 => ?_)
    ·refine c_end (n_then (c_true rfl (c_skipn (n_then (wp_seq (wp_block (wp_seq (c_reg (s0 (xaI rfl) (c_end (n_then (wp_block ?_))))))))))))
     refine c_loop (γ := Nat) (fun j => n - j) (fun (j : Nat) E wl => ∃ E0, E = upd (upd (upd (upd (upd (upd (upd E0 1 (.int .i64 (n : Int))) 7 (.slice p22 N N)) 11 (.slice p62 N N)) 12 (.slice p66 N N)) 16 (.int .i64 (v : Int))) 17 (.int .i64 (x : Int))) 18 (.int .i64 (j : Int)) ∧ (Exm [] w wl) ∧ (wl21.heap.size ≤ wl.heap.size) ∧ (Own wl p66 N N 3 1 (ic (accS (T2 (MW n) (halfL (MW n) xs n) n) N n (v * n + x) j)) F66) ∧ (Own wl p22 N N 3 1 (ic ((flatM (MW n) n))) F22) ∧ (Own wl p62 N N 3 1 (ic (halfL (MW n) xs n)) F62) ∧ ((j : Int) ≤ n)) 0 ⟨_, upd_self7 rfl rfl rfl rfl rfl rfl rfl, L, (by omega), o66, o22, o62, (by omega)⟩ ?_
     rintro j E wl22 ⟨E0, rfl, L, Lz, o66, o22, o62, hlej⟩
     have Lz0 := L.size
     refine wp_seq (wp_seq (c_reg (s0 (xmI rfl) (s0 (xmI rfl) ?_))))
     refine sb (x_lss rfl rfl) (fun h127 => ?_) (fun h127 => ?_)
     ·refine c_end (n_then (c_true rfl (c_skipn (n_then (wp_seq (wp_block ?_))))))
      have hal := accS_length (T2 (MW n) (halfL (MW n) xs n) n) N n (v * n + x) j; have hhl : (halfL (MW n) xs n).length = n * n := accL_length _ _ _; have hfm := flatM_length (MW n) n; have hq := q_lt (n := n) (r := v) (k := x) (by omega) (by omega); have hq2 := q_lt (n := n) (r := v) (k := j) (by omega) (by omega); have hq3 := q_lt (n := n) (r := x) (k := j) (by omega) (by omega); have e2 : (((v * n : Nat) : Int) + (j : Int)).toNat = v * n + j := by omega
      have e3 : (((x * n : Nat) : Int) + (j : Int)).toNat = x * n + j := by omega
      have hTe : (T2 (MW n) (halfL (MW n) xs n) n) (v * n + x) j = (halfL (MW n) xs n).getD (((v * n : Nat) : Int) + (j : Int)).toNat 0 * (flatM (MW n) n).getD (((x * n : Nat) : Int) + (j : Int)).toNat 0 := by rw [T2_at (by omega), e3, flatM_get _ (by omega) (by omega), e2]
      have e1 : (((v * n : Nat) : Int) + (x : Int)).toNat = v * n + x := by omega
      have hcur : (accS (T2 (MW n) (halfL (MW n) xs n) n) N n (v * n + x) j).getD (((v * n : Nat) : Int) + (x : Int)).toNat 0 = accP (T2 (MW n) (halfL (MW n) xs n) n) (v * n + x) j := by rw [e1]; exact accS_get _ (by omega)
      have hTr : -32000000000 ≤ (T2 (MW n) (halfL (MW n) xs n) n) (v * n + x) j ∧ (T2 (MW n) (halfL (MW n) xs n) n) (v * n + x) j ≤ 32000000000 := T2_range hs hhr (by omega : j < n)
      have hac := accP_range (T := T2 (MW n) (halfL (MW n) xs n) n) (q := v * n + x) (B := 32000000000) (n := j) fun j hj => T2_range hs hhr (by omega : j < n)
      rw [hTe] at hTr
      refine c_plan (fun wq => Exm [] wl22 wq) 33 (.cons (0, 2) (.cons (1, 2) (.cons (2, 2) (.cons (3, 2) (.cons (4, 2) (.cons (5, 2) (.cons (6, 2) (.cons (7, 2) (.cons (8, 2) (.cons (9, 2) (.cons (10, 2) (.cons (11, 2) (.cons (12, 2) (.cons (13, 1) (.cons (14, 2) (.cons (15, 2) (.cons (16, 2) (.cons (17, 2) (.cons (18, 2) (.cons (19, 2) (.cons (20, 2) (.cons (21, 1) (.cons (22, 2) (.cons (23, 2) (.cons (24, 2) (.cons (25, 2) (.cons (26, 2) (.cons (27, 2) (.cons (28, 2) (.cons (29, 1) (.cons (30, 2) (.cons (31, 2) (.cons (32, 2) (.cons (33, 0) .nil)))))))))))))))))))))))))))))))))) (by kernel_rfl) (by kernel_rfl) (Exm.drew _) ?_
      obtain ⟨w23, hwd⟩ : ∃ x, x = wl22.drew := ⟨_, rfl⟩
      have l24 : Ext wl22 w23 := by rw [hwd]; exact Exm.drew _
      rw [← hwd]; clear hwd
      have Lq : Exm [] wl22 w23 := l24.up; have qo66 := o66; have qo22 := o22; have qo62 := o62; have z_l24 := l24.size; have L := L.tr l24.up; have o66 := o66.ext l24; have o22 := o22.ext l24; have o62 := o62.ext l24
      refine p0 rfl (xmS rfl) (p0 rfl (xmI rfl) (p0 rfl (xmI rfl) (p0 rfl (x_mule ((v * n : Nat) : Int) rfl rfl (Int.natCast_mul _ _).symm (by omega)) (p0 rfl (xmI rfl) (p0 rfl (x_add rfl rfl (by omega)) (p0 rfl (xmS rfl) (p0 rfl (xmI rfl) (p0 rfl (xmI rfl) (p0 rfl (x_mule ((v * n : Nat) : Int) rfl rfl (Int.natCast_mul _ _).symm (by omega)) (p0 rfl (xmI rfl) (p0 rfl (x_add rfl rfl (by omega)) (p0 rfl (x_idx so24 rfl rfl o66.sl (by decide) (by omega) (by omega)) ?_))))))))))))
      refine ps rfl (fun wq hwq => x_ldi sc3 rfl (qo66.ext hwq).sl (by omega) (by omega)) ?_
      refine p0 rfl (xmS rfl) (p0 rfl (xmI rfl) (p0 rfl (xmI rfl) (p0 rfl (x_mule ((v * n : Nat) : Int) rfl rfl (Int.natCast_mul _ _).symm (by omega)) (p0 rfl (xmI rfl) (p0 rfl (x_add rfl rfl (by omega)) (p0 rfl (x_idx so24 rfl rfl o62.sl (by decide) (by omega) (by omega)) ?_))))))
      refine ps rfl (fun wq hwq => x_ldi sc3 rfl (qo62.ext hwq).sl (by omega) (by omega)) ?_
      refine p0 rfl (xmS rfl) (p0 rfl (xmI rfl) (p0 rfl (xmI rfl) (p0 rfl (x_mule ((x * n : Nat) : Int) rfl rfl (Int.natCast_mul _ _).symm (by omega)) (p0 rfl (xmI rfl) (p0 rfl (x_add rfl rfl (by omega)) (p0 rfl (x_idx so24 rfl rfl o22.sl (by decide) (by omega) (by omega)) ?_))))))
      refine ps rfl (fun wq hwq => x_ldi sc3 rfl (qo22.ext hwq).sl (by omega) (by omega)) ?_
      refine p0 rfl (x_mul rfl rfl (by omega)) (p0 rfl (x_add rfl rfl (by omega)) (p0 rfl (x_idx so24 rfl rfl o66.sl (by decide) (by omega) (by omega)) (pu rfl (s_stoi rfl sz3 rfl rfl o66 (by omega) (by omega) ?_))))
      intro w25 l26 el26 o66
      have z_l26 := l26.size; have L := L.freshL l26 f66 (by omega); have o22 := o22.exm l26 (by first|assumption|exact Dj.symm (by assumption)|exact dj_of f66 g66 f22 g22 (by omega))
      have o62 := o62.exm l26 (by first|assumption|exact Dj.symm (by assumption)|exact dj_of f66 g66 f62 g62 (by omega))
      have hnl26 := o66.n1
      refine c_end ⟨rfl, fun h hS => absurd h (by decide), ?_⟩
      refine p_nil (np_normal ?_)
      refine n_block (n_then (c_reg (s0 (xmI rfl) (s0 (x_add rfl rfl (by omega)) (s0 (xaI rfl) (c_end ?_))))))
      have o66 := ownI o66 (ys := accS (T2 (MW n) (halfL (MW n) xs n) n) N n (v * n + x) (j + 1)) (by rw [e1]; exact accS_set _ (by omega) (by rw [accS_get _ (by omega), hTe]))
      exact c_round (g' := j + 1) (by omega) ⟨_, upd_self7 rfl rfl rfl rfl rfl rfl (vint (by omega)), L, (by omega), o66, o22, o62, (by omega)⟩
     ·refine c_end (n_then (c_false rfl ?_))
      refine wp_exit (e_then (e_then (e_here ?_)))
      refine n_block (n_then (c_reg (s0 (xmI rfl) (s0 (x_add rfl rfl (by omega)) (s0 (xaI rfl) (c_end ?_))))))
      have hie : j = n := by omega
      rw [hie] at o66
      have o66 := ownI o66 (ys := accS (T2 (MW n) (halfL (MW n) xs n) n) N n (v * n + (x + 1)) 0) (accS_next _ _ _ _)
      exact c_round (g' := x + 1) (by omega) ⟨_, upd_self6 rfl rfl rfl rfl rfl (vint (by omega)), L, (by omega), o66, o22, o62, (by omega)⟩
    ·refine c_end (n_then (c_false rfl ?_))
     refine wp_exit (e_then (e_then (e_here ?_)))
     refine n_block (n_then (c_reg (s0 (xmI rfl) (s0 (x_add rfl rfl (by omega)) (s0 (xaI rfl) (c_end ?_))))))
     have hke : x = n := by omega
     rw [hke] at o66
     have o66 := ownI o66 (ys := accS (T2 (MW n) (halfL (MW n) xs n) n) N n ((v + 1) * n) 0) (by rw [Nat.add_mul, Nat.one_mul])
     exact c_round (g' := v + 1) (by omega) ⟨_, upd_self5 rfl rfl rfl rfl (vint (by omega)), L, (by omega), o66, o22, o62, (by omega)⟩
   ·refine c_end (n_then (c_false rfl ?_))
    refine wp_exit (e_then (e_then (e_here ?_)))
    refine n_then (wp_seq (c_reg (s0 (xmS rfl) (s0 (xaS rfl) (c_end (n_then (wp_ret (f_ret rfl rfl ?_))))))))
    have hve : v = n := by omega
    have o66 := ownI o66 (ys := prodL (MW n) xs n) (by rw [hve]; unfold prodL; rw [← hN]; exact accS_end _ (by omega))
    have hpl : N = (prodL (MW n) xs n).length := by rw [prodL_length, hN]
    exact ⟨_, rfl, L, p66, N, F66, slice_len hpl.symm, (by rw [← hpl]; exact o66), f66.mono (by omega)⟩

theorem s_l12Some (p : Option Addr) (xs : List Int) (c : Nat) (n : Nat) (w : World) (hp : Sl w p xs.length c 1 (ic xs)) (hl : xs.length ≤ 1099511627776) (hn4 : n = 4 ∨ n = 8) :
    Calls Tryz.prog 212 [.slice p xs.length c, .int .i64 (n : Int), .bool true].toArray w (RetP w fun v w' => ∃ p c F, v = .slice p (prodG (MW n) xs n).length c ∧ Own w' p (prodG (MW n) xs n).length c 3 1 (ic (prodG (MW n) xs n)) F ∧ Fr w.heap.size F) := by
 have L : Exm [] w w := Exm.rfl'
 refine enter (n := 16) Tryz.func212 rfl rfl rfl ?_
 refine wp_seq (c_reg (s0 (xaS rfl) (c_end (n_then (wp_seq (wp_seq (c_reg (s0 (xmS rfl) (s0 (xmI rfl) ?_)))))))))
 refine srb (zcall cl228 rfl) (s_l12Fits _ _ _ _ _ (hp.ext L) (by omega) (by omega)) (fun h9 w1 l2 => ?_) (fun h9 w1 l2 => ?_)
 ·have z_l2 := l2.size
  have L := L.tr l2.up
  refine s0 (x_not rfl) (c_end (n_then (c_false rfl (c_skipn (n_then (wp_seq (c_reg (s0 (xmS rfl) (s0 (xmI rfl) (s0 (x_move (v := .bool _) rfl) ?_))))))))))
  refine sp (zcall cl229 rfl) (s_l12Mul _ _ _ _ _ (hp.ext L) (by omega) (by assumption) (by assumption)) ?_
  rintro v15 w3 l4 ⟨p15, c15, F15, rfl, o15, f15⟩
  have z_l4 := l4.size; have L := L.tr l4.up; have g15 := o15.lt
  refine s0 (xaS rfl) (c_end (n_then (wp_ret (f_ret rfl rfl ?_))))
  rw [show prodG (MW n) xs n = prodL (MW n) xs n from if_pos h9]
  exact ⟨_, rfl, L, _, _, _, rfl, o15, f15.mono (by omega)⟩
 ·have z_l2 := l2.size
  have L := L.tr l2.up
  refine s0 (x_not rfl) (c_end (n_then (c_true rfl (wp_seq (c_reg (s_bs0 so24 ?_))))))
  intro p11 F11 w5 l6 o11 f11 g11
  have o11 : Own w5 p11 0 0 3 1 (ic []) F11 := o11; have z_l6 := l6.size; have L := L.tr l6.up
  refine s0 (xaS rfl) (c_end (n_then ?_))
  refine wp_ret (r_then ?_)
  refine f_ret rfl rfl ?_
  rw [show prodG (MW n) xs n = [] from if_neg h9]
  exact ⟨_, rfl, L, _, _, _, rfl, o11, f11.mono (by omega)⟩

theorem i_inv4 (p : Option Addr) (xs : List Int) (c : Nat) (w : World) (hp : Sl w p xs.length c 1 (ic xs)) (hl : xs.length ≤ 1099511627776) :
    Calls Tryz.prog 142 [.slice p xs.length c].toArray w (RetP w fun v w' => ∃ p c F, v = .slice p (prodG mAt xs 4).length c ∧ Own w' p (prodG mAt xs 4).length c 3 1 (ic (prodG mAt xs 4)) F ∧ Fr w.heap.size F) := by
 have hsm : smallMt (fun r k => mt matA k r) 4 := mAt_small
 have L : Exm [] w w := Exm.rfl'
 refine enter (n := 7) Tryz.func142 rfl rfl rfl ?_
 refine wp_seq (c_reg (s0 (xaS rfl) (c_end (n_then (wp_seq (c_reg ?_))))))
 refine sp (zcall cl196 rfl) (i_matrixA _) ?_
 rintro v3 w1 l2 ⟨p3, c3, ls3, rfl, hM3⟩
 have z_l2 := l2.size; have L := L.tr l2.up
 refine sp (zcall cl195 rfl) (i_turned _ _ _ _ _ _ hM3 (by omega)) ?_
 rintro v4 w3 l4 ⟨p4, c4, ls4, rfl, hM4⟩
 have z_l4 := l4.size; have L := L.tr l4.up
 refine s0 (xmS rfl) ?_
 refine sp (zcall cl194 rfl) (i_product _ _ _ _ _ _ _ _ _ hM4 (hp.ext L) (by omega) (by omega) (by assumption)) ?_
 rintro v6 w5 l6 ⟨p6, c6, F6, rfl, o6, f6⟩
 have z_l6 := l6.size; have L := L.tr l6.up; have g6 := o6.lt
 refine s0 (xaS rfl) (c_end (n_then (wp_ret (f_ret rfl rfl ?_))))
 exact ⟨_, rfl, L, _, _, _, rfl, o6, f6.mono (by omega)⟩

theorem i_inv8 (p : Option Addr) (xs : List Int) (c : Nat) (w : World) (hp : Sl w p xs.length c 1 (ic xs)) (hl : xs.length ≤ 1099511627776) :
    Calls Tryz.prog 143 [.slice p xs.length c].toArray w (RetP w fun v w' => ∃ p c F, v = .slice p (prodG hEnt xs 8).length c ∧ Own w' p (prodG hEnt xs 8).length c 3 1 (ic (prodG hEnt xs 8)) F ∧ Fr w.heap.size F) := by
 have hsm := hEnt_small; have L : Exm [] w w := Exm.rfl'
 refine enter (n := 6) Tryz.func143 rfl rfl rfl ?_
 refine wp_seq (c_reg (s0 (xaS rfl) (c_end (n_then (wp_seq (c_reg ?_))))))
 refine sp (zcall cl197 rfl) (i_matrixH _) ?_
 rintro v3 w1 l2 ⟨p3, c3, ls3, rfl, hM3⟩
 have z_l2 := l2.size; have L := L.tr l2.up
 refine s0 (xmS rfl) ?_
 refine sp (zcall cl194 rfl) (i_product _ _ _ _ _ _ _ _ _ hM3 (hp.ext L) (by omega) (by omega) (by assumption)) ?_
 rintro v5 w3 l4 ⟨p5, c5, F5, rfl, o5, f5⟩
 have z_l4 := l4.size; have L := L.tr l4.up; have g5 := o5.lt
 refine s0 (xaS rfl) (c_end (n_then (wp_ret (f_ret rfl rfl ?_))))
 exact ⟨_, rfl, L, _, _, _, rfl, o5, f5.mono (by omega)⟩

theorem s_inv4 (p : Option Addr) (xs : List Int) (c : Nat) (w : World) (hp : Sl w p xs.length c 1 (ic xs)) (hl : xs.length ≤ 1099511627776) :
    Calls Tryz.prog 166 [.slice p xs.length c].toArray w (RetP w fun v w' => ∃ p c F, v = .slice p (prodG mAt xs 4).length c ∧ Own w' p (prodG mAt xs 4).length c 3 1 (ic (prodG mAt xs 4)) F ∧ Fr w.heap.size F) := by
 have L : Exm [] w w := Exm.rfl'
 refine enter (n := 5) Tryz.func166 rfl rfl rfl ?_
 refine wp_seq (c_reg (s0 (xaS rfl) (c_end (n_then (wp_seq (c_reg (s0 (xmS rfl) ?_)))))))
 refine sp (zcall cl212 rfl) (s_l12Some _ _ _ 4 _ (hp.ext L) (by omega) (by omega)) ?_
 rintro v4 w1 l2 ⟨p4, c4, F4, rfl, o4, f4⟩
 have z_l2 := l2.size; have L := L.tr l2.up; have g4 := o4.lt
 refine s0 (xaS rfl) (c_end (n_then (wp_ret (f_ret rfl rfl ?_))))
 rw [← MW_4]
 exact ⟨_, rfl, L, _, _, _, rfl, o4, f4.mono (by omega)⟩

theorem s_inv8 (p : Option Addr) (xs : List Int) (c : Nat) (w : World) (hp : Sl w p xs.length c 1 (ic xs)) (hl : xs.length ≤ 1099511627776) :
    Calls Tryz.prog 168 [.slice p xs.length c].toArray w (RetP w fun v w' => ∃ p c F, v = .slice p (prodG hEnt xs 8).length c ∧ Own w' p (prodG hEnt xs 8).length c 3 1 (ic (prodG hEnt xs 8)) F ∧ Fr w.heap.size F) := by
 have L : Exm [] w w := Exm.rfl'
 refine enter (n := 5) Tryz.func168 rfl rfl rfl ?_
 refine wp_seq (c_reg (s0 (xaS rfl) (c_end (n_then (wp_seq (c_reg (s0 (xmS rfl) ?_)))))))
 refine sp (zcall cl212 rfl) (s_l12Some _ _ _ 8 _ (hp.ext L) (by omega) (by omega)) ?_
 rintro v4 w1 l2 ⟨p4, c4, F4, rfl, o4, f4⟩
 have z_l2 := l2.size; have L := L.tr l2.up; have g4 := o4.lt
 refine s0 (xaS rfl) (c_end (n_then (wp_ret (f_ret rfl rfl ?_))))
 rw [← MW_8]
 exact ⟨_, rfl, L, _, _, _, rfl, o4, f4.mono (by omega)⟩

end Go.Proofs.YtepnknffaecbdaaGreat
