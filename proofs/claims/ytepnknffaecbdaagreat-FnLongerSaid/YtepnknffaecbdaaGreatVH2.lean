/- What each function of this part returns, for every argument that meets its premises. -/
import Derived.Test.YtepnknffaecbdaaGreatProg
import Derived.Test.YtepnknffaecbdaaGreatVSxA
import Derived.Test.YtepnknffaecbdaaGreatVTy
import Derived.Test.YtepnknffaecbdaaGreatVPlA
import Derived.Test.YtepnknffaecbdaaGreatVF1
import Derived.Test.YtepnknffaecbdaaGreatVFB
import Derived.Test.YtepnknffaecbdaaGreatVFH
namespace Go.Proofs.YtepnknffaecbdaaGreat
open Go.Sx Go.Pl Go.RowKit
theorem own_none {w : World} {n c e sz : Nat} {cells : List Value} {F : List Nat} (h : Own w none n c e sz cells F) : n = 0 := by
  rcases h.2 with ⟨h, _⟩ | ⟨g, cur, _, h, _⟩
  · exact h
  · cases h
theorem bx_s0 {w : World} {b T n n' c : Nat} {p : Option Addr} {r : List Value} (h : n = n') (hB : Bx w b (.slice p n c :: r) T) : Bx w b (.slice p n' c :: r) T := h ▸ hB
theorem bx_s1 {w : World} {b T n n' c : Nat} {p : Option Addr} {x : Value} {r : List Value} (h : n = n') (hB : Bx w b (x :: .slice p n c :: r) T) : Bx w b (x :: .slice p n' c :: r) T := h ▸ hB

theorem i_fits (W H x y m : Int) (p : Option Addr) (n c : Nat) (xs : List Int) (w : World) (hp : Sl w p n c 1 (ic xs)) (hl : n ≤ 1099511627776) :
    Calls Tryz.prog 78 [.agg [.int .i64 W, .int .i64 H, .slice p n c].toArray, .int .i64 x, .int .i64 y, .int .i64 m].toArray w (Ret w (.bool (decide (fitsF W H xs x y m)))) := by
 have hn := hp.n; have L : Exm [] w w := Exm.rfl'
 refine enter (n := 43) Tryz.func78 rfl rfl rfl ?_
 refine wp_seq (c_reg (s_box rfl rfl ?_))
 intro b1 w2 lob1 hib1 l3 B1
 have z_l3 := l3.size; have L := L.tr l3.up
 refine s0 (x_assign (v := .bool _) rfl) (c_end (n_then (wp_seq (c_reg (st (x_loadAgB ag36 rfl B1 rfl) ?_)))))
 refine srb (zcall cl144 rfl) (i_frameOk _ _ _ _ _ _ _ (hp.ext L) (by omega)) (fun h10 w4 l5 => ?_) (fun h10 w4 l5 => ?_)
 ·have z_l5 := l5.size
  have L := L.tr l5.up; have B1 := B1.ext l5
  refine s0 (x_move (v := .bool _) rfl) (gt rfl rfl rfl rfl (s0 (xmI rfl) (gt rfl rfl rfl rfl ?_)))
  refine srb (zcall cl145 rfl) (i_sizeOk _ _) (fun h13 w6 l7 => ?_) (fun h13 w6 l7 => ?_)
  ·have z_l7 := l7.size
   have L := L.tr l7.up; have B1 := B1.ext l7
   refine s0 (x_pickt (v := .bool _) rfl rfl) (s0 (x_move (v := .bool _) rfl) (gt rfl rfl rfl rfl (s0 (xmI rfl) (gt rfl rfl rfl rfl (s0 (x_fieldAddr fa36_0 rfl) (gt rfl rfl rfl rfl (st (x_loadB sc3 rfl B1 rfl) (gt rfl rfl rfl rfl (s0 (xmI rfl) (gt rfl rfl rfl rfl ?_))))))))))
   refine s0 (x_sub rfl rfl (by have hg := fr_geo h10; omega)) ?_
   refine gt rfl rfl rfl rfl ?_
   refine srb (zcall cl77 rfl) (i_within _ _ _ _) (fun h21 w8 l9 => ?_) (fun h21 w8 l9 => ?_)
   ·have z_l9 := l9.size
    have L := L.tr l9.up; have B1 := B1.ext l9
    refine s0 (x_pickt (v := .bool _) rfl rfl) (s0 (x_move (v := .bool _) rfl) (gt rfl rfl rfl rfl (s0 (xmI rfl) (gt rfl rfl rfl rfl (s0 (x_fieldAddr fa36_1 rfl) (gt rfl rfl rfl rfl (st (x_loadB sc3 rfl B1 rfl) (gt rfl rfl rfl rfl (s0 (xmI rfl) (gt rfl rfl rfl rfl ?_))))))))))
    refine s0 (x_sub rfl rfl (by have hg := fr_geo h10; omega)) ?_
    refine gt rfl rfl rfl rfl ?_
    refine srb (zcall cl77 rfl) (i_within _ _ _ _) (fun h29 w10 l11 => ?_) (fun h29 w10 l11 => ?_)
    ·have z_l11 := l11.size
     have L := L.tr l11.up
     refine s0 (x_pickt (v := .bool _) rfl rfl) (s0 (x_move (v := .bool _) rfl) (gt rfl rfl rfl rfl (s0 (xmI rfl) (gt rfl rfl rfl rfl (s0 (xmI rfl) (gt rfl rfl rfl rfl (s0 (x_rem rfl rfl (by omega) (by omega)) (gt rfl rfl rfl rfl ?_))))))))
     refine sb (x_eql rfl rfl) (fun h35 => ?_) (fun h35 => ?_)
     ·refine s0 (x_pickt (v := .bool _) rfl rfl) (s0 (x_move (v := .bool _) rfl) (gt rfl rfl rfl rfl (s0 (xmI rfl) (gt rfl rfl rfl rfl (s0 (xmI rfl) (gt rfl rfl rfl rfl (s0 (x_rem rfl rfl (by omega) (by omega)) (gt rfl rfl rfl rfl (s0 (x_eql rfl rfl) (s0 (x_pickt (v := .bool _) rfl rfl) (s0 (x_assign (v := .bool _) rfl) (c_end (n_then ?_)))))))))))))
      refine wp_ret (f_ret rfl rfl ?_)
      exact ⟨ret_dec2 ⟨fun h => ⟨h10, h13, h21, h29, h35, h⟩, fun h => h.2.2.2.2.2⟩, L⟩
     ·refine s0 (x_pickt (v := .bool _) rfl rfl) (s0 (x_move (v := .bool _) rfl) (gf rfl rfl rfl rfl (gf rfl rfl rfl rfl (gf rfl rfl rfl rfl (gf rfl rfl rfl rfl (s0 (x_pickf (v := .bool _) rfl rfl) (s0 (x_assign (v := .bool _) rfl) (c_end (n_then (wp_ret (f_ret rfl rfl ?_)))))))))))
      exact ⟨ret_f (fun h => h35 h.2.2.2.2.1), L⟩
    ·have z_l11 := l11.size
     have L := L.tr l11.up
     refine s0 (x_pickt (v := .bool _) rfl rfl) (s0 (x_move (v := .bool _) rfl) (gf rfl rfl rfl rfl (gf rfl rfl rfl rfl (gf rfl rfl rfl rfl (gf rfl rfl rfl rfl (s0 (x_pickf (v := .bool _) rfl rfl) (s0 (x_move (v := .bool _) rfl) (gf rfl rfl rfl rfl (gf rfl rfl rfl rfl (gf rfl rfl rfl rfl (gf rfl rfl rfl rfl (s0 (x_pickf (v := .bool _) rfl rfl) (s0 (x_assign (v := .bool _) rfl) ?_)))))))))))))
     refine c_end (n_then (wp_ret (f_ret rfl rfl ?_)))
     exact ⟨ret_f (fun h => h29 h.2.2.2.1), L⟩
   ·have z_l9 := l9.size
    have L := L.tr l9.up
    refine s0 (x_pickt (v := .bool _) rfl rfl) (s0 (x_move (v := .bool _) rfl) (gf rfl rfl rfl rfl (gf rfl rfl rfl rfl (gf rfl rfl rfl rfl (gf rfl rfl rfl rfl (gf rfl rfl rfl rfl (gf rfl rfl rfl rfl (s0 (x_pickf (v := .bool _) rfl rfl) (s0 (x_move (v := .bool _) rfl) (gf rfl rfl rfl rfl (gf rfl rfl rfl rfl (gf rfl rfl rfl rfl (gf rfl rfl rfl rfl ?_)))))))))))))
    refine s0 (x_pickf (v := .bool _) rfl rfl) (s0 (x_move (v := .bool _) rfl) (gf rfl rfl rfl rfl (gf rfl rfl rfl rfl (gf rfl rfl rfl rfl (gf rfl rfl rfl rfl (s0 (x_pickf (v := .bool _) rfl rfl) (s0 (x_assign (v := .bool _) rfl) (c_end (n_then (wp_ret (f_ret rfl rfl ?_)))))))))))
    exact ⟨ret_f (fun h => h21 h.2.2.1), L⟩
  ·have z_l7 := l7.size
   have L := L.tr l7.up
   refine s0 (x_pickt (v := .bool _) rfl rfl) (s0 (x_move (v := .bool _) rfl) (gf rfl rfl rfl rfl (gf rfl rfl rfl rfl (gf rfl rfl rfl rfl (gf rfl rfl rfl rfl (gf rfl rfl rfl rfl (gf rfl rfl rfl rfl (s0 (x_pickf (v := .bool _) rfl rfl) (s0 (x_move (v := .bool _) rfl) (gf rfl rfl rfl rfl (gf rfl rfl rfl rfl (gf rfl rfl rfl rfl (gf rfl rfl rfl rfl ?_)))))))))))))
   refine gf rfl rfl rfl rfl (gf rfl rfl rfl rfl (s0 (x_pickf (v := .bool _) rfl rfl) (s0 (x_move (v := .bool _) rfl) (gf rfl rfl rfl rfl (gf rfl rfl rfl rfl (gf rfl rfl rfl rfl (gf rfl rfl rfl rfl (s0 (x_pickf (v := .bool _) rfl rfl) (s0 (x_move (v := .bool _) rfl) (gf rfl rfl rfl rfl (gf rfl rfl rfl rfl (gf rfl rfl rfl rfl (gf rfl rfl rfl rfl ?_)))))))))))))
   refine s0 (x_pickf (v := .bool _) rfl rfl) (s0 (x_assign (v := .bool _) rfl) (c_end (n_then (wp_ret (f_ret rfl rfl ?_)))))
   exact ⟨ret_f (fun h => h13 h.2.1), L⟩
 ·have z_l5 := l5.size
  have L := L.tr l5.up
  refine s0 (x_move (v := .bool _) rfl) (gf rfl rfl rfl rfl (gf rfl rfl rfl rfl (s0 (x_pickf (v := .bool _) rfl rfl) (s0 (x_move (v := .bool _) rfl) (gf rfl rfl rfl rfl (gf rfl rfl rfl rfl (gf rfl rfl rfl rfl (gf rfl rfl rfl rfl (gf rfl rfl rfl rfl (gf rfl rfl rfl rfl (s0 (x_pickf (v := .bool _) rfl rfl) (s0 (x_move (v := .bool _) rfl) (gf rfl rfl rfl rfl ?_)))))))))))))
  refine gf rfl rfl rfl rfl (gf rfl rfl rfl rfl (gf rfl rfl rfl rfl (gf rfl rfl rfl rfl (gf rfl rfl rfl rfl (s0 (x_pickf (v := .bool _) rfl rfl) (s0 (x_move (v := .bool _) rfl) (gf rfl rfl rfl rfl (gf rfl rfl rfl rfl (gf rfl rfl rfl rfl (gf rfl rfl rfl rfl (s0 (x_pickf (v := .bool _) rfl rfl) (s0 (x_move (v := .bool _) rfl) (gf rfl rfl rfl rfl ?_)))))))))))))
  refine gf rfl rfl rfl rfl (gf rfl rfl rfl rfl (gf rfl rfl rfl rfl (s0 (x_pickf (v := .bool _) rfl rfl) (s0 (x_assign (v := .bool _) rfl) (c_end (n_then (wp_ret (f_ret rfl rfl ?_))))))))
  exact ⟨ret_f (fun h => h10 h.1), L⟩

set_option maxHeartbeats 4000000 in
theorem i_nbAt (W H x y m : Int) (p : Option Addr) (xs : List Int) (c : Nat) (w : World) (hp : Sl w p xs.length c 1 (ic xs)) (hl : xs.length ≤ 1099511627776) (hf : fitsF W H xs x y m) :
    Calls Tryz.prog 83 [.agg [.int .i64 W, .int .i64 H, .slice p xs.length c].toArray, .int .i64 x, .int .i64 y, .int .i64 m].toArray w (RetP w fun v w' => ∃ (p1 : Option Addr) (c1 : Nat) (F1 : List Nat) (p2 : Option Addr) (c2 : Nat) (F2 : List Nat), v = .agg [.slice p1 (topK W x y m xs (2 * m).toNat).length c1, .slice p2 (leftK W x y xs m.toNat).length c2, .int .i64 (cornV W x y xs), .bool (decide (0 < y)), .bool (decide (0 < x))].toArray ∧ Own w' p1 (topK W x y m xs (2 * m).toNat).length c1 3 1 (ic (topK W x y m xs (2 * m).toNat)) F1 ∧ Fr w.heap.size F1 ∧ Own w' p2 (leftK W x y xs m.toNat).length c2 3 1 (ic (leftK W x y xs m.toNat)) F2 ∧ Fr w.heap.size F2) := by
 have hg := fr_geo hf.1; have hm4 := hf.2.1; have hx := hf.2.2.1; have hy := hf.2.2.2.1; have L : Exm [] w w := Exm.rfl'
 refine enter (n := 123) Tryz.func83 rfl rfl rfl ?_
 refine wp_seq (c_reg (s_box rfl rfl ?_))
 intro b1 w2 lob1 hib1 l3 B1
 have z_l3 := l3.size; have L := L.tr l3.up
 refine s_alloc zr118 ?_
 intro b4 w5 lob4 hib4 l6 B4
 have z_l6 := l6.size; have L := L.tr l6.up; have B1 := B1.ext l6
 refine c_end (n_then (wp_seq (wp_seq (c_reg (st (x_loadAgB ag36 rfl B1 rfl) (s0 (xmI rfl) (s0 (xmI rfl) (s0 (xmI rfl) ?_))))))))
 refine srb (zcall cl78 rfl) (i_fits _ _ _ _ _ _ _ _ _ _ (hp.ext L) (by omega)) (fun h18 w7 l8 => ?_) (fun h18 w7 l8 => ?_)
 ·have z_l8 := l8.size
  have L := L.tr l8.up; have B1 := B1.ext l8; have B4 := B4.ext l8
  refine s0 (x_not rfl) (c_end (n_then (c_false rfl (c_skipn (n_then (wp_seq (c_reg (s0 (xmI rfl) (s0 (x_gtr rfl rfl) (s0 (xmI rfl) (s0 (x_gtr rfl rfl) ?_)))))))))))
  refine s0 (x_build (cs := [.slice none 0 0, .slice none 0 0, .int _ _, .bool _, .bool _]) bd118 (pts_cons (v := .int _ _) rfl (pts_cons (v := .bool _) rfl (pts_cons (v := .bool _) rfl pts_nil))) rfl) ?_
  refine s_alloc zr118 ?_
  intro b9 w10 lob9 hib9 l11 B9
  have z_l11 := l11.size; have L := L.tr l11.up; have B1 := B1.ext l11; have B4 := B4.ext l11
  refine s_storeAg rfl sz118 rfl rfl B9 rfl rfl rfl ?_
  intro w12 l13 el13 B9
  have z_l13 := l13.size; have L := L.fresh l13 (by omega); have B1 := B1.ne l13 (by omega); have B4 := B4.ne l13 (by omega)
  refine c_end (n_then (wp_seq (wp_seq (c_reg (s0 (xmI rfl) (s0 (x_mul rfl rfl (by omega)) (s0 (xmI rfl) (c_end (n_then (wp_block ?_))))))))))
  refine c_loop (γ := Nat) (fun k => (2 * m).toNat - k) (fun (k : Nat) E wl => ∃ E0 pz900 cz900 Fz900, E = upd (upd (upd (upd (upd (upd (upd (upd E0 1 (.int .i64 x)) 2 (.int .i64 y)) 3 (.int .i64 m)) 4 (pt b1 0)) 8 (pt b4 0)) 9 (pt b9 0)) 27 (.int .i64 (2 * m))) 28 (.int .i64 (k : Int)) ∧ (Exm [] w wl) ∧ (w12.heap.size ≤ wl.heap.size) ∧ (Bx wl b1 [.int .i64 W, .int .i64 H, .slice p xs.length c] 36) ∧ (Bx wl b4 [.slice none 0 0, .slice none 0 0, .int .i64 0, .bool false, .bool false] 118) ∧ (Bx wl b9 [.slice pz900 (topK W x y m xs k).length cz900, .slice none 0 0, .int .i64 128, .bool (decide (0 < y)), .bool (decide (0 < x))] 118) ∧ (Own wl pz900 ((topK W x y m xs k).length) cz900 3 1 (ic (topK W x y m xs k)) Fz900) ∧ (Fr (w12.heap.size) Fz900) ∧ (Lt Fz900 wl.heap.size) ∧ (b1 ∉ Fz900) ∧ (b4 ∉ Fz900) ∧ (b9 ∉ Fz900) ∧ ((k : Int) ≤ 2 * m)) 0 ⟨_, _, _, _, upd_self8 rfl rfl rfl rfl rfl rfl rfl rfl, L, (by omega), B1, B4, B9, Own.nil, Fr.no, Lt.no, (by simp), (by simp), (by simp), (by omega)⟩ ?_
  rintro k E wl14 ⟨E0, pz900, cz900, Fz900, rfl, L, Lz, B1, B4, B9, oz900, fz900, gz900, ab1_z900, ab4_z900, ab9_z900, hk⟩
  have Lz0 := L.size; have htl := topK_length W x y m xs k
  refine wp_seq (c_reg ?_)
  refine sb (x_lss rfl rfl) (fun h29 => ?_) (fun h29 => ?_)
  ·refine c_end (n_then (wp_seq (c_true rfl (c_skipn (n_then (wp_seq (wp_block (wp_seq (c_reg (s0 (xmI rfl) (s0 (xaI rfl) (c_end (n_then ?_)))))))))))))
   refine wp_seq (c_reg (s0 (xaI rfl) (c_end (n_then (wp_seq (wp_block (wp_seq (c_reg (s0 (xmI rfl) ?_)))))))))
   refine sb (x_eql rfl rfl) (fun h39 => ?_) (fun h39 => ?_)
   ·refine s0 (x_assign (v := .bool _) rfl) (c_end (n_then (c_true rfl (c_skipn (n_block (n_then (c_reg (s0 (x_fieldAddr fa118_0 rfl) (st (x_loadB sc24 rfl B9 rfl) (s0 (xmI rfl) ?_))))))))))
    refine s_bsi (xs := [_]) so24 zr3 (pts_cons rfl pts_nil) rfl rfl rfl ?_
    intro p73 F73 w15 l16 o73 f73 g73
    have z_l16 := l16.size; have L := L.tr l16.up; have B1 := B1.ext l16; have B4 := B4.ext l16; have B9 := B9.ext l16; have oz900 := oz900.ext l16; have hn73 := o73.n1
    refine s_appi (B := w12.heap.size) so24 zr3 rfl rfl (xs := _) oz900 o73.sl fz900 (by omega) (by omega) (by omega) ?_
    intro p74 c74 F74 w17 l18 o74 hn74 k74 f74 g74
    have ab1_74 : b1 ∉ F74 := k74.nin (by first|assumption|exact nin_of fz900 gz900 (by omega)) (by omega)
    have B1 := B1.exm l18 (by first|assumption|exact nin_of fz900 gz900 (by omega))
    have ab4_74 : b4 ∉ F74 := k74.nin (by first|assumption|exact nin_of fz900 gz900 (by omega)) (by omega)
    have B4 := B4.exm l18 (by first|assumption|exact nin_of fz900 gz900 (by omega))
    have ab9_74 : b9 ∉ F74 := k74.nin (by first|assumption|exact nin_of fz900 gz900 (by omega)) (by omega)
    have B9 := B9.exm l18 (by first|assumption|exact nin_of fz900 gz900 (by omega))
    have z_l18 := l18.size; have L := L.freshL l18 fz900 (by omega); have d73_74 : Dj F73 F74 := k74.dj (by first|assumption|exact Dj.symm (by assumption)|exact dj_of f73 g73 fz900 gz900 (by omega)) g73 (by omega)
    have o73 := o73.exm l18 (by first|assumption|exact Dj.symm (by assumption)|exact dj_of fz900 gz900 f73 g73 (by omega))
    refine s0 (x_fieldAddr fa118_0 rfl) ?_
    refine s_store (v := .slice _ _ _) (cs' := [_, _, _, _, _]) rfl sz24 rfl rfl rfl rfl B9 rfl rfl ?_
    intro w19 l20 el20 B9
    have z_l20 := l20.size; have L := L.fresh l20 (by omega); have B1 := B1.ne l20 (by omega); have B4 := B4.ne l20 (by omega); have o73 := o73.ne l20 (by first|assumption|exact nin_of f73 g73 (by omega))
    have o74 := o74.ne l20 (by first|assumption|exact nin_of f74 g74 (by omega))
    refine c_end (n_block (n_then (c_reg (s0 (x_add rfl rfl (by omega)) (s0 (xmI rfl) (c_end ?_))))))
    exact c_round (g' := k + 1) (by omega) ⟨_, _, _, _, upd_self8 rfl rfl rfl rfl rfl rfl rfl (vint (by omega)), L, (by omega), B1, B4, (bx_s0 (by simp [topK_length]) B9), (by simp only [topK]; first | (rw [show topV W x y m xs (topK W x y m xs k) k = xs.getD ((y - 1) * W + x + (k : Int)).toNat 0 from (if_neg hy0).trans (if_pos hc)]; exact o74) | (rw [show topV W x y m xs (topK W x y m xs k) k = (topK W x y m xs k).getD ((k : Int) - 1).toNat 0 from (if_neg hy0).trans (if_neg hc)]; exact o74) | (rw [show topV W x y m xs (topK W x y m xs k) k = 128 from if_pos h39]; exact o74)), (f74.mono (by omega)), (g74.mono (by omega)), (by first|assumption|exact nin_of f74 g74 (by omega)), (by first|assumption|exact nin_of f74 g74 (by omega)), (by first|assumption|exact nin_of f74 g74 (by omega)), (by omega)⟩
   ·refine s0 (x_assign (v := .bool _) rfl) (c_end (n_then (c_false rfl (wp_seq ?_))))
    have hy0 : ¬ y = 0 := h39
    refine c_reg (s0 (xmI rfl) (s0 (xmI rfl) ?_))
    refine sb (x_lss rfl rfl) (fun h43 => ?_) (fun h43 => ?_)
    ·refine s0 (x_move (v := .bool _) rfl) (gf rfl rfl rfl rfl (gf rfl rfl rfl rfl (gf rfl rfl rfl rfl (gf rfl rfl rfl rfl (gu rfl rfl rfl (gu rfl rfl rfl (gu rfl rfl rfl (gu rfl rfl rfl (gu rfl rfl rfl (gu rfl rfl rfl (gf rfl rfl rfl rfl (s0 (x_pickt (v := .bool _) rfl rfl) (s0 (x_assign (v := .bool _) rfl) ?_)))))))))))))
     refine c_end (n_then (c_true rfl ?_))
     have hc : (k : Int) < m ∨ (y % 8 = 0 ∧ x + (k : Int) < W) := by omega
     have hpi := pix_in (a := y - 1) (b := x + (k : Int)) hf.1 (by omega) (by omega)
     refine c_reg (s0 (x_fieldAddr fa36_2 rfl) (st (x_loadB sc24 rfl B1 rfl) (s0 (xmI rfl) (s0 (x_sub rfl rfl (by omega)) (s0 (x_fieldAddr fa36_0 rfl) (st (x_loadB sc3 rfl B1 rfl) (s0 (x_mul rfl rfl (by omega)) (s0 (xmI rfl) (s0 (x_add rfl rfl (by omega)) (s0 (xmI rfl) (s0 (x_add rfl rfl (by omega)) (s0 (x_idx so24 rfl rfl hp (by decide) (by omega) (by omega)) (st (x_ldi sc3 rfl (hp.ext L) (by omega) (by omega)) ?_)))))))))))))
     refine s0 (xaI rfl) (c_end (n_block (n_then (c_reg (s0 (x_fieldAddr fa118_0 rfl) (st (x_loadB sc24 rfl B9 rfl) (s0 (xmI rfl) ?_)))))))
     refine s_bsi (xs := [_]) so24 zr3 (pts_cons rfl pts_nil) rfl rfl rfl ?_
     intro p73 F73 w21 l22 o73 f73 g73
     have z_l22 := l22.size; have L := L.tr l22.up; have B1 := B1.ext l22; have B4 := B4.ext l22; have B9 := B9.ext l22; have oz900 := oz900.ext l22; have hn73 := o73.n1
     refine s_appi (B := w12.heap.size) so24 zr3 rfl rfl (xs := _) oz900 o73.sl fz900 (by omega) (by omega) (by omega) ?_
     intro p74 c74 F74 w23 l24 o74 hn74 k74 f74 g74
     have ab1_74 : b1 ∉ F74 := k74.nin (by first|assumption|exact nin_of fz900 gz900 (by omega)) (by omega)
     have B1 := B1.exm l24 (by first|assumption|exact nin_of fz900 gz900 (by omega))
     have ab4_74 : b4 ∉ F74 := k74.nin (by first|assumption|exact nin_of fz900 gz900 (by omega)) (by omega)
     have B4 := B4.exm l24 (by first|assumption|exact nin_of fz900 gz900 (by omega))
     have ab9_74 : b9 ∉ F74 := k74.nin (by first|assumption|exact nin_of fz900 gz900 (by omega)) (by omega)
     have B9 := B9.exm l24 (by first|assumption|exact nin_of fz900 gz900 (by omega))
     have z_l24 := l24.size; have L := L.freshL l24 fz900 (by omega); have d73_74 : Dj F73 F74 := k74.dj (by first|assumption|exact Dj.symm (by assumption)|exact dj_of f73 g73 fz900 gz900 (by omega)) g73 (by omega)
     have o73 := o73.exm l24 (by first|assumption|exact Dj.symm (by assumption)|exact dj_of fz900 gz900 f73 g73 (by omega))
     refine s0 (x_fieldAddr fa118_0 rfl) ?_
     refine s_store (v := .slice _ _ _) (cs' := [_, _, _, _, _]) rfl sz24 rfl rfl rfl rfl B9 rfl rfl ?_
     intro w25 l26 el26 B9
     have z_l26 := l26.size; have L := L.fresh l26 (by omega); have B1 := B1.ne l26 (by omega); have B4 := B4.ne l26 (by omega); have o73 := o73.ne l26 (by first|assumption|exact nin_of f73 g73 (by omega))
     have o74 := o74.ne l26 (by first|assumption|exact nin_of f74 g74 (by omega))
     refine c_end (n_block (n_then (c_reg (s0 (x_add rfl rfl (by omega)) (s0 (xmI rfl) (c_end ?_))))))
     exact c_round (g' := k + 1) (by omega) ⟨_, _, _, _, upd_self8 rfl rfl rfl rfl rfl rfl rfl (vint (by omega)), L, (by omega), B1, B4, (bx_s0 (by simp [topK_length]) B9), (by simp only [topK]; first | (rw [show topV W x y m xs (topK W x y m xs k) k = xs.getD ((y - 1) * W + x + (k : Int)).toNat 0 from (if_neg hy0).trans (if_pos hc)]; exact o74) | (rw [show topV W x y m xs (topK W x y m xs k) k = (topK W x y m xs k).getD ((k : Int) - 1).toNat 0 from (if_neg hy0).trans (if_neg hc)]; exact o74) | (rw [show topV W x y m xs (topK W x y m xs k) k = 128 from if_pos h39]; exact o74)), (f74.mono (by omega)), (g74.mono (by omega)), (by first|assumption|exact nin_of f74 g74 (by omega)), (by first|assumption|exact nin_of f74 g74 (by omega)), (by first|assumption|exact nin_of f74 g74 (by omega)), (by omega)⟩
    ·refine s0 (x_move (v := .bool _) rfl) (gt rfl rfl rfl rfl (s0 (xmI rfl) (gt rfl rfl rfl rfl (s0 (x_rem rfl rfl (by omega) (by omega)) (gt rfl rfl rfl rfl ?_)))))
     refine sb (x_eql rfl rfl) (fun h47 => ?_) (fun h47 => ?_)
     ·refine gt rfl rfl rfl rfl (s0 (x_move (v := .bool _) rfl) (gt rfl rfl rfl rfl (s0 (xmI rfl) (gt rfl rfl rfl rfl (s0 (xmI rfl) (gt rfl rfl rfl rfl (s0 (x_add rfl rfl (by omega)) (gt rfl rfl rfl rfl (s0 (x_fieldAddr fa36_0 rfl) (gt rfl rfl rfl rfl (st (x_loadB sc3 rfl B1 rfl) (gt rfl rfl rfl rfl ?_))))))))))))
      refine sb (x_lss rfl rfl) (fun h54 => ?_) (fun h54 => ?_)
      ·refine gt rfl rfl rfl rfl (s0 (x_pickt (v := .bool _) rfl rfl) (s0 (x_pickf (v := .bool _) rfl rfl) (s0 (x_assign (v := .bool _) rfl) (c_end (n_then (c_true rfl ?_))))))
       have hc : (k : Int) < m ∨ (y % 8 = 0 ∧ x + (k : Int) < W) := by omega
       have hpi := pix_in (a := y - 1) (b := x + (k : Int)) hf.1 (by omega) (by omega)
       refine c_reg (s0 (x_fieldAddr fa36_2 rfl) (st (x_loadB sc24 rfl B1 rfl) (s0 (xmI rfl) (s0 (x_sub rfl rfl (by omega)) (s0 (x_fieldAddr fa36_0 rfl) (st (x_loadB sc3 rfl B1 rfl) (s0 (x_mul rfl rfl (by omega)) (s0 (xmI rfl) (s0 (x_add rfl rfl (by omega)) (s0 (xmI rfl) (s0 (x_add rfl rfl (by omega)) (s0 (x_idx so24 rfl rfl hp (by decide) (by omega) (by omega)) (st (x_ldi sc3 rfl (hp.ext L) (by omega) (by omega)) ?_)))))))))))))
       refine s0 (xaI rfl) (c_end (n_block (n_then (c_reg (s0 (x_fieldAddr fa118_0 rfl) (st (x_loadB sc24 rfl B9 rfl) (s0 (xmI rfl) ?_)))))))
       refine s_bsi (xs := [_]) so24 zr3 (pts_cons rfl pts_nil) rfl rfl rfl ?_
       intro p73 F73 w27 l28 o73 f73 g73
       have z_l28 := l28.size; have L := L.tr l28.up; have B1 := B1.ext l28; have B4 := B4.ext l28; have B9 := B9.ext l28; have oz900 := oz900.ext l28; have hn73 := o73.n1
       refine s_appi (B := w12.heap.size) so24 zr3 rfl rfl (xs := _) oz900 o73.sl fz900 (by omega) (by omega) (by omega) ?_
       intro p74 c74 F74 w29 l30 o74 hn74 k74 f74 g74
       have ab1_74 : b1 ∉ F74 := k74.nin (by first|assumption|exact nin_of fz900 gz900 (by omega)) (by omega)
       have B1 := B1.exm l30 (by first|assumption|exact nin_of fz900 gz900 (by omega))
       have ab4_74 : b4 ∉ F74 := k74.nin (by first|assumption|exact nin_of fz900 gz900 (by omega)) (by omega)
       have B4 := B4.exm l30 (by first|assumption|exact nin_of fz900 gz900 (by omega))
       have ab9_74 : b9 ∉ F74 := k74.nin (by first|assumption|exact nin_of fz900 gz900 (by omega)) (by omega)
       have B9 := B9.exm l30 (by first|assumption|exact nin_of fz900 gz900 (by omega))
       have z_l30 := l30.size; have L := L.freshL l30 fz900 (by omega); have d73_74 : Dj F73 F74 := k74.dj (by first|assumption|exact Dj.symm (by assumption)|exact dj_of f73 g73 fz900 gz900 (by omega)) g73 (by omega)
       have o73 := o73.exm l30 (by first|assumption|exact Dj.symm (by assumption)|exact dj_of fz900 gz900 f73 g73 (by omega))
       refine s0 (x_fieldAddr fa118_0 rfl) ?_
       refine s_store (v := .slice _ _ _) (cs' := [_, _, _, _, _]) rfl sz24 rfl rfl rfl rfl B9 rfl rfl ?_
       intro w31 l32 el32 B9
       have z_l32 := l32.size; have L := L.fresh l32 (by omega); have B1 := B1.ne l32 (by omega); have B4 := B4.ne l32 (by omega); have o73 := o73.ne l32 (by first|assumption|exact nin_of f73 g73 (by omega))
       have o74 := o74.ne l32 (by first|assumption|exact nin_of f74 g74 (by omega))
       refine c_end (n_block (n_then (c_reg (s0 (x_add rfl rfl (by omega)) (s0 (xmI rfl) (c_end ?_))))))
       exact c_round (g' := k + 1) (by omega) ⟨_, _, _, _, upd_self8 rfl rfl rfl rfl rfl rfl rfl (vint (by omega)), L, (by omega), B1, B4, (bx_s0 (by simp [topK_length]) B9), (by simp only [topK]; first | (rw [show topV W x y m xs (topK W x y m xs k) k = xs.getD ((y - 1) * W + x + (k : Int)).toNat 0 from (if_neg hy0).trans (if_pos hc)]; exact o74) | (rw [show topV W x y m xs (topK W x y m xs k) k = (topK W x y m xs k).getD ((k : Int) - 1).toNat 0 from (if_neg hy0).trans (if_neg hc)]; exact o74) | (rw [show topV W x y m xs (topK W x y m xs k) k = 128 from if_pos h39]; exact o74)), (f74.mono (by omega)), (g74.mono (by omega)), (by first|assumption|exact nin_of f74 g74 (by omega)), (by first|assumption|exact nin_of f74 g74 (by omega)), (by first|assumption|exact nin_of f74 g74 (by omega)), (by omega)⟩
      ·refine gt rfl rfl rfl rfl (s0 (x_pickt (v := .bool _) rfl rfl) (s0 (x_pickf (v := .bool _) rfl rfl) (s0 (x_assign (v := .bool _) rfl) (c_end (n_then (c_false rfl ?_))))))
       have hc : ¬ ((k : Int) < m ∨ (y % 8 = 0 ∧ x + (k : Int) < W)) := by omega
       refine c_reg (s0 (x_fieldAddr fa118_0 rfl) (st (x_loadB sc24 rfl B9 rfl) (s0 (xmI rfl) (s0 (x_sub rfl rfl (by omega)) (s0 (x_idx so24 rfl rfl oz900.sl (by decide) (by omega) (by omega)) (st (x_ldi sc3 rfl oz900.sl (by omega) (by omega)) (s0 (xaI rfl) (c_end (n_block (n_then (c_reg (s0 (x_fieldAddr fa118_0 rfl) (st (x_loadB sc24 rfl B9 rfl) ?_)))))))))))))
       refine s0 (xmI rfl) ?_
       refine s_bsi (xs := [_]) so24 zr3 (pts_cons rfl pts_nil) rfl rfl rfl ?_
       intro p73 F73 w33 l34 o73 f73 g73
       have z_l34 := l34.size; have L := L.tr l34.up; have B1 := B1.ext l34; have B4 := B4.ext l34; have B9 := B9.ext l34; have oz900 := oz900.ext l34; have hn73 := o73.n1
       refine s_appi (B := w12.heap.size) so24 zr3 rfl rfl (xs := _) oz900 o73.sl fz900 (by omega) (by omega) (by omega) ?_
       intro p74 c74 F74 w35 l36 o74 hn74 k74 f74 g74
       have ab1_74 : b1 ∉ F74 := k74.nin (by first|assumption|exact nin_of fz900 gz900 (by omega)) (by omega)
       have B1 := B1.exm l36 (by first|assumption|exact nin_of fz900 gz900 (by omega))
       have ab4_74 : b4 ∉ F74 := k74.nin (by first|assumption|exact nin_of fz900 gz900 (by omega)) (by omega)
       have B4 := B4.exm l36 (by first|assumption|exact nin_of fz900 gz900 (by omega))
       have ab9_74 : b9 ∉ F74 := k74.nin (by first|assumption|exact nin_of fz900 gz900 (by omega)) (by omega)
       have B9 := B9.exm l36 (by first|assumption|exact nin_of fz900 gz900 (by omega))
       have z_l36 := l36.size; have L := L.freshL l36 fz900 (by omega); have d73_74 : Dj F73 F74 := k74.dj (by first|assumption|exact Dj.symm (by assumption)|exact dj_of f73 g73 fz900 gz900 (by omega)) g73 (by omega)
       have o73 := o73.exm l36 (by first|assumption|exact Dj.symm (by assumption)|exact dj_of fz900 gz900 f73 g73 (by omega))
       refine s0 (x_fieldAddr fa118_0 rfl) ?_
       refine s_store (v := .slice _ _ _) (cs' := [_, _, _, _, _]) rfl sz24 rfl rfl rfl rfl B9 rfl rfl ?_
       intro w37 l38 el38 B9
       have z_l38 := l38.size; have L := L.fresh l38 (by omega); have B1 := B1.ne l38 (by omega); have B4 := B4.ne l38 (by omega); have o73 := o73.ne l38 (by first|assumption|exact nin_of f73 g73 (by omega))
       have o74 := o74.ne l38 (by first|assumption|exact nin_of f74 g74 (by omega))
       refine c_end (n_block (n_then (c_reg (s0 (x_add rfl rfl (by omega)) (s0 (xmI rfl) (c_end ?_))))))
       exact c_round (g' := k + 1) (by omega) ⟨_, _, _, _, upd_self8 rfl rfl rfl rfl rfl rfl rfl (vint (by omega)), L, (by omega), B1, B4, (bx_s0 (by simp [topK_length]) B9), (by simp only [topK]; first | (rw [show topV W x y m xs (topK W x y m xs k) k = xs.getD ((y - 1) * W + x + (k : Int)).toNat 0 from (if_neg hy0).trans (if_pos hc)]; exact o74) | (rw [show topV W x y m xs (topK W x y m xs k) k = (topK W x y m xs k).getD ((k : Int) - 1).toNat 0 from (if_neg hy0).trans (if_neg hc)]; exact o74) | (rw [show topV W x y m xs (topK W x y m xs k) k = 128 from if_pos h39]; exact o74)), (f74.mono (by omega)), (g74.mono (by omega)), (by first|assumption|exact nin_of f74 g74 (by omega)), (by first|assumption|exact nin_of f74 g74 (by omega)), (by first|assumption|exact nin_of f74 g74 (by omega)), (by omega)⟩
     ·refine gt rfl rfl rfl rfl (s0 (x_move (v := .bool _) rfl) (gf rfl rfl rfl rfl (gf rfl rfl rfl rfl (gf rfl rfl rfl rfl (gf rfl rfl rfl rfl (gf rfl rfl rfl rfl (gf rfl rfl rfl rfl (gt rfl rfl rfl rfl (s0 (x_pickf (v := .bool _) rfl rfl) (s0 (x_pickf (v := .bool _) rfl rfl) (s0 (x_assign (v := .bool _) rfl) (c_end (n_then ?_)))))))))))))
      refine c_false rfl ?_
      have hc : ¬ ((k : Int) < m ∨ (y % 8 = 0 ∧ x + (k : Int) < W)) := by omega
      refine c_reg (s0 (x_fieldAddr fa118_0 rfl) (st (x_loadB sc24 rfl B9 rfl) (s0 (xmI rfl) (s0 (x_sub rfl rfl (by omega)) (s0 (x_idx so24 rfl rfl oz900.sl (by decide) (by omega) (by omega)) (st (x_ldi sc3 rfl oz900.sl (by omega) (by omega)) (s0 (xaI rfl) (c_end (n_block (n_then (c_reg (s0 (x_fieldAddr fa118_0 rfl) (st (x_loadB sc24 rfl B9 rfl) ?_)))))))))))))
      refine s0 (xmI rfl) ?_
      refine s_bsi (xs := [_]) so24 zr3 (pts_cons rfl pts_nil) rfl rfl rfl ?_
      intro p73 F73 w39 l40 o73 f73 g73
      have z_l40 := l40.size; have L := L.tr l40.up; have B1 := B1.ext l40; have B4 := B4.ext l40; have B9 := B9.ext l40; have oz900 := oz900.ext l40; have hn73 := o73.n1
      refine s_appi (B := w12.heap.size) so24 zr3 rfl rfl (xs := _) oz900 o73.sl fz900 (by omega) (by omega) (by omega) ?_
      intro p74 c74 F74 w41 l42 o74 hn74 k74 f74 g74
      have ab1_74 : b1 ∉ F74 := k74.nin (by first|assumption|exact nin_of fz900 gz900 (by omega)) (by omega)
      have B1 := B1.exm l42 (by first|assumption|exact nin_of fz900 gz900 (by omega))
      have ab4_74 : b4 ∉ F74 := k74.nin (by first|assumption|exact nin_of fz900 gz900 (by omega)) (by omega)
      have B4 := B4.exm l42 (by first|assumption|exact nin_of fz900 gz900 (by omega))
      have ab9_74 : b9 ∉ F74 := k74.nin (by first|assumption|exact nin_of fz900 gz900 (by omega)) (by omega)
      have B9 := B9.exm l42 (by first|assumption|exact nin_of fz900 gz900 (by omega))
      have z_l42 := l42.size; have L := L.freshL l42 fz900 (by omega); have d73_74 : Dj F73 F74 := k74.dj (by first|assumption|exact Dj.symm (by assumption)|exact dj_of f73 g73 fz900 gz900 (by omega)) g73 (by omega)
      have o73 := o73.exm l42 (by first|assumption|exact Dj.symm (by assumption)|exact dj_of fz900 gz900 f73 g73 (by omega))
      refine s0 (x_fieldAddr fa118_0 rfl) ?_
      refine s_store (v := .slice _ _ _) (cs' := [_, _, _, _, _]) rfl sz24 rfl rfl rfl rfl B9 rfl rfl ?_
      intro w43 l44 el44 B9
      have z_l44 := l44.size; have L := L.fresh l44 (by omega); have B1 := B1.ne l44 (by omega); have B4 := B4.ne l44 (by omega); have o73 := o73.ne l44 (by first|assumption|exact nin_of f73 g73 (by omega))
      have o74 := o74.ne l44 (by first|assumption|exact nin_of f74 g74 (by omega))
      refine c_end (n_block (n_then (c_reg (s0 (x_add rfl rfl (by omega)) (s0 (xmI rfl) (c_end ?_))))))
      exact c_round (g' := k + 1) (by omega) ⟨_, _, _, _, upd_self8 rfl rfl rfl rfl rfl rfl rfl (vint (by omega)), L, (by omega), B1, B4, (bx_s0 (by simp [topK_length]) B9), (by simp only [topK]; first | (rw [show topV W x y m xs (topK W x y m xs k) k = xs.getD ((y - 1) * W + x + (k : Int)).toNat 0 from (if_neg hy0).trans (if_pos hc)]; exact o74) | (rw [show topV W x y m xs (topK W x y m xs k) k = (topK W x y m xs k).getD ((k : Int) - 1).toNat 0 from (if_neg hy0).trans (if_neg hc)]; exact o74) | (rw [show topV W x y m xs (topK W x y m xs k) k = 128 from if_pos h39]; exact o74)), (f74.mono (by omega)), (g74.mono (by omega)), (by first|assumption|exact nin_of f74 g74 (by omega)), (by first|assumption|exact nin_of f74 g74 (by omega)), (by first|assumption|exact nin_of f74 g74 (by omega)), (by omega)⟩
  ·refine c_end (n_then (wp_seq (c_false rfl ?_)))
   refine wp_exit (e_then (e_then (e_here ?_)))
   refine n_then (wp_seq (wp_seq ?_))
   have hk2 : k = (2 * m).toNat := by omega
   subst hk2
   refine c_reg (s0 (xmI rfl) (s0 (xmI rfl) (c_end (n_then (wp_block ?_)))))
   refine c_loop (γ := Nat) (fun j => m.toNat - j) (fun (j : Nat) E wl => ∃ E0 pz901 cz901 Fz901, E = upd (upd (upd (upd (upd (upd (upd E0 1 (.int .i64 x)) 2 (.int .i64 y)) 4 (pt b1 0)) 8 (pt b4 0)) 9 (pt b9 0)) 77 (.int .i64 m)) 78 (.int .i64 (j : Int)) ∧ (Exm [] w wl) ∧ (wl14.heap.size ≤ wl.heap.size) ∧ (Bx wl b1 [.int .i64 W, .int .i64 H, .slice p xs.length c] 36) ∧ (Bx wl b4 [.slice none 0 0, .slice none 0 0, .int .i64 0, .bool false, .bool false] 118) ∧ (Bx wl b9 [.slice pz900 (topK W x y m xs (2 * m).toNat).length cz900, .slice pz901 (leftK W x y xs j).length cz901, .int .i64 128, .bool (decide (0 < y)), .bool (decide (0 < x))] 118) ∧ (Own wl pz900 (topK W x y m xs (2 * m).toNat).length cz900 3 1 (ic (topK W x y m xs (2 * m).toNat)) Fz900) ∧ (Own wl pz901 ((leftK W x y xs j).length) cz901 3 1 (ic (leftK W x y xs j)) Fz901) ∧ (Fr (wl14.heap.size) Fz901) ∧ (Lt Fz901 wl.heap.size) ∧ (b1 ∉ Fz901) ∧ (b4 ∉ Fz901) ∧ (b9 ∉ Fz901) ∧ (Dj Fz900 Fz901) ∧ ((j : Int) ≤ m)) 0 ⟨_, _, _, _, upd_self7 rfl rfl rfl rfl rfl rfl rfl, L, (by omega), B1, B4, B9, oz900, Own.nil, Fr.no, Lt.no, (by simp), (by simp), (by simp), dj_nil', (by omega)⟩ ?_
   rintro j E wl45 ⟨E0, pz901, cz901, Fz901, rfl, L, Lz, B1, B4, B9, oz900, oz901, fz901, gz901, ab1_z901, ab4_z901, ab9_z901, dz900_z901, hj⟩
   have Lz0 := L.size; have hll := leftK_length W x y xs j
   refine wp_seq (c_reg ?_)
   refine sb (x_lss rfl rfl) (fun h79 => ?_) (fun h79 => ?_)
   ·refine c_end (n_then (wp_seq (c_true rfl (c_skipn (n_then (wp_seq (wp_block (wp_seq (c_reg (s0 (xmI rfl) (s0 (xaI rfl) (c_end (n_then ?_)))))))))))))
    refine wp_seq (c_reg (s0 (xaI rfl) (c_end (n_then (wp_seq (wp_seq (c_reg (s0 (xmI rfl) ?_))))))))
    refine sb (x_gtr rfl rfl) (fun h82 => ?_) (fun h82 => ?_)
    ·refine c_end (n_then (c_true rfl ?_))
     have hpi := pix_in (a := y + (j : Int)) (b := x - 1) hf.1 (by omega) (by omega)
     refine c_reg (s0 (x_fieldAddr fa36_2 rfl) (st (x_loadB sc24 rfl B1 rfl) (s0 (xmI rfl) (s0 (xmI rfl) (s0 (x_add rfl rfl (by omega)) (s0 (x_fieldAddr fa36_0 rfl) (st (x_loadB sc3 rfl B1 rfl) (s0 (x_mul rfl rfl (by omega)) (s0 (xmI rfl) (s0 (x_add rfl rfl (by omega)) (s0 (x_sub rfl rfl (by omega)) (s0 (x_idx so24 rfl rfl hp (by decide) (by omega) (by omega)) (st (x_ldi sc3 rfl (hp.ext L) (by omega) (by omega)) ?_)))))))))))))
     refine s0 (xaI rfl) (c_end (n_then (c_reg (s0 (x_fieldAddr fa118_1 rfl) (st (x_loadB sc24 rfl B9 rfl) (s0 (xmI rfl) ?_))))))
     refine s_bsi (xs := [_]) so24 zr3 (pts_cons rfl pts_nil) rfl rfl rfl ?_
     intro p99 F99 w46 l47 o99 f99 g99
     have z_l47 := l47.size; have L := L.tr l47.up; have B1 := B1.ext l47; have B4 := B4.ext l47; have B9 := B9.ext l47; have oz900 := oz900.ext l47; have oz901 := oz901.ext l47; have hn99 := o99.n1
     refine s_appi (B := wl14.heap.size) so24 zr3 rfl rfl (xs := _) oz901 o99.sl fz901 (by omega) (by omega) (by omega) ?_
     intro p100 c100 F100 w48 l49 o100 hn100 k100 f100 g100
     have ab1_100 : b1 ∉ F100 := k100.nin (by first|assumption|exact nin_of fz901 gz901 (by omega)) (by omega)
     have B1 := B1.exm l49 (by first|assumption|exact nin_of fz901 gz901 (by omega))
     have ab4_100 : b4 ∉ F100 := k100.nin (by first|assumption|exact nin_of fz901 gz901 (by omega)) (by omega)
     have B4 := B4.exm l49 (by first|assumption|exact nin_of fz901 gz901 (by omega))
     have ab9_100 : b9 ∉ F100 := k100.nin (by first|assumption|exact nin_of fz901 gz901 (by omega)) (by omega)
     have B9 := B9.exm l49 (by first|assumption|exact nin_of fz901 gz901 (by omega))
     have z_l49 := l49.size; have L := L.freshL l49 fz901 (by omega); have dz900_100 : Dj Fz900 F100 := k100.dj (by first|assumption|exact Dj.symm (by assumption)|exact dj_of fz900 gz900 fz901 gz901 (by omega)) gz900 (by omega)
     have oz900 := oz900.exm l49 (by first|assumption|exact Dj.symm (by assumption)|exact dj_of fz901 gz901 fz900 gz900 (by omega))
     have d99_100 : Dj F99 F100 := k100.dj (by first|assumption|exact Dj.symm (by assumption)|exact dj_of f99 g99 fz901 gz901 (by omega)) g99 (by omega)
     have o99 := o99.exm l49 (by first|assumption|exact Dj.symm (by assumption)|exact dj_of fz901 gz901 f99 g99 (by omega))
     refine s0 (x_fieldAddr fa118_1 rfl) ?_
     refine s_store (v := .slice _ _ _) (cs' := [_, _, _, _, _]) rfl sz24 rfl rfl rfl rfl B9 rfl rfl ?_
     intro w50 l51 el51 B9
     have z_l51 := l51.size; have L := L.fresh l51 (by omega); have B1 := B1.ne l51 (by omega); have B4 := B4.ne l51 (by omega); have oz900 := oz900.ne l51 (by first|assumption|exact nin_of fz900 gz900 (by omega))
     have o99 := o99.ne l51 (by first|assumption|exact nin_of f99 g99 (by omega))
     have o100 := o100.ne l51 (by first|assumption|exact nin_of f100 g100 (by omega))
     refine c_end (n_block (n_then (c_reg (s0 (x_add rfl rfl (by omega)) (s0 (xmI rfl) (c_end ?_))))))
     exact c_round (g' := j + 1) (by omega) ⟨_, _, _, _, upd_self7 rfl rfl rfl rfl rfl rfl (vint (by omega)), L, (by omega), B1, B4, (bx_s1 (by simp [leftK_length]) B9), oz900, (by rw [leftK_succ]; first | (rw [show leftV W x y xs j = xs.getD ((y + (j : Int)) * W + x - 1).toNat 0 from if_pos h82]; exact o100) | (rw [show leftV W x y xs j = 128 from if_neg h82]; exact o100)), (f100.mono (by omega)), (g100.mono (by omega)), (by first|assumption|exact nin_of f100 g100 (by omega)), (by first|assumption|exact nin_of f100 g100 (by omega)), (by first|assumption|exact nin_of f100 g100 (by omega)), (by first|assumption|exact Dj.symm (by assumption)|exact dj_of fz900 gz900 f100 g100 (by omega)), (by omega)⟩
    ·refine c_end (n_then (c_false rfl (c_skipn (n_then (c_reg (s0 (x_fieldAddr fa118_1 rfl) (st (x_loadB sc24 rfl B9 rfl) (s0 (xmI rfl) ?_))))))))
     refine s_bsi (xs := [_]) so24 zr3 (pts_cons rfl pts_nil) rfl rfl rfl ?_
     intro p99 F99 w52 l53 o99 f99 g99
     have z_l53 := l53.size; have L := L.tr l53.up; have B1 := B1.ext l53; have B4 := B4.ext l53; have B9 := B9.ext l53; have oz900 := oz900.ext l53; have oz901 := oz901.ext l53; have hn99 := o99.n1
     refine s_appi (B := wl14.heap.size) so24 zr3 rfl rfl (xs := _) oz901 o99.sl fz901 (by omega) (by omega) (by omega) ?_
     intro p100 c100 F100 w54 l55 o100 hn100 k100 f100 g100
     have ab1_100 : b1 ∉ F100 := k100.nin (by first|assumption|exact nin_of fz901 gz901 (by omega)) (by omega)
     have B1 := B1.exm l55 (by first|assumption|exact nin_of fz901 gz901 (by omega))
     have ab4_100 : b4 ∉ F100 := k100.nin (by first|assumption|exact nin_of fz901 gz901 (by omega)) (by omega)
     have B4 := B4.exm l55 (by first|assumption|exact nin_of fz901 gz901 (by omega))
     have ab9_100 : b9 ∉ F100 := k100.nin (by first|assumption|exact nin_of fz901 gz901 (by omega)) (by omega)
     have B9 := B9.exm l55 (by first|assumption|exact nin_of fz901 gz901 (by omega))
     have z_l55 := l55.size; have L := L.freshL l55 fz901 (by omega); have dz900_100 : Dj Fz900 F100 := k100.dj (by first|assumption|exact Dj.symm (by assumption)|exact dj_of fz900 gz900 fz901 gz901 (by omega)) gz900 (by omega)
     have oz900 := oz900.exm l55 (by first|assumption|exact Dj.symm (by assumption)|exact dj_of fz901 gz901 fz900 gz900 (by omega))
     have d99_100 : Dj F99 F100 := k100.dj (by first|assumption|exact Dj.symm (by assumption)|exact dj_of f99 g99 fz901 gz901 (by omega)) g99 (by omega)
     have o99 := o99.exm l55 (by first|assumption|exact Dj.symm (by assumption)|exact dj_of fz901 gz901 f99 g99 (by omega))
     refine s0 (x_fieldAddr fa118_1 rfl) ?_
     refine s_store (v := .slice _ _ _) (cs' := [_, _, _, _, _]) rfl sz24 rfl rfl rfl rfl B9 rfl rfl ?_
     intro w56 l57 el57 B9
     have z_l57 := l57.size; have L := L.fresh l57 (by omega); have B1 := B1.ne l57 (by omega); have B4 := B4.ne l57 (by omega); have oz900 := oz900.ne l57 (by first|assumption|exact nin_of fz900 gz900 (by omega))
     have o99 := o99.ne l57 (by first|assumption|exact nin_of f99 g99 (by omega))
     have o100 := o100.ne l57 (by first|assumption|exact nin_of f100 g100 (by omega))
     refine c_end (n_block (n_then (c_reg (s0 (x_add rfl rfl (by omega)) (s0 (xmI rfl) (c_end ?_))))))
     exact c_round (g' := j + 1) (by omega) ⟨_, _, _, _, upd_self7 rfl rfl rfl rfl rfl rfl (vint (by omega)), L, (by omega), B1, B4, (bx_s1 (by simp [leftK_length]) B9), oz900, (by rw [leftK_succ]; first | (rw [show leftV W x y xs j = xs.getD ((y + (j : Int)) * W + x - 1).toNat 0 from if_pos h82]; exact o100) | (rw [show leftV W x y xs j = 128 from if_neg h82]; exact o100)), (f100.mono (by omega)), (g100.mono (by omega)), (by first|assumption|exact nin_of f100 g100 (by omega)), (by first|assumption|exact nin_of f100 g100 (by omega)), (by first|assumption|exact nin_of f100 g100 (by omega)), (by first|assumption|exact Dj.symm (by assumption)|exact dj_of fz900 gz900 f100 g100 (by omega)), (by omega)⟩
   ·refine c_end (n_then (wp_seq (c_false rfl ?_)))
    refine wp_exit (e_then (e_then (e_here ?_)))
    refine n_then (wp_seq (wp_seq ?_))
    have hj2 : j = m.toNat := by omega
    subst hj2
    refine c_reg (s0 (xmI rfl) ?_)
    refine sb (x_gtr rfl rfl) (fun h104 => ?_) (fun h104 => ?_)
    ·refine s0 (x_move (v := .bool _) rfl) (gt rfl rfl rfl rfl (s0 (xmI rfl) (gt rfl rfl rfl rfl ?_)))
     refine sb (x_gtr rfl rfl) (fun h107 => ?_) (fun h107 => ?_)
     ·refine s0 (x_pickt (v := .bool _) rfl rfl) (c_end (n_then (c_true rfl ?_)))
      have hpi := pix_in (a := y - 1) (b := x - 1) hf.1 (by omega) (by omega)
      refine c_reg (s0 (x_fieldAddr fa36_2 rfl) (st (x_loadB sc24 rfl B1 rfl) (s0 (xmI rfl) (s0 (x_sub rfl rfl (by omega)) (s0 (x_fieldAddr fa36_0 rfl) (st (x_loadB sc3 rfl B1 rfl) (s0 (x_mul rfl rfl (by omega)) (s0 (xmI rfl) (s0 (x_add rfl rfl (by omega)) (s0 (x_sub rfl rfl (by omega)) (s0 (x_idx so24 rfl rfl hp (by decide) (by omega) (by omega)) (st (x_ldi sc3 rfl (hp.ext L) (by omega) (by omega)) (s0 (x_fieldAddr fa118_2 rfl) ?_)))))))))))))
      refine s_store (v := .int _ _) (cs' := [_, _, _, _, _]) rfl sz3 rfl rfl rfl rfl B9 rfl rfl ?_
      intro w58 l59 el59 B9
      have z_l59 := l59.size; have L := L.fresh l59 (by omega); have B1 := B1.ne l59 (by omega); have B4 := B4.ne l59 (by omega); have oz900 := oz900.ne l59 (by first|assumption|exact nin_of fz900 gz900 (by omega))
      have oz901 := oz901.ne l59 (by first|assumption|exact nin_of fz901 gz901 (by omega))
      refine c_end (n_then (wp_seq (c_reg (st (x_loadAgB ag118 rfl B9 rfl) (s_storeAg rfl sz118 rfl rfl B4 rfl rfl rfl ?_)))))
      intro w60 l61 el61 B4
      have z_l61 := l61.size; have L := L.fresh l61 (by omega); have B1 := B1.ne l61 (by omega); have B9 := B9.ne l61 (by omega); have oz900 := oz900.ne l61 (by first|assumption|exact nin_of fz900 gz900 (by omega))
      have oz901 := oz901.ne l61 (by first|assumption|exact nin_of fz901 gz901 (by omega))
      refine c_end (n_then (wp_ret (f_retc rfl rfl ag118 B4 rfl ?_)))
      rw [show cornV W x y xs = xs.getD ((y - 1) * W + x - 1).toNat 0 from if_pos (And.intro h104 h107)]
      exact ⟨_, rfl, L, _, _, _, _, _, _, rfl, oz900, fz900.mono (by omega), oz901, fz901.mono (by omega)⟩
     ·refine s0 (x_pickt (v := .bool _) rfl rfl) (c_end (n_then (c_false rfl (c_skipn (n_then (wp_seq (c_reg (st (x_loadAgB ag118 rfl B9 rfl) (s_storeAg rfl sz118 rfl rfl B4 rfl rfl rfl ?_)))))))))
      intro w62 l63 el63 B4
      have z_l63 := l63.size; have L := L.fresh l63 (by omega); have B1 := B1.ne l63 (by omega); have B9 := B9.ne l63 (by omega); have oz900 := oz900.ne l63 (by first|assumption|exact nin_of fz900 gz900 (by omega))
      have oz901 := oz901.ne l63 (by first|assumption|exact nin_of fz901 gz901 (by omega))
      refine c_end (n_then (wp_ret (f_retc rfl rfl ag118 B4 rfl ?_)))
      rw [show cornV W x y xs = 128 from if_neg (fun h => h107 h.2)]
      exact ⟨_, rfl, L, _, _, _, _, _, _, rfl, oz900, fz900.mono (by omega), oz901, fz901.mono (by omega)⟩
    ·refine s0 (x_move (v := .bool _) rfl) (gf rfl rfl rfl rfl (gf rfl rfl rfl rfl (s0 (x_pickf (v := .bool _) rfl rfl) (c_end (n_then (c_false rfl (c_skipn (n_then (wp_seq (c_reg (st (x_loadAgB ag118 rfl B9 rfl) (s_storeAg rfl sz118 rfl rfl B4 rfl rfl rfl ?_))))))))))))
     intro w64 l65 el65 B4
     have z_l65 := l65.size; have L := L.fresh l65 (by omega); have B1 := B1.ne l65 (by omega); have B9 := B9.ne l65 (by omega); have oz900 := oz900.ne l65 (by first|assumption|exact nin_of fz900 gz900 (by omega))
     have oz901 := oz901.ne l65 (by first|assumption|exact nin_of fz901 gz901 (by omega))
     refine c_end (n_then (wp_ret (f_retc rfl rfl ag118 B4 rfl ?_)))
     rw [show cornV W x y xs = 128 from if_neg (fun h => h104 h.1)]
     exact ⟨_, rfl, L, _, _, _, _, _, _, rfl, oz900, fz900.mono (by omega), oz901, fz901.mono (by omega)⟩
 ·exact absurd hf h18

end Go.Proofs.YtepnknffaecbdaaGreat
