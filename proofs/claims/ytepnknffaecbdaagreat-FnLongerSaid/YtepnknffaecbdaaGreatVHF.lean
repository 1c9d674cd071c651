/- What each function of this part returns, for every argument that meets its premises. -/
import Derived.Test.YtepnknffaecbdaaGreatProg
import Derived.Test.YtepnknffaecbdaaGreatVSxA
import Derived.Test.YtepnknffaecbdaaGreatVTy
import Derived.Test.YtepnknffaecbdaaGreatVPlA
import Derived.Test.YtepnknffaecbdaaGreatVF5
import Derived.Test.YtepnknffaecbdaaGreatVFB
import Derived.Test.YtepnknffaecbdaaGreatVFJ
import Derived.Test.YtepnknffaecbdaaGreatVFV
import Derived.Test.YtepnknffaecbdaaGreatVHA
namespace Go.Proofs.YtepnknffaecbdaaGreat
open Go.Sx Go.Pl Go.RowKit
set_option maxHeartbeats 2000000 in
theorem s_l23Block (b B : Nat) (p : Option Addr) (xs : List Int) (c : Nat) (G : List Nat) (n : Int) (w : World) (hcu : Cu w b B 104) (hp : Rdf w p xs.length c 1 (ic xs) G) (hF : b ∉ G) (hl : xs.length ≤ 1099511627776) (hn4 : n = 4 ∨ n = 8) :
    Calls Tryz.prog 186 [pt b 0, .slice p xs.length c, .int .i64 n].toArray w (RetM [b] w fun v w' => (∃ (md : Int) (p : Option Addr) (c : Nat) (F : List Nat) (ys : List Int), v = .agg [.int .i64 md, .slice p ys.length c].toArray ∧ Own w' p ys.length c 3 1 (ic ys) F ∧ Fr w.heap.size F ∧ (ys.length : Int) = n * n) ∧ Cu w' b B 104) := by
 have hcb := hcu.lt
 obtain ⟨N, hNi, hN⟩ : ∃ N : Nat, n * n = (N : Int) ∧ (N = 16 ∨ N = 64) := by rcases hn4 with h | h <;> subst h; exact ⟨16, rfl, .inl rfl⟩; exact ⟨64, rfl, .inr rfl⟩
 have L : Exm [b] w w := Exm.rfl'
 refine enter (n := 84) Tryz.func186 rfl rfl rfl ?_
 refine wp_seq (c_reg (s_alloc zr71 ?_))
 intro b1 w2 lob1 hib1 l3 B1
 have z_l3 := l3.size; have L := L.tr l3.up; have hcu := hcu.ext l3
 refine c_end (n_then (wp_seq (c_reg (s0 (xmI rfl) (s0 (xmI rfl) (s0 (x_mule (N : Int) rfl rfl hNi (by omega)) (s_makei so24 zr3 rfl rfl (by omega) (by omega) (by omega) ?_)))))))
 intro p13 F13 w4 l5 o13 f13 g13
 have z_l5 := l5.size; have L := L.tr l5.up; have hcu := hcu.ext l5; have B1 := B1.ext l5; have hn13 := o13.n1
 refine s0 (x_build (cs := [.int .i64 0, .slice _ _ _]) bd71 (pts_cons (v := .slice _ _ _) rfl pts_nil) rfl) ?_
 refine s_alloc zr71 ?_
 intro b6 w7 lob6 hib6 l8 B6
 have z_l8 := l8.size; have L := L.tr l8.up; have hcu := hcu.ext l8; have B1 := B1.ext l8; have o13 := o13.ext l8
 refine s_storeAg rfl sz71 rfl rfl B6 rfl rfl rfl ?_
 intro w9 l10 el10 B6
 have z_l10 := l10.size; have L := L.fresh l10 (by omega); have hcu := hcu.ne l10 (by omega); have B1 := B1.ne l10 (by omega); have o13 := o13.ne l10 (by first|assumption|exact nin_of f13 g13 (by omega))
 refine c_end (n_then (wp_seq (wp_seq (c_reg (s0 (xaI rfl) (c_end (n_then (wp_block ?_))))))))
 refine c_loop (γ := Nat × Int) (fun g => 8 - g.1) (fun (g : Nat × Int) E wl => ∃ E0, E = upd (upd (upd (upd (upd (upd E0 0 (pt b 0)) 1 (.slice p xs.length c)) 2 (.int .i64 n)) 6 (pt b1 0)) 7 (pt b6 0)) 8 (.int .i64 (g.1 : Int)) ∧ (Exm [b] w wl) ∧ (w9.heap.size ≤ wl.heap.size) ∧ (Cu wl b B 104) ∧ (Bx wl b1 [.int .i64 0, .slice none 0 0] 71) ∧ (Bx wl b6 [.int .i64 g.2, .slice p13 N N] 71) ∧ (Own wl p13 N N 3 1 (ic (List.replicate N 0)) F13) ∧ ((g.1 : Int) ≤ 8) ∧ (0 ≤ g.2 ∧ g.2 ≤ 6)) (0, 0) ⟨_, upd_self6 rfl rfl rfl rfl rfl rfl, L, (by omega), hcu, B1, B6, o13, (by show ((0 : Nat) : Int) ≤ _; omega), (by show (0 : Int) ≤ 0 ∧ (0 : Int) ≤ 6; omega)⟩ ?_
 rintro g E wl11 ⟨E0, rfl, L, Lz, hcu, B1, B6, o13, hk, hm⟩
 have Lz0 := L.size
 refine wp_seq (wp_seq (c_reg (s0 (xmI rfl) ?_)))
 refine sb (x_lss rfl rfl) (fun h16 => ?_) (fun h16 => ?_)
 ·refine s0 (x_move (v := .bool _) rfl) (gt rfl rfl rfl rfl (s0 (xmI rfl) (gt rfl rfl rfl rfl ?_)))
  refine sb (x_eql rfl rfl) (fun h19 => ?_) (fun h19 => ?_)
  ·refine gt rfl rfl rfl rfl (s0 (x_move (v := .bool _) rfl) (gf rfl rfl rfl rfl (gf rfl rfl rfl rfl (gf rfl rfl rfl rfl (gf rfl rfl rfl rfl (gf rfl rfl rfl rfl (gf rfl rfl rfl rfl (gt rfl rfl rfl rfl (s0 (x_pickt (v := .bool _) rfl rfl) (s0 (x_pickt (v := .bool _) rfl rfl) (c_end (n_then (c_true rfl ?_)))))))))))))
   refine c_skipn (n_then (wp_seq (wp_block (c_reg (s0 (x_move (v := .pointer _) rfl) ?_)))))
   refine spm (zcall cl63 rfl) (s_below b _ _ _ hcu) ?_
   rintro v32 w12 l13 ⟨⟨x32, rfl, hx32⟩, hcu⟩
   have z_l13 := l13.size; have L := L.within l13 (by simp)
   have B1 := B1.ne l13 (by omega); have B6 := B6.ne l13 (by omega); have o13 := o13.ne l13 (by first|assumption|exact nin_of f13 g13 (by omega))
   refine s0 (x_fieldAddr fa71_0 rfl) ?_
   refine s_store (v := .int _ _) (cs' := [_, _]) rfl sz3 rfl rfl rfl rfl B6 rfl rfl ?_
   intro w14 l15 el15 B6
   have z_l15 := l15.size; have L := L.fresh l15 (by omega); have hcu := hcu.ne l15 (by omega); have B1 := B1.ne l15 (by omega); have o13 := o13.ne l15 (by first|assumption|exact nin_of f13 g13 (by omega))
   refine c_end (n_block (n_then (c_reg (s0 (xmI rfl) (s0 (x_add rfl rfl (by omega)) (s0 (xaI rfl) (c_end ?_)))))))
   exact c_round (g' := (g.1 + 1, _)) (by show 8 - (g.1 + 1) < 8 - g.1; omega) ⟨_, upd_self6 rfl rfl rfl rfl rfl (vint (by show _ = ((g.1 + 1 : Nat) : Int); omega)), L, (by omega), hcu, B1, B6, o13, (by show ((g.1 + 1 : Nat) : Int) ≤ _; omega), (by show 0 ≤ x32 ∧ x32 ≤ 6; omega)⟩
  ·refine gt rfl rfl rfl rfl (s0 (x_move (v := .bool _) rfl) (gt rfl rfl rfl rfl (s0 (xmS rfl) (gt rfl rfl rfl rfl (s0 (x_fieldAddr fa71_0 rfl) (gt rfl rfl rfl rfl (st (x_loadB sc3 rfl B6 rfl) (gt rfl rfl rfl rfl ?_))))))))
   refine sp (zcall cl132 rfl) (s_symBits _ _ _ _ _ (hp.ne L hF).sl (by omega)) ?_
   rintro v24 w16 l17 ⟨p24, c24, F24, rfl, o24, f24⟩
   have z_l17 := l17.size; have L := L.tr l17.up; have hcu := hcu.ext l17; have B1 := B1.ext l17; have B6 := B6.ext l17; have o13 := o13.ext l17; have g24 := o24.lt
   refine gt rfl rfl rfl rfl (s0 (x_lensl un24 rfl) (gt rfl rfl rfl rfl ?_))
   refine sb (x_eql rfl rfl) (fun h26 => ?_) (fun h26 => ?_)
   ·refine gt rfl rfl rfl rfl (s0 (x_pickf (v := .bool _) rfl rfl) (s0 (x_pickt (v := .bool _) rfl rfl) (c_end (n_then (c_true rfl (c_skipn (n_then (wp_seq (wp_block (c_reg (s0 (x_move (v := .pointer _) rfl) ?_)))))))))))
    refine spm (zcall cl63 rfl) (s_below b _ _ _ hcu) ?_
    rintro v32 w18 l19 ⟨⟨x32, rfl, hx32⟩, hcu⟩
    have z_l19 := l19.size; have L := L.within l19 (by simp)
    have B1 := B1.ne l19 (by omega); have B6 := B6.ne l19 (by omega); have o13 := o13.ne l19 (by first|assumption|exact nin_of f13 g13 (by omega))
    have o24 := o24.ne l19 (by first|assumption|exact nin_of f24 g24 (by omega))
    refine s0 (x_fieldAddr fa71_0 rfl) ?_
    refine s_store (v := .int _ _) (cs' := [_, _]) rfl sz3 rfl rfl rfl rfl B6 rfl rfl ?_
    intro w20 l21 el21 B6
    have z_l21 := l21.size; have L := L.fresh l21 (by omega); have hcu := hcu.ne l21 (by omega); have B1 := B1.ne l21 (by omega); have o13 := o13.ne l21 (by first|assumption|exact nin_of f13 g13 (by omega))
    have o24 := o24.ne l21 (by first|assumption|exact nin_of f24 g24 (by omega))
    refine c_end (n_block (n_then (c_reg (s0 (xmI rfl) (s0 (x_add rfl rfl (by omega)) (s0 (xaI rfl) (c_end ?_)))))))
    exact c_round (g' := (g.1 + 1, _)) (by show 8 - (g.1 + 1) < 8 - g.1; omega) ⟨_, upd_self6 rfl rfl rfl rfl rfl (vint (by show _ = ((g.1 + 1 : Nat) : Int); omega)), L, (by omega), hcu, B1, B6, o13, (by show ((g.1 + 1 : Nat) : Int) ≤ _; omega), (by show 0 ≤ x32 ∧ x32 ≤ 6; omega)⟩
   ·refine gt rfl rfl rfl rfl (s0 (x_pickf (v := .bool _) rfl rfl) (s0 (x_pickt (v := .bool _) rfl rfl) (c_end (n_then (c_false rfl ?_)))))
    refine wp_exit (e_then (e_then (e_here ?_)))
    refine n_then (wp_seq (wp_block ?_))
    refine c_loop (γ := Int) (fun md => (6 - md).toNat) (fun (md : Int) E wl => ∃ E0, E = upd (upd (upd (upd (upd E0 0 (pt b 0)) 1 (.slice p xs.length c)) 2 (.int .i64 n)) 6 (pt b1 0)) 7 (pt b6 0) ∧ (Exm [b] w wl) ∧ (w16.heap.size ≤ wl.heap.size) ∧ (Cu wl b B 104) ∧ (Bx wl b1 [.int .i64 0, .slice none 0 0] 71) ∧ (Bx wl b6 [.int .i64 md, .slice p13 N N] 71) ∧ (Own wl p13 N N 3 1 (ic (List.replicate N 0)) F13) ∧ (0 ≤ md ∧ md ≤ 6)) g.2 ⟨_, upd_self5 rfl rfl rfl rfl rfl, L, (by omega), hcu, B1, B6, o13, (by omega)⟩ ?_
    rintro md E wl22 ⟨E0, rfl, L, Lz, hcu, B1, B6, o13, hmd⟩
    have Lz0 := L.size
    refine wp_seq (wp_seq (c_reg (s0 (xmS rfl) (s0 (x_fieldAddr fa71_0 rfl) (st (x_loadB sc3 rfl B6 rfl) ?_)))))
    refine sp (zcall cl132 rfl) (s_symBits _ _ _ _ _ (hp.ne L hF).sl (by omega)) ?_
    rintro v37 w23 l24 ⟨p37, c37, F37, rfl, o37, f37⟩
    have z_l24 := l24.size; have L := L.tr l24.up; have hcu := hcu.ext l24; have B1 := B1.ext l24; have B6 := B6.ext l24; have o13 := o13.ext l24; have g37 := o37.lt
    refine s0 (x_lensl un24 rfl) ?_
    refine sb (x_eql rfl rfl) (fun h39 => ?_) (fun h39 => ?_)
    ·refine s0 (x_move (v := .bool _) rfl) (gt rfl rfl rfl rfl (s0 (x_fieldAddr fa71_0 rfl) (gt rfl rfl rfl rfl (st (x_loadB sc3 rfl B6 rfl) (gt rfl rfl rfl rfl ?_)))))
     refine sb (x_lss rfl rfl) (fun h43 => ?_) (fun h43 => ?_)
     ·refine s0 (x_pickt (v := .bool _) rfl rfl) (c_end (n_then (c_true rfl (c_skipn (n_then (wp_block (c_reg (s0 (x_fieldAddr fa71_0 rfl) (st (x_loadB sc3 rfl B6 rfl) (s0 (x_add rfl rfl (by omega)) (s0 (x_fieldAddr fa71_0 rfl) ?_)))))))))))
      refine s_store (v := .int _ _) (cs' := [_, _]) rfl sz3 rfl rfl rfl rfl B6 rfl rfl ?_
      intro w25 l26 el26 B6
      have z_l26 := l26.size; have L := L.fresh l26 (by omega); have hcu := hcu.ne l26 (by omega); have B1 := B1.ne l26 (by omega); have o13 := o13.ne l26 (by first|assumption|exact nin_of f13 g13 (by omega))
      have o37 := o37.ne l26 (by first|assumption|exact nin_of f37 g37 (by omega))
      refine c_end (n_block ?_)
      exact c_round (g' := md + 1) (by omega) ⟨_, upd_self5 rfl rfl rfl rfl rfl, L, (by omega), hcu, B1, B6, o13, (by omega)⟩
     ·refine s0 (x_pickt (v := .bool _) rfl rfl) (c_end (n_then (c_false rfl ?_)))
      refine wp_exit (e_then (e_then (e_here ?_)))
      refine n_then (wp_seq (wp_seq (c_reg (s0 (xmS rfl) (s0 (x_fieldAddr fa71_0 rfl) (st (x_loadB sc3 rfl B6 rfl) ?_))))))
      refine sp (zcall cl132 rfl) (s_symBits _ _ _ _ _ (hp.ne L hF).sl (by omega)) ?_
      rintro v52 w27 l28 ⟨p52, c52, F52, rfl, o52, f52⟩
      have z_l28 := l28.size; have L := L.tr l28.up; have hcu := hcu.ext l28; have B1 := B1.ext l28; have B6 := B6.ext l28; have o13 := o13.ext l28; have o37 := o37.ext l28; have g52 := o52.lt
      refine s0 (x_lensl un24 rfl) ?_
      refine sb (x_eql rfl rfl) (fun h54 => ?_) (fun h54 => ?_)
      ·refine c_end (n_then (c_true rfl (c_reg (s0 (x_fieldAddr fa71_0 rfl) ?_))))
       refine s_store (v := .int _ _) (cs' := [_, _]) rfl sz3 rfl rfl rfl rfl B6 rfl rfl ?_
       intro w29 l30 el30 B6
       have z_l30 := l30.size; have L := L.fresh l30 (by omega); have hcu := hcu.ne l30 (by omega); have B1 := B1.ne l30 (by omega); have o13 := o13.ne l30 (by first|assumption|exact nin_of f13 g13 (by omega))
       have o37 := o37.ne l30 (by first|assumption|exact nin_of f37 g37 (by omega))
       have o52 := o52.ne l30 (by first|assumption|exact nin_of f52 g52 (by omega))
       refine c_end (n_then (wp_seq (wp_seq (c_reg (s0 (x_move (v := .pointer _) rfl) ?_)))))
       refine spm (zcall cl63 rfl) (s_below b _ _ _ hcu) ?_
       rintro v57 w31 l32 ⟨⟨x57, rfl, hx57⟩, hcu⟩
       have z_l32 := l32.size; have L := L.within l32 (by simp)
       have B1 := B1.ne l32 (by omega); have B6 := B6.ne l32 (by omega); have o13 := o13.ne l32 (by first|assumption|exact nin_of f13 g13 (by omega))
       have o37 := o37.ne l32 (by first|assumption|exact nin_of f37 g37 (by omega))
       have o52 := o52.ne l32 (by first|assumption|exact nin_of f52 g52 (by omega))
       refine s0 (xaI rfl) (c_end (n_then (wp_block ?_)))
       refine c_loop (γ := Int × Int × List Int) (fun h => h.1.toNat) (fun (h : Int × Int × List Int) E wl => ∃ E0, E = upd (upd (upd (upd (upd E0 0 (pt b 0)) 2 (.int .i64 n)) 6 (pt b1 0)) 7 (pt b6 0)) 9 (.int .i64 h.1) ∧ (Exm [b] w wl) ∧ (w31.heap.size ≤ wl.heap.size) ∧ (Cu wl b B 104) ∧ (Bx wl b1 [.int .i64 0, .slice none 0 0] 71) ∧ (Bx wl b6 [.int .i64 h.2.1, .slice p13 N N] 71) ∧ (Own wl p13 N N 3 1 (ic h.2.2) F13) ∧ (h.1 ≤ 5) ∧ (h.2.2.length = N)) (x57, _, List.replicate N 0) ⟨_, upd_self5 rfl rfl rfl rfl rfl, L, (by omega), hcu, B1, B6, o13, (by show x57 ≤ 5; omega), (by show (List.replicate N (0 : Int)).length = N; simp)⟩ ?_
       rintro h E wl33 ⟨E0, rfl, L, Lz, hcu, B1, B6, o13, hh, hlen⟩
       have Lz0 := L.size
       refine wp_seq (wp_seq (c_reg (s0 (xmI rfl) ?_)))
       refine sb (x_gtr rfl rfl) (fun h59 => ?_) (fun h59 => ?_)
       ·refine c_end (n_then (c_true rfl (c_skipn (n_then (wp_seq (wp_block ?_))))))
        refine c_plan (fun wq => Exm [b] wl33 wq) 21 (.cons (0, 2) (.cons (1, 1) (.cons (2, 2) (.cons (3, 2) (.cons (4, 2) (.cons (5, 2) (.cons (6, 2) (.cons (7, 2) (.cons (8, 2) (.cons (9, 2) (.cons (10, 2) (.cons (14, 2) (.cons (15, 2) (.cons (11, 0) (.cons (12, 0) (.cons (13, 0) (.cons (16, 0) (.cons (17, 2) (.cons (18, 0) (.cons (19, 0) (.cons (20, 2) (.cons (21, 0) .nil)))))))))))))))))))))) (by kernel_rfl) (by kernel_rfl) (Exm.drew _) ?_
        obtain ⟨w34, hwd⟩ : ∃ x, x = wl33.drew := ⟨_, rfl⟩
        have l35 : Ext wl33 w34 := by rw [hwd]; exact Exm.drew _
        rw [← hwd]; clear hwd
        have Lq : Exm [b] wl33 w34 := l35.up; have qB6 := B6; have z_l35 := l35.size; have L := L.tr l35.up; have hcu := hcu.ext l35; have B1 := B1.ext l35; have B6 := B6.ext l35; have o13 := o13.ext l35
        refine p0 rfl (x_fieldAddr fa71_1 rfl) ?_
        refine ps rfl (fun wq hwq => x_loadB sc24 rfl (qB6.ne hwq (by omega)) rfl) ?_
        refine p0 rfl (x_move (v := .pointer _) rfl) (p0 rfl (xmI rfl) (p0 rfl (xmI rfl) (p0 rfl (x_mule (N : Int) rfl rfl hNi (by omega)) (p0 rfl (x_sub rfl rfl (by omega)) (p0 rfl (x_move (v := .pointer _) rfl) (p0 rfl (xmI rfl) (p0 rfl (xmI rfl) (p0 rfl (x_mule (N : Int) rfl rfl hNi (by omega)) (p0 rfl (x_move (v := .pointer _) rfl) (p0 rfl (x_move (v := .pointer _) rfl) (pu rfl ?_)))))))))))
        refine spm (zcall cl63 rfl) (s_below b _ _ _ hcu) ?_
        rintro v73 w36 l37 ⟨⟨x73, rfl, hx73⟩, hcu⟩
        have z_l37 := l37.size; have L := L.within l37 (by simp)
        have Lq := Lq.within l37 (by simp)
        have B1 := B1.ne l37 (by omega); have B6 := B6.ne l37 (by omega); have o13 := o13.ne l37 (by first|assumption|exact nin_of f13 g13 (by omega))
        refine c_end ⟨rfl, fun h hS => Lq, ?_⟩
        refine pu rfl ?_
        refine s_bsi (xs := [_, _, _, _, _, _]) so24 zr3 (pts_cons rfl (pts_cons rfl (pts_cons rfl (pts_cons rfl (pts_cons rfl (pts_cons rfl pts_nil)))))) rfl rfl rfl ?_
        intro p74 F74 w38 l39 o74 f74 g74
        have z_l39 := l39.size; have L := L.tr l39.up; have Lq := Lq.tr l39.up; have hcu := hcu.ext l39; have B1 := B1.ext l39; have B6 := B6.ext l39; have o13 := o13.ext l39; have hn74 := o74.n1
        refine c_end ⟨rfl, fun h hS => Lq, ?_⟩
        refine pu rfl ?_
        refine spm (zcall cl129 rfl) (s_pick b _ _ _ _ _ _ hcu _ o74 (by first|assumption|exact nin_of f74 g74 (by omega)) (by omega)) ?_
        rintro v75 w40 l41 ⟨⟨x75, rfl, hx75⟩, hcu⟩
        have z_l41 := l41.size; have L := L.within l41 (by simp)
        have Lq := Lq.within l41 (by simp)
        have B1 := B1.ne l41 (by omega); have B6 := B6.ne l41 (by omega); have o13 := o13.ne l41 (by first|assumption|exact nin_of f13 g13 (by omega))
        have o74 := o74.ne l41 (by first|assumption|exact nin_of f74 g74 (by omega))
        have hr75 : 0 ≤ x75 ∧ x75 < N := by have h6 := pick6 hx75; omega
        refine c_end ⟨rfl, fun h hS => Lq, ?_⟩
        refine pu rfl ?_
        refine spm (zcall cl63 rfl) (s_below b _ _ _ hcu) ?_
        rintro v78 w42 l43 ⟨⟨x78, rfl, hx78⟩, hcu⟩
        have z_l43 := l43.size; have L := L.within l43 (by simp)
        have Lq := Lq.within l43 (by simp)
        have B1 := B1.ne l43 (by omega); have B6 := B6.ne l43 (by omega); have o13 := o13.ne l43 (by first|assumption|exact nin_of f13 g13 (by omega))
        have o74 := o74.ne l43 (by first|assumption|exact nin_of f74 g74 (by omega))
        refine c_end ⟨rfl, fun h hS => Lq, ?_⟩
        refine p0 rfl (x_sub rfl rfl (by omega)) (pu rfl ?_)
        refine s_bsi (xs := [_, _, _, _, _, _]) so24 zr3 (pts_cons rfl (pts_cons rfl (pts_cons rfl (pts_cons rfl (pts_cons rfl (pts_cons rfl pts_nil)))))) rfl rfl rfl ?_
        intro p80 F80 w44 l45 o80 f80 g80
        have z_l45 := l45.size; have L := L.tr l45.up; have Lq := Lq.tr l45.up; have hcu := hcu.ext l45; have B1 := B1.ext l45; have B6 := B6.ext l45; have o13 := o13.ext l45; have o74 := o74.ext l45; have hn80 := o80.n1
        refine c_end ⟨rfl, fun h hS => Lq, ?_⟩
        refine pu rfl ?_
        refine spm (zcall cl129 rfl) (s_pick b _ _ _ _ _ _ hcu _ o80 (by first|assumption|exact nin_of f80 g80 (by omega)) (by omega)) ?_
        rintro v81 w46 l47 ⟨⟨x81, rfl, hx81⟩, hcu⟩
        have z_l47 := l47.size; have L := L.within l47 (by simp)
        have Lq := Lq.within l47 (by simp)
        have B1 := B1.ne l47 (by omega); have B6 := B6.ne l47 (by omega); have o13 := o13.ne l47 (by first|assumption|exact nin_of f13 g13 (by omega))
        have o74 := o74.ne l47 (by first|assumption|exact nin_of f74 g74 (by omega))
        have o80 := o80.ne l47 (by first|assumption|exact nin_of f80 g80 (by omega))
        refine c_end ⟨rfl, fun h hS => Lq, ?_⟩
        refine p0 rfl (x_idx so24 rfl rfl o13.sl (by decide) (by omega) (by omega)) (pu rfl (s_stoi rfl sz3 rfl rfl o13 (by omega) (by omega) ?_))
        intro w48 l49 el49 o13
        have z_l49 := l49.size; have L := L.freshL l49 f13 (by omega); have hcu := hcu.exm l49 (by first|assumption|exact nin_of f13 g13 (by omega)) (f13.mono (by omega))
        have B1 := B1.exm l49 (by first|assumption|exact nin_of f13 g13 (by omega))
        have B6 := B6.exm l49 (by first|assumption|exact nin_of f13 g13 (by omega))
        have o74 := o74.exm l49 (by first|assumption|exact Dj.symm (by assumption)|exact dj_of f13 g13 f74 g74 (by omega))
        have o80 := o80.exm l49 (by first|assumption|exact Dj.symm (by assumption)|exact dj_of f13 g13 f80 g80 (by omega))
        have hnl49 := o13.n1
        refine c_end ⟨rfl, fun h hS => absurd h (by decide), ?_⟩
        refine p_nil (np_normal ?_)
        refine n_block (n_then (c_reg (s0 (xmI rfl) (s0 (x_sub rfl rfl (by omega)) (s0 (xaI rfl) (c_end ?_))))))
        exact c_round (g' := (h.1 - 1, h.2.1, h.2.2.set x75.toNat x81)) (by show (h.1 - 1).toNat < h.1.toNat; omega) ⟨_, upd_self5 rfl rfl rfl rfl rfl, L, (by omega), hcu, B1, B6, o13, (by show h.1 - 1 ≤ 5; omega), (by show (h.2.2.set _ _).length = N; rw [List.length_set]; exact hlen)⟩
       ·refine c_end (n_then (c_false rfl ?_))
        refine wp_exit (e_then (e_then (e_here ?_)))
        refine n_then (wp_seq (c_reg (st (x_loadAgB ag71 rfl B6 rfl) (s_storeAg rfl sz71 rfl rfl B1 rfl rfl rfl ?_))))
        intro w50 l51 el51 B1
        have z_l51 := l51.size; have L := L.fresh l51 (by omega); have hcu := hcu.ne l51 (by omega); have B6 := B6.ne l51 (by omega); have o13 := o13.ne l51 (by first|assumption|exact nin_of f13 g13 (by omega))
        refine c_end (n_then (wp_ret (f_retc rfl rfl ag71 B1 rfl ?_)))
        exact ⟨_, rfl, L, ⟨h.2.1, p13, N, F13, h.2.2, (by rw [hlen]), (by rw [hlen]; exact o13), f13.mono (by omega), (by rw [hlen, hNi])⟩, hcu⟩
      ·refine c_end (n_then (c_false rfl (c_skipn (n_then (wp_seq (wp_seq (c_reg (s0 (x_move (v := .pointer _) rfl) ?_))))))))
       refine spm (zcall cl63 rfl) (s_below b _ _ _ hcu) ?_
       rintro v57 w52 l53 ⟨⟨x57, rfl, hx57⟩, hcu⟩
       have z_l53 := l53.size; have L := L.within l53 (by simp)
       have B1 := B1.ne l53 (by omega); have B6 := B6.ne l53 (by omega); have o13 := o13.ne l53 (by first|assumption|exact nin_of f13 g13 (by omega))
       have o37 := o37.ne l53 (by first|assumption|exact nin_of f37 g37 (by omega))
       have o52 := o52.ne l53 (by first|assumption|exact nin_of f52 g52 (by omega))
       refine s0 (xaI rfl) (c_end (n_then (wp_block ?_)))
       refine c_loop (γ := Int × Int × List Int) (fun h => h.1.toNat) (fun (h : Int × Int × List Int) E wl => ∃ E0, E = upd (upd (upd (upd (upd E0 0 (pt b 0)) 2 (.int .i64 n)) 6 (pt b1 0)) 7 (pt b6 0)) 9 (.int .i64 h.1) ∧ (Exm [b] w wl) ∧ (w52.heap.size ≤ wl.heap.size) ∧ (Cu wl b B 104) ∧ (Bx wl b1 [.int .i64 0, .slice none 0 0] 71) ∧ (Bx wl b6 [.int .i64 h.2.1, .slice p13 N N] 71) ∧ (Own wl p13 N N 3 1 (ic h.2.2) F13) ∧ (h.1 ≤ 5) ∧ (h.2.2.length = N)) (x57, _, List.replicate N 0) ⟨_, upd_self5 rfl rfl rfl rfl rfl, L, (by omega), hcu, B1, B6, o13, (by show x57 ≤ 5; omega), (by show (List.replicate N (0 : Int)).length = N; simp)⟩ ?_
       rintro h E wl54 ⟨E0, rfl, L, Lz, hcu, B1, B6, o13, hh, hlen⟩
       have Lz0 := L.size
       refine wp_seq (wp_seq (c_reg (s0 (xmI rfl) ?_)))
       refine sb (x_gtr rfl rfl) (fun h59 => ?_) (fun h59 => ?_)
       ·refine c_end (n_then (c_true rfl (c_skipn (n_then (wp_seq (wp_block ?_))))))
        refine c_plan (fun wq => Exm [b] wl54 wq) 21 (.cons (0, 2) (.cons (1, 1) (.cons (2, 2) (.cons (3, 2) (.cons (4, 2) (.cons (5, 2) (.cons (6, 2) (.cons (7, 2) (.cons (8, 2) (.cons (9, 2) (.cons (10, 2) (.cons (14, 2) (.cons (15, 2) (.cons (11, 0) (.cons (12, 0) (.cons (13, 0) (.cons (16, 0) (.cons (17, 2) (.cons (18, 0) (.cons (19, 0) (.cons (20, 2) (.cons (21, 0) .nil)))))))))))))))))))))) (by kernel_rfl) (by kernel_rfl) (Exm.drew _) ?_
        obtain ⟨w55, hwd⟩ : ∃ x, x = wl54.drew := ⟨_, rfl⟩
        have l56 : Ext wl54 w55 := by rw [hwd]; exact Exm.drew _
        rw [← hwd]; clear hwd
        have Lq : Exm [b] wl54 w55 := l56.up; have qB6 := B6; have z_l56 := l56.size; have L := L.tr l56.up; have hcu := hcu.ext l56; have B1 := B1.ext l56; have B6 := B6.ext l56; have o13 := o13.ext l56
        refine p0 rfl (x_fieldAddr fa71_1 rfl) ?_
        refine ps rfl (fun wq hwq => x_loadB sc24 rfl (qB6.ne hwq (by omega)) rfl) ?_
        refine p0 rfl (x_move (v := .pointer _) rfl) (p0 rfl (xmI rfl) (p0 rfl (xmI rfl) (p0 rfl (x_mule (N : Int) rfl rfl hNi (by omega)) (p0 rfl (x_sub rfl rfl (by omega)) (p0 rfl (x_move (v := .pointer _) rfl) (p0 rfl (xmI rfl) (p0 rfl (xmI rfl) (p0 rfl (x_mule (N : Int) rfl rfl hNi (by omega)) (p0 rfl (x_move (v := .pointer _) rfl) (p0 rfl (x_move (v := .pointer _) rfl) (pu rfl ?_)))))))))))
        refine spm (zcall cl63 rfl) (s_below b _ _ _ hcu) ?_
        rintro v73 w57 l58 ⟨⟨x73, rfl, hx73⟩, hcu⟩
        have z_l58 := l58.size; have L := L.within l58 (by simp)
        have Lq := Lq.within l58 (by simp)
        have B1 := B1.ne l58 (by omega); have B6 := B6.ne l58 (by omega); have o13 := o13.ne l58 (by first|assumption|exact nin_of f13 g13 (by omega))
        refine c_end ⟨rfl, fun h hS => Lq, ?_⟩
        refine pu rfl ?_
        refine s_bsi (xs := [_, _, _, _, _, _]) so24 zr3 (pts_cons rfl (pts_cons rfl (pts_cons rfl (pts_cons rfl (pts_cons rfl (pts_cons rfl pts_nil)))))) rfl rfl rfl ?_
        intro p74 F74 w59 l60 o74 f74 g74
        have z_l60 := l60.size; have L := L.tr l60.up; have Lq := Lq.tr l60.up; have hcu := hcu.ext l60; have B1 := B1.ext l60; have B6 := B6.ext l60; have o13 := o13.ext l60; have hn74 := o74.n1
        refine c_end ⟨rfl, fun h hS => Lq, ?_⟩
        refine pu rfl ?_
        refine spm (zcall cl129 rfl) (s_pick b _ _ _ _ _ _ hcu _ o74 (by first|assumption|exact nin_of f74 g74 (by omega)) (by omega)) ?_
        rintro v75 w61 l62 ⟨⟨x75, rfl, hx75⟩, hcu⟩
        have z_l62 := l62.size; have L := L.within l62 (by simp)
        have Lq := Lq.within l62 (by simp)
        have B1 := B1.ne l62 (by omega); have B6 := B6.ne l62 (by omega); have o13 := o13.ne l62 (by first|assumption|exact nin_of f13 g13 (by omega))
        have o74 := o74.ne l62 (by first|assumption|exact nin_of f74 g74 (by omega))
        have hr75 : 0 ≤ x75 ∧ x75 < N := by have h6 := pick6 hx75; omega
        refine c_end ⟨rfl, fun h hS => Lq, ?_⟩
        refine pu rfl ?_
        refine spm (zcall cl63 rfl) (s_below b _ _ _ hcu) ?_
        rintro v78 w63 l64 ⟨⟨x78, rfl, hx78⟩, hcu⟩
        have z_l64 := l64.size; have L := L.within l64 (by simp)
        have Lq := Lq.within l64 (by simp)
        have B1 := B1.ne l64 (by omega); have B6 := B6.ne l64 (by omega); have o13 := o13.ne l64 (by first|assumption|exact nin_of f13 g13 (by omega))
        have o74 := o74.ne l64 (by first|assumption|exact nin_of f74 g74 (by omega))
        refine c_end ⟨rfl, fun h hS => Lq, ?_⟩
        refine p0 rfl (x_sub rfl rfl (by omega)) (pu rfl ?_)
        refine s_bsi (xs := [_, _, _, _, _, _]) so24 zr3 (pts_cons rfl (pts_cons rfl (pts_cons rfl (pts_cons rfl (pts_cons rfl (pts_cons rfl pts_nil)))))) rfl rfl rfl ?_
        intro p80 F80 w65 l66 o80 f80 g80
        have z_l66 := l66.size; have L := L.tr l66.up; have Lq := Lq.tr l66.up; have hcu := hcu.ext l66; have B1 := B1.ext l66; have B6 := B6.ext l66; have o13 := o13.ext l66; have o74 := o74.ext l66; have hn80 := o80.n1
        refine c_end ⟨rfl, fun h hS => Lq, ?_⟩
        refine pu rfl ?_
        refine spm (zcall cl129 rfl) (s_pick b _ _ _ _ _ _ hcu _ o80 (by first|assumption|exact nin_of f80 g80 (by omega)) (by omega)) ?_
        rintro v81 w67 l68 ⟨⟨x81, rfl, hx81⟩, hcu⟩
        have z_l68 := l68.size; have L := L.within l68 (by simp)
        have Lq := Lq.within l68 (by simp)
        have B1 := B1.ne l68 (by omega); have B6 := B6.ne l68 (by omega); have o13 := o13.ne l68 (by first|assumption|exact nin_of f13 g13 (by omega))
        have o74 := o74.ne l68 (by first|assumption|exact nin_of f74 g74 (by omega))
        have o80 := o80.ne l68 (by first|assumption|exact nin_of f80 g80 (by omega))
        refine c_end ⟨rfl, fun h hS => Lq, ?_⟩
        refine p0 rfl (x_idx so24 rfl rfl o13.sl (by decide) (by omega) (by omega)) (pu rfl (s_stoi rfl sz3 rfl rfl o13 (by omega) (by omega) ?_))
        intro w69 l70 el70 o13
        have z_l70 := l70.size; have L := L.freshL l70 f13 (by omega); have hcu := hcu.exm l70 (by first|assumption|exact nin_of f13 g13 (by omega)) (f13.mono (by omega))
        have B1 := B1.exm l70 (by first|assumption|exact nin_of f13 g13 (by omega))
        have B6 := B6.exm l70 (by first|assumption|exact nin_of f13 g13 (by omega))
        have o74 := o74.exm l70 (by first|assumption|exact Dj.symm (by assumption)|exact dj_of f13 g13 f74 g74 (by omega))
        have o80 := o80.exm l70 (by first|assumption|exact Dj.symm (by assumption)|exact dj_of f13 g13 f80 g80 (by omega))
        have hnl70 := o13.n1
        refine c_end ⟨rfl, fun h hS => absurd h (by decide), ?_⟩
        refine p_nil (np_normal ?_)
        refine n_block (n_then (c_reg (s0 (xmI rfl) (s0 (x_sub rfl rfl (by omega)) (s0 (xaI rfl) (c_end ?_))))))
        exact c_round (g' := (h.1 - 1, h.2.1, h.2.2.set x75.toNat x81)) (by show (h.1 - 1).toNat < h.1.toNat; omega) ⟨_, upd_self5 rfl rfl rfl rfl rfl, L, (by omega), hcu, B1, B6, o13, (by show h.1 - 1 ≤ 5; omega), (by show (h.2.2.set _ _).length = N; rw [List.length_set]; exact hlen)⟩
       ·refine c_end (n_then (c_false rfl ?_))
        refine wp_exit (e_then (e_then (e_here ?_)))
        refine n_then (wp_seq (c_reg (st (x_loadAgB ag71 rfl B6 rfl) (s_storeAg rfl sz71 rfl rfl B1 rfl rfl rfl ?_))))
        intro w71 l72 el72 B1
        have z_l72 := l72.size; have L := L.fresh l72 (by omega); have hcu := hcu.ne l72 (by omega); have B6 := B6.ne l72 (by omega); have o13 := o13.ne l72 (by first|assumption|exact nin_of f13 g13 (by omega))
        refine c_end (n_then (wp_ret (f_retc rfl rfl ag71 B1 rfl ?_)))
        exact ⟨_, rfl, L, ⟨h.2.1, p13, N, F13, h.2.2, (by rw [hlen]), (by rw [hlen]; exact o13), f13.mono (by omega), (by rw [hlen, hNi])⟩, hcu⟩
    ·refine s0 (x_move (v := .bool _) rfl) (gf rfl rfl rfl rfl (gf rfl rfl rfl rfl (gf rfl rfl rfl rfl (s0 (x_pickf (v := .bool _) rfl rfl) (c_end (n_then (c_false rfl ?_)))))))
     refine wp_exit (e_then (e_then (e_here ?_)))
     refine n_then (wp_seq (wp_seq (c_reg (s0 (xmS rfl) (s0 (x_fieldAddr fa71_0 rfl) (st (x_loadB sc3 rfl B6 rfl) ?_))))))
     refine sp (zcall cl132 rfl) (s_symBits _ _ _ _ _ (hp.ne L hF).sl (by omega)) ?_
     rintro v52 w73 l74 ⟨p52, c52, F52, rfl, o52, f52⟩
     have z_l74 := l74.size; have L := L.tr l74.up; have hcu := hcu.ext l74; have B1 := B1.ext l74; have B6 := B6.ext l74; have o13 := o13.ext l74; have o37 := o37.ext l74; have g52 := o52.lt
     refine s0 (x_lensl un24 rfl) ?_
     refine sb (x_eql rfl rfl) (fun h54 => ?_) (fun h54 => ?_)
     ·refine c_end (n_then (c_true rfl (c_reg (s0 (x_fieldAddr fa71_0 rfl) ?_))))
      refine s_store (v := .int _ _) (cs' := [_, _]) rfl sz3 rfl rfl rfl rfl B6 rfl rfl ?_
      intro w75 l76 el76 B6
      have z_l76 := l76.size; have L := L.fresh l76 (by omega); have hcu := hcu.ne l76 (by omega); have B1 := B1.ne l76 (by omega); have o13 := o13.ne l76 (by first|assumption|exact nin_of f13 g13 (by omega))
      have o37 := o37.ne l76 (by first|assumption|exact nin_of f37 g37 (by omega))
      have o52 := o52.ne l76 (by first|assumption|exact nin_of f52 g52 (by omega))
      refine c_end (n_then (wp_seq (wp_seq (c_reg (s0 (x_move (v := .pointer _) rfl) ?_)))))
      refine spm (zcall cl63 rfl) (s_below b _ _ _ hcu) ?_
      rintro v57 w77 l78 ⟨⟨x57, rfl, hx57⟩, hcu⟩
      have z_l78 := l78.size; have L := L.within l78 (by simp)
      have B1 := B1.ne l78 (by omega); have B6 := B6.ne l78 (by omega); have o13 := o13.ne l78 (by first|assumption|exact nin_of f13 g13 (by omega))
      have o37 := o37.ne l78 (by first|assumption|exact nin_of f37 g37 (by omega))
      have o52 := o52.ne l78 (by first|assumption|exact nin_of f52 g52 (by omega))
      refine s0 (xaI rfl) (c_end (n_then (wp_block ?_)))
      refine c_loop (γ := Int × Int × List Int) (fun h => h.1.toNat) (fun (h : Int × Int × List Int) E wl => ∃ E0, E = upd (upd (upd (upd (upd E0 0 (pt b 0)) 2 (.int .i64 n)) 6 (pt b1 0)) 7 (pt b6 0)) 9 (.int .i64 h.1) ∧ (Exm [b] w wl) ∧ (w77.heap.size ≤ wl.heap.size) ∧ (Cu wl b B 104) ∧ (Bx wl b1 [.int .i64 0, .slice none 0 0] 71) ∧ (Bx wl b6 [.int .i64 h.2.1, .slice p13 N N] 71) ∧ (Own wl p13 N N 3 1 (ic h.2.2) F13) ∧ (h.1 ≤ 5) ∧ (h.2.2.length = N)) (x57, _, List.replicate N 0) ⟨_, upd_self5 rfl rfl rfl rfl rfl, L, (by omega), hcu, B1, B6, o13, (by show x57 ≤ 5; omega), (by show (List.replicate N (0 : Int)).length = N; simp)⟩ ?_
      rintro h E wl79 ⟨E0, rfl, L, Lz, hcu, B1, B6, o13, hh, hlen⟩
      have Lz0 := L.size
      refine wp_seq (wp_seq (c_reg (s0 (xmI rfl) ?_)))
      refine sb (x_gtr rfl rfl) (fun h59 => ?_) (fun h59 => ?_)
      ·refine c_end (n_then (c_true rfl (c_skipn (n_then (wp_seq (wp_block ?_))))))
       refine c_plan (fun wq => Exm [b] wl79 wq) 21 (.cons (0, 2) (.cons (1, 1) (.cons (2, 2) (.cons (3, 2) (.cons (4, 2) (.cons (5, 2) (.cons (6, 2) (.cons (7, 2) (.cons (8, 2) (.cons (9, 2) (.cons (10, 2) (.cons (14, 2) (.cons (15, 2) (.cons (11, 0) (.cons (12, 0) (.cons (13, 0) (.cons (16, 0) (.cons (17, 2) (.cons (18, 0) (.cons (19, 0) (.cons (20, 2) (.cons (21, 0) .nil)))))))))))))))))))))) (by kernel_rfl) (by kernel_rfl) (Exm.drew _) ?_
       obtain ⟨w80, hwd⟩ : ∃ x, x = wl79.drew := ⟨_, rfl⟩
       have l81 : Ext wl79 w80 := by rw [hwd]; exact Exm.drew _
       rw [← hwd]; clear hwd
       have Lq : Exm [b] wl79 w80 := l81.up; have qB6 := B6; have z_l81 := l81.size; have L := L.tr l81.up; have hcu := hcu.ext l81; have B1 := B1.ext l81; have B6 := B6.ext l81; have o13 := o13.ext l81
       refine p0 rfl (x_fieldAddr fa71_1 rfl) ?_
       refine ps rfl (fun wq hwq => x_loadB sc24 rfl (qB6.ne hwq (by omega)) rfl) ?_
       refine p0 rfl (x_move (v := .pointer _) rfl) (p0 rfl (xmI rfl) (p0 rfl (xmI rfl) (p0 rfl (x_mule (N : Int) rfl rfl hNi (by omega)) (p0 rfl (x_sub rfl rfl (by omega)) (p0 rfl (x_move (v := .pointer _) rfl) (p0 rfl (xmI rfl) (p0 rfl (xmI rfl) (p0 rfl (x_mule (N : Int) rfl rfl hNi (by omega)) (p0 rfl (x_move (v := .pointer _) rfl) (p0 rfl (x_move (v := .pointer _) rfl) (pu rfl ?_)))))))))))
       refine spm (zcall cl63 rfl) (s_below b _ _ _ hcu) ?_
       rintro v73 w82 l83 ⟨⟨x73, rfl, hx73⟩, hcu⟩
       have z_l83 := l83.size; have L := L.within l83 (by simp)
       have Lq := Lq.within l83 (by simp)
       have B1 := B1.ne l83 (by omega); have B6 := B6.ne l83 (by omega); have o13 := o13.ne l83 (by first|assumption|exact nin_of f13 g13 (by omega))
       refine c_end ⟨rfl, fun h hS => Lq, ?_⟩
       refine pu rfl ?_
       refine s_bsi (xs := [_, _, _, _, _, _]) so24 zr3 (pts_cons rfl (pts_cons rfl (pts_cons rfl (pts_cons rfl (pts_cons rfl (pts_cons rfl pts_nil)))))) rfl rfl rfl ?_
       intro p74 F74 w84 l85 o74 f74 g74
       have z_l85 := l85.size; have L := L.tr l85.up; have Lq := Lq.tr l85.up; have hcu := hcu.ext l85; have B1 := B1.ext l85; have B6 := B6.ext l85; have o13 := o13.ext l85; have hn74 := o74.n1
       refine c_end ⟨rfl, fun h hS => Lq, ?_⟩
       refine pu rfl ?_
       refine spm (zcall cl129 rfl) (s_pick b _ _ _ _ _ _ hcu _ o74 (by first|assumption|exact nin_of f74 g74 (by omega)) (by omega)) ?_
       rintro v75 w86 l87 ⟨⟨x75, rfl, hx75⟩, hcu⟩
       have z_l87 := l87.size; have L := L.within l87 (by simp)
       have Lq := Lq.within l87 (by simp)
       have B1 := B1.ne l87 (by omega); have B6 := B6.ne l87 (by omega); have o13 := o13.ne l87 (by first|assumption|exact nin_of f13 g13 (by omega))
       have o74 := o74.ne l87 (by first|assumption|exact nin_of f74 g74 (by omega))
       have hr75 : 0 ≤ x75 ∧ x75 < N := by have h6 := pick6 hx75; omega
       refine c_end ⟨rfl, fun h hS => Lq, ?_⟩
       refine pu rfl ?_
       refine spm (zcall cl63 rfl) (s_below b _ _ _ hcu) ?_
       rintro v78 w88 l89 ⟨⟨x78, rfl, hx78⟩, hcu⟩
       have z_l89 := l89.size; have L := L.within l89 (by simp)
       have Lq := Lq.within l89 (by simp)
       have B1 := B1.ne l89 (by omega); have B6 := B6.ne l89 (by omega); have o13 := o13.ne l89 (by first|assumption|exact nin_of f13 g13 (by omega))
       have o74 := o74.ne l89 (by first|assumption|exact nin_of f74 g74 (by omega))
       refine c_end ⟨rfl, fun h hS => Lq, ?_⟩
       refine p0 rfl (x_sub rfl rfl (by omega)) (pu rfl ?_)
       refine s_bsi (xs := [_, _, _, _, _, _]) so24 zr3 (pts_cons rfl (pts_cons rfl (pts_cons rfl (pts_cons rfl (pts_cons rfl (pts_cons rfl pts_nil)))))) rfl rfl rfl ?_
       intro p80 F80 w90 l91 o80 f80 g80
       have z_l91 := l91.size; have L := L.tr l91.up; have Lq := Lq.tr l91.up; have hcu := hcu.ext l91; have B1 := B1.ext l91; have B6 := B6.ext l91; have o13 := o13.ext l91; have o74 := o74.ext l91; have hn80 := o80.n1
       refine c_end ⟨rfl, fun h hS => Lq, ?_⟩
       refine pu rfl ?_
       refine spm (zcall cl129 rfl) (s_pick b _ _ _ _ _ _ hcu _ o80 (by first|assumption|exact nin_of f80 g80 (by omega)) (by omega)) ?_
       rintro v81 w92 l93 ⟨⟨x81, rfl, hx81⟩, hcu⟩
       have z_l93 := l93.size; have L := L.within l93 (by simp)
       have Lq := Lq.within l93 (by simp)
       have B1 := B1.ne l93 (by omega); have B6 := B6.ne l93 (by omega); have o13 := o13.ne l93 (by first|assumption|exact nin_of f13 g13 (by omega))
       have o74 := o74.ne l93 (by first|assumption|exact nin_of f74 g74 (by omega))
       have o80 := o80.ne l93 (by first|assumption|exact nin_of f80 g80 (by omega))
       refine c_end ⟨rfl, fun h hS => Lq, ?_⟩
       refine p0 rfl (x_idx so24 rfl rfl o13.sl (by decide) (by omega) (by omega)) (pu rfl (s_stoi rfl sz3 rfl rfl o13 (by omega) (by omega) ?_))
       intro w94 l95 el95 o13
       have z_l95 := l95.size; have L := L.freshL l95 f13 (by omega); have hcu := hcu.exm l95 (by first|assumption|exact nin_of f13 g13 (by omega)) (f13.mono (by omega))
       have B1 := B1.exm l95 (by first|assumption|exact nin_of f13 g13 (by omega))
       have B6 := B6.exm l95 (by first|assumption|exact nin_of f13 g13 (by omega))
       have o74 := o74.exm l95 (by first|assumption|exact Dj.symm (by assumption)|exact dj_of f13 g13 f74 g74 (by omega))
       have o80 := o80.exm l95 (by first|assumption|exact Dj.symm (by assumption)|exact dj_of f13 g13 f80 g80 (by omega))
       have hnl95 := o13.n1
       refine c_end ⟨rfl, fun h hS => absurd h (by decide), ?_⟩
       refine p_nil (np_normal ?_)
       refine n_block (n_then (c_reg (s0 (xmI rfl) (s0 (x_sub rfl rfl (by omega)) (s0 (xaI rfl) (c_end ?_))))))
       exact c_round (g' := (h.1 - 1, h.2.1, h.2.2.set x75.toNat x81)) (by show (h.1 - 1).toNat < h.1.toNat; omega) ⟨_, upd_self5 rfl rfl rfl rfl rfl, L, (by omega), hcu, B1, B6, o13, (by show h.1 - 1 ≤ 5; omega), (by show (h.2.2.set _ _).length = N; rw [List.length_set]; exact hlen)⟩
      ·refine c_end (n_then (c_false rfl ?_))
       refine wp_exit (e_then (e_then (e_here ?_)))
       refine n_then (wp_seq (c_reg (st (x_loadAgB ag71 rfl B6 rfl) (s_storeAg rfl sz71 rfl rfl B1 rfl rfl rfl ?_))))
       intro w96 l97 el97 B1
       have z_l97 := l97.size; have L := L.fresh l97 (by omega); have hcu := hcu.ne l97 (by omega); have B6 := B6.ne l97 (by omega); have o13 := o13.ne l97 (by first|assumption|exact nin_of f13 g13 (by omega))
       refine c_end (n_then (wp_ret (f_retc rfl rfl ag71 B1 rfl ?_)))
       exact ⟨_, rfl, L, ⟨h.2.1, p13, N, F13, h.2.2, (by rw [hlen]), (by rw [hlen]; exact o13), f13.mono (by omega), (by rw [hlen, hNi])⟩, hcu⟩
     ·refine c_end (n_then (c_false rfl (c_skipn (n_then (wp_seq (wp_seq (c_reg (s0 (x_move (v := .pointer _) rfl) ?_))))))))
      refine spm (zcall cl63 rfl) (s_below b _ _ _ hcu) ?_
      rintro v57 w98 l99 ⟨⟨x57, rfl, hx57⟩, hcu⟩
      have z_l99 := l99.size; have L := L.within l99 (by simp)
      have B1 := B1.ne l99 (by omega); have B6 := B6.ne l99 (by omega); have o13 := o13.ne l99 (by first|assumption|exact nin_of f13 g13 (by omega))
      have o37 := o37.ne l99 (by first|assumption|exact nin_of f37 g37 (by omega))
      have o52 := o52.ne l99 (by first|assumption|exact nin_of f52 g52 (by omega))
      refine s0 (xaI rfl) (c_end (n_then (wp_block ?_)))
      refine c_loop (γ := Int × Int × List Int) (fun h => h.1.toNat) (fun (h : Int × Int × List Int) E wl => ∃ E0, E = upd (upd (upd (upd (upd E0 0 (pt b 0)) 2 (.int .i64 n)) 6 (pt b1 0)) 7 (pt b6 0)) 9 (.int .i64 h.1) ∧ (Exm [b] w wl) ∧ (w98.heap.size ≤ wl.heap.size) ∧ (Cu wl b B 104) ∧ (Bx wl b1 [.int .i64 0, .slice none 0 0] 71) ∧ (Bx wl b6 [.int .i64 h.2.1, .slice p13 N N] 71) ∧ (Own wl p13 N N 3 1 (ic h.2.2) F13) ∧ (h.1 ≤ 5) ∧ (h.2.2.length = N)) (x57, _, List.replicate N 0) ⟨_, upd_self5 rfl rfl rfl rfl rfl, L, (by omega), hcu, B1, B6, o13, (by show x57 ≤ 5; omega), (by show (List.replicate N (0 : Int)).length = N; simp)⟩ ?_
      rintro h E wl100 ⟨E0, rfl, L, Lz, hcu, B1, B6, o13, hh, hlen⟩
      have Lz0 := L.size
      refine wp_seq (wp_seq (c_reg (s0 (xmI rfl) ?_)))
      refine sb (x_gtr rfl rfl) (fun h59 => ?_) (fun h59 => ?_)
      ·refine c_end (n_then (c_true rfl (c_skipn (n_then (wp_seq (wp_block ?_))))))
       refine c_plan (fun wq => Exm [b] wl100 wq) 21 (.cons (0, 2) (.cons (1, 1) (.cons (2, 2) (.cons (3, 2) (.cons (4, 2) (.cons (5, 2) (.cons (6, 2) (.cons (7, 2) (.cons (8, 2) (.cons (9, 2) (.cons (10, 2) (.cons (14, 2) (.cons (15, 2) (.cons (11, 0) (.cons (12, 0) (.cons (13, 0) (.cons (16, 0) (.cons (17, 2) (.cons (18, 0) (.cons (19, 0) (.cons (20, 2) (.cons (21, 0) .nil)))))))))))))))))))))) (by kernel_rfl) (by kernel_rfl) (Exm.drew _) ?_
       obtain ⟨w101, hwd⟩ : ∃ x, x = wl100.drew := ⟨_, rfl⟩
       have l102 : Ext wl100 w101 := by rw [hwd]; exact Exm.drew _
       rw [← hwd]; clear hwd
       have Lq : Exm [b] wl100 w101 := l102.up; have qB6 := B6; have z_l102 := l102.size; have L := L.tr l102.up; have hcu := hcu.ext l102; have B1 := B1.ext l102; have B6 := B6.ext l102; have o13 := o13.ext l102
       refine p0 rfl (x_fieldAddr fa71_1 rfl) ?_
       refine ps rfl (fun wq hwq => x_loadB sc24 rfl (qB6.ne hwq (by omega)) rfl) ?_
       refine p0 rfl (x_move (v := .pointer _) rfl) (p0 rfl (xmI rfl) (p0 rfl (xmI rfl) (p0 rfl (x_mule (N : Int) rfl rfl hNi (by omega)) (p0 rfl (x_sub rfl rfl (by omega)) (p0 rfl (x_move (v := .pointer _) rfl) (p0 rfl (xmI rfl) (p0 rfl (xmI rfl) (p0 rfl (x_mule (N : Int) rfl rfl hNi (by omega)) (p0 rfl (x_move (v := .pointer _) rfl) (p0 rfl (x_move (v := .pointer _) rfl) (pu rfl ?_)))))))))))
       refine spm (zcall cl63 rfl) (s_below b _ _ _ hcu) ?_
       rintro v73 w103 l104 ⟨⟨x73, rfl, hx73⟩, hcu⟩
       have z_l104 := l104.size; have L := L.within l104 (by simp)
       have Lq := Lq.within l104 (by simp)
       have B1 := B1.ne l104 (by omega); have B6 := B6.ne l104 (by omega); have o13 := o13.ne l104 (by first|assumption|exact nin_of f13 g13 (by omega))
       refine c_end ⟨rfl, fun h hS => Lq, ?_⟩
       refine pu rfl ?_
       refine s_bsi (xs := [_, _, _, _, _, _]) so24 zr3 (pts_cons rfl (pts_cons rfl (pts_cons rfl (pts_cons rfl (pts_cons rfl (pts_cons rfl pts_nil)))))) rfl rfl rfl ?_
       intro p74 F74 w105 l106 o74 f74 g74
       have z_l106 := l106.size; have L := L.tr l106.up; have Lq := Lq.tr l106.up; have hcu := hcu.ext l106; have B1 := B1.ext l106; have B6 := B6.ext l106; have o13 := o13.ext l106; have hn74 := o74.n1
       refine c_end ⟨rfl, fun h hS => Lq, ?_⟩
       refine pu rfl ?_
       refine spm (zcall cl129 rfl) (s_pick b _ _ _ _ _ _ hcu _ o74 (by first|assumption|exact nin_of f74 g74 (by omega)) (by omega)) ?_
       rintro v75 w107 l108 ⟨⟨x75, rfl, hx75⟩, hcu⟩
       have z_l108 := l108.size; have L := L.within l108 (by simp)
       have Lq := Lq.within l108 (by simp)
       have B1 := B1.ne l108 (by omega); have B6 := B6.ne l108 (by omega); have o13 := o13.ne l108 (by first|assumption|exact nin_of f13 g13 (by omega))
       have o74 := o74.ne l108 (by first|assumption|exact nin_of f74 g74 (by omega))
       have hr75 : 0 ≤ x75 ∧ x75 < N := by have h6 := pick6 hx75; omega
       refine c_end ⟨rfl, fun h hS => Lq, ?_⟩
       refine pu rfl ?_
       refine spm (zcall cl63 rfl) (s_below b _ _ _ hcu) ?_
       rintro v78 w109 l110 ⟨⟨x78, rfl, hx78⟩, hcu⟩
       have z_l110 := l110.size; have L := L.within l110 (by simp)
       have Lq := Lq.within l110 (by simp)
       have B1 := B1.ne l110 (by omega); have B6 := B6.ne l110 (by omega); have o13 := o13.ne l110 (by first|assumption|exact nin_of f13 g13 (by omega))
       have o74 := o74.ne l110 (by first|assumption|exact nin_of f74 g74 (by omega))
       refine c_end ⟨rfl, fun h hS => Lq, ?_⟩
       refine p0 rfl (x_sub rfl rfl (by omega)) (pu rfl ?_)
       refine s_bsi (xs := [_, _, _, _, _, _]) so24 zr3 (pts_cons rfl (pts_cons rfl (pts_cons rfl (pts_cons rfl (pts_cons rfl (pts_cons rfl pts_nil)))))) rfl rfl rfl ?_
       intro p80 F80 w111 l112 o80 f80 g80
       have z_l112 := l112.size; have L := L.tr l112.up; have Lq := Lq.tr l112.up; have hcu := hcu.ext l112; have B1 := B1.ext l112; have B6 := B6.ext l112; have o13 := o13.ext l112; have o74 := o74.ext l112; have hn80 := o80.n1
       refine c_end ⟨rfl, fun h hS => Lq, ?_⟩
       refine pu rfl ?_
       refine spm (zcall cl129 rfl) (s_pick b _ _ _ _ _ _ hcu _ o80 (by first|assumption|exact nin_of f80 g80 (by omega)) (by omega)) ?_
       rintro v81 w113 l114 ⟨⟨x81, rfl, hx81⟩, hcu⟩
       have z_l114 := l114.size; have L := L.within l114 (by simp)
       have Lq := Lq.within l114 (by simp)
       have B1 := B1.ne l114 (by omega); have B6 := B6.ne l114 (by omega); have o13 := o13.ne l114 (by first|assumption|exact nin_of f13 g13 (by omega))
       have o74 := o74.ne l114 (by first|assumption|exact nin_of f74 g74 (by omega))
       have o80 := o80.ne l114 (by first|assumption|exact nin_of f80 g80 (by omega))
       refine c_end ⟨rfl, fun h hS => Lq, ?_⟩
       refine p0 rfl (x_idx so24 rfl rfl o13.sl (by decide) (by omega) (by omega)) (pu rfl (s_stoi rfl sz3 rfl rfl o13 (by omega) (by omega) ?_))
       intro w115 l116 el116 o13
       have z_l116 := l116.size; have L := L.freshL l116 f13 (by omega); have hcu := hcu.exm l116 (by first|assumption|exact nin_of f13 g13 (by omega)) (f13.mono (by omega))
       have B1 := B1.exm l116 (by first|assumption|exact nin_of f13 g13 (by omega))
       have B6 := B6.exm l116 (by first|assumption|exact nin_of f13 g13 (by omega))
       have o74 := o74.exm l116 (by first|assumption|exact Dj.symm (by assumption)|exact dj_of f13 g13 f74 g74 (by omega))
       have o80 := o80.exm l116 (by first|assumption|exact Dj.symm (by assumption)|exact dj_of f13 g13 f80 g80 (by omega))
       have hnl116 := o13.n1
       refine c_end ⟨rfl, fun h hS => absurd h (by decide), ?_⟩
       refine p_nil (np_normal ?_)
       refine n_block (n_then (c_reg (s0 (xmI rfl) (s0 (x_sub rfl rfl (by omega)) (s0 (xaI rfl) (c_end ?_))))))
       exact c_round (g' := (h.1 - 1, h.2.1, h.2.2.set x75.toNat x81)) (by show (h.1 - 1).toNat < h.1.toNat; omega) ⟨_, upd_self5 rfl rfl rfl rfl rfl, L, (by omega), hcu, B1, B6, o13, (by show h.1 - 1 ≤ 5; omega), (by show (h.2.2.set _ _).length = N; rw [List.length_set]; exact hlen)⟩
      ·refine c_end (n_then (c_false rfl ?_))
       refine wp_exit (e_then (e_then (e_here ?_)))
       refine n_then (wp_seq (c_reg (st (x_loadAgB ag71 rfl B6 rfl) (s_storeAg rfl sz71 rfl rfl B1 rfl rfl rfl ?_))))
       intro w117 l118 el118 B1
       have z_l118 := l118.size; have L := L.fresh l118 (by omega); have hcu := hcu.ne l118 (by omega); have B6 := B6.ne l118 (by omega); have o13 := o13.ne l118 (by first|assumption|exact nin_of f13 g13 (by omega))
       refine c_end (n_then (wp_ret (f_retc rfl rfl ag71 B1 rfl ?_)))
       exact ⟨_, rfl, L, ⟨h.2.1, p13, N, F13, h.2.2, (by rw [hlen]), (by rw [hlen]; exact o13), f13.mono (by omega), (by rw [hlen, hNi])⟩, hcu⟩
 ·refine s0 (x_move (v := .bool _) rfl) (gf rfl rfl rfl rfl (gf rfl rfl rfl rfl (gf rfl rfl rfl rfl (gu rfl rfl rfl (gu rfl rfl rfl (gu rfl rfl rfl (gu rfl rfl rfl (gu rfl rfl rfl (gu rfl rfl rfl (gf rfl rfl rfl rfl (s0 (x_pickf (v := .bool _) rfl rfl) (c_end (n_then ?_)))))))))))))
  refine c_false rfl ?_
  refine wp_exit (e_then (e_then (e_here ?_)))
  refine n_then (wp_seq (wp_block ?_))
  refine c_loop (γ := Int) (fun md => (6 - md).toNat) (fun (md : Int) E wl => ∃ E0, E = upd (upd (upd (upd (upd E0 0 (pt b 0)) 1 (.slice p xs.length c)) 2 (.int .i64 n)) 6 (pt b1 0)) 7 (pt b6 0) ∧ (Exm [b] w wl) ∧ (wl11.heap.size ≤ wl.heap.size) ∧ (Cu wl b B 104) ∧ (Bx wl b1 [.int .i64 0, .slice none 0 0] 71) ∧ (Bx wl b6 [.int .i64 md, .slice p13 N N] 71) ∧ (Own wl p13 N N 3 1 (ic (List.replicate N 0)) F13) ∧ (0 ≤ md ∧ md ≤ 6)) g.2 ⟨_, upd_self5 rfl rfl rfl rfl rfl, L, (by omega), hcu, B1, B6, o13, (by omega)⟩ ?_
  rintro md E wl119 ⟨E0, rfl, L, Lz, hcu, B1, B6, o13, hmd⟩
  have Lz0 := L.size
  refine wp_seq (wp_seq (c_reg (s0 (xmS rfl) (s0 (x_fieldAddr fa71_0 rfl) (st (x_loadB sc3 rfl B6 rfl) ?_)))))
  refine sp (zcall cl132 rfl) (s_symBits _ _ _ _ _ (hp.ne L hF).sl (by omega)) ?_
  rintro v37 w120 l121 ⟨p37, c37, F37, rfl, o37, f37⟩
  have z_l121 := l121.size; have L := L.tr l121.up; have hcu := hcu.ext l121; have B1 := B1.ext l121; have B6 := B6.ext l121; have o13 := o13.ext l121; have g37 := o37.lt
  refine s0 (x_lensl un24 rfl) ?_
  refine sb (x_eql rfl rfl) (fun h39 => ?_) (fun h39 => ?_)
  ·refine s0 (x_move (v := .bool _) rfl) (gt rfl rfl rfl rfl (s0 (x_fieldAddr fa71_0 rfl) (gt rfl rfl rfl rfl (st (x_loadB sc3 rfl B6 rfl) (gt rfl rfl rfl rfl ?_)))))
   refine sb (x_lss rfl rfl) (fun h43 => ?_) (fun h43 => ?_)
   ·refine s0 (x_pickt (v := .bool _) rfl rfl) (c_end (n_then (c_true rfl (c_skipn (n_then (wp_block (c_reg (s0 (x_fieldAddr fa71_0 rfl) (st (x_loadB sc3 rfl B6 rfl) (s0 (x_add rfl rfl (by omega)) (s0 (x_fieldAddr fa71_0 rfl) ?_)))))))))))
    refine s_store (v := .int _ _) (cs' := [_, _]) rfl sz3 rfl rfl rfl rfl B6 rfl rfl ?_
    intro w122 l123 el123 B6
    have z_l123 := l123.size; have L := L.fresh l123 (by omega); have hcu := hcu.ne l123 (by omega); have B1 := B1.ne l123 (by omega); have o13 := o13.ne l123 (by first|assumption|exact nin_of f13 g13 (by omega))
    have o37 := o37.ne l123 (by first|assumption|exact nin_of f37 g37 (by omega))
    refine c_end (n_block ?_)
    exact c_round (g' := md + 1) (by omega) ⟨_, upd_self5 rfl rfl rfl rfl rfl, L, (by omega), hcu, B1, B6, o13, (by omega)⟩
   ·refine s0 (x_pickt (v := .bool _) rfl rfl) (c_end (n_then (c_false rfl ?_)))
    refine wp_exit (e_then (e_then (e_here ?_)))
    refine n_then (wp_seq (wp_seq (c_reg (s0 (xmS rfl) (s0 (x_fieldAddr fa71_0 rfl) (st (x_loadB sc3 rfl B6 rfl) ?_))))))
    refine sp (zcall cl132 rfl) (s_symBits _ _ _ _ _ (hp.ne L hF).sl (by omega)) ?_
    rintro v52 w124 l125 ⟨p52, c52, F52, rfl, o52, f52⟩
    have z_l125 := l125.size; have L := L.tr l125.up; have hcu := hcu.ext l125; have B1 := B1.ext l125; have B6 := B6.ext l125; have o13 := o13.ext l125; have o37 := o37.ext l125; have g52 := o52.lt
    refine s0 (x_lensl un24 rfl) ?_
    refine sb (x_eql rfl rfl) (fun h54 => ?_) (fun h54 => ?_)
    ·refine c_end (n_then (c_true rfl (c_reg (s0 (x_fieldAddr fa71_0 rfl) ?_))))
     refine s_store (v := .int _ _) (cs' := [_, _]) rfl sz3 rfl rfl rfl rfl B6 rfl rfl ?_
     intro w126 l127 el127 B6
     have z_l127 := l127.size; have L := L.fresh l127 (by omega); have hcu := hcu.ne l127 (by omega); have B1 := B1.ne l127 (by omega); have o13 := o13.ne l127 (by first|assumption|exact nin_of f13 g13 (by omega))
     have o37 := o37.ne l127 (by first|assumption|exact nin_of f37 g37 (by omega))
     have o52 := o52.ne l127 (by first|assumption|exact nin_of f52 g52 (by omega))
     refine c_end (n_then (wp_seq (wp_seq (c_reg (s0 (x_move (v := .pointer _) rfl) ?_)))))
     refine spm (zcall cl63 rfl) (s_below b _ _ _ hcu) ?_
     rintro v57 w128 l129 ⟨⟨x57, rfl, hx57⟩, hcu⟩
     have z_l129 := l129.size; have L := L.within l129 (by simp)
     have B1 := B1.ne l129 (by omega); have B6 := B6.ne l129 (by omega); have o13 := o13.ne l129 (by first|assumption|exact nin_of f13 g13 (by omega))
     have o37 := o37.ne l129 (by first|assumption|exact nin_of f37 g37 (by omega))
     have o52 := o52.ne l129 (by first|assumption|exact nin_of f52 g52 (by omega))
     refine s0 (xaI rfl) (c_end (n_then (wp_block ?_)))
     refine c_loop (γ := Int × Int × List Int) (fun h => h.1.toNat) (fun (h : Int × Int × List Int) E wl => ∃ E0, E = upd (upd (upd (upd (upd E0 0 (pt b 0)) 2 (.int .i64 n)) 6 (pt b1 0)) 7 (pt b6 0)) 9 (.int .i64 h.1) ∧ (Exm [b] w wl) ∧ (w128.heap.size ≤ wl.heap.size) ∧ (Cu wl b B 104) ∧ (Bx wl b1 [.int .i64 0, .slice none 0 0] 71) ∧ (Bx wl b6 [.int .i64 h.2.1, .slice p13 N N] 71) ∧ (Own wl p13 N N 3 1 (ic h.2.2) F13) ∧ (h.1 ≤ 5) ∧ (h.2.2.length = N)) (x57, _, List.replicate N 0) ⟨_, upd_self5 rfl rfl rfl rfl rfl, L, (by omega), hcu, B1, B6, o13, (by show x57 ≤ 5; omega), (by show (List.replicate N (0 : Int)).length = N; simp)⟩ ?_
     rintro h E wl130 ⟨E0, rfl, L, Lz, hcu, B1, B6, o13, hh, hlen⟩
     have Lz0 := L.size
     refine wp_seq (wp_seq (c_reg (s0 (xmI rfl) ?_)))
     refine sb (x_gtr rfl rfl) (fun h59 => ?_) (fun h59 => ?_)
     ·refine c_end (n_then (c_true rfl (c_skipn (n_then (wp_seq (wp_block ?_))))))
      refine c_plan (fun wq => Exm [b] wl130 wq) 21 (.cons (0, 2) (.cons (1, 1) (.cons (2, 2) (.cons (3, 2) (.cons (4, 2) (.cons (5, 2) (.cons (6, 2) (.cons (7, 2) (.cons (8, 2) (.cons (9, 2) (.cons (10, 2) (.cons (14, 2) (.cons (15, 2) (.cons (11, 0) (.cons (12, 0) (.cons (13, 0) (.cons (16, 0) (.cons (17, 2) (.cons (18, 0) (.cons (19, 0) (.cons (20, 2) (.cons (21, 0) .nil)))))))))))))))))))))) (by kernel_rfl) (by kernel_rfl) (Exm.drew _) ?_
      obtain ⟨w131, hwd⟩ : ∃ x, x = wl130.drew := ⟨_, rfl⟩
      have l132 : Ext wl130 w131 := by rw [hwd]; exact Exm.drew _
      rw [← hwd]; clear hwd
      have Lq : Exm [b] wl130 w131 := l132.up; have qB6 := B6; have z_l132 := l132.size; have L := L.tr l132.up; have hcu := hcu.ext l132; have B1 := B1.ext l132; have B6 := B6.ext l132; have o13 := o13.ext l132
      refine p0 rfl (x_fieldAddr fa71_1 rfl) ?_
      refine ps rfl (fun wq hwq => x_loadB sc24 rfl (qB6.ne hwq (by omega)) rfl) ?_
      refine p0 rfl (x_move (v := .pointer _) rfl) (p0 rfl (xmI rfl) (p0 rfl (xmI rfl) (p0 rfl (x_mule (N : Int) rfl rfl hNi (by omega)) (p0 rfl (x_sub rfl rfl (by omega)) (p0 rfl (x_move (v := .pointer _) rfl) (p0 rfl (xmI rfl) (p0 rfl (xmI rfl) (p0 rfl (x_mule (N : Int) rfl rfl hNi (by omega)) (p0 rfl (x_move (v := .pointer _) rfl) (p0 rfl (x_move (v := .pointer _) rfl) (pu rfl ?_)))))))))))
      refine spm (zcall cl63 rfl) (s_below b _ _ _ hcu) ?_
      rintro v73 w133 l134 ⟨⟨x73, rfl, hx73⟩, hcu⟩
      have z_l134 := l134.size; have L := L.within l134 (by simp)
      have Lq := Lq.within l134 (by simp)
      have B1 := B1.ne l134 (by omega); have B6 := B6.ne l134 (by omega); have o13 := o13.ne l134 (by first|assumption|exact nin_of f13 g13 (by omega))
      refine c_end ⟨rfl, fun h hS => Lq, ?_⟩
      refine pu rfl ?_
      refine s_bsi (xs := [_, _, _, _, _, _]) so24 zr3 (pts_cons rfl (pts_cons rfl (pts_cons rfl (pts_cons rfl (pts_cons rfl (pts_cons rfl pts_nil)))))) rfl rfl rfl ?_
      intro p74 F74 w135 l136 o74 f74 g74
      have z_l136 := l136.size; have L := L.tr l136.up; have Lq := Lq.tr l136.up; have hcu := hcu.ext l136; have B1 := B1.ext l136; have B6 := B6.ext l136; have o13 := o13.ext l136; have hn74 := o74.n1
      refine c_end ⟨rfl, fun h hS => Lq, ?_⟩
      refine pu rfl ?_
      refine spm (zcall cl129 rfl) (s_pick b _ _ _ _ _ _ hcu _ o74 (by first|assumption|exact nin_of f74 g74 (by omega)) (by omega)) ?_
      rintro v75 w137 l138 ⟨⟨x75, rfl, hx75⟩, hcu⟩
      have z_l138 := l138.size; have L := L.within l138 (by simp)
      have Lq := Lq.within l138 (by simp)
      have B1 := B1.ne l138 (by omega); have B6 := B6.ne l138 (by omega); have o13 := o13.ne l138 (by first|assumption|exact nin_of f13 g13 (by omega))
      have o74 := o74.ne l138 (by first|assumption|exact nin_of f74 g74 (by omega))
      have hr75 : 0 ≤ x75 ∧ x75 < N := by have h6 := pick6 hx75; omega
      refine c_end ⟨rfl, fun h hS => Lq, ?_⟩
      refine pu rfl ?_
      refine spm (zcall cl63 rfl) (s_below b _ _ _ hcu) ?_
      rintro v78 w139 l140 ⟨⟨x78, rfl, hx78⟩, hcu⟩
      have z_l140 := l140.size; have L := L.within l140 (by simp)
      have Lq := Lq.within l140 (by simp)
      have B1 := B1.ne l140 (by omega); have B6 := B6.ne l140 (by omega); have o13 := o13.ne l140 (by first|assumption|exact nin_of f13 g13 (by omega))
      have o74 := o74.ne l140 (by first|assumption|exact nin_of f74 g74 (by omega))
      refine c_end ⟨rfl, fun h hS => Lq, ?_⟩
      refine p0 rfl (x_sub rfl rfl (by omega)) (pu rfl ?_)
      refine s_bsi (xs := [_, _, _, _, _, _]) so24 zr3 (pts_cons rfl (pts_cons rfl (pts_cons rfl (pts_cons rfl (pts_cons rfl (pts_cons rfl pts_nil)))))) rfl rfl rfl ?_
      intro p80 F80 w141 l142 o80 f80 g80
      have z_l142 := l142.size; have L := L.tr l142.up; have Lq := Lq.tr l142.up; have hcu := hcu.ext l142; have B1 := B1.ext l142; have B6 := B6.ext l142; have o13 := o13.ext l142; have o74 := o74.ext l142; have hn80 := o80.n1
      refine c_end ⟨rfl, fun h hS => Lq, ?_⟩
      refine pu rfl ?_
      refine spm (zcall cl129 rfl) (s_pick b _ _ _ _ _ _ hcu _ o80 (by first|assumption|exact nin_of f80 g80 (by omega)) (by omega)) ?_
      rintro v81 w143 l144 ⟨⟨x81, rfl, hx81⟩, hcu⟩
      have z_l144 := l144.size; have L := L.within l144 (by simp)
      have Lq := Lq.within l144 (by simp)
      have B1 := B1.ne l144 (by omega); have B6 := B6.ne l144 (by omega); have o13 := o13.ne l144 (by first|assumption|exact nin_of f13 g13 (by omega))
      have o74 := o74.ne l144 (by first|assumption|exact nin_of f74 g74 (by omega))
      have o80 := o80.ne l144 (by first|assumption|exact nin_of f80 g80 (by omega))
      refine c_end ⟨rfl, fun h hS => Lq, ?_⟩
      refine p0 rfl (x_idx so24 rfl rfl o13.sl (by decide) (by omega) (by omega)) (pu rfl (s_stoi rfl sz3 rfl rfl o13 (by omega) (by omega) ?_))
      intro w145 l146 el146 o13
      have z_l146 := l146.size; have L := L.freshL l146 f13 (by omega); have hcu := hcu.exm l146 (by first|assumption|exact nin_of f13 g13 (by omega)) (f13.mono (by omega))
      have B1 := B1.exm l146 (by first|assumption|exact nin_of f13 g13 (by omega))
      have B6 := B6.exm l146 (by first|assumption|exact nin_of f13 g13 (by omega))
      have o74 := o74.exm l146 (by first|assumption|exact Dj.symm (by assumption)|exact dj_of f13 g13 f74 g74 (by omega))
      have o80 := o80.exm l146 (by first|assumption|exact Dj.symm (by assumption)|exact dj_of f13 g13 f80 g80 (by omega))
      have hnl146 := o13.n1
      refine c_end ⟨rfl, fun h hS => absurd h (by decide), ?_⟩
      refine p_nil (np_normal ?_)
      refine n_block (n_then (c_reg (s0 (xmI rfl) (s0 (x_sub rfl rfl (by omega)) (s0 (xaI rfl) (c_end ?_))))))
      exact c_round (g' := (h.1 - 1, h.2.1, h.2.2.set x75.toNat x81)) (by show (h.1 - 1).toNat < h.1.toNat; omega) ⟨_, upd_self5 rfl rfl rfl rfl rfl, L, (by omega), hcu, B1, B6, o13, (by show h.1 - 1 ≤ 5; omega), (by show (h.2.2.set _ _).length = N; rw [List.length_set]; exact hlen)⟩
     ·refine c_end (n_then (c_false rfl ?_))
      refine wp_exit (e_then (e_then (e_here ?_)))
      refine n_then (wp_seq (c_reg (st (x_loadAgB ag71 rfl B6 rfl) (s_storeAg rfl sz71 rfl rfl B1 rfl rfl rfl ?_))))
      intro w147 l148 el148 B1
      have z_l148 := l148.size; have L := L.fresh l148 (by omega); have hcu := hcu.ne l148 (by omega); have B6 := B6.ne l148 (by omega); have o13 := o13.ne l148 (by first|assumption|exact nin_of f13 g13 (by omega))
      refine c_end (n_then (wp_ret (f_retc rfl rfl ag71 B1 rfl ?_)))
      exact ⟨_, rfl, L, ⟨h.2.1, p13, N, F13, h.2.2, (by rw [hlen]), (by rw [hlen]; exact o13), f13.mono (by omega), (by rw [hlen, hNi])⟩, hcu⟩
    ·refine c_end (n_then (c_false rfl (c_skipn (n_then (wp_seq (wp_seq (c_reg (s0 (x_move (v := .pointer _) rfl) ?_))))))))
     refine spm (zcall cl63 rfl) (s_below b _ _ _ hcu) ?_
     rintro v57 w149 l150 ⟨⟨x57, rfl, hx57⟩, hcu⟩
     have z_l150 := l150.size; have L := L.within l150 (by simp)
     have B1 := B1.ne l150 (by omega); have B6 := B6.ne l150 (by omega); have o13 := o13.ne l150 (by first|assumption|exact nin_of f13 g13 (by omega))
     have o37 := o37.ne l150 (by first|assumption|exact nin_of f37 g37 (by omega))
     have o52 := o52.ne l150 (by first|assumption|exact nin_of f52 g52 (by omega))
     refine s0 (xaI rfl) (c_end (n_then (wp_block ?_)))
     refine c_loop (γ := Int × Int × List Int) (fun h => h.1.toNat) (fun (h : Int × Int × List Int) E wl => ∃ E0, E = upd (upd (upd (upd (upd E0 0 (pt b 0)) 2 (.int .i64 n)) 6 (pt b1 0)) 7 (pt b6 0)) 9 (.int .i64 h.1) ∧ (Exm [b] w wl) ∧ (w149.heap.size ≤ wl.heap.size) ∧ (Cu wl b B 104) ∧ (Bx wl b1 [.int .i64 0, .slice none 0 0] 71) ∧ (Bx wl b6 [.int .i64 h.2.1, .slice p13 N N] 71) ∧ (Own wl p13 N N 3 1 (ic h.2.2) F13) ∧ (h.1 ≤ 5) ∧ (h.2.2.length = N)) (x57, _, List.replicate N 0) ⟨_, upd_self5 rfl rfl rfl rfl rfl, L, (by omega), hcu, B1, B6, o13, (by show x57 ≤ 5; omega), (by show (List.replicate N (0 : Int)).length = N; simp)⟩ ?_
     rintro h E wl151 ⟨E0, rfl, L, Lz, hcu, B1, B6, o13, hh, hlen⟩
     have Lz0 := L.size
     refine wp_seq (wp_seq (c_reg (s0 (xmI rfl) ?_)))
     refine sb (x_gtr rfl rfl) (fun h59 => ?_) (fun h59 => ?_)
     ·refine c_end (n_then (c_true rfl (c_skipn (n_then (wp_seq (wp_block ?_))))))
      refine c_plan (fun wq => Exm [b] wl151 wq) 21 (.cons (0, 2) (.cons (1, 1) (.cons (2, 2) (.cons (3, 2) (.cons (4, 2) (.cons (5, 2) (.cons (6, 2) (.cons (7, 2) (.cons (8, 2) (.cons (9, 2) (.cons (10, 2) (.cons (14, 2) (.cons (15, 2) (.cons (11, 0) (.cons (12, 0) (.cons (13, 0) (.cons (16, 0) (.cons (17, 2) (.cons (18, 0) (.cons (19, 0) (.cons (20, 2) (.cons (21, 0) .nil)))))))))))))))))))))) (by kernel_rfl) (by kernel_rfl) (Exm.drew _) ?_
      obtain ⟨w152, hwd⟩ : ∃ x, x = wl151.drew := ⟨_, rfl⟩
      have l153 : Ext wl151 w152 := by rw [hwd]; exact Exm.drew _
      rw [← hwd]; clear hwd
      have Lq : Exm [b] wl151 w152 := l153.up; have qB6 := B6; have z_l153 := l153.size; have L := L.tr l153.up; have hcu := hcu.ext l153; have B1 := B1.ext l153; have B6 := B6.ext l153; have o13 := o13.ext l153
      refine p0 rfl (x_fieldAddr fa71_1 rfl) ?_
      refine ps rfl (fun wq hwq => x_loadB sc24 rfl (qB6.ne hwq (by omega)) rfl) ?_
      refine p0 rfl (x_move (v := .pointer _) rfl) (p0 rfl (xmI rfl) (p0 rfl (xmI rfl) (p0 rfl (x_mule (N : Int) rfl rfl hNi (by omega)) (p0 rfl (x_sub rfl rfl (by omega)) (p0 rfl (x_move (v := .pointer _) rfl) (p0 rfl (xmI rfl) (p0 rfl (xmI rfl) (p0 rfl (x_mule (N : Int) rfl rfl hNi (by omega)) (p0 rfl (x_move (v := .pointer _) rfl) (p0 rfl (x_move (v := .pointer _) rfl) (pu rfl ?_)))))))))))
      refine spm (zcall cl63 rfl) (s_below b _ _ _ hcu) ?_
      rintro v73 w154 l155 ⟨⟨x73, rfl, hx73⟩, hcu⟩
      have z_l155 := l155.size; have L := L.within l155 (by simp)
      have Lq := Lq.within l155 (by simp)
      have B1 := B1.ne l155 (by omega); have B6 := B6.ne l155 (by omega); have o13 := o13.ne l155 (by first|assumption|exact nin_of f13 g13 (by omega))
      refine c_end ⟨rfl, fun h hS => Lq, ?_⟩
      refine pu rfl ?_
      refine s_bsi (xs := [_, _, _, _, _, _]) so24 zr3 (pts_cons rfl (pts_cons rfl (pts_cons rfl (pts_cons rfl (pts_cons rfl (pts_cons rfl pts_nil)))))) rfl rfl rfl ?_
      intro p74 F74 w156 l157 o74 f74 g74
      have z_l157 := l157.size; have L := L.tr l157.up; have Lq := Lq.tr l157.up; have hcu := hcu.ext l157; have B1 := B1.ext l157; have B6 := B6.ext l157; have o13 := o13.ext l157; have hn74 := o74.n1
      refine c_end ⟨rfl, fun h hS => Lq, ?_⟩
      refine pu rfl ?_
      refine spm (zcall cl129 rfl) (s_pick b _ _ _ _ _ _ hcu _ o74 (by first|assumption|exact nin_of f74 g74 (by omega)) (by omega)) ?_
      rintro v75 w158 l159 ⟨⟨x75, rfl, hx75⟩, hcu⟩
      have z_l159 := l159.size; have L := L.within l159 (by simp)
      have Lq := Lq.within l159 (by simp)
      have B1 := B1.ne l159 (by omega); have B6 := B6.ne l159 (by omega); have o13 := o13.ne l159 (by first|assumption|exact nin_of f13 g13 (by omega))
      have o74 := o74.ne l159 (by first|assumption|exact nin_of f74 g74 (by omega))
      have hr75 : 0 ≤ x75 ∧ x75 < N := by have h6 := pick6 hx75; omega
      refine c_end ⟨rfl, fun h hS => Lq, ?_⟩
      refine pu rfl ?_
      refine spm (zcall cl63 rfl) (s_below b _ _ _ hcu) ?_
      rintro v78 w160 l161 ⟨⟨x78, rfl, hx78⟩, hcu⟩
      have z_l161 := l161.size; have L := L.within l161 (by simp)
      have Lq := Lq.within l161 (by simp)
      have B1 := B1.ne l161 (by omega); have B6 := B6.ne l161 (by omega); have o13 := o13.ne l161 (by first|assumption|exact nin_of f13 g13 (by omega))
      have o74 := o74.ne l161 (by first|assumption|exact nin_of f74 g74 (by omega))
      refine c_end ⟨rfl, fun h hS => Lq, ?_⟩
      refine p0 rfl (x_sub rfl rfl (by omega)) (pu rfl ?_)
      refine s_bsi (xs := [_, _, _, _, _, _]) so24 zr3 (pts_cons rfl (pts_cons rfl (pts_cons rfl (pts_cons rfl (pts_cons rfl (pts_cons rfl pts_nil)))))) rfl rfl rfl ?_
      intro p80 F80 w162 l163 o80 f80 g80
      have z_l163 := l163.size; have L := L.tr l163.up; have Lq := Lq.tr l163.up; have hcu := hcu.ext l163; have B1 := B1.ext l163; have B6 := B6.ext l163; have o13 := o13.ext l163; have o74 := o74.ext l163; have hn80 := o80.n1
      refine c_end ⟨rfl, fun h hS => Lq, ?_⟩
      refine pu rfl ?_
      refine spm (zcall cl129 rfl) (s_pick b _ _ _ _ _ _ hcu _ o80 (by first|assumption|exact nin_of f80 g80 (by omega)) (by omega)) ?_
      rintro v81 w164 l165 ⟨⟨x81, rfl, hx81⟩, hcu⟩
      have z_l165 := l165.size; have L := L.within l165 (by simp)
      have Lq := Lq.within l165 (by simp)
      have B1 := B1.ne l165 (by omega); have B6 := B6.ne l165 (by omega); have o13 := o13.ne l165 (by first|assumption|exact nin_of f13 g13 (by omega))
      have o74 := o74.ne l165 (by first|assumption|exact nin_of f74 g74 (by omega))
      have o80 := o80.ne l165 (by first|assumption|exact nin_of f80 g80 (by omega))
      refine c_end ⟨rfl, fun h hS => Lq, ?_⟩
      refine p0 rfl (x_idx so24 rfl rfl o13.sl (by decide) (by omega) (by omega)) (pu rfl (s_stoi rfl sz3 rfl rfl o13 (by omega) (by omega) ?_))
      intro w166 l167 el167 o13
      have z_l167 := l167.size; have L := L.freshL l167 f13 (by omega); have hcu := hcu.exm l167 (by first|assumption|exact nin_of f13 g13 (by omega)) (f13.mono (by omega))
      have B1 := B1.exm l167 (by first|assumption|exact nin_of f13 g13 (by omega))
      have B6 := B6.exm l167 (by first|assumption|exact nin_of f13 g13 (by omega))
      have o74 := o74.exm l167 (by first|assumption|exact Dj.symm (by assumption)|exact dj_of f13 g13 f74 g74 (by omega))
      have o80 := o80.exm l167 (by first|assumption|exact Dj.symm (by assumption)|exact dj_of f13 g13 f80 g80 (by omega))
      have hnl167 := o13.n1
      refine c_end ⟨rfl, fun h hS => absurd h (by decide), ?_⟩
      refine p_nil (np_normal ?_)
      refine n_block (n_then (c_reg (s0 (xmI rfl) (s0 (x_sub rfl rfl (by omega)) (s0 (xaI rfl) (c_end ?_))))))
      exact c_round (g' := (h.1 - 1, h.2.1, h.2.2.set x75.toNat x81)) (by show (h.1 - 1).toNat < h.1.toNat; omega) ⟨_, upd_self5 rfl rfl rfl rfl rfl, L, (by omega), hcu, B1, B6, o13, (by show h.1 - 1 ≤ 5; omega), (by show (h.2.2.set _ _).length = N; rw [List.length_set]; exact hlen)⟩
     ·refine c_end (n_then (c_false rfl ?_))
      refine wp_exit (e_then (e_then (e_here ?_)))
      refine n_then (wp_seq (c_reg (st (x_loadAgB ag71 rfl B6 rfl) (s_storeAg rfl sz71 rfl rfl B1 rfl rfl rfl ?_))))
      intro w168 l169 el169 B1
      have z_l169 := l169.size; have L := L.fresh l169 (by omega); have hcu := hcu.ne l169 (by omega); have B6 := B6.ne l169 (by omega); have o13 := o13.ne l169 (by first|assumption|exact nin_of f13 g13 (by omega))
      refine c_end (n_then (wp_ret (f_retc rfl rfl ag71 B1 rfl ?_)))
      exact ⟨_, rfl, L, ⟨h.2.1, p13, N, F13, h.2.2, (by rw [hlen]), (by rw [hlen]; exact o13), f13.mono (by omega), (by rw [hlen, hNi])⟩, hcu⟩
  ·refine s0 (x_move (v := .bool _) rfl) (gf rfl rfl rfl rfl (gf rfl rfl rfl rfl (gf rfl rfl rfl rfl (s0 (x_pickf (v := .bool _) rfl rfl) (c_end (n_then (c_false rfl ?_)))))))
   refine wp_exit (e_then (e_then (e_here ?_)))
   refine n_then (wp_seq (wp_seq (c_reg (s0 (xmS rfl) (s0 (x_fieldAddr fa71_0 rfl) (st (x_loadB sc3 rfl B6 rfl) ?_))))))
   refine sp (zcall cl132 rfl) (s_symBits _ _ _ _ _ (hp.ne L hF).sl (by omega)) ?_
   rintro v52 w170 l171 ⟨p52, c52, F52, rfl, o52, f52⟩
   have z_l171 := l171.size; have L := L.tr l171.up; have hcu := hcu.ext l171; have B1 := B1.ext l171; have B6 := B6.ext l171; have o13 := o13.ext l171; have o37 := o37.ext l171; have g52 := o52.lt
   refine s0 (x_lensl un24 rfl) ?_
   refine sb (x_eql rfl rfl) (fun h54 => ?_) (fun h54 => ?_)
   ·refine c_end (n_then (c_true rfl (c_reg (s0 (x_fieldAddr fa71_0 rfl) ?_))))
    refine s_store (v := .int _ _) (cs' := [_, _]) rfl sz3 rfl rfl rfl rfl B6 rfl rfl ?_
    intro w172 l173 el173 B6
    have z_l173 := l173.size; have L := L.fresh l173 (by omega); have hcu := hcu.ne l173 (by omega); have B1 := B1.ne l173 (by omega); have o13 := o13.ne l173 (by first|assumption|exact nin_of f13 g13 (by omega))
    have o37 := o37.ne l173 (by first|assumption|exact nin_of f37 g37 (by omega))
    have o52 := o52.ne l173 (by first|assumption|exact nin_of f52 g52 (by omega))
    refine c_end (n_then (wp_seq (wp_seq (c_reg (s0 (x_move (v := .pointer _) rfl) ?_)))))
    refine spm (zcall cl63 rfl) (s_below b _ _ _ hcu) ?_
    rintro v57 w174 l175 ⟨⟨x57, rfl, hx57⟩, hcu⟩
    have z_l175 := l175.size; have L := L.within l175 (by simp)
    have B1 := B1.ne l175 (by omega); have B6 := B6.ne l175 (by omega); have o13 := o13.ne l175 (by first|assumption|exact nin_of f13 g13 (by omega))
    have o37 := o37.ne l175 (by first|assumption|exact nin_of f37 g37 (by omega))
    have o52 := o52.ne l175 (by first|assumption|exact nin_of f52 g52 (by omega))
    refine s0 (xaI rfl) (c_end (n_then (wp_block ?_)))
    refine c_loop (γ := Int × Int × List Int) (fun h => h.1.toNat) (fun (h : Int × Int × List Int) E wl => ∃ E0, E = upd (upd (upd (upd (upd E0 0 (pt b 0)) 2 (.int .i64 n)) 6 (pt b1 0)) 7 (pt b6 0)) 9 (.int .i64 h.1) ∧ (Exm [b] w wl) ∧ (w174.heap.size ≤ wl.heap.size) ∧ (Cu wl b B 104) ∧ (Bx wl b1 [.int .i64 0, .slice none 0 0] 71) ∧ (Bx wl b6 [.int .i64 h.2.1, .slice p13 N N] 71) ∧ (Own wl p13 N N 3 1 (ic h.2.2) F13) ∧ (h.1 ≤ 5) ∧ (h.2.2.length = N)) (x57, _, List.replicate N 0) ⟨_, upd_self5 rfl rfl rfl rfl rfl, L, (by omega), hcu, B1, B6, o13, (by show x57 ≤ 5; omega), (by show (List.replicate N (0 : Int)).length = N; simp)⟩ ?_
    rintro h E wl176 ⟨E0, rfl, L, Lz, hcu, B1, B6, o13, hh, hlen⟩
    have Lz0 := L.size
    refine wp_seq (wp_seq (c_reg (s0 (xmI rfl) ?_)))
    refine sb (x_gtr rfl rfl) (fun h59 => ?_) (fun h59 => ?_)
    ·refine c_end (n_then (c_true rfl (c_skipn (n_then (wp_seq (wp_block ?_))))))
     refine c_plan (fun wq => Exm [b] wl176 wq) 21 (.cons (0, 2) (.cons (1, 1) (.cons (2, 2) (.cons (3, 2) (.cons (4, 2) (.cons (5, 2) (.cons (6, 2) (.cons (7, 2) (.cons (8, 2) (.cons (9, 2) (.cons (10, 2) (.cons (14, 2) (.cons (15, 2) (.cons (11, 0) (.cons (12, 0) (.cons (13, 0) (.cons (16, 0) (.cons (17, 2) (.cons (18, 0) (.cons (19, 0) (.cons (20, 2) (.cons (21, 0) .nil)))))))))))))))))))))) (by kernel_rfl) (by kernel_rfl) (Exm.drew _) ?_
     obtain ⟨w177, hwd⟩ : ∃ x, x = wl176.drew := ⟨_, rfl⟩
     have l178 : Ext wl176 w177 := by rw [hwd]; exact Exm.drew _
     rw [← hwd]; clear hwd
     have Lq : Exm [b] wl176 w177 := l178.up; have qB6 := B6; have z_l178 := l178.size; have L := L.tr l178.up; have hcu := hcu.ext l178; have B1 := B1.ext l178; have B6 := B6.ext l178; have o13 := o13.ext l178
     refine p0 rfl (x_fieldAddr fa71_1 rfl) ?_
     refine ps rfl (fun wq hwq => x_loadB sc24 rfl (qB6.ne hwq (by omega)) rfl) ?_
     refine p0 rfl (x_move (v := .pointer _) rfl) (p0 rfl (xmI rfl) (p0 rfl (xmI rfl) (p0 rfl (x_mule (N : Int) rfl rfl hNi (by omega)) (p0 rfl (x_sub rfl rfl (by omega)) (p0 rfl (x_move (v := .pointer _) rfl) (p0 rfl (xmI rfl) (p0 rfl (xmI rfl) (p0 rfl (x_mule (N : Int) rfl rfl hNi (by omega)) (p0 rfl (x_move (v := .pointer _) rfl) (p0 rfl (x_move (v := .pointer _) rfl) (pu rfl ?_)))))))))))
     refine spm (zcall cl63 rfl) (s_below b _ _ _ hcu) ?_
     rintro v73 w179 l180 ⟨⟨x73, rfl, hx73⟩, hcu⟩
     have z_l180 := l180.size; have L := L.within l180 (by simp)
     have Lq := Lq.within l180 (by simp)
     have B1 := B1.ne l180 (by omega); have B6 := B6.ne l180 (by omega); have o13 := o13.ne l180 (by first|assumption|exact nin_of f13 g13 (by omega))
     refine c_end ⟨rfl, fun h hS => Lq, ?_⟩
     refine pu rfl ?_
     refine s_bsi (xs := [_, _, _, _, _, _]) so24 zr3 (pts_cons rfl (pts_cons rfl (pts_cons rfl (pts_cons rfl (pts_cons rfl (pts_cons rfl pts_nil)))))) rfl rfl rfl ?_
     intro p74 F74 w181 l182 o74 f74 g74
     have z_l182 := l182.size; have L := L.tr l182.up; have Lq := Lq.tr l182.up; have hcu := hcu.ext l182; have B1 := B1.ext l182; have B6 := B6.ext l182; have o13 := o13.ext l182; have hn74 := o74.n1
     refine c_end ⟨rfl, fun h hS => Lq, ?_⟩
     refine pu rfl ?_
     refine spm (zcall cl129 rfl) (s_pick b _ _ _ _ _ _ hcu _ o74 (by first|assumption|exact nin_of f74 g74 (by omega)) (by omega)) ?_
     rintro v75 w183 l184 ⟨⟨x75, rfl, hx75⟩, hcu⟩
     have z_l184 := l184.size; have L := L.within l184 (by simp)
     have Lq := Lq.within l184 (by simp)
     have B1 := B1.ne l184 (by omega); have B6 := B6.ne l184 (by omega); have o13 := o13.ne l184 (by first|assumption|exact nin_of f13 g13 (by omega))
     have o74 := o74.ne l184 (by first|assumption|exact nin_of f74 g74 (by omega))
     have hr75 : 0 ≤ x75 ∧ x75 < N := by have h6 := pick6 hx75; omega
     refine c_end ⟨rfl, fun h hS => Lq, ?_⟩
     refine pu rfl ?_
     refine spm (zcall cl63 rfl) (s_below b _ _ _ hcu) ?_
     rintro v78 w185 l186 ⟨⟨x78, rfl, hx78⟩, hcu⟩
     have z_l186 := l186.size; have L := L.within l186 (by simp)
     have Lq := Lq.within l186 (by simp)
     have B1 := B1.ne l186 (by omega); have B6 := B6.ne l186 (by omega); have o13 := o13.ne l186 (by first|assumption|exact nin_of f13 g13 (by omega))
     have o74 := o74.ne l186 (by first|assumption|exact nin_of f74 g74 (by omega))
     refine c_end ⟨rfl, fun h hS => Lq, ?_⟩
     refine p0 rfl (x_sub rfl rfl (by omega)) (pu rfl ?_)
     refine s_bsi (xs := [_, _, _, _, _, _]) so24 zr3 (pts_cons rfl (pts_cons rfl (pts_cons rfl (pts_cons rfl (pts_cons rfl (pts_cons rfl pts_nil)))))) rfl rfl rfl ?_
     intro p80 F80 w187 l188 o80 f80 g80
     have z_l188 := l188.size; have L := L.tr l188.up; have Lq := Lq.tr l188.up; have hcu := hcu.ext l188; have B1 := B1.ext l188; have B6 := B6.ext l188; have o13 := o13.ext l188; have o74 := o74.ext l188; have hn80 := o80.n1
     refine c_end ⟨rfl, fun h hS => Lq, ?_⟩
     refine pu rfl ?_
     refine spm (zcall cl129 rfl) (s_pick b _ _ _ _ _ _ hcu _ o80 (by first|assumption|exact nin_of f80 g80 (by omega)) (by omega)) ?_
     rintro v81 w189 l190 ⟨⟨x81, rfl, hx81⟩, hcu⟩
     have z_l190 := l190.size; have L := L.within l190 (by simp)
     have Lq := Lq.within l190 (by simp)
     have B1 := B1.ne l190 (by omega); have B6 := B6.ne l190 (by omega); have o13 := o13.ne l190 (by first|assumption|exact nin_of f13 g13 (by omega))
     have o74 := o74.ne l190 (by first|assumption|exact nin_of f74 g74 (by omega))
     have o80 := o80.ne l190 (by first|assumption|exact nin_of f80 g80 (by omega))
     refine c_end ⟨rfl, fun h hS => Lq, ?_⟩
     refine p0 rfl (x_idx so24 rfl rfl o13.sl (by decide) (by omega) (by omega)) (pu rfl (s_stoi rfl sz3 rfl rfl o13 (by omega) (by omega) ?_))
     intro w191 l192 el192 o13
     have z_l192 := l192.size; have L := L.freshL l192 f13 (by omega); have hcu := hcu.exm l192 (by first|assumption|exact nin_of f13 g13 (by omega)) (f13.mono (by omega))
     have B1 := B1.exm l192 (by first|assumption|exact nin_of f13 g13 (by omega))
     have B6 := B6.exm l192 (by first|assumption|exact nin_of f13 g13 (by omega))
     have o74 := o74.exm l192 (by first|assumption|exact Dj.symm (by assumption)|exact dj_of f13 g13 f74 g74 (by omega))
     have o80 := o80.exm l192 (by first|assumption|exact Dj.symm (by assumption)|exact dj_of f13 g13 f80 g80 (by omega))
     have hnl192 := o13.n1
     refine c_end ⟨rfl, fun h hS => absurd h (by decide), ?_⟩
     refine p_nil (np_normal ?_)
     refine n_block (n_then (c_reg (s0 (xmI rfl) (s0 (x_sub rfl rfl (by omega)) (s0 (xaI rfl) (c_end ?_))))))
     exact c_round (g' := (h.1 - 1, h.2.1, h.2.2.set x75.toNat x81)) (by show (h.1 - 1).toNat < h.1.toNat; omega) ⟨_, upd_self5 rfl rfl rfl rfl rfl, L, (by omega), hcu, B1, B6, o13, (by show h.1 - 1 ≤ 5; omega), (by show (h.2.2.set _ _).length = N; rw [List.length_set]; exact hlen)⟩
    ·refine c_end (n_then (c_false rfl ?_))
     refine wp_exit (e_then (e_then (e_here ?_)))
     refine n_then (wp_seq (c_reg (st (x_loadAgB ag71 rfl B6 rfl) (s_storeAg rfl sz71 rfl rfl B1 rfl rfl rfl ?_))))
     intro w193 l194 el194 B1
     have z_l194 := l194.size; have L := L.fresh l194 (by omega); have hcu := hcu.ne l194 (by omega); have B6 := B6.ne l194 (by omega); have o13 := o13.ne l194 (by first|assumption|exact nin_of f13 g13 (by omega))
     refine c_end (n_then (wp_ret (f_retc rfl rfl ag71 B1 rfl ?_)))
     exact ⟨_, rfl, L, ⟨h.2.1, p13, N, F13, h.2.2, (by rw [hlen]), (by rw [hlen]; exact o13), f13.mono (by omega), (by rw [hlen, hNi])⟩, hcu⟩
   ·refine c_end (n_then (c_false rfl (c_skipn (n_then (wp_seq (wp_seq (c_reg (s0 (x_move (v := .pointer _) rfl) ?_))))))))
    refine spm (zcall cl63 rfl) (s_below b _ _ _ hcu) ?_
    rintro v57 w195 l196 ⟨⟨x57, rfl, hx57⟩, hcu⟩
    have z_l196 := l196.size; have L := L.within l196 (by simp)
    have B1 := B1.ne l196 (by omega); have B6 := B6.ne l196 (by omega); have o13 := o13.ne l196 (by first|assumption|exact nin_of f13 g13 (by omega))
    have o37 := o37.ne l196 (by first|assumption|exact nin_of f37 g37 (by omega))
    have o52 := o52.ne l196 (by first|assumption|exact nin_of f52 g52 (by omega))
    refine s0 (xaI rfl) (c_end (n_then (wp_block ?_)))
    refine c_loop (γ := Int × Int × List Int) (fun h => h.1.toNat) (fun (h : Int × Int × List Int) E wl => ∃ E0, E = upd (upd (upd (upd (upd E0 0 (pt b 0)) 2 (.int .i64 n)) 6 (pt b1 0)) 7 (pt b6 0)) 9 (.int .i64 h.1) ∧ (Exm [b] w wl) ∧ (w195.heap.size ≤ wl.heap.size) ∧ (Cu wl b B 104) ∧ (Bx wl b1 [.int .i64 0, .slice none 0 0] 71) ∧ (Bx wl b6 [.int .i64 h.2.1, .slice p13 N N] 71) ∧ (Own wl p13 N N 3 1 (ic h.2.2) F13) ∧ (h.1 ≤ 5) ∧ (h.2.2.length = N)) (x57, _, List.replicate N 0) ⟨_, upd_self5 rfl rfl rfl rfl rfl, L, (by omega), hcu, B1, B6, o13, (by show x57 ≤ 5; omega), (by show (List.replicate N (0 : Int)).length = N; simp)⟩ ?_
    rintro h E wl197 ⟨E0, rfl, L, Lz, hcu, B1, B6, o13, hh, hlen⟩
    have Lz0 := L.size
    refine wp_seq (wp_seq (c_reg (s0 (xmI rfl) ?_)))
    refine sb (x_gtr rfl rfl) (fun h59 => ?_) (fun h59 => ?_)
    ·refine c_end (n_then (c_true rfl (c_skipn (n_then (wp_seq (wp_block ?_))))))
     refine c_plan (fun wq => Exm [b] wl197 wq) 21 (.cons (0, 2) (.cons (1, 1) (.cons (2, 2) (.cons (3, 2) (.cons (4, 2) (.cons (5, 2) (.cons (6, 2) (.cons (7, 2) (.cons (8, 2) (.cons (9, 2) (.cons (10, 2) (.cons (14, 2) (.cons (15, 2) (.cons (11, 0) (.cons (12, 0) (.cons (13, 0) (.cons (16, 0) (.cons (17, 2) (.cons (18, 0) (.cons (19, 0) (.cons (20, 2) (.cons (21, 0) .nil)))))))))))))))))))))) (by kernel_rfl) (by kernel_rfl) (Exm.drew _) ?_
     obtain ⟨w198, hwd⟩ : ∃ x, x = wl197.drew := ⟨_, rfl⟩
     have l199 : Ext wl197 w198 := by rw [hwd]; exact Exm.drew _
     rw [← hwd]; clear hwd
     have Lq : Exm [b] wl197 w198 := l199.up; have qB6 := B6; have z_l199 := l199.size; have L := L.tr l199.up; have hcu := hcu.ext l199; have B1 := B1.ext l199; have B6 := B6.ext l199; have o13 := o13.ext l199
     refine p0 rfl (x_fieldAddr fa71_1 rfl) ?_
     refine ps rfl (fun wq hwq => x_loadB sc24 rfl (qB6.ne hwq (by omega)) rfl) ?_
     refine p0 rfl (x_move (v := .pointer _) rfl) (p0 rfl (xmI rfl) (p0 rfl (xmI rfl) (p0 rfl (x_mule (N : Int) rfl rfl hNi (by omega)) (p0 rfl (x_sub rfl rfl (by omega)) (p0 rfl (x_move (v := .pointer _) rfl) (p0 rfl (xmI rfl) (p0 rfl (xmI rfl) (p0 rfl (x_mule (N : Int) rfl rfl hNi (by omega)) (p0 rfl (x_move (v := .pointer _) rfl) (p0 rfl (x_move (v := .pointer _) rfl) (pu rfl ?_)))))))))))
     refine spm (zcall cl63 rfl) (s_below b _ _ _ hcu) ?_
     rintro v73 w200 l201 ⟨⟨x73, rfl, hx73⟩, hcu⟩
     have z_l201 := l201.size; have L := L.within l201 (by simp)
     have Lq := Lq.within l201 (by simp)
     have B1 := B1.ne l201 (by omega); have B6 := B6.ne l201 (by omega); have o13 := o13.ne l201 (by first|assumption|exact nin_of f13 g13 (by omega))
     refine c_end ⟨rfl, fun h hS => Lq, ?_⟩
     refine pu rfl ?_
     refine s_bsi (xs := [_, _, _, _, _, _]) so24 zr3 (pts_cons rfl (pts_cons rfl (pts_cons rfl (pts_cons rfl (pts_cons rfl (pts_cons rfl pts_nil)))))) rfl rfl rfl ?_
     intro p74 F74 w202 l203 o74 f74 g74
     have z_l203 := l203.size; have L := L.tr l203.up; have Lq := Lq.tr l203.up; have hcu := hcu.ext l203; have B1 := B1.ext l203; have B6 := B6.ext l203; have o13 := o13.ext l203; have hn74 := o74.n1
     refine c_end ⟨rfl, fun h hS => Lq, ?_⟩
     refine pu rfl ?_
     refine spm (zcall cl129 rfl) (s_pick b _ _ _ _ _ _ hcu _ o74 (by first|assumption|exact nin_of f74 g74 (by omega)) (by omega)) ?_
     rintro v75 w204 l205 ⟨⟨x75, rfl, hx75⟩, hcu⟩
     have z_l205 := l205.size; have L := L.within l205 (by simp)
     have Lq := Lq.within l205 (by simp)
     have B1 := B1.ne l205 (by omega); have B6 := B6.ne l205 (by omega); have o13 := o13.ne l205 (by first|assumption|exact nin_of f13 g13 (by omega))
     have o74 := o74.ne l205 (by first|assumption|exact nin_of f74 g74 (by omega))
     have hr75 : 0 ≤ x75 ∧ x75 < N := by have h6 := pick6 hx75; omega
     refine c_end ⟨rfl, fun h hS => Lq, ?_⟩
     refine pu rfl ?_
     refine spm (zcall cl63 rfl) (s_below b _ _ _ hcu) ?_
     rintro v78 w206 l207 ⟨⟨x78, rfl, hx78⟩, hcu⟩
     have z_l207 := l207.size; have L := L.within l207 (by simp)
     have Lq := Lq.within l207 (by simp)
     have B1 := B1.ne l207 (by omega); have B6 := B6.ne l207 (by omega); have o13 := o13.ne l207 (by first|assumption|exact nin_of f13 g13 (by omega))
     have o74 := o74.ne l207 (by first|assumption|exact nin_of f74 g74 (by omega))
     refine c_end ⟨rfl, fun h hS => Lq, ?_⟩
     refine p0 rfl (x_sub rfl rfl (by omega)) (pu rfl ?_)
     refine s_bsi (xs := [_, _, _, _, _, _]) so24 zr3 (pts_cons rfl (pts_cons rfl (pts_cons rfl (pts_cons rfl (pts_cons rfl (pts_cons rfl pts_nil)))))) rfl rfl rfl ?_
     intro p80 F80 w208 l209 o80 f80 g80
     have z_l209 := l209.size; have L := L.tr l209.up; have Lq := Lq.tr l209.up; have hcu := hcu.ext l209; have B1 := B1.ext l209; have B6 := B6.ext l209; have o13 := o13.ext l209; have o74 := o74.ext l209; have hn80 := o80.n1
     refine c_end ⟨rfl, fun h hS => Lq, ?_⟩
     refine pu rfl ?_
     refine spm (zcall cl129 rfl) (s_pick b _ _ _ _ _ _ hcu _ o80 (by first|assumption|exact nin_of f80 g80 (by omega)) (by omega)) ?_
     rintro v81 w210 l211 ⟨⟨x81, rfl, hx81⟩, hcu⟩
     have z_l211 := l211.size; have L := L.within l211 (by simp)
     have Lq := Lq.within l211 (by simp)
     have B1 := B1.ne l211 (by omega); have B6 := B6.ne l211 (by omega); have o13 := o13.ne l211 (by first|assumption|exact nin_of f13 g13 (by omega))
     have o74 := o74.ne l211 (by first|assumption|exact nin_of f74 g74 (by omega))
     have o80 := o80.ne l211 (by first|assumption|exact nin_of f80 g80 (by omega))
     refine c_end ⟨rfl, fun h hS => Lq, ?_⟩
     refine p0 rfl (x_idx so24 rfl rfl o13.sl (by decide) (by omega) (by omega)) (pu rfl (s_stoi rfl sz3 rfl rfl o13 (by omega) (by omega) ?_))
     intro w212 l213 el213 o13
     have z_l213 := l213.size; have L := L.freshL l213 f13 (by omega); have hcu := hcu.exm l213 (by first|assumption|exact nin_of f13 g13 (by omega)) (f13.mono (by omega))
     have B1 := B1.exm l213 (by first|assumption|exact nin_of f13 g13 (by omega))
     have B6 := B6.exm l213 (by first|assumption|exact nin_of f13 g13 (by omega))
     have o74 := o74.exm l213 (by first|assumption|exact Dj.symm (by assumption)|exact dj_of f13 g13 f74 g74 (by omega))
     have o80 := o80.exm l213 (by first|assumption|exact Dj.symm (by assumption)|exact dj_of f13 g13 f80 g80 (by omega))
     have hnl213 := o13.n1
     refine c_end ⟨rfl, fun h hS => absurd h (by decide), ?_⟩
     refine p_nil (np_normal ?_)
     refine n_block (n_then (c_reg (s0 (xmI rfl) (s0 (x_sub rfl rfl (by omega)) (s0 (xaI rfl) (c_end ?_))))))
     exact c_round (g' := (h.1 - 1, h.2.1, h.2.2.set x75.toNat x81)) (by show (h.1 - 1).toNat < h.1.toNat; omega) ⟨_, upd_self5 rfl rfl rfl rfl rfl, L, (by omega), hcu, B1, B6, o13, (by show h.1 - 1 ≤ 5; omega), (by show (h.2.2.set _ _).length = N; rw [List.length_set]; exact hlen)⟩
    ·refine c_end (n_then (c_false rfl ?_))
     refine wp_exit (e_then (e_then (e_here ?_)))
     refine n_then (wp_seq (c_reg (st (x_loadAgB ag71 rfl B6 rfl) (s_storeAg rfl sz71 rfl rfl B1 rfl rfl rfl ?_))))
     intro w214 l215 el215 B1
     have z_l215 := l215.size; have L := L.fresh l215 (by omega); have hcu := hcu.ne l215 (by omega); have B6 := B6.ne l215 (by omega); have o13 := o13.ne l215 (by first|assumption|exact nin_of f13 g13 (by omega))
     refine c_end (n_then (wp_ret (f_retc rfl rfl ag71 B1 rfl ?_)))
     exact ⟨_, rfl, L, ⟨h.2.1, p13, N, F13, h.2.2, (by rw [hlen]), (by rw [hlen]; exact o13), f13.mono (by omega), (by rw [hlen, hNi])⟩, hcu⟩

theorem s_l23Mb (b B : Nat) (p : Option Addr) (xs : List Int) (c : Nat) (G : List Nat) (w : World) (hcu : Cu w b B 104) (hp : Rdf w p xs.length c 1 (ic xs) G) (hF : b ∉ G) (hl : xs.length ≤ 1099511627776) :
    Calls Tryz.prog 127 [pt b 0, .slice p xs.length c].toArray w (RetM [b] w fun v w' => (∃ (e : Bool) (p : Option Addr) (c : Nat) (F : List Nat) (bs : List Bk), v = .agg [.bool e, .slice p bs.length c].toArray ∧ OwN (Kb 3) w' 71 p bs c F ∧ Fr w.heap.size F ∧ (bs.length : Int) = manyOf e ∧ ∀ q ∈ bs, q.lv.length = 16 ∨ q.lv.length = 64) ∧ Cu w' b B 104) := by
 have hcb := hcu.lt; have L : Exm [b] w w := Exm.rfl'
 refine enter (n := 32) Tryz.func127 rfl rfl rfl ?_
 refine wp_seq (c_reg (s_alloc zr34 ?_))
 intro b1 w2 lob1 hib1 l3 B1
 have z_l3 := l3.size; have L := L.tr l3.up; have hcu := hcu.ext l3
 refine c_end (n_then (wp_seq (c_reg (s0 (x_move (v := .pointer _) rfl) ?_))))
 refine spm (zcall cl184 rfl) (s_once b _ _ _ hcu) ?_
 rintro v9 w4 l5 ⟨⟨x9, rfl⟩, hcu⟩
 have z_l5 := l5.size; have L := L.within l5 (by simp)
 have B1 := B1.ne l5 (by omega)
 refine s0 (x_build (cs := [.bool _, .slice none 0 0]) bd34 (pts_cons (v := .bool _) rfl pts_nil) rfl) ?_
 refine s_alloc zr34 ?_
 intro b6 w7 lob6 hib6 l8 B6
 have z_l8 := l8.size; have L := L.tr l8.up; have hcu := hcu.ext l8; have B1 := B1.ext l8
 refine s_storeAg rfl sz34 rfl rfl B6 rfl rfl rfl ?_
 intro w9 l10 el10 B6
 have z_l10 := l10.size; have L := L.fresh l10 (by omega); have hcu := hcu.ne l10 (by omega); have B1 := B1.ne l10 (by omega)
 refine c_end (n_then (wp_seq (c_reg (s0 (x_fieldAddr fa34_0 rfl) (st (x_loadB sc4 rfl B6 rfl) ?_)))))
 refine sr (zcall cl49 rfl) (s_side _ _) ?_
 intro w11 l12
 have z_l12 := l12.size; have L := L.tr l12.up; have hcu := hcu.ext l12; have B1 := B1.ext l12; have B6 := B6.ext l12
 refine s0 (xaI rfl) (c_end (n_then (wp_seq (wp_seq ?_))))
 have hs4 := side_in x9; have hme := many_eq x9
 refine c_reg (s0 (xaI rfl) (c_end (n_then (wp_block ?_))))
 refine c_loop (γ := Nat × List Bk) (fun g => (manyOf x9).toNat - g.1) (fun (g : Nat × List Bk) E wl => ∃ E0 pz900 cz900 Fz900, E = upd (upd (upd (upd (upd (upd E0 0 (pt b 0)) 1 (.slice p xs.length c)) 4 (pt b1 0)) 5 (pt b6 0)) 6 (.int .i64 (side x9))) 7 (.int .i64 (g.1 : Int)) ∧ (Exm [b] w wl) ∧ (w11.heap.size ≤ wl.heap.size) ∧ (Cu wl b B 104) ∧ (Bx wl b1 [.bool false, .slice none 0 0] 34) ∧ (Bx wl b6 [.bool x9, .slice pz900 g.2.length cz900] 34) ∧ (OwN (Kb 3) wl 71 pz900 (g.2) cz900 Fz900) ∧ (Fr (w11.heap.size) Fz900) ∧ (Lt Fz900 wl.heap.size) ∧ (b ∉ Fz900) ∧ (b1 ∉ Fz900) ∧ (b6 ∉ Fz900) ∧ ((g.1 : Int) ≤ manyOf x9) ∧ (g.2.length = g.1) ∧ (∀ q ∈ g.2, q.lv.length = 16 ∨ q.lv.length = 64)) (0, []) ⟨_, _, _, _, upd_self6 rfl rfl rfl rfl rfl rfl, L, (by omega), hcu, B1, B6, OwN.nil, Fr.no, Lt.no, (by simp), (by simp), (by simp), (by show ((0 : Nat) : Int) ≤ _; have := manyOf_in x9; omega), rfl, (by intro q hq; simp at hq)⟩ ?_
 rintro g E wl13 ⟨E0, pz900, cz900, Fz900, rfl, L, Lz, hcu, B1, B6, oz900, fz900, gz900, ab_z900, ab1_z900, ab6_z900, hk, hgl, hbs⟩
 have Lz0 := L.size; have hmo := manyOf_in x9
 refine wp_seq (wp_seq (c_reg (s0 (xmI rfl) (s0 (xmI rfl) (s0 (xmI rfl) ?_)))))
 refine s0 (x_mul rfl rfl (by rcases hs4 with h | h <;> rw [h] <;> decide)) ?_
 refine s0 (x_quo rfl rfl (by omega) (by rcases hs4 with h | h <;> rw [h] <;> decide)) ?_
 refine sb (x_lss rfl rfl) (fun h19 => ?_) (fun h19 => ?_)
 ·refine c_end (n_then (c_true rfl (c_skipn (n_then (wp_seq (wp_block ?_))))))
  refine c_plan (fun wq => Exm [b] wl13 wq) 7 (.cons (0, 2) (.cons (1, 1) (.cons (2, 2) (.cons (3, 2) (.cons (4, 2) (.cons (5, 0) (.cons (6, 0) (.cons (7, 0) (.cons (8, 0) (.cons (9, 0) .nil)))))))))) (by kernel_rfl) (by kernel_rfl) (Exm.drew _) ?_
  obtain ⟨w14, hwd⟩ : ∃ x, x = wl13.drew := ⟨_, rfl⟩
  have l15 : Ext wl13 w14 := by rw [hwd]; exact Exm.drew _
  rw [← hwd]; clear hwd
  have Lq : Exm [b] wl13 w14 := l15.up; have qB6 := B6; have z_l15 := l15.size; have L := L.tr l15.up; have hcu := hcu.ext l15; have B1 := B1.ext l15; have B6 := B6.ext l15; have oz900 := oz900.ext l15
  refine p0 rfl (x_fieldAddr fa34_1 rfl) ?_
  refine ps rfl (fun wq hwq => x_loadB sc32 rfl (qB6.ne hwq (by omega)) rfl) ?_
  refine p0 rfl (x_move (v := .pointer _) rfl) (p0 rfl (xmS rfl) (p0 rfl (xmI rfl) (pu rfl ?_)))
  refine spm (zcall cl186 rfl) (s_l23Block b _ _ _ _ _ _ _ hcu (hp.ne L hF) hF (by omega) hs4) ?_
  rintro v27 w16 l17 ⟨⟨md27, p27, c27, F27, ys27, rfl, o27, f27, hy27⟩, hcu⟩
  have z_l17 := l17.size; have L := L.within l17 (by simp)
  have Lq := Lq.within l17 (by simp)
  have B1 := B1.ne l17 (by omega); have B6 := B6.ne l17 (by omega); have oz900 := oz900.ne l17 (by first|assumption|exact nin_of fz900 gz900 (by omega))
  have g27 := o27.lt
  refine c_end ⟨rfl, fun h hS => Lq, ?_⟩
  refine pu rfl ?_
  refine s_bsr (g := fun x => .agg (brow x).toArray) (xs := [(⟨md27, p27, ys27, c27, F27⟩ : Bk)]) (fun _ => rfl) brow_len so32 zr71 (pts_cons rfl pts_nil) rfl rfl rfl ?_
  intro p28 F28 w18 l19 o28 f28 g28
  have z_l19 := l19.size; have L := L.tr l19.up; have Lq := Lq.tr l19.up; have hcu := hcu.ext l19; have B1 := B1.ext l19; have B6 := B6.ext l19; have oz900 := oz900.ext l19; have o27 := o27.ext l19; have hn28 := o28.nr brow_len (by decide)
  refine c_end ⟨rfl, fun h hS => Lq, ?_⟩
  refine pu rfl ?_
  refine s_appN (B := w11.heap.size) (K := (Kb 3)) (v := (⟨md27, p27, ys27, c27, F27⟩ : Bk)) so32 zr71 rfl rfl rfl rfl oz900 o28.sl o27 (by first|assumption|exact Dj.symm (by assumption)|exact dj_of f27 g27 fz900 gz900 (by omega)) fz900 (by omega) (f27.mono (by omega)) (by omega) (by omega) ?_
  intro p29 c29 F29 w20 l21 o29 k29 f29 g29
  have ab_29 : b ∉ F29 := k29.nin (by simp only [List.mem_append, not_or]; exact ⟨(by first|assumption|exact nin_of fz900 gz900 (by omega)), (by first|assumption|exact nin_of f27 g27 (by omega))⟩) (by omega)
  have hcu := hcu.exm l21 (by first|assumption|exact nin_of fz900 gz900 (by omega)) (fz900.mono (by omega))
  have ab1_29 : b1 ∉ F29 := k29.nin (by simp only [List.mem_append, not_or]; exact ⟨(by first|assumption|exact nin_of fz900 gz900 (by omega)), (by first|assumption|exact nin_of f27 g27 (by omega))⟩) (by omega)
  have B1 := B1.exm l21 (by first|assumption|exact nin_of fz900 gz900 (by omega))
  have ab6_29 : b6 ∉ F29 := k29.nin (by simp only [List.mem_append, not_or]; exact ⟨(by first|assumption|exact nin_of fz900 gz900 (by omega)), (by first|assumption|exact nin_of f27 g27 (by omega))⟩) (by omega)
  have B6 := B6.exm l21 (by first|assumption|exact nin_of fz900 gz900 (by omega))
  have z_l21 := l21.size; have L := L.freshL l21 fz900 (by omega); have d28_29 : Dj F28 F29 := k29.dj (dj_app' (by first|assumption|exact Dj.symm (by assumption)|exact dj_of f28 g28 fz900 gz900 (by omega)) (by first|assumption|exact Dj.symm (by assumption)|exact dj_of f28 g28 f27 g27 (by omega))) g28 (by omega)
  have o28 := o28.exm l21 (by first|assumption|exact Dj.symm (by assumption)|exact dj_of fz900 gz900 f28 g28 (by omega))
  refine c_end ⟨rfl, fun h hS => absurd h (by decide), ?_⟩
  refine pu rfl (s0 (x_fieldAddr fa34_1 rfl) ?_)
  refine c_end ⟨rfl, fun h hS => absurd h (by decide), ?_⟩
  refine pu rfl ?_
  refine s_store (v := .slice _ _ _) (cs' := [_, _]) rfl sz32 rfl rfl rfl rfl B6 rfl rfl ?_
  intro w22 l23 el23 B6
  have z_l23 := l23.size; have L := L.fresh l23 (by omega); have hcu := hcu.ne l23 (by omega); have B1 := B1.ne l23 (by omega); have o28 := o28.ne l23 (by first|assumption|exact nin_of f28 g28 (by omega))
  have o29 := o29.ne l23 (by first|assumption|exact nin_of f29 g29 (by omega))
  refine c_end ⟨rfl, fun h hS => absurd h (by decide), ?_⟩
  refine p_nil (np_normal ?_)
  refine n_block (n_then (c_reg (s0 (xmI rfl) (s0 (x_add rfl rfl (by omega)) (s0 (xaI rfl) (c_end ?_))))))
  have hy2 : ys27.length = 16 ∨ ys27.length = 64 := by rcases hs4 with h | h <;> rw [h] at hy27 <;> omega
  exact c_round (g' := (g.1 + 1, g.2 ++ [(⟨md27, p27, ys27, c27, F27⟩ : Bk)])) (by show (manyOf x9).toNat - (g.1 + 1) < (manyOf x9).toNat - g.1; omega) ⟨_, _, _, _, upd_self6 rfl rfl rfl rfl rfl (vint (by show _ = ((g.1 + 1 : Nat) : Int); omega)), L, (by omega), hcu, B1, B6, o29, (f29.mono (by omega)), (g29.mono (by omega)), (by first|assumption|exact nin_of f29 g29 (by omega)), (by first|assumption|exact nin_of f29 g29 (by omega)), (by first|assumption|exact nin_of f29 g29 (by omega)), (by show ((g.1 + 1 : Nat) : Int) ≤ _; omega), (by show (g.2 ++ [_]).length = g.1 + 1; rw [List.length_append, hgl]; rfl), (by intro q hq; rcases List.mem_append.1 hq with h | h; exact hbs q h; rw [List.mem_singleton.1 h]; exact hy2)⟩
 ·refine c_end (n_then (c_false rfl ?_))
  refine wp_exit (e_then (e_then (e_here ?_)))
  refine n_then (wp_seq (c_reg (st (x_loadAgB ag34 rfl B6 rfl) (s_storeAg rfl sz34 rfl rfl B1 rfl rfl rfl ?_))))
  intro w24 l25 el25 B1
  have z_l25 := l25.size; have L := L.fresh l25 (by omega); have hcu := hcu.ne l25 (by omega); have B6 := B6.ne l25 (by omega); have oz900 := oz900.ne l25 (by first|assumption|exact nin_of fz900 gz900 (by omega))
  refine c_end (n_then (wp_ret (f_retc rfl rfl ag34 B1 rfl ?_)))
  exact ⟨_, rfl, L, ⟨x9, _, _, _, g.2, rfl, oz900, fz900.mono (by omega), (by omega), hbs⟩, hcu⟩

theorem s_l23AnyMb (b B : Nat) (p : Option Addr) (xs : List Int) (c : Nat) (G : List Nat) (w : World) (hcu : Cu w b B 104) (hp : Rdf w p xs.length c 1 (ic xs) G) (hF : b ∉ G) (hl : xs.length ≤ 1099511627776) :
    Calls Tryz.prog 65 [pt b 0, .slice p xs.length c].toArray w (RetM [b] w fun v w' => (∃ (e : Bool) (p : Option Addr) (c : Nat) (F : List Nat) (bs : List Bk), v = .agg [.bool e, .slice p bs.length c].toArray ∧ RdBF w' p bs c F ∧ Fr w.heap.size F ∧ bs.length ≤ 4 ∧ ∀ q ∈ bs, q.lv.length ≤ 64) ∧ Cu w' b B 104) := by
 have hcb := hcu.lt; have L : Exm [b] w w := Exm.rfl'
 refine enter (n := 53) Tryz.func65 rfl rfl rfl ?_
 refine wp_seq (c_reg (s_alloc zr34 ?_))
 intro b1 w2 lob1 hib1 l3 B1
 have z_l3 := l3.size; have L := L.tr l3.up; have hcu := hcu.ext l3
 refine c_end (n_then (wp_seq (c_reg (s0 (x_move (v := .pointer _) rfl) (s0 (xmS rfl) ?_)))))
 refine spm (zcall cl127 rfl) (s_l23Mb b _ _ _ _ _ _ hcu (hp.ne L hF) hF (by omega)) ?_
 rintro v9 w4 l5 ⟨⟨e9, p9, c9, F9, bs9, rfl, o9, f9, hm9, hb9⟩, hcu⟩
 have z_l5 := l5.size; have L := L.within l5 (by simp)
 have B1 := B1.ne l5 (by omega); have g9 := o9.lt
 refine s_alloc zr34 ?_
 intro b6 w7 lob6 hib6 l8 B6
 have z_l8 := l8.size; have L := L.tr l8.up; have hcu := hcu.ext l8; have B1 := B1.ext l8; have o9 := o9.ext l8
 refine s_storeAg rfl sz34 rfl rfl B6 rfl rfl rfl ?_
 intro w9 l10 el10 B6
 have z_l10 := l10.size; have L := L.fresh l10 (by omega); have hcu := hcu.ne l10 (by omega); have B1 := B1.ne l10 (by omega); have o9 := o9.ne l10 (by first|assumption|exact nin_of f9 g9 (by omega))
 refine c_end (n_then (wp_seq ?_))
 have hmo := manyOf_in e9
 have hbb : ∀ q ∈ bs9, q.lv.length ≤ 64 := fun q hq => by have := hb9 q hq; omega
 refine c_reg (s0 (x_move (v := .pointer _) rfl) (s0 (x_fieldAddr fa34_1 rfl) (st (x_loadB sc32 rfl B6 rfl) (s0 (x_lensl un32 rfl) ?_))))
 refine spm (zcall cl63 rfl) (s_below b _ _ _ hcu) ?_
 rintro v14 w11 l12 ⟨⟨x14, rfl, hx14⟩, hcu⟩
 have z_l12 := l12.size; have L := L.within l12 (by simp)
 have B1 := B1.ne l12 (by omega); have B6 := B6.ne l12 (by omega); have o9 := o9.ne l12 (by first|assumption|exact nin_of f9 g9 (by omega))
 refine s0 (xaI rfl) (c_end (n_then (wp_seq (wp_seq (c_reg (s0 (x_move (v := .pointer _) rfl) ?_))))))
 refine spm (zcall cl63 rfl) (s_below b _ _ _ hcu) ?_
 rintro v16 w13 l14 ⟨⟨x16, rfl, hx16⟩, hcu⟩
 have z_l14 := l14.size; have L := L.within l14 (by simp)
 have B1 := B1.ne l14 (by omega); have B6 := B6.ne l14 (by omega); have o9 := o9.ne l14 (by first|assumption|exact nin_of f9 g9 (by omega))
 refine c_end (n_then (wp_block (wp_seq (c_reg ?_))))
 refine sb (x_eql rfl rfl) (fun h18 => ?_) (fun h18 => ?_)
 ·refine s0 (x_assign (v := .bool _) rfl) (c_end (n_then (c_true rfl ?_)))
  refine c_plan (fun wq => Exm [b] w13 wq) 8 (.cons (0, 2) (.cons (1, 1) (.cons (2, 2) (.cons (3, 2) (.cons (4, 0) (.cons (5, 0) (.cons (6, 2) (.cons (7, 2) (.cons (8, 0) .nil))))))))) (by kernel_rfl) (by kernel_rfl) (Exm.drew _) ?_
  obtain ⟨w15, hwd⟩ : ∃ x, x = w13.drew := ⟨_, rfl⟩
  have l16 : Ext w13 w15 := by rw [hwd]; exact Exm.drew _
  rw [← hwd]; clear hwd
  have Lq : Exm [b] w13 w15 := l16.up; have qB6 := B6; have z_l16 := l16.size; have L := L.tr l16.up; have hcu := hcu.ext l16; have B1 := B1.ext l16; have B6 := B6.ext l16; have o9 := o9.ext l16
  refine p0 rfl (x_fieldAddr fa34_1 rfl) ?_
  refine ps rfl (fun wq hwq => x_loadB sc32 rfl (qB6.ne hwq (by omega)) rfl) ?_
  refine p0 rfl (xmI rfl) (p0 rfl (x_move (v := .pointer _) rfl) (pu rfl ?_))
  refine s_bsi (xs := [_, _, _]) so24 zr3 (pts_cons rfl (pts_cons rfl (pts_cons rfl pts_nil))) rfl rfl rfl ?_
  intro p23 F23 w17 l18 o23 f23 g23
  have z_l18 := l18.size; have L := L.tr l18.up; have Lq := Lq.tr l18.up; have hcu := hcu.ext l18; have B1 := B1.ext l18; have B6 := B6.ext l18; have o9 := o9.ext l18; have hn23 := o23.n1
  refine c_end ⟨rfl, fun h hS => Lq, ?_⟩
  refine pu rfl ?_
  refine spm (zcall cl129 rfl) (s_pick b _ _ _ _ _ _ hcu _ o23 (by first|assumption|exact nin_of f23 g23 (by omega)) (by omega)) ?_
  rintro v24 w19 l20 ⟨⟨x24, rfl, hx24⟩, hcu⟩
  have z_l20 := l20.size; have L := L.within l20 (by simp)
  have Lq := Lq.within l20 (by simp)
  have B1 := B1.ne l20 (by omega); have B6 := B6.ne l20 (by omega); have o9 := o9.ne l20 (by first|assumption|exact nin_of f9 g9 (by omega))
  have o23 := o23.ne l20 (by first|assumption|exact nin_of f23 g23 (by omega))
  refine c_end ⟨rfl, fun h hS => Lq, ?_⟩
  refine p0 rfl (x_idx so32 rfl rfl o9.sl (by decide) (by omega) (by omega)) (p0 rfl (x_fieldAddr fa71_0 rfl) (pu rfl ?_))
  refine s_stofN (K := (Kb 3)) (k := 0) (u := .int _ _) (({ (bs9.getD x14.toNat default) with mode := x24 } : Bk)) rfl sz3 rfl rfl rfl rfl o9 (by omega) (by omega) (by decide) rfl rfl (fun _ h => h) ?_
  intro w21 l22 el22 o9
  have z_l22 := l22.size; have L := L.freshL l22 f9 (by omega); have hcu := hcu.exm l22 (by first|assumption|exact nin_of f9 g9 (by omega)) (f9.mono (by omega))
  have B1 := B1.exm l22 (by first|assumption|exact nin_of f9 g9 (by omega))
  have B6 := B6.exm l22 (by first|assumption|exact nin_of f9 g9 (by omega))
  have o23 := o23.exm l22 (by first|assumption|exact Dj.symm (by assumption)|exact dj_of f9 g9 f23 g23 (by omega))
  refine c_end ⟨rfl, fun h hS => absurd h (by decide), ?_⟩
  refine p_nil (np_normal ?_)
  refine n_block (n_then (wp_seq (c_reg (st (x_loadAgB ag34 rfl B6 rfl) (s_storeAg rfl sz34 rfl rfl B1 rfl rfl rfl ?_)))))
  intro w23 l24 el24 B1
  have z_l24 := l24.size; have L := L.fresh l24 (by omega); have hcu := hcu.ne l24 (by omega); have B6 := B6.ne l24 (by omega); have o9 := o9.ne l24 (by first|assumption|exact nin_of f9 g9 (by omega))
  have o23 := o23.ne l24 (by first|assumption|exact nin_of f23 g23 (by omega))
  refine c_end (n_then (wp_ret (f_retc rfl rfl ag34 B1 rfl ?_)))
  exact ⟨_, rfl, L, ⟨_, p9, _, F9, _, (by rw [← List.length_set (i := x14.toNat) (a := ({ (bs9.getD x14.toNat default) with mode := x24 } : Bk))]), o9.rdbf, f9.mono (by omega), (by rw [List.length_set]; omega), (fun q hq => by rcases List.mem_or_eq_of_mem_set hq with h | h; exact hbb q h; rw [h]; exact hbb (bs9.getD x14.toNat default) (getD_mem (by omega) (by omega)))⟩, hcu⟩
 ·refine s0 (x_assign (v := .bool _) rfl) (c_end (n_then (c_false rfl (wp_seq (c_reg ?_)))))
  refine sb (x_eql rfl rfl) (fun h28 => ?_) (fun h28 => ?_)
  ·refine s0 (x_assign (v := .bool _) rfl) (c_end (n_then (c_true rfl ?_)))
   have hl9 := hb9 _ (getD_mem (xs := bs9) (i := x14) (by omega) (by omega))
   refine c_plan (fun wq => Exm [b] w13 wq) 10 (.cons (0, 2) (.cons (1, 1) (.cons (2, 2) (.cons (3, 2) (.cons (4, 2) (.cons (5, 1) (.cons (6, 2) (.cons (7, 0) (.cons (8, 0) (.cons (9, 2) (.cons (10, 0) .nil))))))))))) (by kernel_rfl) (by kernel_rfl) (Exm.drew _) ?_
   obtain ⟨w25, hwd⟩ : ∃ x, x = w13.drew := ⟨_, rfl⟩
   have l26 : Ext w13 w25 := by rw [hwd]; exact Exm.drew _
   rw [← hwd]; clear hwd
   have Lq : Exm [b] w13 w25 := l26.up; have qB6 := B6; have qo9 := o9; have z_l26 := l26.size; have L := L.tr l26.up; have hcu := hcu.ext l26; have B1 := B1.ext l26; have B6 := B6.ext l26; have o9 := o9.ext l26
   refine p0 rfl (x_fieldAddr fa34_1 rfl) ?_
   refine ps rfl (fun wq hwq => x_loadB sc32 rfl (qB6.ne hwq (by omega)) rfl) ?_
   refine p0 rfl (xmI rfl) (p0 rfl (x_idx so32 rfl rfl o9.sl (by decide) (by omega) (by omega)) (p0 rfl (x_fieldAddr fa71_1 rfl) ?_))
   refine ps rfl (fun wq hwq => x_ldf (u := .slice _ _ _) brow_len sc24 rfl (qo9.ne hwq (by first|assumption|exact nin_of f9 g9 (by omega))).sl (by omega) (by omega) (by decide) rfl) ?_
   refine p0 rfl (x_move (v := .pointer _) rfl) (pu rfl ?_)
   refine s_bsi (xs := [_, _, _]) so24 zr3 (pts_cons rfl (pts_cons rfl (pts_cons rfl pts_nil))) rfl rfl rfl ?_
   intro p36 F36 w27 l28 o36 f36 g36
   have z_l28 := l28.size; have L := L.tr l28.up; have Lq := Lq.tr l28.up; have hcu := hcu.ext l28; have B1 := B1.ext l28; have B6 := B6.ext l28; have o9 := o9.ext l28; have hn36 := o36.n1
   refine c_end ⟨rfl, fun h hS => Lq, ?_⟩
   refine pu rfl ?_
   refine spm (zcall cl129 rfl) (s_pick b _ _ _ _ _ _ hcu _ o36 (by first|assumption|exact nin_of f36 g36 (by omega)) (by omega)) ?_
   rintro v37 w29 l30 ⟨⟨x37, rfl, hx37⟩, hcu⟩
   have z_l30 := l30.size; have L := L.within l30 (by simp)
   have Lq := Lq.within l30 (by simp)
   have B1 := B1.ne l30 (by omega); have B6 := B6.ne l30 (by omega); have o9 := o9.ne l30 (by first|assumption|exact nin_of f9 g9 (by omega))
   have o36 := o36.ne l30 (by first|assumption|exact nin_of f36 g36 (by omega))
   refine c_end ⟨rfl, fun h hS => Lq, ?_⟩
   refine p0 rfl (x_idx so24 rfl rfl (o9.rd.2 _ (getD_mem (by omega) (by omega))) (by decide) (by omega) (by omega)) (pu rfl (s_stoiB (i := x14) rfl sz3 rfl rfl o9 (by omega) (by omega) (by omega) (by omega) ?_))
   intro w31 l32 el32 o9
   have z_l32 := l32.size; have L := L.freshL l32 f9 (by omega); have hcu := hcu.exm l32 (by first|assumption|exact nin_of f9 g9 (by omega)) (f9.mono (by omega))
   have B1 := B1.exm l32 (by first|assumption|exact nin_of f9 g9 (by omega))
   have B6 := B6.exm l32 (by first|assumption|exact nin_of f9 g9 (by omega))
   have o36 := o36.exm l32 (by first|assumption|exact Dj.symm (by assumption)|exact dj_of f9 g9 f36 g36 (by omega))
   refine c_end ⟨rfl, fun h hS => absurd h (by decide), ?_⟩
   refine p_nil (np_normal ?_)
   refine n_block (n_then (wp_seq (c_reg (st (x_loadAgB ag34 rfl B6 rfl) (s_storeAg rfl sz34 rfl rfl B1 rfl rfl rfl ?_)))))
   intro w33 l34 el34 B1
   have z_l34 := l34.size; have L := L.fresh l34 (by omega); have hcu := hcu.ne l34 (by omega); have B6 := B6.ne l34 (by omega); have o9 := o9.ne l34 (by first|assumption|exact nin_of f9 g9 (by omega))
   have o36 := o36.ne l34 (by first|assumption|exact nin_of f36 g36 (by omega))
   refine c_end (n_then (wp_ret (f_retc rfl rfl ag34 B1 rfl ?_)))
   exact ⟨_, rfl, L, ⟨_, p9, _, F9, _, (by rw [← List.length_set (i := x14.toNat) (a := ({ (bs9.getD x14.toNat default) with lv := (bs9.getD x14.toNat default).lv.set (0 : Int).toNat x37 } : Bk))]), o9.rdbf, f9.mono (by omega), (by rw [List.length_set]; omega), (fun q hq => by rcases List.mem_or_eq_of_mem_set hq with h | h; exact hbb q h; rw [h]; show ((bs9.getD x14.toNat default).lv.set _ _).length ≤ 64; rw [List.length_set]; exact hbb (bs9.getD x14.toNat default) (getD_mem (by omega) (by omega)))⟩, hcu⟩
  ·refine s0 (x_assign (v := .bool _) rfl) (c_end (n_then (c_false rfl (wp_seq (c_reg ?_)))))
   refine sb (x_eql rfl rfl) (fun h40 => ?_) (fun h40 => ?_)
   ·refine s0 (x_assign (v := .bool _) rfl) (c_end (n_then (c_true rfl (c_reg (s0 (x_fieldAddr fa34_0 rfl) (st (x_loadB sc4 rfl B6 rfl) (s0 (x_not rfl) (s0 (x_fieldAddr fa34_0 rfl) ?_))))))))
    refine s_store (v := .bool _) (cs' := [_, _]) rfl sz4 rfl rfl rfl rfl B6 rfl rfl ?_
    intro w35 l36 el36 B6
    have z_l36 := l36.size; have L := L.fresh l36 (by omega); have hcu := hcu.ne l36 (by omega); have B1 := B1.ne l36 (by omega); have o9 := o9.ne l36 (by first|assumption|exact nin_of f9 g9 (by omega))
    refine c_end (n_block (n_then (wp_seq (c_reg (st (x_loadAgB ag34 rfl B6 rfl) (s_storeAg rfl sz34 rfl rfl B1 rfl rfl rfl ?_))))))
    intro w37 l38 el38 B1
    have z_l38 := l38.size; have L := L.fresh l38 (by omega); have hcu := hcu.ne l38 (by omega); have B6 := B6.ne l38 (by omega); have o9 := o9.ne l38 (by first|assumption|exact nin_of f9 g9 (by omega))
    refine c_end (n_then (wp_ret (f_retc rfl rfl ag34 B1 rfl ?_)))
    exact ⟨_, rfl, L, ⟨_, _, _, _, bs9, rfl, o9.rdbf, f9.mono (by omega), (by omega), hbb⟩, hcu⟩
   ·refine s0 (x_assign (v := .bool _) rfl) (c_end (n_then (c_false rfl (wp_seq (c_reg ?_)))))
    refine sb (x_eql rfl rfl) (fun h46 => ?_) (fun h46 => ?_)
    ·refine s0 (x_assign (v := .bool _) rfl) (c_end (n_then (c_true rfl (c_reg (s0 (x_fieldAddr fa34_1 rfl) (st (x_loadB sc32 rfl B6 rfl) (s0 (xmI rfl) (s0 (x_cuthr so32 o9.sl (by omega) rfl rfl (by omega) (by omega)) (s0 (x_fieldAddr fa34_1 rfl) ?_)))))))))
     refine s_store (v := .slice _ _ _) (cs' := [_, _]) rfl sz32 rfl rfl rfl rfl B6 rfl rfl ?_
     intro w39 l40 el40 B6
     have z_l40 := l40.size; have L := L.fresh l40 (by omega); have hcu := hcu.ne l40 (by omega); have B1 := B1.ne l40 (by omega); have o9 := o9.ne l40 (by first|assumption|exact nin_of f9 g9 (by omega))
     refine c_end (n_block (n_then (wp_seq (c_reg (st (x_loadAgB ag34 rfl B6 rfl) (s_storeAg rfl sz34 rfl rfl B1 rfl rfl rfl ?_))))))
     intro w41 l42 el42 B1
     have z_l42 := l42.size; have L := L.fresh l42 (by omega); have hcu := hcu.ne l42 (by omega); have B6 := B6.ne l42 (by omega); have o9 := o9.ne l42 (by first|assumption|exact nin_of f9 g9 (by omega))
     refine c_end (n_then (wp_ret (f_retc rfl rfl ag34 B1 rfl ?_)))
     exact ⟨_, rfl, L, ⟨_, _, _, F9, _, rfl, o9.rdbf.cut (by omega), f9.mono (by omega), (by rw [List.length_take, List.length_drop]; omega), (fun q hq => hbb q (List.mem_of_mem_drop (List.mem_of_mem_take hq)))⟩, hcu⟩
    ·refine s0 (x_assign (v := .bool _) rfl) (c_end (n_then (c_false rfl (c_skipn (n_block (n_then (wp_seq (c_reg (st (x_loadAgB ag34 rfl B6 rfl) (s_storeAg rfl sz34 rfl rfl B1 rfl rfl rfl ?_))))))))))
     intro w43 l44 el44 B1
     have z_l44 := l44.size; have L := L.fresh l44 (by omega); have hcu := hcu.ne l44 (by omega); have B6 := B6.ne l44 (by omega); have o9 := o9.ne l44 (by first|assumption|exact nin_of f9 g9 (by omega))
     refine c_end (n_then (wp_ret (f_retc rfl rfl ag34 B1 rfl ?_)))
     exact ⟨_, rfl, L, ⟨_, _, _, _, bs9, rfl, o9.rdbf, f9.mono (by omega), (by omega), hbb⟩, hcu⟩

end Go.Proofs.YtepnknffaecbdaaGreat
