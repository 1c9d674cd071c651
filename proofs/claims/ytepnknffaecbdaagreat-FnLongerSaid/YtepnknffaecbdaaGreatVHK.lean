/- What each function of this part returns, for every argument that meets its premises. -/
import Derived.Test.YtepnknffaecbdaaGreatProg
import Derived.Test.YtepnknffaecbdaaGreatVSxA
import Derived.Test.YtepnknffaecbdaaGreatVTy
import Derived.Test.YtepnknffaecbdaaGreatVPlA
import Derived.Test.YtepnknffaecbdaaGreatVF5
import Derived.Test.YtepnknffaecbdaaGreatVFF
import Derived.Test.YtepnknffaecbdaaGreatVFG
import Derived.Test.YtepnknffaecbdaaGreatVFM
import Derived.Test.YtepnknffaecbdaaGreatVFQ
import Derived.Test.YtepnknffaecbdaaGreatVFV
import Derived.Test.YtepnknffaecbdaaGreatVHF
namespace Go.Proofs.YtepnknffaecbdaaGreat
open Go.Sx Go.Pl Go.RowKit
set_option maxHeartbeats 2000000 in
theorem s_l22HeaderS (b B : Nat) (w : World) (hcu : Cu w b B 104) :
    Calls Tryz.prog 126 [pt b 0].toArray w (RetM [b] w fun v w' => (∃ (za zb zq : Int) (zy zz : Bool) (p : Option Addr) (n : Nat) (xs : List Int) (c : Nat) (F : List Nat), v = .agg [.int .i64 za, .int .i64 zb, .int .i64 zq, .bool zy, .bool zz, .slice p n c].toArray ∧ Own w' p n c 3 1 (ic xs) F ∧ Fr w.heap.size F ∧ n = xs.length ∧ n = 6 ∧ sidesOk za zb) ∧ Cu w' b B 104) := by
 have hcb := hcu.lt; have L : Exm [b] w w := Exm.rfl'
 refine enter (n := 21) Tryz.func126 rfl rfl rfl ?_
 refine wp_seq (c_reg (s_alloc zr26 ?_))
 intro b1 w2 lob1 hib1 l3 B1
 have z_l3 := l3.size; have L := L.tr l3.up; have hcu := hcu.ext l3
 refine c_end (n_then (wp_seq (c_reg (s0 (x_move (v := .pointer _) rfl) ?_))))
 refine spm (zcall cl63 rfl) (s_below b _ _ _ hcu) ?_
 rintro v4 w4 l5 ⟨⟨x4, rfl, hx4⟩, hcu⟩
 have z_l5 := l5.size; have L := L.within l5 (by simp)
 have B1 := B1.ne l5 (by omega)
 refine s0 (x_add rfl rfl (by omega)) (s0 (x_mul rfl rfl (by omega)) (s0 (x_move (v := .pointer _) rfl) ?_))
 refine spm (zcall cl63 rfl) (s_below b _ _ _ hcu) ?_
 rintro v8 w6 l7 ⟨⟨x8, rfl, hx8⟩, hcu⟩
 have z_l7 := l7.size; have L := L.within l7 (by simp)
 have B1 := B1.ne l7 (by omega)
 refine s0 (x_add rfl rfl (by omega)) (s0 (x_mul rfl rfl (by omega)) (s0 (x_move (v := .pointer _) rfl) ?_))
 refine s_bsi (xs := [_, _, _, _, _, _]) so24 zr3 (pts_cons rfl (pts_cons rfl (pts_cons rfl (pts_cons rfl (pts_cons rfl (pts_cons rfl pts_nil)))))) rfl rfl rfl ?_
 intro p12 F12 w8 l9 o12 f12 g12
 have z_l9 := l9.size; have L := L.tr l9.up; have hcu := hcu.ext l9; have B1 := B1.ext l9; have hn12 := o12.n1
 refine spm (zcall cl129 rfl) (s_pick b _ _ _ _ _ _ hcu _ o12 (by first|assumption|exact nin_of f12 g12 (by omega)) (by omega)) ?_
 rintro v13 w10 l11 ⟨⟨x13, rfl, hx13⟩, hcu⟩
 have z_l11 := l11.size; have L := L.within l11 (by simp)
 have B1 := B1.ne l11 (by omega); have o12 := o12.ne l11 (by first|assumption|exact nin_of f12 g12 (by omega))
 refine s0 (x_move (v := .pointer _) rfl) ?_
 refine spm (zcall cl184 rfl) (s_once b _ _ _ hcu) ?_
 rintro v15 w12 l13 ⟨⟨x15, rfl⟩, hcu⟩
 have z_l13 := l13.size; have L := L.within l13 (by simp)
 have B1 := B1.ne l13 (by omega); have o12 := o12.ne l13 (by first|assumption|exact nin_of f12 g12 (by omega))
 refine s0 (x_move (v := .pointer _) rfl) ?_
 refine spm (zcall cl184 rfl) (s_once b _ _ _ hcu) ?_
 rintro v17 w14 l15 ⟨⟨x17, rfl⟩, hcu⟩
 have z_l15 := l15.size; have L := L.within l15 (by simp)
 have B1 := B1.ne l15 (by omega); have o12 := o12.ne l15 (by first|assumption|exact nin_of f12 g12 (by omega))
 refine s0 (x_move (v := .pointer _) rfl) ?_
 refine spm (zcall cl185 rfl) (s_l8Lens b _ _ hcu) ?_
 rintro v19 w16 l17 ⟨⟨p19, n19, xs19, c19, F19, rfl, o19, f19, rfl, hx19⟩, hcu⟩
 have z_l17 := l17.size; have L := L.within l17 (by simp)
 have B1 := B1.ne l17 (by omega); have o12 := o12.ne l17 (by first|assumption|exact nin_of f12 g12 (by omega))
 have g19 := o19.lt
 refine s0 (x_build (cs := [.int _ _, .int _ _, .int _ _, .bool _, .bool _, .slice _ _ _]) bd26 (pts_cons (v := .int _ _) rfl (pts_cons (v := .int _ _) rfl (pts_cons (v := .int _ _) rfl (pts_cons (v := .bool _) rfl (pts_cons (v := .bool _) rfl (pts_cons (v := .slice _ _ _) rfl pts_nil)))))) rfl) ?_
 refine s_storeAg rfl sz26 rfl rfl B1 rfl rfl rfl ?_
 intro w18 l19 el19 B1
 have z_l19 := l19.size; have L := L.fresh l19 (by omega); have hcu := hcu.ne l19 (by omega); have o12 := o12.ne l19 (by first|assumption|exact nin_of f12 g12 (by omega))
 have o19 := o19.ne l19 (by first|assumption|exact nin_of f19 g19 (by omega))
 refine c_end (n_then (wp_ret (f_retc rfl rfl ag26 B1 rfl ?_)))
 exact ⟨_, rfl, L, ⟨_, _, _, _, _, _, _, _, _, _, rfl, o19, f19.mono (by omega), rfl, hx19, ⟨by omega, by omega, by omega, by omega⟩⟩, hcu⟩

set_option maxHeartbeats 4000000 in
theorem s_l24Stream (b B : Nat) (w : World) (hcu : Cu w b B 104) :
    Calls Tryz.prog 62 [pt b 0].toArray w (RetM [b] w fun v w' => (∃ (a d q : Int) (y z : Bool) (r : Option Addr) (xs : List Int) (e : Nat) (F : List Nat) (p : Option Addr) (ms : List Mk) (c : Nat) (G : List Nat), v = .agg [.int .i64 a, .int .i64 d, .int .i64 q, .bool y, .bool z, .slice r xs.length e, .slice p ms.length c].toArray ∧ Own w' r xs.length e 3 1 (ic xs) F ∧ Fr w.heap.size F ∧ OwN (Km 71 3) w' 34 p ms c G ∧ Fr w.heap.size G ∧ Dj F G ∧ 1 ≤ ms.length ∧ ms.length ≤ 16 ∧ xs.length = 6 ∧ ∀ m ∈ ms, smallM 64 m) ∧ Cu w' b B 104) := by
 have hcb := hcu.lt; have L : Exm [b] w w := Exm.rfl'
 refine enter (n := 26) Tryz.func62 rfl rfl rfl ?_
 refine wp_seq (c_reg (s_alloc zr29 ?_))
 intro b1 w2 lob1 hib1 l3 B1
 have z_l3 := l3.size; have L := L.tr l3.up; have hcu := hcu.ext l3
 refine c_end (n_then (wp_seq (c_reg (s0 (x_move (v := .pointer _) rfl) ?_))))
 refine spm (zcall cl126 rfl) (s_l22HeaderS b _ _ hcu) ?_
 rintro v6 w4 l5 ⟨⟨za6, zb6, zq6, zy6, zz6, p6, n6, xs6, c6, F6, rfl, o6, f6, rfl, hx6, hs6⟩, hcu⟩
 have z_l5 := l5.size; have L := L.within l5 (by simp)
 have B1 := B1.ne l5 (by omega); have g6 := o6.lt
 refine s0 (x_build (cs := [.int _ _, .int _ _, .int _ _, .bool _, .bool _, .slice _ _ _, .slice none 0 0]) bd29 (pts_cons (v := .agg _) rfl pts_nil) fill6) ?_
 refine s_alloc zr29 ?_
 intro b6 w7 lob6 hib6 l8 B6
 have z_l8 := l8.size; have L := L.tr l8.up; have hcu := hcu.ext l8; have B1 := B1.ext l8; have o6 := o6.ext l8
 refine s_storeAg rfl sz29 rfl rfl B6 rfl rfl rfl ?_
 intro w9 l10 el10 B6
 have z_l10 := l10.size; have L := L.fresh l10 (by omega); have hcu := hcu.ne l10 (by omega); have B1 := B1.ne l10 (by omega); have o6 := o6.ne l10 (by first|assumption|exact nin_of f6 g6 (by omega))
 refine c_end (n_then (wp_seq (wp_seq ?_)))
 have hmr := many_range hs6; have h8a := hs6.1; have h8b := hs6.2.1; have hm1 : 1 ≤ za6 / 8 * (zb6 / 8) := Int.mul_le_mul (show (1 : Int) ≤ za6 / 8 by omega) (show (1 : Int) ≤ zb6 / 8 by omega) (by decide) (by omega)
 refine c_reg (s0 (xaI rfl) (c_end (n_then (wp_block ?_))))
 refine c_loop (γ := Nat × List Mk) (fun g => (za6 / 8 * (zb6 / 8)).toNat - g.1) (fun (g : Nat × List Mk) E wl => ∃ E0 pz900 cz900 Fz900, E = upd (upd (upd (upd E0 0 (pt b 0)) 2 (pt b1 0)) 3 (pt b6 0)) 4 (.int .i64 (g.1 : Int)) ∧ (Exm [b] w wl) ∧ (w9.heap.size ≤ wl.heap.size) ∧ (Cu wl b B 104) ∧ (Bx wl b1 [.int .i64 0, .int .i64 0, .int .i64 0, .bool false, .bool false, .slice none 0 0, .slice none 0 0] 29) ∧ (Bx wl b6 [.int .i64 za6, .int .i64 zb6, .int .i64 zq6, .bool zy6, .bool zz6, .slice p6 xs6.length c6, .slice pz900 g.2.length cz900] 29) ∧ (Own wl p6 xs6.length c6 3 1 (ic xs6) F6) ∧ (OwN (Km 71 3) wl 34 pz900 (g.2) cz900 Fz900) ∧ (Fr (w9.heap.size) Fz900) ∧ (Lt Fz900 wl.heap.size) ∧ (b ∉ Fz900) ∧ (b1 ∉ Fz900) ∧ (b6 ∉ Fz900) ∧ (Dj F6 Fz900) ∧ ((g.1 : Int) ≤ za6 / 8 * (zb6 / 8)) ∧ (g.2.length = g.1) ∧ (∀ m ∈ g.2, smallM 64 m)) (0, []) ⟨_, _, _, _, upd_self4 rfl rfl rfl rfl, L, (by omega), hcu, B1, B6, o6, OwN.nil, Fr.no, Lt.no, (by simp), (by simp), (by simp), dj_nil', (by show ((0 : Nat) : Int) ≤ _; omega), rfl, (by intro q hq; simp at hq)⟩ ?_
 rintro g E wl11 ⟨E0, pz900, cz900, Fz900, rfl, L, Lz, hcu, B1, B6, o6, oz900, fz900, gz900, ab_z900, ab1_z900, ab6_z900, d6_z900, hk, hgl, hbs⟩
 have Lz0 := L.size
 refine wp_seq (wp_seq (c_reg (s0 (xmI rfl) (s0 (x_fieldAddr fa29_0 rfl) (st (x_loadIn ag26 rfl B6 [.int _ _, .int _ _, .int _ _, .bool _, .bool _, .slice _ _ _] rfl rfl) ?_)))))
 refine sr (zcall cl30 rfl) (s_count _ _ _ _ _ _ _ _ _ hs6) ?_
 intro w12 l13
 have z_l13 := l13.size; have L := L.tr l13.up; have hcu := hcu.ext l13; have B1 := B1.ext l13; have B6 := B6.ext l13; have o6 := o6.ext l13; have oz900 := oz900.ext l13
 refine sb (x_lss rfl rfl) (fun h12 => ?_) (fun h12 => ?_)
 ·refine c_end (n_then (c_true rfl (c_skipn (n_then (wp_seq (wp_block ?_))))))
  refine c_plan (fun wq => Exm [b] w12 wq) 8 (.cons (0, 2) (.cons (1, 1) (.cons (2, 2) (.cons (3, 2) (.cons (4, 2) (.cons (5, 1) (.cons (6, 0) (.cons (7, 0) (.cons (8, 0) (.cons (9, 0) (.cons (10, 0) .nil))))))))))) (by kernel_rfl) (by kernel_rfl) (Exm.drew _) ?_
  obtain ⟨w14, hwd⟩ : ∃ x, x = w12.drew := ⟨_, rfl⟩
  have l15 : Ext w12 w14 := by rw [hwd]; exact Exm.drew _
  rw [← hwd]; clear hwd
  have Lq : Exm [b] w12 w14 := l15.up; have qB6 := B6; have z_l15 := l15.size; have L := L.tr l15.up; have hcu := hcu.ext l15; have B1 := B1.ext l15; have B6 := B6.ext l15; have o6 := o6.ext l15; have oz900 := oz900.ext l15
  refine p0 rfl (x_fieldAddr fa29_1 rfl) ?_
  refine ps rfl (fun wq hwq => x_loadB sc27 rfl (qB6.ne hwq (by omega)) rfl) ?_
  refine p0 rfl (x_move (v := .pointer _) rfl) (p0 rfl (x_fieldAddr fa29_0 rfl) (p0 rfl (x_fieldAddr fa26_5 rfl) ?_))
  refine ps rfl (fun wq hwq => x_loadB sc24 rfl (qB6.ne hwq (by omega)) rfl) ?_
  refine pu rfl ?_
  refine spm (zcall cl127 rfl) (s_l23Mb b _ _ _ _ _ _ hcu o6.rdf (by first|assumption|exact nin_of f6 g6 (by omega)) (by omega)) ?_
  rintro v21 w16 l17 ⟨⟨e21, p21, c21, F21, bs21, rfl, o21, f21, hm21, hb21⟩, hcu⟩
  have z_l17 := l17.size; have L := L.within l17 (by simp)
  have Lq := Lq.within l17 (by simp)
  have B1 := B1.ne l17 (by omega); have B6 := B6.ne l17 (by omega); have o6 := o6.ne l17 (by first|assumption|exact nin_of f6 g6 (by omega))
  have oz900 := oz900.ne l17 (by first|assumption|exact nin_of fz900 gz900 (by omega))
  have g21 := o21.lt
  refine c_end ⟨rfl, fun h hS => Lq, ?_⟩
  refine pu rfl ?_
  refine s_bsr (g := fun x => .agg (mrow x).toArray) (xs := [(⟨e21, p21, bs21, c21, F21⟩ : Mk)]) (fun _ => rfl) mrow_len so27 zr34 (pts_cons rfl pts_nil) rfl rfl rfl ?_
  intro p22 F22 w18 l19 o22 f22 g22
  have z_l19 := l19.size; have L := L.tr l19.up; have Lq := Lq.tr l19.up; have hcu := hcu.ext l19; have B1 := B1.ext l19; have B6 := B6.ext l19; have o6 := o6.ext l19; have oz900 := oz900.ext l19; have o21 := o21.ext l19; have hn22 := o22.nr mrow_len (by decide)
  refine c_end ⟨rfl, fun h hS => Lq, ?_⟩
  refine pu rfl ?_
  refine s_appN (B := w9.heap.size) (K := (Km 71 3)) (v := (⟨e21, p21, bs21, c21, F21⟩ : Mk)) so27 zr34 rfl rfl rfl rfl oz900 o22.sl o21 (by first|assumption|exact Dj.symm (by assumption)|exact dj_of f21 g21 fz900 gz900 (by omega)) fz900 (by omega) (f21.mono (by omega)) (by omega) (by omega) ?_
  intro p23 c23 F23 w20 l21 o23 k23 f23 g23
  have ab_23 : b ∉ F23 := k23.nin (by simp only [List.mem_append, not_or]; exact ⟨(by first|assumption|exact nin_of fz900 gz900 (by omega)), (by first|assumption|exact nin_of f21 g21 (by omega))⟩) (by omega)
  have hcu := hcu.exm l21 (by first|assumption|exact nin_of fz900 gz900 (by omega)) (fz900.mono (by omega))
  have ab1_23 : b1 ∉ F23 := k23.nin (by simp only [List.mem_append, not_or]; exact ⟨(by first|assumption|exact nin_of fz900 gz900 (by omega)), (by first|assumption|exact nin_of f21 g21 (by omega))⟩) (by omega)
  have B1 := B1.exm l21 (by first|assumption|exact nin_of fz900 gz900 (by omega))
  have ab6_23 : b6 ∉ F23 := k23.nin (by simp only [List.mem_append, not_or]; exact ⟨(by first|assumption|exact nin_of fz900 gz900 (by omega)), (by first|assumption|exact nin_of f21 g21 (by omega))⟩) (by omega)
  have B6 := B6.exm l21 (by first|assumption|exact nin_of fz900 gz900 (by omega))
  have z_l21 := l21.size; have L := L.freshL l21 fz900 (by omega); have d6_23 : Dj F6 F23 := k23.dj (dj_app' (by first|assumption|exact Dj.symm (by assumption)|exact dj_of f6 g6 fz900 gz900 (by omega)) (by first|assumption|exact Dj.symm (by assumption)|exact dj_of f6 g6 f21 g21 (by omega))) g6 (by omega)
  have o6 := o6.exm l21 (by first|assumption|exact Dj.symm (by assumption)|exact dj_of fz900 gz900 f6 g6 (by omega))
  have d22_23 : Dj F22 F23 := k23.dj (dj_app' (by first|assumption|exact Dj.symm (by assumption)|exact dj_of f22 g22 fz900 gz900 (by omega)) (by first|assumption|exact Dj.symm (by assumption)|exact dj_of f22 g22 f21 g21 (by omega))) g22 (by omega)
  have o22 := o22.exm l21 (by first|assumption|exact Dj.symm (by assumption)|exact dj_of fz900 gz900 f22 g22 (by omega))
  refine c_end ⟨rfl, fun h hS => absurd h (by decide), ?_⟩
  refine pu rfl (s0 (x_fieldAddr fa29_1 rfl) ?_)
  refine c_end ⟨rfl, fun h hS => absurd h (by decide), ?_⟩
  refine pu rfl ?_
  refine s_store (v := .slice _ _ _) (cs' := [_, _, _, _, _, _, _]) rfl sz27 rfl rfl rfl rfl B6 rfl rfl ?_
  intro w22 l23 el23 B6
  have z_l23 := l23.size; have L := L.fresh l23 (by omega); have hcu := hcu.ne l23 (by omega); have B1 := B1.ne l23 (by omega); have o6 := o6.ne l23 (by first|assumption|exact nin_of f6 g6 (by omega))
  have o22 := o22.ne l23 (by first|assumption|exact nin_of f22 g22 (by omega))
  have o23 := o23.ne l23 (by first|assumption|exact nin_of f23 g23 (by omega))
  refine c_end ⟨rfl, fun h hS => absurd h (by decide), ?_⟩
  refine p_nil (np_normal ?_)
  refine n_block (n_then (c_reg (s0 (xmI rfl) (s0 (x_add rfl rfl (by omega)) (s0 (xaI rfl) (c_end ?_))))))
  have hmo := manyOf_in e21
  have hy2 : smallM 64 (⟨e21, p21, bs21, c21, F21⟩ : Mk) := ⟨by show bs21.length ≤ 64; omega, fun q hq => by have := hb21 q hq; omega⟩
  exact c_round (g' := (g.1 + 1, g.2 ++ [(⟨e21, p21, bs21, c21, F21⟩ : Mk)])) (by show (za6 / 8 * (zb6 / 8)).toNat - (g.1 + 1) < (za6 / 8 * (zb6 / 8)).toNat - g.1; omega) ⟨_, _, _, _, upd_self4 rfl rfl rfl (vint (by show _ = ((g.1 + 1 : Nat) : Int); omega)), L, (by omega), hcu, B1, B6, o6, o23, (f23.mono (by omega)), (g23.mono (by omega)), (by first|assumption|exact nin_of f23 g23 (by omega)), (by first|assumption|exact nin_of f23 g23 (by omega)), (by first|assumption|exact nin_of f23 g23 (by omega)), (by first|assumption|exact Dj.symm (by assumption)|exact dj_of f6 g6 f23 g23 (by omega)), (by show ((g.1 + 1 : Nat) : Int) ≤ _; omega), (by show (g.2 ++ [_]).length = g.1 + 1; rw [List.length_append, hgl]; rfl), (by intro q hq; rcases List.mem_append.1 hq with h | h; exact hbs q h; rw [List.mem_singleton.1 h]; exact hy2)⟩
 ·refine c_end (n_then (c_false rfl ?_))
  refine wp_exit (e_then (e_then (e_here ?_)))
  refine n_then (wp_seq (c_reg (st (x_loadAgB ag29 rfl B6 rfl) (s_storeAg rfl sz29 rfl rfl B1 rfl rfl rfl ?_))))
  intro w24 l25 el25 B1
  have z_l25 := l25.size; have L := L.fresh l25 (by omega); have hcu := hcu.ne l25 (by omega); have B6 := B6.ne l25 (by omega); have o6 := o6.ne l25 (by first|assumption|exact nin_of f6 g6 (by omega))
  have oz900 := oz900.ne l25 (by first|assumption|exact nin_of fz900 gz900 (by omega))
  refine c_end (n_then (wp_ret (f_retc rfl rfl ag29 B1 rfl ?_)))
  exact ⟨_, rfl, L, ⟨_, _, _, _, _, _, _, _, F6, _, g.2, _, Fz900, rfl, o6, f6.mono (by omega), oz900, fz900.mono (by omega), (by first|assumption|exact Dj.symm (by assumption)|exact dj_of f6 g6 fz900 gz900 (by omega)), (by omega), (by omega), (by omega), hbs⟩, hcu⟩

set_option maxHeartbeats 2000000 in
theorem s_l22Any (b B : Nat) (w : World) (hcu : Cu w b B 104) :
    Calls Tryz.prog 64 [pt b 0].toArray w (RetM [b] w fun v w' => (∃ (za zb zq : Int) (zy zz : Bool) (p : Option Addr) (n : Nat) (xs : List Int) (c : Nat) (F : List Nat), v = .agg [.int .i64 za, .int .i64 zb, .int .i64 zq, .bool zy, .bool zz, .slice p n c].toArray ∧ Rdf w' p n c 1 (ic xs) F ∧ Fr w.heap.size F ∧ n = xs.length ∧ n ≤ 6) ∧ Cu w' b B 104) := by
 have hcb := hcu.lt; have L : Exm [b] w w := Exm.rfl'
 refine enter (n := 26) Tryz.func64 rfl rfl rfl ?_
 refine wp_seq (c_reg (s_alloc zr26 ?_))
 intro b1 w2 lob1 hib1 l3 B1
 have z_l3 := l3.size; have L := L.tr l3.up; have hcu := hcu.ext l3
 refine c_end (n_then (wp_seq (c_reg (s0 (x_move (v := .pointer _) rfl) ?_))))
 refine spm (zcall cl126 rfl) (s_l22Header b _ _ hcu) ?_
 rintro v5 w4 l5 ⟨⟨za5, zb5, zq5, zy5, zz5, p5, n5, xs5, c5, F5, rfl, o5, f5, rfl, hx5⟩, hcu⟩
 have z_l5 := l5.size; have L := L.within l5 (by simp)
 have B1 := B1.ne l5 (by omega); have g5 := o5.lt
 refine s_alloc zr26 ?_
 intro b6 w7 lob6 hib6 l8 B6
 have z_l8 := l8.size; have L := L.tr l8.up; have hcu := hcu.ext l8; have B1 := B1.ext l8; have o5 := o5.ext l8
 refine s_storeAg rfl sz26 rfl rfl B6 rfl rfl rfl ?_
 intro w9 l10 el10 B6
 have z_l10 := l10.size; have L := L.fresh l10 (by omega); have hcu := hcu.ne l10 (by omega); have B1 := B1.ne l10 (by omega); have o5 := o5.ne l10 (by first|assumption|exact nin_of f5 g5 (by omega))
 refine c_end (n_then (wp_seq (wp_seq (c_reg (s0 (x_move (v := .pointer _) rfl) ?_)))))
 refine spm (zcall cl63 rfl) (s_below b _ _ _ hcu) ?_
 rintro v7 w11 l12 ⟨⟨x7, rfl, hx7⟩, hcu⟩
 have z_l12 := l12.size; have L := L.within l12 (by simp)
 have B1 := B1.ne l12 (by omega); have B6 := B6.ne l12 (by omega); have o5 := o5.ne l12 (by first|assumption|exact nin_of f5 g5 (by omega))
 refine c_end (n_then (wp_block (wp_seq (c_reg ?_))))
 refine sb (x_eql rfl rfl) (fun h9 => ?_) (fun h9 => ?_)
 ·refine s0 (x_assign (v := .bool _) rfl) (c_end (n_then (c_true rfl (c_reg (s0 (x_move (v := .pointer _) rfl) ?_)))))
  refine s_bsi (xs := [_, _, _, _]) so24 zr3 (pts_cons rfl (pts_cons rfl (pts_cons rfl (pts_cons rfl pts_nil)))) rfl rfl rfl ?_
  intro p11 F11 w13 l14 o11 f11 g11
  have z_l14 := l14.size; have L := L.tr l14.up; have hcu := hcu.ext l14; have B1 := B1.ext l14; have B6 := B6.ext l14; have o5 := o5.ext l14; have hn11 := o11.n1
  refine spm (zcall cl129 rfl) (s_pick b _ _ _ _ _ _ hcu _ o11 (by first|assumption|exact nin_of f11 g11 (by omega)) (by omega)) ?_
  rintro v12 w15 l16 ⟨⟨x12, rfl, hx12⟩, hcu⟩
  have z_l16 := l16.size; have L := L.within l16 (by simp)
  have B1 := B1.ne l16 (by omega); have B6 := B6.ne l16 (by omega); have o5 := o5.ne l16 (by first|assumption|exact nin_of f5 g5 (by omega))
  have o11 := o11.ne l16 (by first|assumption|exact nin_of f11 g11 (by omega))
  refine s0 (x_fieldAddr fa26_0 rfl) ?_
  refine s_store (v := .int _ _) (cs' := [_, _, _, _, _, _]) rfl sz3 rfl rfl rfl rfl B6 rfl rfl ?_
  intro w17 l18 el18 B6
  have z_l18 := l18.size; have L := L.fresh l18 (by omega); have hcu := hcu.ne l18 (by omega); have B1 := B1.ne l18 (by omega); have o5 := o5.ne l18 (by first|assumption|exact nin_of f5 g5 (by omega))
  have o11 := o11.ne l18 (by first|assumption|exact nin_of f11 g11 (by omega))
  refine c_end (n_block (n_then (wp_seq (c_reg (st (x_loadAgB ag26 rfl B6 rfl) (s_storeAg rfl sz26 rfl rfl B1 rfl rfl rfl ?_))))))
  intro w19 l20 el20 B1
  have z_l20 := l20.size; have L := L.fresh l20 (by omega); have hcu := hcu.ne l20 (by omega); have B6 := B6.ne l20 (by omega); have o5 := o5.ne l20 (by first|assumption|exact nin_of f5 g5 (by omega))
  have o11 := o11.ne l20 (by first|assumption|exact nin_of f11 g11 (by omega))
  refine c_end (n_then (wp_ret (f_retc rfl rfl ag26 B1 rfl ?_)))
  exact ⟨_, rfl, L, ⟨_, _, _, _, _, _, _, _, _, _, rfl, o5.rdf, f5.mono (by omega), rfl, (by omega)⟩, hcu⟩
 ·refine s0 (x_assign (v := .bool _) rfl) (c_end (n_then (c_false rfl (wp_seq (c_reg ?_)))))
  refine sb (x_eql rfl rfl) (fun h15 => ?_) (fun h15 => ?_)
  ·refine s0 (x_assign (v := .bool _) rfl) (c_end (n_then (c_true rfl (c_reg (s0 (x_move (v := .pointer _) rfl) ?_)))))
   refine s_bsi (xs := [_, _, _]) so24 zr3 (pts_cons rfl (pts_cons rfl (pts_cons rfl pts_nil))) rfl rfl rfl ?_
   intro p17 F17 w21 l22 o17 f17 g17
   have z_l22 := l22.size; have L := L.tr l22.up; have hcu := hcu.ext l22; have B1 := B1.ext l22; have B6 := B6.ext l22; have o5 := o5.ext l22; have hn17 := o17.n1
   refine spm (zcall cl129 rfl) (s_pick b _ _ _ _ _ _ hcu _ o17 (by first|assumption|exact nin_of f17 g17 (by omega)) (by omega)) ?_
   rintro v18 w23 l24 ⟨⟨x18, rfl, hx18⟩, hcu⟩
   have z_l24 := l24.size; have L := L.within l24 (by simp)
   have B1 := B1.ne l24 (by omega); have B6 := B6.ne l24 (by omega); have o5 := o5.ne l24 (by first|assumption|exact nin_of f5 g5 (by omega))
   have o17 := o17.ne l24 (by first|assumption|exact nin_of f17 g17 (by omega))
   refine s0 (x_fieldAddr fa26_2 rfl) ?_
   refine s_store (v := .int _ _) (cs' := [_, _, _, _, _, _]) rfl sz3 rfl rfl rfl rfl B6 rfl rfl ?_
   intro w25 l26 el26 B6
   have z_l26 := l26.size; have L := L.fresh l26 (by omega); have hcu := hcu.ne l26 (by omega); have B1 := B1.ne l26 (by omega); have o5 := o5.ne l26 (by first|assumption|exact nin_of f5 g5 (by omega))
   have o17 := o17.ne l26 (by first|assumption|exact nin_of f17 g17 (by omega))
   refine c_end (n_block (n_then (wp_seq (c_reg (st (x_loadAgB ag26 rfl B6 rfl) (s_storeAg rfl sz26 rfl rfl B1 rfl rfl rfl ?_))))))
   intro w27 l28 el28 B1
   have z_l28 := l28.size; have L := L.fresh l28 (by omega); have hcu := hcu.ne l28 (by omega); have B6 := B6.ne l28 (by omega); have o5 := o5.ne l28 (by first|assumption|exact nin_of f5 g5 (by omega))
   have o17 := o17.ne l28 (by first|assumption|exact nin_of f17 g17 (by omega))
   refine c_end (n_then (wp_ret (f_retc rfl rfl ag26 B1 rfl ?_)))
   exact ⟨_, rfl, L, ⟨_, _, _, _, _, _, _, _, _, _, rfl, o5.rdf, f5.mono (by omega), rfl, (by omega)⟩, hcu⟩
  ·refine s0 (x_assign (v := .bool _) rfl) (c_end (n_then (c_false rfl (wp_seq (c_reg ?_)))))
   refine sb (x_eql rfl rfl) (fun h21 => ?_) (fun h21 => ?_)
   ·refine s0 (x_assign (v := .bool _) rfl) (c_end (n_then (c_true rfl (c_reg (s0 (x_move (v := .pointer _) rfl) ?_)))))
    refine spm (zcall cl130 rfl) (s_l8Any b _ _ hcu) ?_
    rintro v23 w29 l30 ⟨⟨p23, n23, xs23, c23, F23, rfl, o23, f23, rfl, hx23⟩, hcu⟩
    have z_l30 := l30.size; have L := L.within l30 (by simp)
    have B1 := B1.ne l30 (by omega); have B6 := B6.ne l30 (by omega); have o5 := o5.ne l30 (by first|assumption|exact nin_of f5 g5 (by omega))
    have g23 := o23.lt
    refine s0 (x_fieldAddr fa26_5 rfl) ?_
    refine s_store (v := .slice _ _ _) (cs' := [_, _, _, _, _, _]) rfl sz24 rfl rfl rfl rfl B6 rfl rfl ?_
    intro w31 l32 el32 B6
    have z_l32 := l32.size; have L := L.fresh l32 (by omega); have hcu := hcu.ne l32 (by omega); have B1 := B1.ne l32 (by omega); have o5 := o5.ne l32 (by first|assumption|exact nin_of f5 g5 (by omega))
    have o23 := o23.ne l32 (by first|assumption|exact nin_of f23 g23 (by omega))
    refine c_end (n_block (n_then (wp_seq (c_reg (st (x_loadAgB ag26 rfl B6 rfl) (s_storeAg rfl sz26 rfl rfl B1 rfl rfl rfl ?_))))))
    intro w33 l34 el34 B1
    have z_l34 := l34.size; have L := L.fresh l34 (by omega); have hcu := hcu.ne l34 (by omega); have B6 := B6.ne l34 (by omega); have o5 := o5.ne l34 (by first|assumption|exact nin_of f5 g5 (by omega))
    have o23 := o23.ne l34 (by first|assumption|exact nin_of f23 g23 (by omega))
    refine c_end (n_then (wp_ret (f_retc rfl rfl ag26 B1 rfl ?_)))
    exact ⟨_, rfl, L, ⟨_, _, _, _, _, _, _, _, _, _, rfl, o23, f23.mono (by omega), rfl, (by omega)⟩, hcu⟩
   ·refine s0 (x_assign (v := .bool _) rfl) (c_end (n_then (c_false rfl (c_skipn (n_block (n_then (wp_seq (c_reg (st (x_loadAgB ag26 rfl B6 rfl) (s_storeAg rfl sz26 rfl rfl B1 rfl rfl rfl ?_))))))))))
    intro w35 l36 el36 B1
    have z_l36 := l36.size; have L := L.fresh l36 (by omega); have hcu := hcu.ne l36 (by omega); have B6 := B6.ne l36 (by omega); have o5 := o5.ne l36 (by first|assumption|exact nin_of f5 g5 (by omega))
    refine c_end (n_then (wp_ret (f_retc rfl rfl ag26 B1 rfl ?_)))
    exact ⟨_, rfl, L, ⟨_, _, _, _, _, _, _, _, _, _, rfl, o5.rdf, f5.mono (by omega), rfl, (by omega)⟩, hcu⟩

set_option maxHeartbeats 4000000 in
theorem s_l24Any (b B : Nat) (w : World) (hcu : Cu w b B 104) :
    Calls Tryz.prog 26 [pt b 0].toArray w (RetM [b] w fun v w' => (∃ (a d q : Int) (y z : Bool) (r : Option Addr) (xs : List Int) (e : Nat) (F : List Nat) (p : Option Addr) (ms : List Mk) (c : Nat) (G : List Nat), v = .agg [.int .i64 a, .int .i64 d, .int .i64 q, .bool y, .bool z, .slice r xs.length e, .slice p ms.length c].toArray ∧ Rdf w' r xs.length e 1 (ic xs) F ∧ Fr w.heap.size F ∧ RdMF w' p ms c G ∧ Fr w.heap.size G ∧ ms.length ≤ 16 ∧ xs.length ≤ 6 ∧ ∀ m ∈ ms, smallM 64 m) ∧ Cu w' b B 104) := by
 have hcb := hcu.lt; have L : Exm [b] w w := Exm.rfl'
 refine enter (n := 30) Tryz.func26 rfl rfl rfl ?_
 refine wp_seq (c_reg (s_alloc zr29 ?_))
 intro b1 w2 lob1 hib1 l3 B1
 have z_l3 := l3.size; have L := L.tr l3.up; have hcu := hcu.ext l3
 refine c_end (n_then (wp_seq (c_reg (s0 (x_move (v := .pointer _) rfl) ?_))))
 refine spm (zcall cl62 rfl) (s_l24Stream b _ _ hcu) ?_
 rintro v5 w4 l5 ⟨⟨za5, zb5, zq5, zy5, zz5, p5, xs5, c5, F5, p5m, ms5, c5m, F5m, rfl, o5, f5, o5m, f5m, dj5, h15, hn5, hx5, hb5⟩, hcu⟩
 have z_l5 := l5.size; have L := L.within l5 (by simp)
 have B1 := B1.ne l5 (by omega); have g5 := o5.lt; have g5m := o5m.lt
 refine s_alloc zr29 ?_
 intro b6 w7 lob6 hib6 l8 B6
 have z_l8 := l8.size; have L := L.tr l8.up; have hcu := hcu.ext l8; have B1 := B1.ext l8; have o5 := o5.ext l8; have o5m := o5m.ext l8
 refine s_storeAg rfl sz29 rfl rfl B6 rfl rfl rfl ?_
 intro w9 l10 el10 B6
 have z_l10 := l10.size; have L := L.fresh l10 (by omega); have hcu := hcu.ne l10 (by omega); have B1 := B1.ne l10 (by omega); have o5 := o5.ne l10 (by first|assumption|exact nin_of f5 g5 (by omega))
 have o5m := o5m.ne l10 (by first|assumption|exact nin_of f5m g5m (by omega))
 refine c_end (n_then (wp_seq (wp_seq (c_reg (s0 (x_move (v := .pointer _) rfl) ?_)))))
 refine spm (zcall cl63 rfl) (s_below b _ _ _ hcu) ?_
 rintro v7 w11 l12 ⟨⟨x7, rfl, hx7⟩, hcu⟩
 have z_l12 := l12.size; have L := L.within l12 (by simp)
 have B1 := B1.ne l12 (by omega); have B6 := B6.ne l12 (by omega); have o5 := o5.ne l12 (by first|assumption|exact nin_of f5 g5 (by omega))
 have o5m := o5m.ne l12 (by first|assumption|exact nin_of f5m g5m (by omega))
 refine c_end (n_then (wp_block (wp_seq (c_reg ?_))))
 refine sb (x_eql rfl rfl) (fun h9 => ?_) (fun h9 => ?_)
 ·refine s0 (x_assign (v := .bool _) rfl) (c_end (n_then (c_true rfl (c_reg (s0 (x_move (v := .pointer _) rfl) ?_)))))
  refine spm (zcall cl64 rfl) (s_l22Any b _ _ hcu) ?_
  rintro v11 w13 l14 ⟨⟨za11, zb11, zq11, zy11, zz11, p11, n11, xs11, c11, F11, rfl, o11, f11, rfl, hx11⟩, hcu⟩
  have z_l14 := l14.size; have L := L.within l14 (by simp)
  have B1 := B1.ne l14 (by omega); have B6 := B6.ne l14 (by omega); have o5 := o5.ne l14 (by first|assumption|exact nin_of f5 g5 (by omega))
  have o5m := o5m.ne l14 (by first|assumption|exact nin_of f5m g5m (by omega))
  have g11 := o11.lt
  refine s0 (x_fieldAddr fa29_0 rfl) ?_
  refine s_storeIn (cs' := [_, _, _, _, _, _, _]) (vs := [.int _ _, .int _ _, .int _ _, .bool _, .bool _, .slice _ _ _]) rfl sz26 rfl rfl B6 rfl (Nat.le_of_ble_eq_true rfl) rfl rfl ?_
  intro w15 l16 el16 B6
  have z_l16 := l16.size; have L := L.fresh l16 (by omega); have hcu := hcu.ne l16 (by omega); have B1 := B1.ne l16 (by omega); have o5 := o5.ne l16 (by first|assumption|exact nin_of f5 g5 (by omega))
  have o5m := o5m.ne l16 (by first|assumption|exact nin_of f5m g5m (by omega))
  have o11 := o11.ne l16 (by first|assumption|exact nin_of f11 g11 (by omega))
  refine c_end (n_block (n_then (wp_seq (c_reg (st (x_loadAgB ag29 rfl B6 rfl) (s_storeAg rfl sz29 rfl rfl B1 rfl rfl rfl ?_))))))
  intro w17 l18 el18 B1
  have z_l18 := l18.size; have L := L.fresh l18 (by omega); have hcu := hcu.ne l18 (by omega); have B6 := B6.ne l18 (by omega); have o5 := o5.ne l18 (by first|assumption|exact nin_of f5 g5 (by omega))
  have o5m := o5m.ne l18 (by first|assumption|exact nin_of f5m g5m (by omega))
  have o11 := o11.ne l18 (by first|assumption|exact nin_of f11 g11 (by omega))
  refine c_end (n_then (wp_ret (f_retc rfl rfl ag29 B1 rfl ?_)))
  exact ⟨_, rfl, L, ⟨_, _, _, _, _, _, _, _, _, _, ms5, _, _, rfl, o11, f11.mono (by omega), o5m.rdmf, f5m.mono (by omega), (by omega), (by omega), hb5⟩, hcu⟩
 ·refine s0 (x_assign (v := .bool _) rfl) (c_end (n_then (c_false rfl (wp_seq (c_reg ?_)))))
  refine sb (x_eql rfl rfl) (fun h14 => ?_) (fun h14 => ?_)
  ·refine s0 (x_assign (v := .bool _) rfl) (c_end (n_then (c_true rfl ?_)))
   refine c_plan (fun wq => Exm [b] w11 wq) 8 (.cons (0, 2) (.cons (1, 1) (.cons (2, 2) (.cons (3, 2) (.cons (4, 2) (.cons (5, 1) (.cons (6, 0) (.cons (7, 2) (.cons (8, 0) .nil))))))))) (by kernel_rfl) (by kernel_rfl) (Exm.drew _) ?_
   obtain ⟨w19, hwd⟩ : ∃ x, x = w11.drew := ⟨_, rfl⟩
   have l20 : Ext w11 w19 := by rw [hwd]; exact Exm.drew _
   rw [← hwd]; clear hwd
   have Lq : Exm [b] w11 w19 := l20.up; have qB6 := B6; have z_l20 := l20.size; have L := L.tr l20.up; have hcu := hcu.ext l20; have B1 := B1.ext l20; have B6 := B6.ext l20; have o5 := o5.ext l20; have o5m := o5m.ext l20
   refine p0 rfl (x_fieldAddr fa29_1 rfl) ?_
   refine ps rfl (fun wq hwq => x_loadB sc27 rfl (qB6.ne hwq (by omega)) rfl) ?_
   refine p0 rfl (x_move (v := .pointer _) rfl) (p0 rfl (x_fieldAddr fa29_0 rfl) (p0 rfl (x_fieldAddr fa26_5 rfl) ?_))
   refine ps rfl (fun wq hwq => x_loadB sc24 rfl (qB6.ne hwq (by omega)) rfl) ?_
   refine pu rfl ?_
   refine spm (zcall cl65 rfl) (s_l23AnyMb b _ _ _ _ _ _ hcu o5.rdf (by first|assumption|exact nin_of f5 g5 (by omega)) (by omega)) ?_
   rintro v21 w21 l22 ⟨⟨e21, p21, c21, F21, bs21, rfl, o21, f21, hl21, hb21⟩, hcu⟩
   have z_l22 := l22.size; have L := L.within l22 (by simp)
   have Lq := Lq.within l22 (by simp)
   have B1 := B1.ne l22 (by omega); have B6 := B6.ne l22 (by omega); have o5 := o5.ne l22 (by first|assumption|exact nin_of f5 g5 (by omega))
   have o5m := o5m.ne l22 (by first|assumption|exact nin_of f5m g5m (by omega))
   have g21 := o21.lt
   refine c_end ⟨rfl, fun h hS => Lq, ?_⟩
   refine p0 rfl (x_idx so27 rfl rfl o5m.sl (by decide) (by omega) (by omega)) (pu rfl ?_)
   refine s_stoMX (v := (⟨e21, p21, bs21, c21, F21⟩ : Mk)) rfl sz34 rfl rfl o5m o21 (by first|assumption|exact Dj.symm (by assumption)|exact dj_of f5m g5m f21 g21 (by omega)) (by omega) (by omega) ?_
   intro w23 l24 el24 oX
   obtain ⟨FX, hFX⟩ : ∃ x, x = F5m ++ F21 := ⟨_, rfl⟩
   rw [← hFX] at oX
   have fX : Fr (w2.heap.size) FX := by rw [hFX]; exact fr_app f5m (f21.mono (by omega))
   have ab_X : b ∉ FX := by rw [hFX]; exact nin_app (by first|assumption|exact nin_of f5m g5m (by omega)) (by first|assumption|exact nin_of f21 g21 (by omega))
   have ab1_X : b1 ∉ FX := by rw [hFX]; exact nin_app (by first|assumption|exact nin_of f5m g5m (by omega)) (by first|assumption|exact nin_of f21 g21 (by omega))
   have ab6_X : b6 ∉ FX := by rw [hFX]; exact nin_app (by first|assumption|exact nin_of f5m g5m (by omega)) (by first|assumption|exact nin_of f21 g21 (by omega))
   have z_l24 := l24.size; have L := L.freshL l24 f5m (by omega); have hcu := hcu.exm l24 (by first|assumption|exact nin_of f5m g5m (by omega)) (f5m.mono (by omega))
   have B1 := B1.exm l24 (by first|assumption|exact nin_of f5m g5m (by omega))
   have B6 := B6.exm l24 (by first|assumption|exact nin_of f5m g5m (by omega))
   have o5 := o5.exm l24 (by first|assumption|exact Dj.symm (by assumption)|exact dj_of f5m g5m f5 g5 (by omega))
   have gX := oX.lt
   refine c_end ⟨rfl, fun h hS => absurd h (by decide), ?_⟩
   refine p_nil (np_normal ?_)
   refine n_block (n_then (wp_seq (c_reg (st (x_loadAgB ag29 rfl B6 rfl) (s_storeAg rfl sz29 rfl rfl B1 rfl rfl rfl ?_)))))
   intro w25 l26 el26 B1
   have z_l26 := l26.size; have L := L.fresh l26 (by omega); have hcu := hcu.ne l26 (by omega); have B6 := B6.ne l26 (by omega); have o5 := o5.ne l26 (by first|assumption|exact nin_of f5 g5 (by omega))
   have oX := oX.ne l26 (by first|assumption|exact nin_of fX gX (by omega))
   refine c_end (n_then (wp_ret (f_retc rfl rfl ag29 B1 rfl ?_)))
   exact ⟨_, rfl, L, ⟨_, _, _, _, _, _, _, _, _, _, _, _, _, (by rw [List.length_set]), o5.rdf, f5.mono (by omega), oX, fX.mono (by omega), (by rw [List.length_set]; omega), (by omega), (fun q hq => by rcases List.mem_or_eq_of_mem_set hq with h | h; exact hb5 q h; rw [h]; exact ⟨by show bs21.length ≤ 64; omega, fun u hu => hb21 u hu⟩)⟩, hcu⟩
  ·refine s0 (x_assign (v := .bool _) rfl) (c_end (n_then (c_false rfl (wp_seq (c_reg ?_)))))
   refine sb (x_eql rfl rfl) (fun h24 => ?_) (fun h24 => ?_)
   ·refine s0 (x_assign (v := .bool _) rfl) (c_end (n_then (c_true rfl (c_reg (s0 (x_fieldAddr fa29_1 rfl) (st (x_loadB sc27 rfl B6 rfl) (s0 (x_cutlr so27 o5m.sl (by omega) rfl rfl (by omega) (by omega)) (s0 (x_fieldAddr fa29_1 rfl) ?_))))))))
    refine s_store (v := .slice _ _ _) (cs' := [_, _, _, _, _, _, _]) rfl sz27 rfl rfl rfl rfl B6 rfl rfl ?_
    intro w27 l28 el28 B6
    have z_l28 := l28.size; have L := L.fresh l28 (by omega); have hcu := hcu.ne l28 (by omega); have B1 := B1.ne l28 (by omega); have o5 := o5.ne l28 (by first|assumption|exact nin_of f5 g5 (by omega))
    have o5m := o5m.ne l28 (by first|assumption|exact nin_of f5m g5m (by omega))
    refine c_end (n_block (n_then (wp_seq (c_reg (st (x_loadAgB ag29 rfl B6 rfl) (s_storeAg rfl sz29 rfl rfl B1 rfl rfl rfl ?_))))))
    intro w29 l30 el30 B1
    have z_l30 := l30.size; have L := L.fresh l30 (by omega); have hcu := hcu.ne l30 (by omega); have B6 := B6.ne l30 (by omega); have o5 := o5.ne l30 (by first|assumption|exact nin_of f5 g5 (by omega))
    have o5m := o5m.ne l30 (by first|assumption|exact nin_of f5m g5m (by omega))
    refine c_end (n_then (wp_ret (f_retc rfl rfl ag29 B1 rfl ?_)))
    exact ⟨_, rfl, L, ⟨_, _, _, _, _, _, _, _, _, _, _, _, _, rfl, o5.rdf, f5.mono (by omega), o5m.rdmf.cutl (by omega), f5m.mono (by omega), (by rw [List.length_take, List.length_drop]; omega), (by omega), (fun q hq => hb5 q (List.mem_of_mem_drop (List.mem_of_mem_take hq)))⟩, hcu⟩
   ·refine s0 (x_assign (v := .bool _) rfl) (c_end (n_then (c_false rfl (c_skipn (n_block (n_then (wp_seq (c_reg (st (x_loadAgB ag29 rfl B6 rfl) (s_storeAg rfl sz29 rfl rfl B1 rfl rfl rfl ?_))))))))))
    intro w31 l32 el32 B1
    have z_l32 := l32.size; have L := L.fresh l32 (by omega); have hcu := hcu.ne l32 (by omega); have B6 := B6.ne l32 (by omega); have o5 := o5.ne l32 (by first|assumption|exact nin_of f5 g5 (by omega))
    have o5m := o5m.ne l32 (by first|assumption|exact nin_of f5m g5m (by omega))
    refine c_end (n_then (wp_ret (f_retc rfl rfl ag29 B1 rfl ?_)))
    exact ⟨_, rfl, L, ⟨_, _, _, _, _, _, _, _, _, _, ms5, _, _, rfl, o5.rdf, f5.mono (by omega), o5m.rdmf, f5m.mono (by omega), (by omega), (by omega), hb5⟩, hcu⟩

theorem s_drawStreamOk (p : Option Addr) (xs : List Int) (c : Nat) (B : Nat) (w : World) (hp : Sl w p xs.length c 1 (bc xs)) (hr : ∀ x ∈ xs, 0 ≤ x ∧ x ≤ 255) (hpB : Bl p xs.length B) (hB : B ≤ w.heap.size) (hl : xs.length ≤ 1048576) :
    Calls Tryz.prog 13 [.slice p xs.length c].toArray w (RetP w fun v w' => ∃ (a d q : Int) (y z : Bool) (r : Option Addr) (xs : List Int) (e : Nat) (F : List Nat) (p : Option Addr) (ms : List Mk) (c : Nat) (G : List Nat), v = .agg [.int .i64 a, .int .i64 d, .int .i64 q, .bool y, .bool z, .slice r xs.length e, .slice p ms.length c].toArray ∧ Rdf w' r xs.length e 1 (ic xs) F ∧ Fr w.heap.size F ∧ RdMF w' p ms c G ∧ Fr w.heap.size G ∧ ms.length ≤ 16 ∧ xs.length ≤ 6 ∧ ∀ m ∈ ms, smallM 64 m) := by
 have L : Exm [] w w := Exm.rfl'
 refine enter (n := 6) Tryz.func13 rfl rfl rfl ?_
 refine wp_seq (c_reg (s_alloc zr29 ?_))
 intro b1 w2 lob1 hib1 l3 B1
 have z_l3 := l3.size; have L := L.tr l3.up
 refine c_end (n_then (wp_seq (c_reg (s0 (xmS rfl) ?_))))
 refine sp (zcall cl27 rfl) (s_new _ _ _ B _ (hp.ext L) hr hpB (by omega) hl) ?_
 rintro v4 w4 l5 ⟨b4, rfl, ⟨lob4, hib4⟩, K4⟩
 have z_l5 := l5.size; have L := L.tr l5.up; have B1 := B1.ext l5
 refine spm (zcall cl26 rfl) (s_l24Any b4 _ _ K4) ?_
 rintro v5 w6 l7 ⟨⟨za5, zb5, zq5, zy5, zz5, p5, xs5, c5, F5, p5m, ms5, c5m, F5m, rfl, o5, f5, o5m, f5m, hn5, hx5, hb5⟩, K4⟩
 have z_l7 := l7.size; have L := L.fresh l7 (by omega); have B1 := B1.ne l7 (by omega); have g5 := o5.lt; have g5m := o5m.lt
 refine s_storeAg rfl sz29 rfl rfl B1 rfl rfl rfl ?_
 intro w8 l9 el9 B1
 have z_l9 := l9.size; have L := L.fresh l9 (by omega); have K4 := K4.ne l9 (by omega); have o5 := o5.ne l9 (by first|assumption|exact nin_of f5 g5 (by omega))
 have o5m := o5m.ne l9 (by first|assumption|exact nin_of f5m g5m (by omega))
 refine c_end (n_then (wp_ret (f_retc rfl rfl ag29 B1 rfl ?_)))
 exact ⟨_, rfl, L, _, _, _, _, _, _, _, _, _, _, _, _, _, rfl, o5, f5.mono (by omega), o5m, f5m.mono (by omega), hn5, hx5, hb5⟩

end Go.Proofs.YtepnknffaecbdaaGreat
