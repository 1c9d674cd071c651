/- What each function of this part returns, for every argument that meets its premises. -/
import Derived.Test.YtepnknffaecbdaaGreatProg
import Derived.Test.YtepnknffaecbdaaGreatVSxA
import Derived.Test.YtepnknffaecbdaaGreatVTy
import Derived.Test.YtepnknffaecbdaaGreatVPlA
import Derived.Test.YtepnknffaecbdaaGreatVF2
import Derived.Test.YtepnknffaecbdaaGreatVFL
import Derived.Test.YtepnknffaecbdaaGreatVFM
import Derived.Test.YtepnknffaecbdaaGreatVFV
namespace Go.Proofs.YtepnknffaecbdaaGreat
open Go.Sx Go.Pl Go.RowKit
theorem i_readHeaderV (s : ByteArray) (a : Int) (w : World) (hs : s.size ≤ 1048576) : Calls Tryz.prog 41 [.agg [.string s, .int .i64 a].toArray].toArray w (RetP w fun v w' => ∃ (p : Option Addr) (c : Nat) (F : List Nat) (W H Q : Int) (y z : Bool) (xs : List Int), v = .tuple [.agg [.string s, .int .i64 (rh6 s a).a].toArray, .agg [.int .i64 W, .int .i64 H, .int .i64 Q, .bool y, .bool z, .slice p xs.length c].toArray, .int .i64 (rh6 s a).code].toArray ∧ W = hdW s a ∧ H = hdH s a ∧ Q = hdQ s a ∧ y = hdB s a ∧ z = hdD s a ∧ xs = hdL s a ∧ Own w' p xs.length c 3 1 (ic xs) F ∧ Fr w.heap.size F) := by
  refine Calls.mono (i_readHeader s a w hs) ?_
  rintro e w' ⟨v, rfl, h1, p, c, F, rfl, h2, h3⟩
  exact ⟨_, rfl, h1, p, c, F, _, _, _, _, _, _, rfl, rfl, rfl, rfl, rfl, rfl, rfl, h2, h3⟩

set_option maxRecDepth 4000 in
theorem i_parse (s : ByteArray) (w : World) (hs : s.size ≤ 1048576) :
    Calls Tryz.prog 14 [.string s].toArray w (RetP w fun v w' => ∃ (r : Option Addr) (e : Nat) (F : List Nat) (p : Option Addr) (ms : List Mk) (c : Nat) (G : List Nat), v = .tuple [.agg [.int .i64 (prW s), .int .i64 (prH s), .int .i64 (prQ s), .bool (prB s), .bool (prD s), .slice r (prL s).length e, .slice p ms.length c].toArray, .int .i64 (prR s).a, .int .i64 (prR s).code].toArray ∧ Own w' r (prL s).length e 3 1 (ic (prL s)) F ∧ Fr w.heap.size F ∧ OwN (Km 71 3) w' 34 p ms c G ∧ Fr w.heap.size G ∧ Dj F G ∧ ms.map Mk.pl = prM s) := by
 have L : Exm [] w w := Exm.rfl'
 refine enter (n := 65) Tryz.func14 rfl rfl rfl ?_
 refine wp_seq (c_reg (s_alloc zr29 ?_))
 intro b1 w2 lob1 hib1 l3 B1
 have z_l3 := l3.size; have L := L.tr l3.up
 refine s0 (xaI rfl) (s0 (xaI rfl) (c_end (n_then (wp_seq (c_reg (s0 (x_move (v := .string _) rfl) ?_))))))
 refine s0 (x_build (cs := [.string _, .int .i64 0]) bd79 (pts_cons (v := .string _) rfl pts_nil) rfl) ?_
 refine sp (zcall cl41 rfl) (i_readHeaderV _ _ _ (by omega)) ?_
 rintro v16 w4 l5 ⟨p16, c16, F16, W, H, Q, y, z, xs16, rfl, hW, hH, hQ, hy, hz, hxs, o16, f16⟩
 have z_l5 := l5.size; have L := L.tr l5.up; have B1 := B1.ext l5; have g16 := o16.lt
 refine s0 (x_move (v := .tuple _) rfl) (s0 (x_extract rfl rfl) (s0 (x_extract rfl rfl) (s0 (x_extract rfl rfl) (s_alloc zr79 ?_))))
 intro b6 w7 lob6 hib6 l8 B6
 have z_l8 := l8.size; have L := L.tr l8.up; have B1 := B1.ext l8; have o16 := o16.ext l8
 refine s_alloc zr26 ?_
 intro b9 w10 lob9 hib9 l11 B9
 have z_l11 := l11.size; have L := L.tr l11.up; have B1 := B1.ext l11; have B6 := B6.ext l11; have o16 := o16.ext l11
 refine s_storeAg rfl sz79 rfl rfl B6 rfl rfl rfl ?_
 intro w12 l13 el13 B6
 have z_l13 := l13.size; have L := L.fresh l13 (by omega); have B1 := B1.ne l13 (by omega); have B9 := B9.ne l13 (by omega); have o16 := o16.ne l13 (by first|assumption|exact nin_of f16 g16 (by omega))
 refine s_storeAg rfl sz26 rfl rfl B9 rfl rfl rfl ?_
 intro w14 l15 el15 B9
 have z_l15 := l15.size; have L := L.fresh l15 (by omega); have B1 := B1.ne l15 (by omega); have B6 := B6.ne l15 (by omega); have o16 := o16.ne l15 (by first|assumption|exact nin_of f16 g16 (by omega))
 refine s0 (xaI rfl) (c_end (n_then (wp_seq (wp_seq (c_reg (s0 (xmI rfl) ?_))))))
 refine sb (x_neq rfl rfl) (fun h21 => ?_) (fun h21 => ?_)
 ·refine c_end (n_then (c_true rfl (wp_seq ?_)))
  refine c_plan (fun wq => Exm [b1] w14 wq) 7 (.cons (0, 2) (.cons (1, 2) (.cons (2, 1) (.cons (3, 2) (.cons (4, 0) (.cons (5, 2) (.cons (6, 2) .nil))))))) (by kernel_rfl) (by kernel_rfl) (Exm.drew _) ?_
  obtain ⟨w16, hwd⟩ : ∃ x, x = w14.drew := ⟨_, rfl⟩
  have l17 : Ext w14 w16 := by rw [hwd]; exact Exm.drew _
  rw [← hwd]; clear hwd
  have Lq : Exm [b1] w14 w16 := l17.up; have qB6 := B6; have z_l17 := l17.size; have L := L.tr l17.up; have B1 := B1.ext l17; have B6 := B6.ext l17; have B9 := B9.ext l17; have o16 := o16.ext l17
  refine p0 rfl (x_build (cs := [.int .i64 0, .int .i64 0, .int .i64 0, .bool false, .bool false, .slice none 0 0, .slice none 0 0]) bd29 pts_nil rfl) ?_
  refine p0 rfl (x_fieldAddr fa79_1 rfl) ?_
  refine ps rfl (fun wq hwq => x_loadB sc3 rfl (qB6.ne hwq (by omega)) rfl) ?_
  refine p0 rfl (xmI rfl) (pu rfl (s_storeAg rfl sz29 rfl rfl B1 rfl rfl rfl ?_))
  intro w18 l19 el19 B1
  have z_l19 := l19.size; have L := L.fresh l19 (by omega); have Lq := Lq.within l19 (by simp)
  have B6 := B6.ne l19 (by omega); have B9 := B9.ne l19 (by omega); have o16 := o16.ne l19 (by first|assumption|exact nin_of f16 g16 (by omega))
  refine c_end ⟨rfl, fun h hS => Lq, ?_⟩
  refine p0 rfl (xaI rfl) (p0 rfl (xaI rfl) ?_)
  refine p_nil (np_normal ?_)
  refine n_then ?_
  refine wp_ret (r_then ?_)
  refine f_rets3 rfl (ro_cell rfl ag29 B1 rfl) (ro_tmp rfl) (ro_tmp rfl) ?_
  have hR := pr_head h21
  have hne : (prR s).code ≠ 0 := by rw [hR]; exact h21
  obtain ⟨e1, e2, e3, e4, e5, e6, e7⟩ := pr_bad hne
  rw [e1, e2, e3, e4, e5, e6, hR]
  exact ⟨_, rfl, L, none, 0, [], none, [], 0, [], rfl, Own.nil, Fr.no, OwN.nil, Fr.no, (fun b hb => absurd hb (by simp)), e7.symm⟩
 ·refine c_end (n_then (c_false rfl (c_skipn (n_then (wp_seq ?_)))))
  have h0 : (rh6 s 0).code = 0 := Classical.not_not.1 h21; have hsd := (rh_head h0).1
  rw [← hW, ← hH] at hsd
  have hmr := many_range hsd; have hdl := hdL_len s 0
  rw [← hxs] at hdl
  have hN : prN s = (W / 8 * (H / 8)).toNat := by unfold prN; rw [← hW, ← hH]
  refine c_reg (st (x_loadAgB ag26 rfl B9 rfl) ?_)
  refine s0 (x_build (cs := [.int _ _, .int _ _, .int _ _, .bool _, .bool _, .slice _ _ _, .slice none 0 0]) bd29 (pts_cons (v := .agg _) rfl pts_nil) fill6) ?_
  refine s_alloc zr29 ?_
  intro b20 w21 lob20 hib20 l22 B20
  have z_l22 := l22.size; have L := L.tr l22.up; have B1 := B1.ext l22; have B6 := B6.ext l22; have B9 := B9.ext l22; have o16 := o16.ext l22
  refine s_storeAg rfl sz29 rfl rfl B20 rfl rfl rfl ?_
  intro w23 l24 el24 B20
  have z_l24 := l24.size; have L := L.fresh l24 (by omega); have B1 := B1.ne l24 (by omega); have B6 := B6.ne l24 (by omega); have B9 := B9.ne l24 (by omega); have o16 := o16.ne l24 (by first|assumption|exact nin_of f16 g16 (by omega))
  refine c_end (n_then (wp_seq (wp_seq (c_reg (st (x_loadAgB ag26 rfl B9 rfl) ?_)))))
  refine sr (zcall cl42 rfl) (i_many _ _ _ _ _ _ _ _ _ (by assumption)) ?_
  intro w25 l26
  have z_l26 := l26.size; have L := L.tr l26.up; have B1 := B1.ext l26; have B6 := B6.ext l26; have B9 := B9.ext l26; have B20 := B20.ext l26; have o16 := o16.ext l26
  refine s0 (xmI rfl) (c_end (n_then (wp_block ?_)))
  refine c_loop (γ := Nat × List Mk) (fun g => (W / 8 * (H / 8)).toNat - g.1) (fun (g : Nat × List Mk) E wl => ∃ E0 pz900 cz900 Fz900, E = upd (upd (upd (upd (upd (upd E0 2 (pt b1 0)) 5 (pt b6 0)) 6 (pt b9 0)) 8 (pt b20 0)) 29 (.int .i64 (W / 8 * (H / 8)))) 30 (.int .i64 (g.1 : Int)) ∧ (Exm [] w wl) ∧ (w25.heap.size ≤ wl.heap.size) ∧ (Bx wl b1 [.int .i64 0, .int .i64 0, .int .i64 0, .bool false, .bool false, .slice none 0 0, .slice none 0 0] 29) ∧ (Bx wl b6 [.string s, .int .i64 (prI s g.1).a] 79) ∧ (Bx wl b9 [.int .i64 W, .int .i64 H, .int .i64 Q, .bool y, .bool z, .slice p16 xs16.length c16] 26) ∧ (Bx wl b20 [.int .i64 W, .int .i64 H, .int .i64 Q, .bool y, .bool z, .slice p16 xs16.length c16, .slice pz900 g.2.length cz900] 29) ∧ (Own wl p16 xs16.length c16 3 1 (ic xs16) F16) ∧ (OwN (Km 71 3) wl 34 pz900 (g.2) cz900 Fz900) ∧ (Fr (w25.heap.size) Fz900) ∧ (Lt Fz900 wl.heap.size) ∧ (b1 ∉ Fz900) ∧ (b6 ∉ Fz900) ∧ (b9 ∉ Fz900) ∧ (b20 ∉ Fz900) ∧ (Dj F16 Fz900) ∧ ((g.1 : Int) ≤ W / 8 * (H / 8)) ∧ ((prI s g.1).code = 0) ∧ (g.2.map Mk.pl = (prI s g.1).ms) ∧ (g.2.length ≤ g.1)) (0, []) ⟨_, _, _, _, upd_self6 rfl rfl rfl rfl rfl rfl, L, (by omega), B1, B6, B9, B20, o16, OwN.nil, Fr.no, Lt.no, (by simp), (by simp), (by simp), (by simp), dj_nil', (by show ((0 : Nat) : Int) ≤ _; omega), rfl, rfl, (Nat.le_refl _)⟩ ?_
  rintro g E wl27 ⟨E0, pz900, cz900, Fz900, rfl, L, Lz, B1, B6, B9, B20, o16, oz900, fz900, gz900, ab1_z900, ab6_z900, ab9_z900, ab20_z900, d16_z900, hk, hc, hm, hgl⟩
  have Lz0 := L.size
  refine wp_seq (c_reg ?_)
  refine sb (x_lss rfl rfl) (fun h31 => ?_) (fun h31 => ?_)
  ·refine c_end (n_then (wp_seq (c_true rfl (c_skipn (n_then (wp_seq (wp_block (wp_seq (c_reg (st (x_loadAgB ag79 rfl B6 rfl) (s0 (x_fieldAddr fa26_5 rfl) (st (x_loadB sc24 rfl B9 rfl) ?_))))))))))))
   refine sp (zcall cl43 rfl) (i_readMb _ _ _ _ _ _ (by omega) o16.sl (by omega)) ?_
   rintro v36 w28 l29 ⟨p36, bs36, c36, F36, rfl, o36, f36, hm36⟩
   have z_l29 := l29.size; have L := L.tr l29.up; have B1 := B1.ext l29; have B6 := B6.ext l29; have B9 := B9.ext l29; have B20 := B20.ext l29; have o16 := o16.ext l29; have oz900 := oz900.ext l29; have g36 := o36.lt
   refine s0 (x_move (v := .tuple _) rfl) (s0 (x_extract rfl rfl) (s0 (x_extract rfl rfl) (s0 (x_extract rfl rfl) (s_alloc zr79 ?_))))
   intro b30 w31 lob30 hib30 l32 B30
   have z_l32 := l32.size; have L := L.tr l32.up; have B1 := B1.ext l32; have B6 := B6.ext l32; have B9 := B9.ext l32; have B20 := B20.ext l32; have o16 := o16.ext l32; have oz900 := oz900.ext l32; have o36 := o36.ext l32
   refine s_alloc zr34 ?_
   intro b33 w34 lob33 hib33 l35 B33
   have z_l35 := l35.size; have L := L.tr l35.up; have B1 := B1.ext l35; have B6 := B6.ext l35; have B9 := B9.ext l35; have B20 := B20.ext l35; have B30 := B30.ext l35; have o16 := o16.ext l35; have oz900 := oz900.ext l35; have o36 := o36.ext l35
   refine s_storeAg rfl sz79 rfl rfl B30 rfl rfl rfl ?_
   intro w36 l37 el37 B30
   have z_l37 := l37.size; have L := L.fresh l37 (by omega); have B1 := B1.ne l37 (by omega); have B6 := B6.ne l37 (by omega); have B9 := B9.ne l37 (by omega); have B20 := B20.ne l37 (by omega); have B33 := B33.ne l37 (by omega); have o16 := o16.ne l37 (by first|assumption|exact nin_of f16 g16 (by omega))
   have oz900 := oz900.ne l37 (by first|assumption|exact nin_of fz900 gz900 (by omega))
   have o36 := o36.ne l37 (by first|assumption|exact nin_of f36 g36 (by omega))
   refine s_storeAg rfl sz34 rfl rfl B33 rfl rfl rfl ?_
   intro w38 l39 el39 B33
   have z_l39 := l39.size; have L := L.fresh l39 (by omega); have B1 := B1.ne l39 (by omega); have B6 := B6.ne l39 (by omega); have B9 := B9.ne l39 (by omega); have B20 := B20.ne l39 (by omega); have B30 := B30.ne l39 (by omega); have o16 := o16.ne l39 (by first|assumption|exact nin_of f16 g16 (by omega))
   have oz900 := oz900.ne l39 (by first|assumption|exact nin_of fz900 gz900 (by omega))
   have o36 := o36.ne l39 (by first|assumption|exact nin_of f36 g36 (by omega))
   refine s0 (xaI rfl) (c_end (n_then (wp_seq (wp_seq (c_reg (s0 (xmI rfl) ?_))))))
   refine sb (x_neq rfl rfl) (fun h41 => ?_) (fun h41 => ?_)
   ·refine c_end (n_then (c_true rfl (wp_seq ?_)))
    refine c_plan (fun wq => Exm [b1] w38 wq) 7 (.cons (0, 2) (.cons (1, 2) (.cons (2, 1) (.cons (3, 2) (.cons (4, 0) (.cons (5, 2) (.cons (6, 2) .nil))))))) (by kernel_rfl) (by kernel_rfl) (Exm.drew _) ?_
    obtain ⟨w40, hwd⟩ : ∃ x, x = w38.drew := ⟨_, rfl⟩
    have l41 : Ext w38 w40 := by rw [hwd]; exact Exm.drew _
    rw [← hwd]; clear hwd
    have Lq : Exm [b1] w38 w40 := l41.up; have qB30 := B30; have z_l41 := l41.size; have L := L.tr l41.up; have B1 := B1.ext l41; have B6 := B6.ext l41; have B9 := B9.ext l41; have B20 := B20.ext l41; have B30 := B30.ext l41; have B33 := B33.ext l41; have o16 := o16.ext l41; have oz900 := oz900.ext l41; have o36 := o36.ext l41
    refine p0 rfl (x_build (cs := [.int .i64 0, .int .i64 0, .int .i64 0, .bool false, .bool false, .slice none 0 0, .slice none 0 0]) bd29 pts_nil rfl) ?_
    refine p0 rfl (x_fieldAddr fa79_1 rfl) ?_
    refine ps rfl (fun wq hwq => x_loadB sc3 rfl (qB30.ne hwq (by omega)) rfl) ?_
    refine p0 rfl (xmI rfl) (pu rfl (s_storeAg rfl sz29 rfl rfl B1 rfl rfl rfl ?_))
    intro w42 l43 el43 B1
    have z_l43 := l43.size; have L := L.fresh l43 (by omega); have Lq := Lq.within l43 (by simp)
    have B6 := B6.ne l43 (by omega); have B9 := B9.ne l43 (by omega); have B20 := B20.ne l43 (by omega); have B30 := B30.ne l43 (by omega); have B33 := B33.ne l43 (by omega); have o16 := o16.ne l43 (by first|assumption|exact nin_of f16 g16 (by omega))
    have oz900 := oz900.ne l43 (by first|assumption|exact nin_of fz900 gz900 (by omega))
    have o36 := o36.ne l43 (by first|assumption|exact nin_of f36 g36 (by omega))
    refine c_end ⟨rfl, fun h hS => Lq, ?_⟩
    refine p0 rfl (xaI rfl) (p0 rfl (xaI rfl) ?_)
    refine p_nil (np_normal ?_)
    refine n_then ?_
    refine wp_ret (r_then (r_block (r_then (r_then (r_block (r_then ?_))))))
    refine f_rets3 rfl (ro_cell rfl ag29 B1 rfl) (ro_tmp rfl) (ro_tmp rfl) ?_
    have hR := pr_fail h0 hc (by rw [← hxs]; exact h41) (by omega)
    rw [← hxs] at hR
    have hne : (prR s).code ≠ 0 := by rw [hR]; exact h41
    obtain ⟨e1, e2, e3, e4, e5, e6, e7⟩ := pr_bad hne
    rw [e1, e2, e3, e4, e5, e6, hR]
    exact ⟨_, rfl, L, none, 0, [], none, [], 0, [], rfl, Own.nil, Fr.no, OwN.nil, Fr.no, (fun b hb => absurd hb (by simp)), e7.symm⟩
   ·refine c_end (n_then (c_false rfl (c_skipn (n_then (wp_seq (c_reg (st (x_loadAgB ag79 rfl B30 rfl) (s_storeAg rfl sz79 rfl rfl B6 rfl rfl rfl ?_))))))))
    intro w44 l45 el45 B6
    have z_l45 := l45.size; have L := L.fresh l45 (by omega); have B1 := B1.ne l45 (by omega); have B9 := B9.ne l45 (by omega); have B20 := B20.ne l45 (by omega); have B30 := B30.ne l45 (by omega); have B33 := B33.ne l45 (by omega); have o16 := o16.ne l45 (by first|assumption|exact nin_of f16 g16 (by omega))
    have oz900 := oz900.ne l45 (by first|assumption|exact nin_of fz900 gz900 (by omega))
    have o36 := o36.ne l45 (by first|assumption|exact nin_of f36 g36 (by omega))
    refine c_end (n_then (c_reg (s0 (x_fieldAddr fa29_1 rfl) (st (x_loadB sc27 rfl B20 rfl) (st (x_loadAgB ag34 rfl B33 rfl) ?_)))))
    refine s_bsr (g := fun x => .agg (mrow x).toArray) (xs := [(⟨rmG s (prI s g.1).a xs16, p36, bs36, c36, F36⟩ : Mk)]) (fun _ => rfl) mrow_len so27 zr34 (pts_cons rfl pts_nil) rfl rfl rfl ?_
    intro p50 F50 w46 l47 o50 f50 g50
    have z_l47 := l47.size; have L := L.tr l47.up; have B1 := B1.ext l47; have B6 := B6.ext l47; have B9 := B9.ext l47; have B20 := B20.ext l47; have B30 := B30.ext l47; have B33 := B33.ext l47; have o16 := o16.ext l47; have oz900 := oz900.ext l47; have o36 := o36.ext l47; have hn50 := o50.nr mrow_len (by decide)
    refine s_appN (B := w25.heap.size) (K := (Km 71 3)) (v := (⟨rmG s (prI s g.1).a xs16, p36, bs36, c36, F36⟩ : Mk)) so27 zr34 rfl rfl rfl rfl oz900 o50.sl o36 (by first|assumption|exact Dj.symm (by assumption)|exact dj_of f36 g36 fz900 gz900 (by omega)) fz900 (by omega) (f36.mono (by omega)) (by omega) (by omega) ?_
    intro p51 c51 F51 w48 l49 o51 k51 f51 g51
    have ab1_51 : b1 ∉ F51 := k51.nin (by simp only [List.mem_append, not_or]; exact ⟨(by first|assumption|exact nin_of fz900 gz900 (by omega)), (by first|assumption|exact nin_of f36 g36 (by omega))⟩) (by omega)
    have B1 := B1.exm l49 (by first|assumption|exact nin_of fz900 gz900 (by omega))
    have ab6_51 : b6 ∉ F51 := k51.nin (by simp only [List.mem_append, not_or]; exact ⟨(by first|assumption|exact nin_of fz900 gz900 (by omega)), (by first|assumption|exact nin_of f36 g36 (by omega))⟩) (by omega)
    have B6 := B6.exm l49 (by first|assumption|exact nin_of fz900 gz900 (by omega))
    have ab9_51 : b9 ∉ F51 := k51.nin (by simp only [List.mem_append, not_or]; exact ⟨(by first|assumption|exact nin_of fz900 gz900 (by omega)), (by first|assumption|exact nin_of f36 g36 (by omega))⟩) (by omega)
    have B9 := B9.exm l49 (by first|assumption|exact nin_of fz900 gz900 (by omega))
    have ab20_51 : b20 ∉ F51 := k51.nin (by simp only [List.mem_append, not_or]; exact ⟨(by first|assumption|exact nin_of fz900 gz900 (by omega)), (by first|assumption|exact nin_of f36 g36 (by omega))⟩) (by omega)
    have B20 := B20.exm l49 (by first|assumption|exact nin_of fz900 gz900 (by omega))
    have ab30_51 : b30 ∉ F51 := k51.nin (by simp only [List.mem_append, not_or]; exact ⟨(by first|assumption|exact nin_of fz900 gz900 (by omega)), (by first|assumption|exact nin_of f36 g36 (by omega))⟩) (by omega)
    have B30 := B30.exm l49 (by first|assumption|exact nin_of fz900 gz900 (by omega))
    have ab33_51 : b33 ∉ F51 := k51.nin (by simp only [List.mem_append, not_or]; exact ⟨(by first|assumption|exact nin_of fz900 gz900 (by omega)), (by first|assumption|exact nin_of f36 g36 (by omega))⟩) (by omega)
    have B33 := B33.exm l49 (by first|assumption|exact nin_of fz900 gz900 (by omega))
    have z_l49 := l49.size; have L := L.freshL l49 fz900 (by omega); have d16_51 : Dj F16 F51 := k51.dj (dj_app' (by first|assumption|exact Dj.symm (by assumption)|exact dj_of f16 g16 fz900 gz900 (by omega)) (by first|assumption|exact Dj.symm (by assumption)|exact dj_of f16 g16 f36 g36 (by omega))) g16 (by omega)
    have o16 := o16.exm l49 (by first|assumption|exact Dj.symm (by assumption)|exact dj_of fz900 gz900 f16 g16 (by omega))
    have d50_51 : Dj F50 F51 := k51.dj (dj_app' (by first|assumption|exact Dj.symm (by assumption)|exact dj_of f50 g50 fz900 gz900 (by omega)) (by first|assumption|exact Dj.symm (by assumption)|exact dj_of f50 g50 f36 g36 (by omega))) g50 (by omega)
    have o50 := o50.exm l49 (by first|assumption|exact Dj.symm (by assumption)|exact dj_of fz900 gz900 f50 g50 (by omega))
    refine s0 (x_fieldAddr fa29_1 rfl) ?_
    refine s_store (v := .slice _ _ _) (cs' := [_, _, _, _, _, _, _]) rfl sz27 rfl rfl rfl rfl B20 rfl rfl ?_
    intro w50 l51 el51 B20
    have z_l51 := l51.size; have L := L.fresh l51 (by omega); have B1 := B1.ne l51 (by omega); have B6 := B6.ne l51 (by omega); have B9 := B9.ne l51 (by omega); have B30 := B30.ne l51 (by omega); have B33 := B33.ne l51 (by omega); have o16 := o16.ne l51 (by first|assumption|exact nin_of f16 g16 (by omega))
    have o50 := o50.ne l51 (by first|assumption|exact nin_of f50 g50 (by omega))
    have o51 := o51.ne l51 (by first|assumption|exact nin_of f51 g51 (by omega))
    refine c_end (n_block (n_then (c_reg (s0 (x_add rfl rfl (by omega)) (s0 (xmI rfl) (c_end ?_))))))
    have hzc : (rmR s (prI s g.1).a (hdL s 0)).code = 0 := by rw [← hxs]; exact Classical.not_not.1 h41
    have hgo : prI s (g.1 + 1) = _ := pm_go (s := s) (xs := hdL s 0) (a := (rh6 s 0).a) (k := g.1) hc hzc
    exact c_round (g' := (g.1 + 1, g.2 ++ [(⟨rmG s (prI s g.1).a xs16, p36, bs36, c36, F36⟩ : Mk)])) (by show (W / 8 * (H / 8)).toNat - (g.1 + 1) < (W / 8 * (H / 8)).toNat - g.1; omega) ⟨_, _, _, _, upd_self6 rfl rfl rfl rfl rfl (vint (by show _ = ((g.1 + 1 : Nat) : Int); omega)), L, (by omega), B1, (bx_eq (by rw [hgo, hxs]; rfl) B6), B9, B20, o16, o51, (f51.mono (by omega)), (g51.mono (by omega)), (by first|assumption|exact nin_of f51 g51 (by omega)), (by first|assumption|exact nin_of f51 g51 (by omega)), (by first|assumption|exact nin_of f51 g51 (by omega)), (by first|assumption|exact nin_of f51 g51 (by omega)), (by first|assumption|exact Dj.symm (by assumption)|exact dj_of f16 g16 f51 g51 (by omega)), (by show ((g.1 + 1 : Nat) : Int) ≤ _; omega), (by rw [hgo]), (by show (g.2 ++ [_]).map Mk.pl = _; rw [List.map_append, hm, hgo]; show _ ++ [(_, bs36.map Bk.pl)] = _; rw [hm36, hxs]; rfl), (by show (g.2 ++ [_]).length ≤ g.1 + 1; rw [List.length_append]; simp only [List.length_cons, List.length_nil]; omega)⟩
  ·refine c_end (n_then (wp_seq (c_false rfl ?_)))
   refine wp_exit (e_then (e_then (e_here ?_)))
   refine n_then (wp_seq (wp_seq (c_reg (st (x_loadAgB ag79 rfl B6 rfl) ?_))))
   refine sr (zcall cl44 rfl) (i_stop _ _ _ (by omega)) ?_
   intro w52 l53
   have z_l53 := l53.size; have L := L.tr l53.up; have B1 := B1.ext l53; have B6 := B6.ext l53; have B9 := B9.ext l53; have B20 := B20.ext l53; have o16 := o16.ext l53; have oz900 := oz900.ext l53
   refine s0 (xaI rfl) (c_end (n_then (wp_seq (c_reg (s0 (xmI rfl) ?_)))))
   refine sb (x_neq rfl rfl) (fun h57 => ?_) (fun h57 => ?_)
   ·refine c_end (n_then (c_true rfl (wp_seq ?_)))
    refine c_plan (fun wq => Exm [b1] w52 wq) 7 (.cons (0, 2) (.cons (1, 2) (.cons (2, 1) (.cons (3, 2) (.cons (4, 0) (.cons (5, 2) (.cons (6, 2) .nil))))))) (by kernel_rfl) (by kernel_rfl) (Exm.drew _) ?_
    obtain ⟨w54, hwd⟩ : ∃ x, x = w52.drew := ⟨_, rfl⟩
    have l55 : Ext w52 w54 := by rw [hwd]; exact Exm.drew _
    rw [← hwd]; clear hwd
    have Lq : Exm [b1] w52 w54 := l55.up; have qB6 := B6; have z_l55 := l55.size; have L := L.tr l55.up; have B1 := B1.ext l55; have B6 := B6.ext l55; have B9 := B9.ext l55; have B20 := B20.ext l55; have o16 := o16.ext l55; have oz900 := oz900.ext l55
    refine p0 rfl (x_build (cs := [.int .i64 0, .int .i64 0, .int .i64 0, .bool false, .bool false, .slice none 0 0, .slice none 0 0]) bd29 pts_nil rfl) ?_
    refine p0 rfl (x_fieldAddr fa79_1 rfl) ?_
    refine ps rfl (fun wq hwq => x_loadB sc3 rfl (qB6.ne hwq (by omega)) rfl) ?_
    refine p0 rfl (xmI rfl) (pu rfl (s_storeAg rfl sz29 rfl rfl B1 rfl rfl rfl ?_))
    intro w56 l57 el57 B1
    have z_l57 := l57.size; have L := L.fresh l57 (by omega); have Lq := Lq.within l57 (by simp)
    have B6 := B6.ne l57 (by omega); have B9 := B9.ne l57 (by omega); have B20 := B20.ne l57 (by omega); have o16 := o16.ne l57 (by first|assumption|exact nin_of f16 g16 (by omega))
    have oz900 := oz900.ne l57 (by first|assumption|exact nin_of fz900 gz900 (by omega))
    refine c_end ⟨rfl, fun h hS => Lq, ?_⟩
    refine p0 rfl (xaI rfl) (p0 rfl (xaI rfl) ?_)
    refine p_nil (np_normal ?_)
    refine n_then ?_
    refine wp_ret (r_then ?_)
    refine f_rets3 rfl (ro_cell rfl ag29 B1 rfl) (ro_tmp rfl) (ro_tmp rfl) ?_
    have hR := pr_stop h0 hc (by omega) h57
    have hne : (prR s).code ≠ 0 := by rw [hR]; exact h57
    obtain ⟨e1, e2, e3, e4, e5, e6, e7⟩ := pr_bad hne
    rw [e1, e2, e3, e4, e5, e6, hR]
    exact ⟨_, rfl, L, none, 0, [], none, [], 0, [], rfl, Own.nil, Fr.no, OwN.nil, Fr.no, (fun b hb => absurd hb (by simp)), e7.symm⟩
   ·refine c_end (n_then (c_false rfl (c_skipn (n_then (wp_seq ?_)))))
    refine c_plan (fun wq => Exm [b1] w52 wq) 6 (.cons (0, 1) (.cons (1, 2) (.cons (2, 1) (.cons (3, 0) (.cons (4, 2) (.cons (5, 2) .nil)))))) (by kernel_rfl) (by kernel_rfl) (Exm.drew _) ?_
    obtain ⟨w58, hwd⟩ : ∃ x, x = w52.drew := ⟨_, rfl⟩
    have l59 : Ext w52 w58 := by rw [hwd]; exact Exm.drew _
    rw [← hwd]; clear hwd
    have Lq : Exm [b1] w52 w58 := l59.up; have qB6 := B6; have qB20 := B20; have z_l59 := l59.size; have L := L.tr l59.up; have B1 := B1.ext l59; have B6 := B6.ext l59; have B9 := B9.ext l59; have B20 := B20.ext l59; have o16 := o16.ext l59; have oz900 := oz900.ext l59
    refine ps rfl (fun wq hwq => x_loadAgB ag29 rfl (qB20.ne hwq (by omega)) rfl) ?_
    refine p0 rfl (x_fieldAddr fa79_1 rfl) ?_
    refine ps rfl (fun wq hwq => x_loadB sc3 rfl (qB6.ne hwq (by omega)) rfl) ?_
    refine pu rfl (s_storeAg rfl sz29 rfl rfl B1 rfl rfl rfl ?_)
    intro w60 l61 el61 B1
    have z_l61 := l61.size; have L := L.fresh l61 (by omega); have Lq := Lq.within l61 (by simp)
    have B6 := B6.ne l61 (by omega); have B9 := B9.ne l61 (by omega); have B20 := B20.ne l61 (by omega); have o16 := o16.ne l61 (by first|assumption|exact nin_of f16 g16 (by omega))
    have oz900 := oz900.ne l61 (by first|assumption|exact nin_of fz900 gz900 (by omega))
    refine c_end ⟨rfl, fun h hS => Lq, ?_⟩
    refine p0 rfl (xaI rfl) (p0 rfl (xaI rfl) ?_)
    refine p_nil (np_normal ?_)
    refine n_then (wp_ret (f_rets3 rfl (ro_cell rfl ag29 B1 rfl) (ro_tmp rfl) (ro_tmp rfl) ?_))
    have hR := pr_end h0 hc (by omega) (Classical.not_not.1 h57)
    have hz0 : (prR s).code = 0 := by rw [hR]; exact hc
    obtain ⟨e1, e2, e3, e4, e5, e6, e7⟩ := pr_good hz0
    rw [e1, e2, e3, e4, e5, e6, e7, hz0, hR, ← hW, ← hH, ← hQ, ← hy, ← hz, ← hxs]
    exact ⟨_, rfl, L, _, _, _, _, g.2, _, _, rfl, o16, f16.mono (by omega), oz900, fz900.mono (by omega), (by first|assumption|exact Dj.symm (by assumption)), hm⟩

end Go.Proofs.YtepnknffaecbdaaGreat
