/- What each function of this part returns, for every argument that meets its premises. -/
import Derived.Test.YtepnknffaecbdaaGreatProg
import Derived.Test.YtepnknffaecbdaaGreatVSxA
import Derived.Test.YtepnknffaecbdaaGreatVTy
import Derived.Test.YtepnknffaecbdaaGreatVPlA
import Derived.Test.YtepnknffaecbdaaGreatVF2
import Derived.Test.YtepnknffaecbdaaGreatVFJ
import Derived.Test.YtepnknffaecbdaaGreatVFP
namespace Go.Proofs.YtepnknffaecbdaaGreat
open Go.Sx Go.Pl Go.RowKit
theorem manyOf_in (e : Bool) : manyOf e = 1 ∨ manyOf e = 4 := by cases e <;> simp [manyOf]

theorem i_readMb (s : ByteArray) (a : Int) (p : Option Addr) (xs : List Int) (c : Nat) (w : World) (hs : s.size ≤ 1048576) (hp : Sl w p xs.length c 1 (ic xs)) (hl : xs.length ≤ 1099511627776) :
    Calls Tryz.prog 43 [.agg [.string s, .int .i64 a].toArray, .slice p xs.length c].toArray w (RetP w fun v w' => ∃ (p : Option Addr) (bs : List Bk) (c : Nat) (F : List Nat), v = .tuple [.agg [.string s, .int .i64 (rmR s a xs).a].toArray, .agg [.bool (rmG s a xs), .slice p bs.length c].toArray, .int .i64 (rmR s a xs).code].toArray ∧ OwN (Kb 3) w' 71 p bs c F ∧ Fr w.heap.size F ∧ bs.map Bk.pl = (rmR s a xs).bs) := by
 have L : Exm [] w w := Exm.rfl'
 refine enter (n := 60) Tryz.func43 rfl rfl rfl ?_
 refine wp_seq (c_reg (s_box rfl rfl ?_))
 intro b1 w2 lob1 hib1 l3 B1
 have z_l3 := l3.size; have L := L.tr l3.up
 refine s_alloc zr79 ?_
 intro b4 w5 lob4 hib4 l6 B4
 have z_l6 := l6.size; have L := L.tr l6.up; have B1 := B1.ext l6
 refine s_alloc zr34 ?_
 intro b7 w8 lob7 hib7 l9 B7
 have z_l9 := l9.size; have L := L.tr l9.up; have B1 := B1.ext l9; have B4 := B4.ext l9
 refine s0 (xaI rfl) (c_end (n_then (wp_seq (c_reg (st (x_loadAgB ag79 rfl B1 rfl) ?_)))))
 refine sr (zcall cl101 rfl) (i_readBits _ _ _ _ (by omega)) ?_
 intro w10 l11
 have z_l11 := l11.size; have L := L.tr l11.up; have B1 := B1.ext l11; have B4 := B4.ext l11; have B7 := B7.ext l11
 refine s0 (x_move (v := .tuple _) rfl) (s0 (x_extract rfl rfl) (s0 (x_extract rfl rfl) ?_))
 refine sb (x_extract rfl rfl) (fun h20 => ?_) (fun h20 => ?_)
 ·refine s_storeAg rfl sz79 rfl rfl B1 rfl rfl rfl ?_
  intro w12 l13 el13 B1
  have z_l13 := l13.size; have L := L.fresh l13 (by omega); have B4 := B4.ne l13 (by omega); have B7 := B7.ne l13 (by omega)
  refine s0 (xaI rfl) (s0 (x_assign (v := .bool _) rfl) (c_end (n_then (wp_seq (wp_seq (c_reg (s0 (x_move (v := .bool _) rfl) (s0 (x_not rfl) (c_end (n_then (c_false rfl (c_skipn (n_then ?_)))))))))))))
  refine wp_seq (c_reg (s0 (xmI rfl) (s0 (x_eql rfl rfl) ?_)))
  refine s0 (x_build (cs := [.bool _, .slice none 0 0]) bd34 (pts_cons (v := .bool _) rfl pts_nil) rfl) ?_
  refine s_alloc zr34 ?_
  intro b14 w15 lob14 hib14 l16 B14
  have z_l16 := l16.size; have L := L.tr l16.up; have B1 := B1.ext l16; have B4 := B4.ext l16; have B7 := B7.ext l16
  refine s_storeAg rfl sz34 rfl rfl B14 rfl rfl rfl ?_
  intro w17 l18 el18 B14
  have z_l18 := l18.size; have L := L.fresh l18 (by omega); have B1 := B1.ne l18 (by omega); have B4 := B4.ne l18 (by omega); have B7 := B7.ne l18 (by omega)
  refine c_end (n_then (wp_seq ?_))
  have hmo := manyOf_in (rmF s a)
  refine c_reg (s0 (x_fieldAddr fa34_0 rfl) (st (x_loadB sc4 rfl B14 rfl) ?_))
  refine sr (zcall cl74 rfl) (i_shape _ _) ?_
  intro w19 l20
  have z_l20 := l20.size; have L := L.tr l20.up; have B1 := B1.ext l20; have B4 := B4.ext l20; have B7 := B7.ext l20; have B14 := B14.ext l20
  refine s0 (x_move (v := .tuple _) rfl) (s0 (x_extract rfl rfl) (s0 (x_extract rfl rfl) (s0 (xaI rfl) (s0 (xaI rfl) (c_end (n_then (wp_seq (wp_seq (c_reg (s0 (xmI rfl) (s0 (xmI rfl) (c_end (n_then ?_)))))))))))))
  refine wp_block ?_
  refine c_loop (γ := Nat × List Bk) (fun g => (manyOf (rmF s a)).toNat - g.1) (fun (g : Nat × List Bk) E wl => ∃ E0 pz900 cz900 Fz900, E = upd (upd (upd (upd (upd (upd (upd (upd E0 1 (.slice p xs.length c)) 2 (pt b1 0)) 4 (pt b4 0)) 5 (pt b7 0)) 9 (pt b14 0)) 11 (.int .i64 (side (rmF s a)))) 34 (.int .i64 (manyOf (rmF s a)))) 35 (.int .i64 (g.1 : Int)) ∧ (Exm [] w wl) ∧ (w19.heap.size ≤ wl.heap.size) ∧ (Bx wl b1 [.string s, .int .i64 (rmIt s xs (side (rmF s a)) (rbAt s a 1) g.1).a] 79) ∧ (Bx wl b4 [.string .empty, .int .i64 0] 79) ∧ (Bx wl b7 [.bool false, .slice none 0 0] 34) ∧ (Bx wl b14 [.bool (rmF s a), .slice pz900 g.2.length cz900] 34) ∧ (OwN (Kb 3) wl 71 pz900 (g.2) cz900 Fz900) ∧ (Fr (w19.heap.size) Fz900) ∧ (Lt Fz900 wl.heap.size) ∧ (b1 ∉ Fz900) ∧ (b4 ∉ Fz900) ∧ (b7 ∉ Fz900) ∧ (b14 ∉ Fz900) ∧ ((g.1 : Int) ≤ manyOf (rmF s a)) ∧ ((rmIt s xs (side (rmF s a)) (rbAt s a 1) g.1).code = 0) ∧ (g.2.map Bk.pl = (rmIt s xs (side (rmF s a)) (rbAt s a 1) g.1).bs) ∧ (g.2.length ≤ g.1)) (0, []) ⟨_, _, _, _, upd_self8 rfl rfl rfl rfl rfl rfl rfl rfl, L, (by omega), B1, B4, B7, B14, OwN.nil, Fr.no, Lt.no, (by simp), (by simp), (by simp), (by simp), (by show ((0 : Nat) : Int) ≤ _; omega), rfl, rfl, (Nat.le_refl _)⟩ ?_
  rintro g E wl21 ⟨E0, pz900, cz900, Fz900, rfl, L, Lz, B1, B4, B7, B14, oz900, fz900, gz900, ab1_z900, ab4_z900, ab7_z900, ab14_z900, hk, hc, hm, hgl⟩
  have Lz0 := L.size; have hmo := manyOf_in (rmF s a)
  refine wp_seq (c_reg ?_)
  refine sb (x_lss rfl rfl) (fun h36 => ?_) (fun h36 => ?_)
  ·refine c_end (n_then (wp_seq (c_true rfl (c_skipn (n_then (wp_seq (wp_block (wp_seq (c_reg (st (x_loadAgB ag79 rfl B1 rfl) (s0 (xmS rfl) (s0 (xmI rfl) ?_))))))))))))
   refine sp (zcall cl102 rfl) (i_readBlock _ _ _ _ _ _ _ (by omega) (hp.ext L) (by omega)) ?_
   rintro v41 w22 l23 ⟨p41, c41, F41, rfl, o41, f41⟩
   have z_l23 := l23.size; have L := L.tr l23.up; have B1 := B1.ext l23; have B4 := B4.ext l23; have B7 := B7.ext l23; have B14 := B14.ext l23; have oz900 := oz900.ext l23; have g41 := o41.lt
   refine s0 (x_move (v := .tuple _) rfl) (s0 (x_extract rfl rfl) (s0 (x_extract rfl rfl) (s0 (x_extract rfl rfl) (s_alloc zr79 ?_))))
   intro b24 w25 lob24 hib24 l26 B24
   have z_l26 := l26.size; have L := L.tr l26.up; have B1 := B1.ext l26; have B4 := B4.ext l26; have B7 := B7.ext l26; have B14 := B14.ext l26; have oz900 := oz900.ext l26; have o41 := o41.ext l26
   refine s_alloc zr71 ?_
   intro b27 w28 lob27 hib27 l29 B27
   have z_l29 := l29.size; have L := L.tr l29.up; have B1 := B1.ext l29; have B4 := B4.ext l29; have B7 := B7.ext l29; have B14 := B14.ext l29; have B24 := B24.ext l29; have oz900 := oz900.ext l29; have o41 := o41.ext l29
   refine s_storeAg rfl sz79 rfl rfl B24 rfl rfl rfl ?_
   intro w30 l31 el31 B24
   have z_l31 := l31.size; have L := L.fresh l31 (by omega); have B1 := B1.ne l31 (by omega); have B4 := B4.ne l31 (by omega); have B7 := B7.ne l31 (by omega); have B14 := B14.ne l31 (by omega); have B27 := B27.ne l31 (by omega); have oz900 := oz900.ne l31 (by first|assumption|exact nin_of fz900 gz900 (by omega))
   have o41 := o41.ne l31 (by first|assumption|exact nin_of f41 g41 (by omega))
   refine s_storeAg rfl sz71 rfl rfl B27 rfl rfl rfl ?_
   intro w32 l33 el33 B27
   have z_l33 := l33.size; have L := L.fresh l33 (by omega); have B1 := B1.ne l33 (by omega); have B4 := B4.ne l33 (by omega); have B7 := B7.ne l33 (by omega); have B14 := B14.ne l33 (by omega); have B24 := B24.ne l33 (by omega); have oz900 := oz900.ne l33 (by first|assumption|exact nin_of fz900 gz900 (by omega))
   have o41 := o41.ne l33 (by first|assumption|exact nin_of f41 g41 (by omega))
   refine s0 (xaI rfl) (c_end (n_then (wp_seq (wp_seq (c_reg (s0 (xmI rfl) ?_))))))
   refine sb (x_neq rfl rfl) (fun h46 => ?_) (fun h46 => ?_)
   ·refine c_end (n_then (c_true rfl (wp_seq (c_reg (st (x_loadAgB ag79 rfl B24 rfl) ?_)))))
    refine s0 (x_build (cs := [.bool false, .slice none 0 0]) bd34 pts_nil rfl) ?_
    refine s0 (xmI rfl) (s_storeAg rfl sz79 rfl rfl B4 rfl rfl rfl ?_)
    intro w34 l35 el35 B4
    have z_l35 := l35.size; have L := L.fresh l35 (by omega); have B1 := B1.ne l35 (by omega); have B7 := B7.ne l35 (by omega); have B14 := B14.ne l35 (by omega); have B24 := B24.ne l35 (by omega); have B27 := B27.ne l35 (by omega); have oz900 := oz900.ne l35 (by first|assumption|exact nin_of fz900 gz900 (by omega))
    have o41 := o41.ne l35 (by first|assumption|exact nin_of f41 g41 (by omega))
    refine s_storeAg rfl sz34 rfl rfl B7 rfl rfl rfl ?_
    intro w36 l37 el37 B7
    have z_l37 := l37.size; have L := L.fresh l37 (by omega); have B1 := B1.ne l37 (by omega); have B4 := B4.ne l37 (by omega); have B14 := B14.ne l37 (by omega); have B24 := B24.ne l37 (by omega); have B27 := B27.ne l37 (by omega); have oz900 := oz900.ne l37 (by first|assumption|exact nin_of fz900 gz900 (by omega))
    have o41 := o41.ne l37 (by first|assumption|exact nin_of f41 g41 (by omega))
    refine s0 (xaI rfl) (c_end (n_then ?_))
    refine wp_ret (r_then (r_block (r_then (r_then (r_block (r_then ?_))))))
    refine f_rets3 rfl (ro_cell rfl ag79 B4 rfl) (ro_cell rfl ag34 B7 rfl) (ro_tmp rfl) ?_
    have hR : rmR s a xs = ⟨rbkA s (rmIt s xs (side (rmF s a)) (rbAt s a 1) g.1).a xs (side (rmF s a)), rbkE s (rmIt s xs (side (rmF s a)) (rbAt s a 1) g.1).a xs (side (rmF s a)), []⟩ := by rw [rm_yes h20]; exact rm_fail hc h46 (by have := manyB_cast (rmF s a); omega)
    have hne : (rmR s a xs).code ≠ 0 := by rw [hR]; exact h46
    rw [rmF_no hne, hR]
    exact ⟨_, rfl, L, none, [], 0, [], rfl, OwN.nil, Fr.no, rfl⟩
   ·refine c_end (n_then (c_false rfl (c_skipn (n_then (wp_seq (c_reg (st (x_loadAgB ag79 rfl B24 rfl) (s_storeAg rfl sz79 rfl rfl B1 rfl rfl rfl ?_))))))))
    intro w38 l39 el39 B1
    have z_l39 := l39.size; have L := L.fresh l39 (by omega); have B4 := B4.ne l39 (by omega); have B7 := B7.ne l39 (by omega); have B14 := B14.ne l39 (by omega); have B24 := B24.ne l39 (by omega); have B27 := B27.ne l39 (by omega); have oz900 := oz900.ne l39 (by first|assumption|exact nin_of fz900 gz900 (by omega))
    have o41 := o41.ne l39 (by first|assumption|exact nin_of f41 g41 (by omega))
    refine c_end (n_then (c_reg (s0 (x_fieldAddr fa34_1 rfl) (st (x_loadB sc32 rfl B14 rfl) (st (x_loadAgB ag71 rfl B27 rfl) ?_)))))
    refine s_bsr (g := fun x => .agg (brow x).toArray) (xs := [(⟨rbkM s (rmIt s xs (side (rmF s a)) (rbAt s a 1) g.1).a xs (side (rmF s a)), p41, rbkL s (rmIt s xs (side (rmF s a)) (rbAt s a 1) g.1).a xs (side (rmF s a)), c41, F41⟩ : Bk)]) (fun _ => rfl) brow_len so32 zr71 (pts_cons rfl pts_nil) rfl rfl rfl ?_
    intro p54 F54 w40 l41 o54 f54 g54
    have z_l41 := l41.size; have L := L.tr l41.up; have B1 := B1.ext l41; have B4 := B4.ext l41; have B7 := B7.ext l41; have B14 := B14.ext l41; have B24 := B24.ext l41; have B27 := B27.ext l41; have oz900 := oz900.ext l41; have o41 := o41.ext l41; have hn54 := o54.nr brow_len (by decide)
    refine s_appN (B := w19.heap.size) (K := (Kb 3)) (v := (⟨rbkM s (rmIt s xs (side (rmF s a)) (rbAt s a 1) g.1).a xs (side (rmF s a)), p41, rbkL s (rmIt s xs (side (rmF s a)) (rbAt s a 1) g.1).a xs (side (rmF s a)), c41, F41⟩ : Bk)) so32 zr71 rfl rfl rfl rfl oz900 o54.sl o41 (by first|assumption|exact Dj.symm (by assumption)|exact dj_of f41 g41 fz900 gz900 (by omega)) fz900 (by omega) (f41.mono (by omega)) (by omega) (by omega) ?_
    intro p55 c55 F55 w42 l43 o55 k55 f55 g55
    have ab1_55 : b1 ∉ F55 := k55.nin (by simp only [List.mem_append, not_or]; exact ⟨(by first|assumption|exact nin_of fz900 gz900 (by omega)), (by first|assumption|exact nin_of f41 g41 (by omega))⟩) (by omega)
    have B1 := B1.exm l43 (by first|assumption|exact nin_of fz900 gz900 (by omega))
    have ab4_55 : b4 ∉ F55 := k55.nin (by simp only [List.mem_append, not_or]; exact ⟨(by first|assumption|exact nin_of fz900 gz900 (by omega)), (by first|assumption|exact nin_of f41 g41 (by omega))⟩) (by omega)
    have B4 := B4.exm l43 (by first|assumption|exact nin_of fz900 gz900 (by omega))
    have ab7_55 : b7 ∉ F55 := k55.nin (by simp only [List.mem_append, not_or]; exact ⟨(by first|assumption|exact nin_of fz900 gz900 (by omega)), (by first|assumption|exact nin_of f41 g41 (by omega))⟩) (by omega)
    have B7 := B7.exm l43 (by first|assumption|exact nin_of fz900 gz900 (by omega))
    have ab14_55 : b14 ∉ F55 := k55.nin (by simp only [List.mem_append, not_or]; exact ⟨(by first|assumption|exact nin_of fz900 gz900 (by omega)), (by first|assumption|exact nin_of f41 g41 (by omega))⟩) (by omega)
    have B14 := B14.exm l43 (by first|assumption|exact nin_of fz900 gz900 (by omega))
    have ab24_55 : b24 ∉ F55 := k55.nin (by simp only [List.mem_append, not_or]; exact ⟨(by first|assumption|exact nin_of fz900 gz900 (by omega)), (by first|assumption|exact nin_of f41 g41 (by omega))⟩) (by omega)
    have B24 := B24.exm l43 (by first|assumption|exact nin_of fz900 gz900 (by omega))
    have ab27_55 : b27 ∉ F55 := k55.nin (by simp only [List.mem_append, not_or]; exact ⟨(by first|assumption|exact nin_of fz900 gz900 (by omega)), (by first|assumption|exact nin_of f41 g41 (by omega))⟩) (by omega)
    have B27 := B27.exm l43 (by first|assumption|exact nin_of fz900 gz900 (by omega))
    have z_l43 := l43.size; have L := L.freshL l43 fz900 (by omega); have d54_55 : Dj F54 F55 := k55.dj (dj_app' (by first|assumption|exact Dj.symm (by assumption)|exact dj_of f54 g54 fz900 gz900 (by omega)) (by first|assumption|exact Dj.symm (by assumption)|exact dj_of f54 g54 f41 g41 (by omega))) g54 (by omega)
    have o54 := o54.exm l43 (by first|assumption|exact Dj.symm (by assumption)|exact dj_of fz900 gz900 f54 g54 (by omega))
    refine s0 (x_fieldAddr fa34_1 rfl) ?_
    refine s_store (v := .slice _ _ _) (cs' := [_, _]) rfl sz32 rfl rfl rfl rfl B14 rfl rfl ?_
    intro w44 l45 el45 B14
    have z_l45 := l45.size; have L := L.fresh l45 (by omega); have B1 := B1.ne l45 (by omega); have B4 := B4.ne l45 (by omega); have B7 := B7.ne l45 (by omega); have B24 := B24.ne l45 (by omega); have B27 := B27.ne l45 (by omega); have o54 := o54.ne l45 (by first|assumption|exact nin_of f54 g54 (by omega))
    have o55 := o55.ne l45 (by first|assumption|exact nin_of f55 g55 (by omega))
    refine c_end (n_block (n_then (c_reg (s0 (x_add rfl rfl (by omega)) (s0 (xmI rfl) (c_end ?_))))))
    have hgo := rm_go (s := s) (xs := xs) (n := side (rmF s a)) (a := rbAt s a 1) (k := g.1) hc (Classical.not_not.1 h46)
    exact c_round (g' := (g.1 + 1, g.2 ++ [(⟨rbkM s (rmIt s xs (side (rmF s a)) (rbAt s a 1) g.1).a xs (side (rmF s a)), p41, rbkL s (rmIt s xs (side (rmF s a)) (rbAt s a 1) g.1).a xs (side (rmF s a)), c41, F41⟩ : Bk)])) (by show (manyOf (rmF s a)).toNat - (g.1 + 1) < (manyOf (rmF s a)).toNat - g.1; omega) ⟨_, _, _, _, upd_self8 rfl rfl rfl rfl rfl rfl rfl (vint (by show _ = ((g.1 + 1 : Nat) : Int); omega)), L, (by omega), (bx_eq (by rw [hgo]) B1), B4, B7, B14, o55, (f55.mono (by omega)), (g55.mono (by omega)), (by first|assumption|exact nin_of f55 g55 (by omega)), (by first|assumption|exact nin_of f55 g55 (by omega)), (by first|assumption|exact nin_of f55 g55 (by omega)), (by first|assumption|exact nin_of f55 g55 (by omega)), (by show ((g.1 + 1 : Nat) : Int) ≤ _; omega), (by rw [hgo]), (by show (g.2 ++ [_]).map Bk.pl = _; rw [List.map_append, hm, hgo]; rfl), (by show (g.2 ++ [_]).length ≤ g.1 + 1; rw [List.length_append]; simp only [List.length_cons, List.length_nil]; omega)⟩
  ·refine c_end (n_then (wp_seq (c_false rfl ?_)))
   refine wp_exit (e_then (e_then (e_here ?_)))
   refine n_then (wp_seq ?_)
   refine c_plan (fun wq => Exm [b4, b7] wl21 wq) 5 (.cons (0, 1) (.cons (1, 1) (.cons (2, 0) (.cons (3, 0) (.cons (4, 2) .nil))))) (by kernel_rfl) (by kernel_rfl) (Exm.drew _) ?_
   obtain ⟨w46, hwd⟩ : ∃ x, x = wl21.drew := ⟨_, rfl⟩
   have l47 : Ext wl21 w46 := by rw [hwd]; exact Exm.drew _
   rw [← hwd]; clear hwd
   have Lq : Exm [b4, b7] wl21 w46 := l47.up; have qB1 := B1; have qB14 := B14; have z_l47 := l47.size; have L := L.tr l47.up; have B1 := B1.ext l47; have B4 := B4.ext l47; have B7 := B7.ext l47; have B14 := B14.ext l47; have oz900 := oz900.ext l47
   refine ps rfl (fun wq hwq => x_loadAgB ag79 rfl (qB1.exm hwq (by simp; omega)) rfl) ?_
   refine ps rfl (fun wq hwq => x_loadAgB ag34 rfl (qB14.exm hwq (by simp; omega)) rfl) ?_
   refine pu rfl (s_storeAg rfl sz79 rfl rfl B4 rfl rfl rfl ?_)
   intro w48 l49 el49 B4
   have z_l49 := l49.size; have L := L.fresh l49 (by omega); have Lq := Lq.within l49 (by simp)
   have B1 := B1.ne l49 (by omega); have B7 := B7.ne l49 (by omega); have B14 := B14.ne l49 (by omega); have oz900 := oz900.ne l49 (by first|assumption|exact nin_of fz900 gz900 (by omega))
   refine c_end ⟨rfl, fun h hS => Lq, ?_⟩
   refine pu rfl (s_storeAg rfl sz34 rfl rfl B7 rfl rfl rfl ?_)
   intro w50 l51 el51 B7
   have z_l51 := l51.size; have L := L.fresh l51 (by omega); have Lq := Lq.within l51 (by simp)
   have B1 := B1.ne l51 (by omega); have B4 := B4.ne l51 (by omega); have B14 := B14.ne l51 (by omega); have oz900 := oz900.ne l51 (by first|assumption|exact nin_of fz900 gz900 (by omega))
   refine c_end ⟨rfl, fun h hS => Lq, ?_⟩
   refine p0 rfl (xaI rfl) ?_
   refine p_nil (np_normal ?_)
   refine n_then (wp_ret (f_rets3 rfl (ro_cell rfl ag79 B4 rfl) (ro_cell rfl ag34 B7 rfl) (ro_tmp rfl) ?_))
   have hN : manyB (rmF s a) = g.1 := by have := manyB_cast (rmF s a); omega
   have hR : rmR s a xs = (rmIt s xs (side (rmF s a)) (rbAt s a 1) g.1) := by rw [rm_yes h20, hN]
   have hz : (rmR s a xs).code = 0 := by rw [hR]; exact hc
   rw [rmG_yes hz, hz, hR]
   exact ⟨_, rfl, L, _, g.2, _, _, rfl, oz900, fz900.mono (by omega), hm⟩
 ·refine s_storeAg rfl sz79 rfl rfl B1 rfl rfl rfl ?_
  intro w52 l53 el53 B1
  have z_l53 := l53.size; have L := L.fresh l53 (by omega); have B4 := B4.ne l53 (by omega); have B7 := B7.ne l53 (by omega)
  refine s0 (xaI rfl) (s0 (x_assign (v := .bool _) rfl) (c_end (n_then (wp_seq (wp_seq (c_reg (s0 (x_move (v := .bool _) rfl) (s0 (x_not rfl) (c_end (n_then (c_true rfl (wp_seq (c_reg ?_)))))))))))))
  refine st (x_loadAgB ag79 rfl B1 rfl) ?_
  refine s0 (x_build (cs := [.bool false, .slice none 0 0]) bd34 pts_nil rfl) ?_
  refine s_storeAg rfl sz79 rfl rfl B4 rfl rfl rfl ?_
  intro w54 l55 el55 B4
  have z_l55 := l55.size; have L := L.fresh l55 (by omega); have B1 := B1.ne l55 (by omega); have B7 := B7.ne l55 (by omega)
  refine s_storeAg rfl sz34 rfl rfl B7 rfl rfl rfl ?_
  intro w56 l57 el57 B7
  have z_l57 := l57.size; have L := L.fresh l57 (by omega); have B1 := B1.ne l57 (by omega); have B4 := B4.ne l57 (by omega)
  refine s0 (xaI rfl) (c_end (n_then ?_))
  refine wp_ret (r_then ?_)
  refine f_rets3 rfl (ro_cell rfl ag79 B4 rfl) (ro_cell rfl ag34 B7 rfl) (ro_tmp rfl) ?_
  obtain ⟨e1, e2⟩ := rm_short (s := s) (a := a) (xs := xs) h20
  rw [e1, e2, rbAt_no h20]
  exact ⟨_, rfl, L, none, [], 0, [], rfl, OwN.nil, Fr.no, rfl⟩

end Go.Proofs.YtepnknffaecbdaaGreat
