/- What each function of this part returns, for every argument that meets its premises. -/
import Derived.Test.YtepnknffaecbdaaGreatProg
import Derived.Test.YtepnknffaecbdaaGreatVSxA
import Derived.Test.YtepnknffaecbdaaGreatVTy
import Derived.Test.YtepnknffaecbdaaGreatVPlA
import Derived.Test.YtepnknffaecbdaaGreatVF5
import Derived.Test.YtepnknffaecbdaaGreatVFG
import Derived.Test.YtepnknffaecbdaaGreatVFN
namespace Go.Proofs.YtepnknffaecbdaaGreat
open Go.Sx Go.Pl Go.RowKit
set_option maxHeartbeats 2000000 in
theorem s_l22Header (b B : Nat) (w : World) (hcu : Cu w b B 104) :
    Calls Tryz.prog 126 [pt b 0].toArray w (RetM [b] w fun v w' => (∃ (za zb zq : Int) (zy zz : Bool) (p : Option Addr) (n : Nat) (xs : List Int) (c : Nat) (F : List Nat), v = .agg [.int .i64 za, .int .i64 zb, .int .i64 zq, .bool zy, .bool zz, .slice p n c].toArray ∧ Own w' p n c 3 1 (ic xs) F ∧ Fr w.heap.size F ∧ n = xs.length ∧ n = 6) ∧ Cu w' b B 104) := by
 have hcb := hcu.lt; have L : Exm [b] w w := Exm.rfl'
 refine enter (n := 21) Tryz.func126 rfl rfl rfl ?_
 refine wp_seq (c_reg (s_alloc zr26 ?_))
 intro b1 w2 lob1 hib1 l3 B1
 have z_l3 := l3.size; have L := L.tr l3.up; have hcu := hcu.ext l3
 refine c_end (n_then (wp_seq (c_reg (s0 (x_move (v := .pointer _) rfl) ?_))))
 refine spm (zcall cl63 rfl) (s_below b _ _ _ hcu) ?_
 rintro v4 w4 l5 ⟨⟨x4, rfl, hx4⟩, hcu⟩
 have z_l5 := l5.size; have L := L.within l5 (by simp)
 have B1 := B1.ne l5 (by omega)
 refine s0 (x_add rfl rfl (by omega)) (s0 (x_mul rfl rfl (by omega)) (s0 (x_move (v := .pointer _) rfl) ?_))
 refine spm (zcall cl63 rfl) (s_below b _ _ _ hcu) ?_
 rintro v8 w6 l7 ⟨⟨x8, rfl, hx8⟩, hcu⟩
 have z_l7 := l7.size; have L := L.within l7 (by simp)
 have B1 := B1.ne l7 (by omega)
 refine s0 (x_add rfl rfl (by omega)) (s0 (x_mul rfl rfl (by omega)) (s0 (x_move (v := .pointer _) rfl) ?_))
 refine s_bsi (xs := [_, _, _, _, _, _]) so24 zr3 (pts_cons rfl (pts_cons rfl (pts_cons rfl (pts_cons rfl (pts_cons rfl (pts_cons rfl pts_nil)))))) rfl rfl rfl ?_
 intro p12 F12 w8 l9 o12 f12 g12
 have z_l9 := l9.size; have L := L.tr l9.up; have hcu := hcu.ext l9; have B1 := B1.ext l9; have hn12 := o12.n1
 refine spm (zcall cl129 rfl) (s_pick b _ _ _ _ _ _ hcu _ o12 (by first|assumption|exact nin_of f12 g12 (by omega)) (by omega)) ?_
 rintro v13 w10 l11 ⟨⟨x13, rfl, hx13⟩, hcu⟩
 have z_l11 := l11.size; have L := L.within l11 (by simp)
 have B1 := B1.ne l11 (by omega); have o12 := o12.ne l11 (by first|assumption|exact nin_of f12 g12 (by omega))
 refine s0 (x_move (v := .pointer _) rfl) ?_
 refine spm (zcall cl184 rfl) (s_once b _ _ _ hcu) ?_
 rintro v15 w12 l13 ⟨⟨x15, rfl⟩, hcu⟩
 have z_l13 := l13.size; have L := L.within l13 (by simp)
 have B1 := B1.ne l13 (by omega); have o12 := o12.ne l13 (by first|assumption|exact nin_of f12 g12 (by omega))
 refine s0 (x_move (v := .pointer _) rfl) ?_
 refine spm (zcall cl184 rfl) (s_once b _ _ _ hcu) ?_
 rintro v17 w14 l15 ⟨⟨x17, rfl⟩, hcu⟩
 have z_l15 := l15.size; have L := L.within l15 (by simp)
 have B1 := B1.ne l15 (by omega); have o12 := o12.ne l15 (by first|assumption|exact nin_of f12 g12 (by omega))
 refine s0 (x_move (v := .pointer _) rfl) ?_
 refine spm (zcall cl185 rfl) (s_l8Lens b _ _ hcu) ?_
 rintro v19 w16 l17 ⟨⟨p19, n19, xs19, c19, F19, rfl, o19, f19, rfl, hx19⟩, hcu⟩
 have z_l17 := l17.size; have L := L.within l17 (by simp)
 have B1 := B1.ne l17 (by omega); have o12 := o12.ne l17 (by first|assumption|exact nin_of f12 g12 (by omega))
 have g19 := o19.lt
 refine s0 (x_build (cs := [.int _ _, .int _ _, .int _ _, .bool _, .bool _, .slice _ _ _]) bd26 (pts_cons (v := .int _ _) rfl (pts_cons (v := .int _ _) rfl (pts_cons (v := .int _ _) rfl (pts_cons (v := .bool _) rfl (pts_cons (v := .bool _) rfl (pts_cons (v := .slice _ _ _) rfl pts_nil)))))) rfl) ?_
 refine s_storeAg rfl sz26 rfl rfl B1 rfl rfl rfl ?_
 intro w18 l19 el19 B1
 have z_l19 := l19.size; have L := L.fresh l19 (by omega); have hcu := hcu.ne l19 (by omega); have o12 := o12.ne l19 (by first|assumption|exact nin_of f12 g12 (by omega))
 have o19 := o19.ne l19 (by first|assumption|exact nin_of f19 g19 (by omega))
 refine c_end (n_then (wp_ret (f_retc rfl rfl ag26 B1 rfl ?_)))
 exact ⟨_, rfl, L, ⟨_, _, _, _, _, _, _, _, _, _, rfl, o19, f19.mono (by omega), rfl, hx19⟩, hcu⟩

end Go.Proofs.YtepnknffaecbdaaGreat
