/- What each function of this part returns, for every argument that meets its premises. -/
import Derived.Test.YtepnknffaecbdaaGreatProg
import Derived.Test.YtepnknffaecbdaaGreatVSxA
import Derived.Test.YtepnknffaecbdaaGreatVTy
import Derived.Test.YtepnknffaecbdaaGreatVPlA
import Derived.Test.YtepnknffaecbdaaGreatVFW
import Derived.Test.YtepnknffaecbdaaGreatVFX
import Derived.Test.YtepnknffaecbdaaGreatVH8
import Derived.Test.YtepnknffaecbdaaGreatVH9
namespace Go.Proofs.YtepnknffaecbdaaGreat
open Go.Sx Go.Pl Go.RowKit
set_option maxRecDepth 4000 in
theorem i_refDecode (s : ByteArray) (w : World) (hs : s.size ≤ 1048576) :
    Calls Tryz.prog 16 [.string s].toArray w (RetP w fun v w' => ∃ (p : Option Addr) (c : Nat) (F : List Nat), v = .tuple [.agg [.int .i64 (rdS s (prW s)), .int .i64 (rdS s (prH s)), .slice p (rdX s).length c].toArray, .int .i64 (prR s).code].toArray ∧ Own w' p (rdX s).length c 3 1 (ic (rdX s)) F ∧ Fr w.heap.size F) := by
 have L : Exm [] w w := Exm.rfl'
 refine enter (n := 19) Tryz.func16 rfl rfl rfl ?_
 refine wp_seq (c_reg (s_alloc zr36 ?_))
 intro b1 w2 lob1 hib1 l3 B1
 have z_l3 := l3.size; have L := L.tr l3.up
 refine s0 (xaI rfl) (c_end (n_then (wp_seq (c_reg (s0 (x_move (v := .string _) rfl) ?_)))))
 refine sp (zcall cl14 rfl) (i_parse _ _ (by omega)) ?_
 rintro v9 w4 l5 ⟨p9, c9, F9, p9m, ms9, c9m, F9m, rfl, o9, f9, o9m, f9m, dj9, hm9⟩
 have z_l5 := l5.size; have L := L.tr l5.up; have B1 := B1.ext l5; have g9 := o9.lt; have g9m := o9m.lt
 refine s0 (x_move (v := .tuple _) rfl) (s0 (x_extract rfl rfl) (s0 (x_extract rfl rfl) (s0 (x_extract rfl rfl) (s_alloc zr29 ?_))))
 intro b6 w7 lob6 hib6 l8 B6
 have z_l8 := l8.size; have L := L.tr l8.up; have B1 := B1.ext l8; have o9 := o9.ext l8; have o9m := o9m.ext l8
 refine s_storeAg rfl sz29 rfl rfl B6 rfl rfl rfl ?_
 intro w9 l10 el10 B6
 have z_l10 := l10.size; have L := L.fresh l10 (by omega); have B1 := B1.ne l10 (by omega); have o9 := o9.ne l10 (by first|assumption|exact nin_of f9 g9 (by omega))
 have o9m := o9m.ne l10 (by first|assumption|exact nin_of f9m g9m (by omega))
 refine s0 (xaI rfl) (s0 (xaI rfl) (c_end (n_then (wp_seq (wp_seq (c_reg (s0 (xmI rfl) ?_)))))))
 refine sb (x_neq rfl rfl) (fun h14 => ?_) (fun h14 => ?_)
 ·refine c_end (n_then (c_true rfl (wp_seq (c_reg ?_))))
  refine s0 (x_build (cs := [.int .i64 0, .int .i64 0, .slice none 0 0]) bd36 pts_nil rfl) ?_
  refine s0 (xmI rfl) (s_storeAg rfl sz36 rfl rfl B1 rfl rfl rfl ?_)
  intro w11 l12 el12 B1
  have z_l12 := l12.size; have L := L.fresh l12 (by omega); have B6 := B6.ne l12 (by omega); have o9 := o9.ne l12 (by first|assumption|exact nin_of f9 g9 (by omega))
  have o9m := o9m.ne l12 (by first|assumption|exact nin_of f9m g9m (by omega))
  refine s0 (xaI rfl) (c_end (n_then ?_))
  refine wp_ret (r_then ?_)
  refine f_rets2 rfl (ro_cell rfl ag36 B1 rfl) (ro_tmp rfl) ?_
  obtain ⟨e1, e2, e3⟩ := rd_no (s := s) h14
  rw [e1, e2, e3]
  exact ⟨_, rfl, L, none, 0, [], rfl, Own.nil, Fr.no⟩
 ·refine c_end (n_then (c_false rfl (c_skipn (n_then (wp_seq ?_)))))
  obtain ⟨hl9, hs9, hb9⟩ := pr_small hm9
  have hpl := prL_len s
  refine c_reg (st (x_loadAgB ag29 rfl B6 rfl) ?_)
  refine sp (zcall cl10 rfl) (i_buildRef _ _ _ _ _ _ _ _ _ _ _ _ o9.sl o9m.rdm (by omega) (by omega) hb9) ?_
  rintro v18 w13 l14 ⟨p18, c18, F18, rfl, o18, f18⟩
  have z_l14 := l14.size; have L := L.tr l14.up; have B1 := B1.ext l14; have B6 := B6.ext l14; have o9 := o9.ext l14; have o9m := o9m.ext l14; have g18 := o18.lt
  refine s_storeAg rfl sz36 rfl rfl B1 rfl rfl rfl ?_
  intro w15 l16 el16 B1
  have z_l16 := l16.size; have L := L.fresh l16 (by omega); have B6 := B6.ne l16 (by omega); have o9 := o9.ne l16 (by first|assumption|exact nin_of f9 g9 (by omega))
  have o9m := o9m.ne l16 (by first|assumption|exact nin_of f9m g9m (by omega))
  have o18 := o18.ne l16 (by first|assumption|exact nin_of f18 g18 (by omega))
  refine s0 (xaI rfl) (c_end (n_then (wp_ret (f_rets2 rfl (ro_cell rfl ag36 B1 rfl) (ro_tmp rfl) ?_))))
  have hc : (prR s).code = 0 := Classical.not_not.1 h14
  obtain ⟨e1, e2, e3⟩ := rd_yes hc hm9
  rw [e1, e2, e3, hc]
  exact ⟨_, rfl, L, _, _, _, rfl, o18, f18.mono (by omega)⟩

end Go.Proofs.YtepnknffaecbdaaGreat
