/- What each function of this part returns, for every argument that meets its premises. -/
import Derived.Test.YtepnknffaecbdaaGreatProg
import Derived.Test.YtepnknffaecbdaaGreatVSxA
import Derived.Test.YtepnknffaecbdaaGreatVTy
import Derived.Test.YtepnknffaecbdaaGreatVPlA
import Derived.Test.YtepnknffaecbdaaGreatVF4
namespace Go.Proofs.YtepnknffaecbdaaGreat
open Go.Sx Go.Pl Go.RowKit
theorem s_frameNew (W H : Int) (w : World) (hs : sidesOk W H) :
    Calls Tryz.prog 47 [.int .i64 W, .int .i64 H].toArray w (RetP w fun v w' => ∃ p' c' F', v = .agg [.int .i64 W, .int .i64 H, .slice p' (W * H).toNat c'].toArray ∧ Own w' p' (W * H).toNat c' 3 1 (ic (List.replicate (W * H).toNat 0)) F' ∧ Fr w.heap.size F') := by
 have hm := sides_mul hs; have L : Exm [] w w := Exm.rfl'
 refine enter (n := 17) Tryz.func47 rfl rfl rfl ?_
 refine wp_seq (c_reg (s_alloc zr36 ?_))
 intro b1 w2 lob1 hib1 l3 B1
 have z_l3 := l3.size; have L := L.tr l3.up
 refine c_end (n_then (wp_seq (wp_seq (c_reg (s0 (xmI rfl) (s0 (xmI rfl) ?_))))))
 refine srb (zcall cl36 rfl) (s_sidesOk _ _ _) (fun h7 w4 l5 => ?_) (fun h7 w4 l5 => ?_)
 ·have z_l5 := l5.size
  have L := L.tr l5.up; have B1 := B1.ext l5
  refine s0 (x_not rfl) (c_end (n_then (c_false rfl (c_skipn (n_then (wp_seq (c_reg (s0 (xmI rfl) (s0 (xmI rfl) (s0 (xmI rfl) (s0 (xmI rfl) (s0 (x_mul rfl rfl (by omega)) (s_makei so24 zr3 rfl rfl (by omega) (by omega) (by omega) ?_)))))))))))))
  intro p15 F15 w6 l7 o15 f15 g15
  have z_l7 := l7.size; have L := L.tr l7.up; have B1 := B1.ext l7; have hn15 := o15.n1
  refine s0 (x_build (cs := [.int _ _, .int _ _, .slice _ _ _]) bd36 (pts_cons (v := .int _ _) rfl (pts_cons (v := .int _ _) rfl (pts_cons (v := .slice _ _ _) rfl pts_nil))) rfl) ?_
  refine s_storeAg rfl sz36 rfl rfl B1 rfl rfl rfl ?_
  intro w8 l9 el9 B1
  have z_l9 := l9.size; have L := L.fresh l9 (by omega); have o15 := o15.ne l9 (by first|assumption|exact nin_of f15 g15 (by omega))
  refine c_end (n_then (wp_ret (f_retc rfl rfl ag36 B1 rfl ?_)))
  exact ⟨_, rfl, L, _, _, _, rfl, o15, f15.mono (by omega)⟩
 ·exact absurd hs h7

end Go.Proofs.YtepnknffaecbdaaGreat
