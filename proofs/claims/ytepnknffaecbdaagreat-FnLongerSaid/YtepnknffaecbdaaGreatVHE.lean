/- What each function of this part returns, for every argument that meets its premises. -/
import Derived.Test.YtepnknffaecbdaaGreatProg
import Derived.Test.YtepnknffaecbdaaGreatVSxA
import Derived.Test.YtepnknffaecbdaaGreatVTy
import Derived.Test.YtepnknffaecbdaaGreatVPlA
import Derived.Test.YtepnknffaecbdaaGreatVF1
import Derived.Test.YtepnknffaecbdaaGreatVF7
import Derived.Test.YtepnknffaecbdaaGreatVF9
import Derived.Test.YtepnknffaecbdaaGreatVHA
import Derived.Test.YtepnknffaecbdaaGreatVHB
namespace Go.Proofs.YtepnknffaecbdaaGreat
open Go.Sx Go.Pl Go.RowKit
theorem i_inv4 (p : Option Addr) (xs : List Int) (c : Nat) (w : World) (hp : Sl w p xs.length c 1 (ic xs)) (hl : xs.length ≤ 1099511627776) :
    Calls Tryz.prog 142 [.slice p xs.length c].toArray w (RetP w fun v w' => ∃ p c F, v = .slice p (prodG mAt xs 4).length c ∧ Own w' p (prodG mAt xs 4).length c 3 1 (ic (prodG mAt xs 4)) F ∧ Fr w.heap.size F) := by
 have hsm : smallMt (fun r k => mt matA k r) 4 := mAt_small
 have L : Exm [] w w := Exm.rfl'
 refine enter (n := 7) Tryz.func142 rfl rfl rfl ?_
 refine wp_seq (c_reg (s0 (xaS rfl) (c_end (n_then (wp_seq (c_reg ?_))))))
 refine sp (zcall cl196 rfl) (i_matrixA _) ?_
 rintro v3 w1 l2 ⟨p3, c3, ls3, rfl, hM3⟩
 have z_l2 := l2.size; have L := L.tr l2.up
 refine sp (zcall cl195 rfl) (i_turned _ _ _ _ _ _ hM3 (by omega)) ?_
 rintro v4 w3 l4 ⟨p4, c4, ls4, rfl, hM4⟩
 have z_l4 := l4.size; have L := L.tr l4.up
 refine s0 (xmS rfl) ?_
 refine sp (zcall cl194 rfl) (i_product _ _ _ _ _ _ _ _ _ hM4 (hp.ext L) (by omega) (by omega) (by assumption)) ?_
 rintro v6 w5 l6 ⟨p6, c6, F6, rfl, o6, f6⟩
 have z_l6 := l6.size; have L := L.tr l6.up; have g6 := o6.lt
 refine s0 (xaS rfl) (c_end (n_then (wp_ret (f_ret rfl rfl ?_))))
 exact ⟨_, rfl, L, _, _, _, rfl, o6, f6.mono (by omega)⟩

theorem i_inv8 (p : Option Addr) (xs : List Int) (c : Nat) (w : World) (hp : Sl w p xs.length c 1 (ic xs)) (hl : xs.length ≤ 1099511627776) :
    Calls Tryz.prog 143 [.slice p xs.length c].toArray w (RetP w fun v w' => ∃ p c F, v = .slice p (prodG hEnt xs 8).length c ∧ Own w' p (prodG hEnt xs 8).length c 3 1 (ic (prodG hEnt xs 8)) F ∧ Fr w.heap.size F) := by
 have hsm := hEnt_small; have L : Exm [] w w := Exm.rfl'
 refine enter (n := 6) Tryz.func143 rfl rfl rfl ?_
 refine wp_seq (c_reg (s0 (xaS rfl) (c_end (n_then (wp_seq (c_reg ?_))))))
 refine sp (zcall cl197 rfl) (i_matrixH _) ?_
 rintro v3 w1 l2 ⟨p3, c3, ls3, rfl, hM3⟩
 have z_l2 := l2.size; have L := L.tr l2.up
 refine s0 (xmS rfl) ?_
 refine sp (zcall cl194 rfl) (i_product _ _ _ _ _ _ _ _ _ hM3 (hp.ext L) (by omega) (by omega) (by assumption)) ?_
 rintro v5 w3 l4 ⟨p5, c5, F5, rfl, o5, f5⟩
 have z_l4 := l4.size; have L := L.tr l4.up; have g5 := o5.lt
 refine s0 (xaS rfl) (c_end (n_then (wp_ret (f_ret rfl rfl ?_))))
 exact ⟨_, rfl, L, _, _, _, rfl, o5, f5.mono (by omega)⟩

end Go.Proofs.YtepnknffaecbdaaGreat
