/- What each function of this part returns, for every argument that meets its premises. -/
import Derived.Test.YtnehdmcilmlchaaProg
import Derived.Test.YtnehdmcilmlchaaVSxF
import Derived.Test.YtnehdmcilmlchaaVPlX
import Derived.Test.YtnehdmcilmlchaaVF1
import Derived.Test.YtnehdmcilmlchaaVF5
import Derived.Test.YtnehdmcilmlchaaVF8
import Derived.Test.YtnehdmcilmlchaaVF9
namespace Go.Proofs.Ytnehdmcilmlchaa
open Go.Sx Go.Pl Go.RowKit
theorem cl171FC : Callable Try.prog 171 := callable Try.func171 (by kernel_rfl) rfl
theorem cl175FC : Callable Try.prog 175 := callable Try.func175 (by kernel_rfl) rfl
theorem so40FC : SliceOf Try.prog 40 3 1 8 := ⟨by kernel_rfl, by kernel_rfl⟩
theorem zr3FC : ZeroV Try.prog 3 [.int .i64 0] := by unfold ZeroV; kernel_rfl
/-- spec.l6Num -/
theorem s_l6Num (b B : Nat) (w : World) (hcu : Cu w b B 192) :
    Calls Try.prog 173 [pt b 0].toArray w (RetM [b] w fun v w' => (∃ x : Int, v = .int .i64 x ∧ True) ∧ Cu w' b B 192) := by
  have hcb := hcu.lt
  have L : Exm [b] w w := Exm.rfl'
  refine enter (n := 10) Try.func173 rfl rfl rfl ?_
  refine wp_seq ?_
  refine c_reg ?_
  refine s0 (x_assign (v := .int _ _) rfl) ?_
  refine c_end ?_
  refine n_then ?_
  refine wp_seq ?_
  refine c_reg ?_
  refine s0 (x_move (v := .pointer _) rfl) ?_
  refine s0 (x_move (v := .pointer _) rfl) ?_
  refine spm (zcall cl171FC rfl) (s_below b _ _ _ hcu) ?_
  rintro v5 w1 l2 ⟨⟨x5, rfl, hx5⟩, hcu⟩
  have z_l2 := l2.size
  have L := L.within l2 (by simp)
  refine s0 (x_move (v := .pointer _) rfl) ?_
  refine spm (zcall cl171FC rfl) (s_below b _ _ _ hcu) ?_
  rintro v7 w3 l4 ⟨⟨x7, rfl, hx7⟩, hcu⟩
  have z_l4 := l4.size
  have L := L.within l4 (by simp)
  refine s_bsi (xs := [_, _, _, _, _, _, _, _, _, _, _, _, _, _]) so40FC zr3FC (pts_cons rfl (pts_cons rfl (pts_cons rfl (pts_cons rfl (pts_cons rfl (pts_cons rfl (pts_cons rfl (pts_cons rfl (pts_cons rfl (pts_cons rfl (pts_cons rfl (pts_cons rfl (pts_cons rfl (pts_cons rfl pts_nil)))))))))))))) rfl rfl rfl ?_
  intro p8 F8 w5 l6 o8 f8 g8
  have z_l6 := l6.size
  have L := L.tr l6.up
  have hcu := hcu.ext l6
  have hn8 := o8.n1
  refine spm (zcall cl175FC rfl) (s_pick b _ _ _ _ _ _ hcu _ o8 (by first | assumption | exact nin_of f8 g8 (by omega)) (by omega)) ?_
  rintro v9 w7 l8 ⟨⟨x9, rfl, hx9⟩, hcu⟩
  have z_l8 := l8.size
  have L := L.within l8 (by simp)
  have o8 := o8.ne l8 (by first | assumption | exact nin_of f8 g8 (by omega))
  refine s0 (x_assign (v := .int _ _) rfl) ?_
  refine c_end ?_
  refine n_then ?_
  refine wp_ret ?_
  refine f_ret rfl rfl ?_
  exact ⟨_, rfl, L, ⟨_, rfl, trivial⟩, hcu⟩

end Go.Proofs.Ytnehdmcilmlchaa
