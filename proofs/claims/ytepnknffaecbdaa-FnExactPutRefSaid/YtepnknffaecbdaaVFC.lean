/- What each function of this part returns, for every argument that meets its premises. -/
import Derived.Test.YtepnknffaecbdaaProg
import Derived.Test.YtepnknffaecbdaaVSxF
import Derived.Test.YtepnknffaecbdaaVPlX
import Derived.Test.YtepnknffaecbdaaVF1
import Derived.Test.YtepnknffaecbdaaVF8
import Derived.Test.YtepnknffaecbdaaVF9
namespace Go.Proofs.Ytepnknffaecbdaa
open Go.Sx Go.Pl Go.RowKit
theorem so40FC : SliceOf Try.prog 40 3 1 8 := ⟨by kernel_rfl, by kernel_rfl⟩
theorem un40FC : Try.prog.underlying 40 = some (.slice 3) := by kernel_rfl
theorem zr3FC : ZeroV Try.prog 3 [.int .i64 0] := by unfold ZeroV; kernel_rfl
theorem u64_in {z : Int} (h : 0 ≤ z ∧ z ≤ 9223372036854775807) : IntKind.u64.wrap z = z := by
  simp [IntKind.wrap, IntKind.signed, IntKind.bits]; omega

/-- slices.Clone[[]int,int] -/
theorem g_clone (p : Option Addr) (xs : List Int) (c : Nat) (w : World) (hp : Sl w p xs.length c 1 (ic xs)) (hl : xs.length ≤ 1099511627776) :
    Calls Try.prog 208 [.slice p xs.length c].toArray w (RetP w fun v w' => ∃ p c F, v = .slice p (xs).length c ∧ Own w' p (xs).length c 3 1 (ic (xs)) F ∧ Fr w.heap.size F) := by
  have L : Exm [] w w := Exm.rfl'
  refine enter (n := 8) Try.func208 rfl rfl rfl ?_
  refine wp_seq ?_
  refine c_reg ?_
  refine s0 (x_assign (v := .slice _ _ _) rfl) ?_
  refine c_end ?_
  refine n_then ?_
  refine wp_seq ?_
  refine wp_seq ?_
  refine c_reg ?_
  refine s0 (x_move (v := .slice _ _ _) rfl) ?_
  refine sb (x_eqnil un40FC rfl rfl) (fun h4 => ?_) (fun h4 => ?_)
  · refine c_end ?_
    refine n_then ?_
    refine c_true rfl ?_
    refine wp_seq ?_
    refine c_reg ?_
    refine s0 (x_assign (v := .slice _ _ _) rfl) ?_
    refine c_end ?_
    refine n_then ?_
    refine wp_ret (r_then ?_)
    refine f_ret rfl rfl ?_
    obtain ⟨hn0, hc0⟩ := hp.nil h4
    have hx0 : xs = [] := List.eq_nil_of_length_eq_zero hn0
    subst hx0
    exact ⟨_, rfl, L, none, 0, [], rfl, Own.nil, Fr.no⟩
  · refine c_end ?_
    refine n_then ?_
    refine c_false rfl ?_
    refine c_skipn ?_
    refine n_then ?_
    refine wp_seq ?_
    refine c_reg ?_
    refine s_bs0 so40FC ?_
    intro p5 F5 w1 l2 o5 f5 g5
    have o5 : Own w1 p5 0 0 3 1 (ic []) F5 := o5
    have z_l2 := l2.size
    have L := L.tr l2.up
    refine s0 (x_move (v := .slice _ _ _) rfl) ?_
    refine s_appi (B := w.heap.size) so40FC zr3FC rfl rfl (xs := _) o5 (hp.ext L) f5 (by omega) (by omega) (by omega) ?_
    intro p7 c7 F7 w3 l4 o7 hn7 k7 f7 g7
    have z_l4 := l4.size
    have L := L.freshL l4 f5 (by omega)
    refine s0 (x_assign (v := .slice _ _ _) rfl) ?_
    refine c_end ?_
    refine n_then ?_
    refine wp_ret ?_
    refine f_ret rfl rfl ?_
    exact ⟨_, rfl, L, _, _, _, rfl, o7, f7.mono (by omega)⟩

end Go.Proofs.Ytepnknffaecbdaa
