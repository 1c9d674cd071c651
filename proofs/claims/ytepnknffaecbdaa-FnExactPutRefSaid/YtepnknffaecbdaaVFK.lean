/- What each function of this part returns, for every argument that meets its premises. -/
import Derived.Test.YtepnknffaecbdaaProg
import Derived.Test.YtepnknffaecbdaaVSxF
import Derived.Test.YtepnknffaecbdaaVPlY
import Derived.Test.YtepnknffaecbdaaVF1
import Derived.Test.YtepnknffaecbdaaVF9
import Derived.Test.YtepnknffaecbdaaVFB
import Derived.Test.YtepnknffaecbdaaVFC
import Derived.Test.YtepnknffaecbdaaVFD
import Derived.Test.YtepnknffaecbdaaVFJ
namespace Go.Proofs.Ytepnknffaecbdaa
open Go.Sx Go.Pl Go.RowKit
theorem cl37FK : Callable Try.prog 37 := callable Try.func37 (by kernel_rfl) rfl
theorem fa111_1FK : FieldAt Try.prog 111 1 1 := ⟨_, _, Try.underlying111, rfl, rfl, ⟨0, by unfold Sz; kernel_rfl⟩⟩
theorem sc40FK : Sc Try.prog 40 := ⟨(.slice 3), by kernel_rfl, trivial⟩
/-- laws.markBlock -/
theorem l_markBlock (m : Int) (pA : Option Addr) (n c : Nat) (xs : List Int) (k : Int) (FA : List Nat) (w : World) (oA : Own w pA n c 3 1 (ic xs) FA) (hl : n ≤ 1099511627776) (hk : 0 ≤ k ∧ k ≤ 1099511627776) :
    Calls Try.prog 76 [.agg [.int .i64 m, .slice pA n c].toArray, .int .i64 k].toArray w (RetM FA w fun v w' => v = .int .i64 (k + n) ∧ Own w' pA n c 3 1 (ic (mkI k n)) FA) := by
  obtain rfl : n = xs.length := oA.n1
  have fA : Fr 0 FA := fun _ _ => Nat.zero_le _
  have gA := oA.lt
  have hnA := oA.n1
  have L : Exm FA w w := Exm.rfl'
  refine enter (n := 10) Try.func76 rfl rfl rfl ?_
  refine wp_seq ?_
  refine c_reg ?_
  refine s_box rfl rfl ?_
  intro b1 w2 lob1 hib1 l3 B1
  have z_l3 := l3.size
  have L := L.tr l3.up
  have oA := oA.ext l3
  refine s0 (x_assign (v := .int _ _) rfl) ?_
  refine c_end ?_
  refine n_then ?_
  refine wp_seq ?_
  refine c_reg ?_
  refine s0 (x_fieldAddr fa111_1FK rfl) ?_
  refine st (x_loadB sc40FK rfl B1 rfl) ?_
  refine s0 (x_move (v := .int _ _) rfl) ?_
  refine spm (zcall cl37FK rfl) (l_markIntS _ _ _ _ _ _ oA (by omega) (by omega)) ?_
  rintro v8 w4 l5 ⟨rfl, oA⟩
  have z_l5 := l5.size
  have L := L.withinL l5 (by simp)
  have B1 := B1.exm l5 (by first | assumption | exact nin_of fA gA (by omega))
  refine s0 (x_assign (v := .int _ _) rfl) ?_
  refine c_end ?_
  refine n_then ?_
  refine wp_seq ?_
  refine c_reg ?_
  refine s0 (x_move (v := .int _ _) rfl) ?_
  refine s0 (x_assign (v := .int _ _) rfl) ?_
  refine c_end ?_
  refine n_then ?_
  refine wp_ret ?_
  refine f_ret rfl rfl ?_
  exact ⟨_, rfl, L, rfl, oA⟩

end Go.Proofs.Ytepnknffaecbdaa
