/- What each function of this part returns, for every argument that meets its premises. -/
import Derived.Test.YtnehdmcilmlchaaProg
import Derived.Test.YtnehdmcilmlchaaVSxF
import Derived.Test.YtnehdmcilmlchaaVPlX
import Derived.Test.YtnehdmcilmlchaaVF1
import Derived.Test.YtnehdmcilmlchaaVF8
import Derived.Test.YtnehdmcilmlchaaVF9
namespace Go.Proofs.Ytnehdmcilmlchaa
open Go.Sx Go.Pl Go.RowKit
/-- impl.LevelOf -/
theorem i_levelOf (n : Int) (w : World) (hn : n ≤ 9223372036854775807) :
    Calls Try.prog 243 [.int .i64 n].toArray w (Ret w (.int .i64 (levelOf n))) := by
  have L : Exm [] w w := Exm.rfl'
  refine enter (n := 17) Try.func243 rfl rfl rfl ?_
  refine wp_seq ?_
  refine c_reg ?_
  refine s0 (x_assign (v := .int _ _) rfl) ?_
  refine c_end ?_
  refine n_then ?_
  refine wp_seq ?_
  refine wp_block ?_
  refine wp_seq ?_
  refine c_reg ?_
  refine s0 (x_move (v := .int _ _) rfl) ?_
  refine sb (x_lss rfl rfl) (fun h5 => ?_) (fun h5 => ?_)
  · refine s0 (x_assign (v := .bool _) rfl) ?_
    refine c_end ?_
    refine n_then ?_
    refine c_true rfl ?_
    refine wp_seq ?_
    refine c_reg ?_
    refine s0 (x_assign (v := .int _ _) rfl) ?_
    refine c_end ?_
    refine n_then ?_
    refine wp_ret (r_block (r_then ?_))
    refine f_ret rfl rfl ?_
    exact ⟨ret_int (by unfold levelOf; rw [if_pos h5]), L⟩
  · refine s0 (x_assign (v := .bool _) rfl) ?_
    refine c_end ?_
    refine n_then ?_
    refine c_false rfl ?_
    refine wp_seq ?_
    refine c_reg ?_
    refine s0 (x_move (v := .int _ _) rfl) ?_
    refine s0 (x_rem rfl rfl (by omega) (by omega)) ?_
    refine sb (x_eql rfl rfl) (fun h9 => ?_) (fun h9 => ?_)
    · refine s0 (x_assign (v := .bool _) rfl) ?_
      refine c_end ?_
      refine n_then ?_
      refine c_true rfl ?_
      refine wp_seq ?_
      refine c_reg ?_
      refine s0 (x_move (v := .int _ _) rfl) ?_
      refine s0 (x_quo rfl rfl (by omega) (by omega)) ?_
      refine s0 (x_add rfl rfl (by omega)) ?_
      refine s0 (x_assign (v := .int _ _) rfl) ?_
      refine c_end ?_
      refine n_then ?_
      refine wp_ret (r_block (r_then ?_))
      refine f_ret rfl rfl ?_
      exact ⟨ret_int (by unfold levelOf; rw [if_neg h5, if_pos h9]), L⟩
    · refine s0 (x_assign (v := .bool _) rfl) ?_
      refine c_end ?_
      refine n_then ?_
      refine c_false rfl ?_
      refine c_skipn ?_
      refine n_block ?_
      refine n_then ?_
      refine wp_seq ?_
      refine c_reg ?_
      refine s0 (x_move (v := .int _ _) rfl) ?_
      refine s0 (x_quo rfl rfl (by omega) (by omega)) ?_
      refine s0 (x_add rfl rfl (by omega)) ?_
      refine s0 (x_neg rfl (by omega)) ?_
      refine s0 (x_assign (v := .int _ _) rfl) ?_
      refine c_end ?_
      refine n_then ?_
      refine wp_ret ?_
      refine f_ret rfl rfl ?_
      exact ⟨ret_int (by unfold levelOf; rw [if_neg h5, if_neg h9]), L⟩

end Go.Proofs.Ytnehdmcilmlchaa
