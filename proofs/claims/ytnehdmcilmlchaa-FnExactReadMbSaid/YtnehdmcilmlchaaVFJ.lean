/- What each function of this part returns, for every argument that meets its premises. -/
import Derived.Test.YtnehdmcilmlchaaProg
import Derived.Test.YtnehdmcilmlchaaVSxF
import Derived.Test.YtnehdmcilmlchaaVPlY
import Derived.Test.YtnehdmcilmlchaaVF1
import Derived.Test.YtnehdmcilmlchaaVF4
import Derived.Test.YtnehdmcilmlchaaVF7
import Derived.Test.YtnehdmcilmlchaaVF8
import Derived.Test.YtnehdmcilmlchaaVF9
import Derived.Test.YtnehdmcilmlchaaVFB
import Derived.Test.YtnehdmcilmlchaaVFC
import Derived.Test.YtnehdmcilmlchaaVFD
namespace Go.Proofs.Ytnehdmcilmlchaa
open Go.Sx Go.Pl Go.RowKit
/-- impl.shape -/
theorem i_shape_t (w : World) :
    Calls Try.prog 122 [.bool true].toArray w (Ret w (.tuple [.int .i64 (manyOf true), .int .i64 (side true)].toArray)) := by
  have L : Exm [] w w := Exm.rfl'
  refine enter (n := 5) Try.func122 rfl rfl rfl ?_
  refine wp_seq ?_
  refine c_reg ?_
  refine s0 (x_assign (v := .int _ _) rfl) ?_
  refine s0 (x_assign (v := .int _ _) rfl) ?_
  refine c_end ?_
  refine n_then ?_
  refine wp_seq ?_
  refine wp_seq ?_
  refine c_reg ?_
  refine s0 (x_move (v := .bool _) rfl) ?_
  refine c_end ?_
  refine n_then ?_
  refine c_true rfl ?_
  refine wp_seq ?_
  refine c_reg ?_
  refine s0 (x_assign (v := .int _ _) rfl) ?_
  refine s0 (x_assign (v := .int _ _) rfl) ?_
  refine c_end ?_
  refine n_then ?_
  refine wp_ret (r_then ?_)
  refine f_rets2 rfl (ro_tmp rfl) (ro_tmp rfl) ?_
  exact ⟨rfl, L⟩

/-- impl.shape -/
theorem i_shape_f (w : World) :
    Calls Try.prog 122 [.bool false].toArray w (Ret w (.tuple [.int .i64 (manyOf false), .int .i64 (side false)].toArray)) := by
  have L : Exm [] w w := Exm.rfl'
  refine enter (n := 5) Try.func122 rfl rfl rfl ?_
  refine wp_seq ?_
  refine c_reg ?_
  refine s0 (x_assign (v := .int _ _) rfl) ?_
  refine s0 (x_assign (v := .int _ _) rfl) ?_
  refine c_end ?_
  refine n_then ?_
  refine wp_seq ?_
  refine wp_seq ?_
  refine c_reg ?_
  refine s0 (x_move (v := .bool _) rfl) ?_
  refine c_end ?_
  refine n_then ?_
  refine c_false rfl ?_
  refine c_skipn ?_
  refine n_then ?_
  refine wp_seq ?_
  refine c_reg ?_
  refine s0 (x_assign (v := .int _ _) rfl) ?_
  refine s0 (x_assign (v := .int _ _) rfl) ?_
  refine c_end ?_
  refine n_then ?_
  refine wp_ret ?_
  refine f_rets2 rfl (ro_tmp rfl) (ro_tmp rfl) ?_
  exact ⟨rfl, L⟩

theorem i_shape (e : Bool) (w : World) : Calls Try.prog 122 [.bool e].toArray w (Ret w (.tuple [.int .i64 (manyOf e), .int .i64 (side e)].toArray)) := by
  cases e
  · exact i_shape_f w
  · exact i_shape_t w

/-- spec.l23Side -/
theorem s_side_t (w : World) :
    Calls Try.prog 119 [.bool true].toArray w (Ret w (.int .i64 (side true))) := by
  have L : Exm [] w w := Exm.rfl'
  refine enter (n := 4) Try.func119 rfl rfl rfl ?_
  refine wp_seq ?_
  refine c_reg ?_
  refine s0 (x_assign (v := .int _ _) rfl) ?_
  refine c_end ?_
  refine n_then ?_
  refine wp_seq ?_
  refine wp_seq ?_
  refine c_reg ?_
  refine s0 (x_move (v := .bool _) rfl) ?_
  refine c_end ?_
  refine n_then ?_
  refine c_true rfl ?_
  refine wp_seq ?_
  refine c_reg ?_
  refine s0 (x_assign (v := .int _ _) rfl) ?_
  refine c_end ?_
  refine n_then ?_
  refine wp_ret (r_then ?_)
  refine f_ret rfl rfl ?_
  exact ⟨rfl, L⟩

/-- spec.l23Side -/
theorem s_side_f (w : World) :
    Calls Try.prog 119 [.bool false].toArray w (Ret w (.int .i64 (side false))) := by
  have L : Exm [] w w := Exm.rfl'
  refine enter (n := 4) Try.func119 rfl rfl rfl ?_
  refine wp_seq ?_
  refine c_reg ?_
  refine s0 (x_assign (v := .int _ _) rfl) ?_
  refine c_end ?_
  refine n_then ?_
  refine wp_seq ?_
  refine wp_seq ?_
  refine c_reg ?_
  refine s0 (x_move (v := .bool _) rfl) ?_
  refine c_end ?_
  refine n_then ?_
  refine c_false rfl ?_
  refine c_skipn ?_
  refine n_then ?_
  refine wp_seq ?_
  refine c_reg ?_
  refine s0 (x_assign (v := .int _ _) rfl) ?_
  refine c_end ?_
  refine n_then ?_
  refine wp_ret ?_
  refine f_ret rfl rfl ?_
  exact ⟨rfl, L⟩

theorem s_side (e : Bool) (w : World) : Calls Try.prog 119 [.bool e].toArray w (Ret w (.int .i64 (side e))) := by
  cases e
  · exact s_side_f w
  · exact s_side_t w

end Go.Proofs.Ytnehdmcilmlchaa
