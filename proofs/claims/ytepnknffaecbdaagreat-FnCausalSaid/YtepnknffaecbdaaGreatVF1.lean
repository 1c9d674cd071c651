/- What each function of this part returns, for every argument that meets its premises. -/
import Derived.Test.YtepnknffaecbdaaGreatProg
import Derived.Test.YtepnknffaecbdaaGreatVSxA
import Derived.Test.YtepnknffaecbdaaGreatVTy
import Derived.Test.YtepnknffaecbdaaGreatVPlA
namespace Go.Proofs.YtepnknffaecbdaaGreat
open Go.Sx Go.Pl Go.RowKit
theorem i_within (n lo hi : Int) (w : World) :
    Calls Tryz.prog 77 [.int .i64 n, .int .i64 lo, .int .i64 hi].toArray w (Ret w (.bool (decide (lo ≤ n ∧ n ≤ hi)))) := by
 have L : Exm [] w w := Exm.rfl'
 refine enter (n := 15) Tryz.func77 rfl rfl rfl ?_
 refine wp_seq (c_reg (s0 (x_assign (v := .bool _) rfl) (c_end (n_then (wp_seq (c_reg (s0 (xmI rfl) (s0 (xmI rfl) ?_))))))))
 refine sb (x_leq rfl rfl) (fun h9 => ?_) (fun h9 => ?_)
 ·refine s0 (x_move (v := .bool _) rfl) (gt rfl rfl rfl rfl (s0 (xmI rfl) (gt rfl rfl rfl rfl (s0 (xmI rfl) (gt rfl rfl rfl rfl (s0 (x_leq rfl rfl) (s0 (x_pickt (v := .bool _) rfl rfl) (s0 (x_assign (v := .bool _) rfl) (c_end (n_then (wp_ret (f_ret rfl rfl ?_))))))))))))
  exact ⟨ret_dec2 (by omega), L⟩
 ·refine s0 (x_move (v := .bool _) rfl) (gf rfl rfl rfl rfl (gf rfl rfl rfl rfl (gf rfl rfl rfl rfl (s0 (x_pickf (v := .bool _) rfl rfl) (s0 (x_assign (v := .bool _) rfl) (c_end (n_then (wp_ret (f_ret rfl rfl ?_)))))))))
  exact ⟨ret_f (by omega), L⟩

theorem s_l1In (n lo hi : Int) (w : World) :
    Calls Tryz.prog 85 [.int .i64 n, .int .i64 lo, .int .i64 hi].toArray w (Ret w (.bool (decide (lo ≤ n ∧ n ≤ hi)))) := by
 have L : Exm [] w w := Exm.rfl'
 refine enter (n := 15) Tryz.func85 rfl rfl rfl ?_
 refine wp_seq (c_reg (s0 (x_assign (v := .bool _) rfl) (c_end (n_then (wp_seq (c_reg (s0 (xmI rfl) (s0 (xmI rfl) ?_))))))))
 refine sb (x_geq rfl rfl) (fun h9 => ?_) (fun h9 => ?_)
 ·refine s0 (x_move (v := .bool _) rfl) (gt rfl rfl rfl rfl (s0 (xmI rfl) (gt rfl rfl rfl rfl (s0 (xmI rfl) (gt rfl rfl rfl rfl (s0 (x_leq rfl rfl) (s0 (x_pickt (v := .bool _) rfl rfl) (s0 (x_assign (v := .bool _) rfl) (c_end (n_then (wp_ret (f_ret rfl rfl ?_))))))))))))
  exact ⟨ret_dec2 (by omega), L⟩
 ·refine s0 (x_move (v := .bool _) rfl) (gf rfl rfl rfl rfl (gf rfl rfl rfl rfl (gf rfl rfl rfl rfl (s0 (x_pickf (v := .bool _) rfl rfl) (s0 (x_assign (v := .bool _) rfl) (c_end (n_then (wp_ret (f_ret rfl rfl ?_)))))))))
  exact ⟨ret_f (by omega), L⟩

end Go.Proofs.YtepnknffaecbdaaGreat
