/- What each function of this part returns, for every argument that meets its premises. -/
import Derived.Test.YtnehdmcilmlchaaProg
import Derived.Test.YtnehdmcilmlchaaVSxF
import Derived.Test.YtnehdmcilmlchaaVPlY
import Derived.Test.YtnehdmcilmlchaaVF1
import Derived.Test.YtnehdmcilmlchaaVF4
import Derived.Test.YtnehdmcilmlchaaVF7
import Derived.Test.YtnehdmcilmlchaaVF8
import Derived.Test.YtnehdmcilmlchaaVF9
import Derived.Test.YtnehdmcilmlchaaVFB
import Derived.Test.YtnehdmcilmlchaaVFC
import Derived.Test.YtnehdmcilmlchaaVFD
namespace Go.Proofs.Ytnehdmcilmlchaa
open Go.Sx Go.Pl Go.RowKit
theorem cl37FJ : Callable Try.prog 37 := callable Try.func37 (by kernel_rfl) rfl
theorem cl44FJ : Callable Try.prog 44 := callable Try.func44 (by kernel_rfl) rfl
theorem fa42_5FJ : FieldAt Try.prog 42 5 5 := ⟨_, _, Try.underlying42, rfl, rfl, ⟨0, by unfold Sz; kernel_rfl⟩⟩
theorem sc40FJ : Sc Try.prog 40 := ⟨(.slice 3), by kernel_rfl, trivial⟩
/-- impl.shape -/
theorem i_shape_t (w : World) :
    Calls Try.prog 122 [.bool true].toArray w (Ret w (.tuple [.int .i64 (manyOf true), .int .i64 (side true)].toArray)) := by
  have L : Exm [] w w := Exm.rfl'
  refine enter (n := 5) Try.func122 rfl rfl rfl ?_
  refine wp_seq ?_
  refine c_reg ?_
  refine s0 (x_assign (v := .int _ _) rfl) ?_
  refine s0 (x_assign (v := .int _ _) rfl) ?_
  refine c_end ?_
  refine n_then ?_
  refine wp_seq ?_
  refine wp_seq ?_
  refine c_reg ?_
  refine s0 (x_move (v := .bool _) rfl) ?_
  refine c_end ?_
  refine n_then ?_
  refine c_true rfl ?_
  refine wp_seq ?_
  refine c_reg ?_
  refine s0 (x_assign (v := .int _ _) rfl) ?_
  refine s0 (x_assign (v := .int _ _) rfl) ?_
  refine c_end ?_
  refine n_then ?_
  refine wp_ret (r_then ?_)
  refine f_rets2 rfl (ro_tmp rfl) (ro_tmp rfl) ?_
  exact ⟨rfl, L⟩

/-- impl.shape -/
theorem i_shape_f (w : World) :
    Calls Try.prog 122 [.bool false].toArray w (Ret w (.tuple [.int .i64 (manyOf false), .int .i64 (side false)].toArray)) := by
  have L : Exm [] w w := Exm.rfl'
  refine enter (n := 5) Try.func122 rfl rfl rfl ?_
  refine wp_seq ?_
  refine c_reg ?_
  refine s0 (x_assign (v := .int _ _) rfl) ?_
  refine s0 (x_assign (v := .int _ _) rfl) ?_
  refine c_end ?_
  refine n_then ?_
  refine wp_seq ?_
  refine wp_seq ?_
  refine c_reg ?_
  refine s0 (x_move (v := .bool _) rfl) ?_
  refine c_end ?_
  refine n_then ?_
  refine c_false rfl ?_
  refine c_skipn ?_
  refine n_then ?_
  refine wp_seq ?_
  refine c_reg ?_
  refine s0 (x_assign (v := .int _ _) rfl) ?_
  refine s0 (x_assign (v := .int _ _) rfl) ?_
  refine c_end ?_
  refine n_then ?_
  refine wp_ret ?_
  refine f_rets2 rfl (ro_tmp rfl) (ro_tmp rfl) ?_
  exact ⟨rfl, L⟩

theorem i_shape (e : Bool) (w : World) : Calls Try.prog 122 [.bool e].toArray w (Ret w (.tuple [.int .i64 (manyOf e), .int .i64 (side e)].toArray)) := by
  cases e
  · exact i_shape_f w
  · exact i_shape_t w

/-- spec.l23Side -/
theorem s_side_t (w : World) :
    Calls Try.prog 119 [.bool true].toArray w (Ret w (.int .i64 (side true))) := by
  have L : Exm [] w w := Exm.rfl'
  refine enter (n := 4) Try.func119 rfl rfl rfl ?_
  refine wp_seq ?_
  refine c_reg ?_
  refine s0 (x_assign (v := .int _ _) rfl) ?_
  refine c_end ?_
  refine n_then ?_
  refine wp_seq ?_
  refine wp_seq ?_
  refine c_reg ?_
  refine s0 (x_move (v := .bool _) rfl) ?_
  refine c_end ?_
  refine n_then ?_
  refine c_true rfl ?_
  refine wp_seq ?_
  refine c_reg ?_
  refine s0 (x_assign (v := .int _ _) rfl) ?_
  refine c_end ?_
  refine n_then ?_
  refine wp_ret (r_then ?_)
  refine f_ret rfl rfl ?_
  exact ⟨rfl, L⟩

/-- spec.l23Side -/
theorem s_side_f (w : World) :
    Calls Try.prog 119 [.bool false].toArray w (Ret w (.int .i64 (side false))) := by
  have L : Exm [] w w := Exm.rfl'
  refine enter (n := 4) Try.func119 rfl rfl rfl ?_
  refine wp_seq ?_
  refine c_reg ?_
  refine s0 (x_assign (v := .int _ _) rfl) ?_
  refine c_end ?_
  refine n_then ?_
  refine wp_seq ?_
  refine wp_seq ?_
  refine c_reg ?_
  refine s0 (x_move (v := .bool _) rfl) ?_
  refine c_end ?_
  refine n_then ?_
  refine c_false rfl ?_
  refine c_skipn ?_
  refine n_then ?_
  refine wp_seq ?_
  refine c_reg ?_
  refine s0 (x_assign (v := .int _ _) rfl) ?_
  refine c_end ?_
  refine n_then ?_
  refine wp_ret ?_
  refine f_ret rfl rfl ?_
  exact ⟨rfl, L⟩

theorem s_side (e : Bool) (w : World) : Calls Try.prog 119 [.bool e].toArray w (Ret w (.int .i64 (side e))) := by
  cases e
  · exact s_side_f w
  · exact s_side_t w

/-- laws.markHeader -/
theorem l_markHeader (a b q : Int) (y z : Bool) (pA : Option Addr) (n c : Nat) (xs : List Int) (k : Int) (FA : List Nat) (w : World) (oA : Own w pA n c 3 1 (ic xs) FA) (hl : n ≤ 1099511627776) (hk : 0 ≤ k ∧ k ≤ 1099511627776) :
    Calls Try.prog 54 [.agg [.int .i64 a, .int .i64 b, .int .i64 q, .bool y, .bool z, .slice pA n c].toArray, .int .i64 k].toArray w (RetM FA w fun v w' => v = .int .i64 (k + n) ∧ Own w' pA n c 3 1 (ic (mkI k n)) FA) := by
  obtain rfl : n = xs.length := oA.n1
  have fA : Fr 0 FA := fun _ _ => Nat.zero_le _
  have gA := oA.lt
  have hnA := oA.n1
  have L : Exm FA w w := Exm.rfl'
  refine enter (n := 10) Try.func54 rfl rfl rfl ?_
  refine wp_seq ?_
  refine c_reg ?_
  refine s_box rfl rfl ?_
  intro b1 w2 lob1 hib1 l3 B1
  have z_l3 := l3.size
  have L := L.tr l3.up
  have oA := oA.ext l3
  refine s0 (x_assign (v := .int _ _) rfl) ?_
  refine c_end ?_
  refine n_then ?_
  refine wp_seq ?_
  refine c_reg ?_
  refine s0 (x_fieldAddr fa42_5FJ rfl) ?_
  refine st (x_loadB sc40FJ rfl B1 rfl) ?_
  refine s0 (x_move (v := .int _ _) rfl) ?_
  refine spm (zcall cl37FJ rfl) (l_markIntS _ _ _ _ _ _ oA (by omega) (by omega)) ?_
  rintro v8 w4 l5 ⟨rfl, oA⟩
  have z_l5 := l5.size
  have L := L.withinL l5 (by simp)
  have B1 := B1.exm l5 (by first | assumption | exact nin_of fA gA (by omega))
  refine s0 (x_assign (v := .int _ _) rfl) ?_
  refine c_end ?_
  refine n_then ?_
  refine wp_seq ?_
  refine c_reg ?_
  refine s0 (x_move (v := .int _ _) rfl) ?_
  refine s0 (x_assign (v := .int _ _) rfl) ?_
  refine c_end ?_
  refine n_then ?_
  refine wp_ret ?_
  refine f_ret rfl rfl ?_
  exact ⟨_, rfl, L, rfl, oA⟩

/-- laws.heldHeader -/
theorem l_heldHeader (a b q : Int) (y z : Bool) (p : Option Addr) (n c : Nat) (k : Int) (w : World) (hp : Sl w p n c 1 (ic (mkI k n))) (hl : n ≤ 1099511627776) (hk : 0 ≤ k ∧ k ≤ 1099511627776) :
    Calls Try.prog 55 [.agg [.int .i64 a, .int .i64 b, .int .i64 q, .bool y, .bool z, .slice p n c].toArray, .int .i64 k].toArray w (Ret w (.int .i64 (k + n))) := by
  have L : Exm [] w w := Exm.rfl'
  refine enter (n := 12) Try.func55 rfl rfl rfl ?_
  refine wp_seq ?_
  refine c_reg ?_
  refine s_box rfl rfl ?_
  intro b1 w2 lob1 hib1 l3 B1
  have z_l3 := l3.size
  have L := L.tr l3.up
  refine s0 (x_assign (v := .int _ _) rfl) ?_
  refine c_end ?_
  refine n_then ?_
  refine wp_seq ?_
  refine c_reg ?_
  refine s0 (x_fieldAddr fa42_5FJ rfl) ?_
  refine st (x_loadB sc40FJ rfl B1 rfl) ?_
  refine s0 (x_move (v := .int _ _) rfl) ?_
  refine sr (zcall cl44FJ rfl) (l_heldIntS _ _ _ _ _ (hp.ext L) (by omega) (by omega)) ?_
  intro w4 l5
  have z_l5 := l5.size
  have L := L.tr l5.up
  have B1 := B1.ext l5
  refine s0 (x_assign (v := .int _ _) rfl) ?_
  refine c_end ?_
  refine n_then ?_
  refine wp_seq ?_
  refine wp_seq ?_
  refine c_reg ?_
  refine s0 (x_move (v := .int _ _) rfl) ?_
  refine sb (x_lss rfl rfl) (fun h10 => ?_) (fun h10 => ?_)
  · omega
  · refine c_end ?_
    refine n_then ?_
    refine c_false rfl ?_
    refine c_skipn ?_
    refine n_then ?_
    refine wp_seq ?_
    refine c_reg ?_
    refine s0 (x_move (v := .int _ _) rfl) ?_
    refine s0 (x_assign (v := .int _ _) rfl) ?_
    refine c_end ?_
    refine n_then ?_
    refine wp_ret ?_
    refine f_ret rfl rfl ?_
    exact ⟨rfl, L⟩

end Go.Proofs.Ytnehdmcilmlchaa
