/- What each function of this part returns, for every argument that meets its premises. -/
import Derived.Test.YtnehdmcilmlchaaProg
import Derived.Test.YtnehdmcilmlchaaVSxF
import Derived.Test.YtnehdmcilmlchaaVPlY
import Derived.Test.YtnehdmcilmlchaaVF4
import Derived.Test.YtnehdmcilmlchaaVF7
import Derived.Test.YtnehdmcilmlchaaVFF
import Derived.Test.YtnehdmcilmlchaaVFJ
namespace Go.Proofs.Ytnehdmcilmlchaa
open Go.Sx Go.Pl Go.RowKit
theorem fa42_0FM : FieldAt Try.prog 42 0 0 := ⟨_, _, Try.underlying42, rfl, rfl, ⟨0, by unfold Sz; kernel_rfl⟩⟩
theorem fa42_1FM : FieldAt Try.prog 42 1 1 := ⟨_, _, Try.underlying42, rfl, rfl, ⟨0, by unfold Sz; kernel_rfl⟩⟩
theorem sc3FM : Sc Try.prog 3 := ⟨(.int .i64), by kernel_rfl, trivial⟩
/-- (impl.Header).many -/
theorem i_many (a b q : Int) (y z : Bool) (p : Option Addr) (n c : Nat) (w : World) (hs : sidesOk a b) :
    Calls Try.prog 139 [.agg [.int .i64 a, .int .i64 b, .int .i64 q, .bool y, .bool z, .slice p n c].toArray].toArray w (Ret w (.int .i64 (a / 8 * (b / 8)))) := by
  have hm := many_range hs
  have hs1 := hs.1
  have hs2 := hs.2.1
  have L : Exm [] w w := Exm.rfl'
  refine enter (n := 10) Try.func139 rfl rfl rfl ?_
  refine wp_seq ?_
  refine c_reg ?_
  refine s_box rfl rfl ?_
  intro b1 w2 lob1 hib1 l3 B1
  have z_l3 := l3.size
  have L := L.tr l3.up
  refine s0 (x_assign (v := .int _ _) rfl) ?_
  refine c_end ?_
  refine n_then ?_
  refine wp_seq ?_
  refine c_reg ?_
  refine s0 (x_fieldAddr fa42_0FM rfl) ?_
  refine st (x_loadB sc3FM rfl B1 rfl) ?_
  refine s0 (x_quo rfl rfl (by omega) (by omega)) ?_
  refine s0 (x_fieldAddr fa42_1FM rfl) ?_
  refine st (x_loadB sc3FM rfl B1 rfl) ?_
  refine s0 (x_quo rfl rfl (by omega) (by omega)) ?_
  refine s0 (x_mul rfl rfl (by omega)) ?_
  refine s0 (x_assign (v := .int _ _) rfl) ?_
  refine c_end ?_
  refine n_then ?_
  refine wp_ret ?_
  refine f_ret rfl rfl ?_
  exact ⟨rfl, L⟩

/-- spec.l24Count -/
theorem s_count (a b q : Int) (y z : Bool) (p : Option Addr) (n c : Nat) (w : World) (hs : sidesOk a b) :
    Calls Try.prog 137 [.agg [.int .i64 a, .int .i64 b, .int .i64 q, .bool y, .bool z, .slice p n c].toArray].toArray w (Ret w (.int .i64 (a / 8 * (b / 8)))) := by
  have hm := many_range hs
  have hs1 := hs.1
  have hs2 := hs.2.1
  have L : Exm [] w w := Exm.rfl'
  refine enter (n := 10) Try.func137 rfl rfl rfl ?_
  refine wp_seq ?_
  refine c_reg ?_
  refine s_box rfl rfl ?_
  intro b1 w2 lob1 hib1 l3 B1
  have z_l3 := l3.size
  have L := L.tr l3.up
  refine s0 (x_assign (v := .int _ _) rfl) ?_
  refine c_end ?_
  refine n_then ?_
  refine wp_seq ?_
  refine c_reg ?_
  refine s0 (x_fieldAddr fa42_0FM rfl) ?_
  refine st (x_loadB sc3FM rfl B1 rfl) ?_
  refine s0 (x_quo rfl rfl (by omega) (by omega)) ?_
  refine s0 (x_fieldAddr fa42_1FM rfl) ?_
  refine st (x_loadB sc3FM rfl B1 rfl) ?_
  refine s0 (x_quo rfl rfl (by omega) (by omega)) ?_
  refine s0 (x_mul rfl rfl (by omega)) ?_
  refine s0 (x_assign (v := .int _ _) rfl) ?_
  refine c_end ?_
  refine n_then ?_
  refine wp_ret ?_
  refine f_ret rfl rfl ?_
  exact ⟨rfl, L⟩

end Go.Proofs.Ytnehdmcilmlchaa
