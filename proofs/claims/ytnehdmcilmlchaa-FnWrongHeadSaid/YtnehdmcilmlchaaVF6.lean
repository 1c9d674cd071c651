/- What each function of this part returns, for every argument that meets its premises. -/
import Derived.Test.YtnehdmcilmlchaaProg
import Derived.Test.YtnehdmcilmlchaaVSxF
import Derived.Test.YtnehdmcilmlchaaVPlX
import Derived.Test.YtnehdmcilmlchaaVF3
import Derived.Test.YtnehdmcilmlchaaVF5
namespace Go.Proofs.Ytnehdmcilmlchaa
open Go.Sx Go.Pl Go.RowKit
theorem ag25F6 : Ag Try.prog 25 4 := ⟨⟨_, Try.underlying25⟩, by kernel_rfl⟩
theorem bd25F6 : Built Try.prog 25 [.string .empty, .int .i64 0, .int .i64 0, .int .i64 0] #[(0, 1), (1, 1), (2, 1), (3, 1)] := ⟨_, Try.underlying25, by unfold ZeroV; kernel_rfl, fun w => by kernel_rfl⟩
theorem sz25F6 : Sz Try.prog 25 4 := by unfold Sz; kernel_rfl
theorem zr25F6 : ZeroV Try.prog 25 [.string .empty, .int .i64 0, .int .i64 0, .int .i64 0] := by unfold ZeroV; kernel_rfl
/-- impl.CacheNew -/
theorem i_cacheNew (s : ByteArray) (w : World) :
    Calls Try.prog 25 [.string s].toArray w (Ret w (.agg [.string s, .int .i64 (Ca.mk 0 0 0).pos, .int .i64 (Ca.mk 0 0 0).word, .int .i64 (Ca.mk 0 0 0).hv].toArray)) := by
  have L : Exm [] w w := Exm.rfl'
  refine enter (n := 5) Try.func25 rfl rfl rfl ?_
  refine wp_seq ?_
  refine c_reg ?_
  refine s_alloc zr25F6 ?_
  intro b1 w2 lob1 hib1 l3 B1
  have z_l3 := l3.size
  have L := L.tr l3.up
  refine c_end ?_
  refine n_then ?_
  refine wp_seq ?_
  refine c_reg ?_
  refine s0 (x_move (v := .string _) rfl) ?_
  refine s0 (x_build (cs := [.string _, .int .i64 0, .int .i64 0, .int .i64 0]) bd25F6 (pts_cons (v := .string _) rfl pts_nil) rfl) ?_
  refine s_storeAg rfl sz25F6 rfl rfl B1 rfl rfl rfl ?_
  intro w4 l5 el5 B1
  have z_l5 := l5.size
  have L := L.fresh l5 (by omega)
  refine c_end ?_
  refine n_then ?_
  refine wp_ret ?_
  refine f_retc rfl rfl ag25F6 B1 rfl ?_
  exact ⟨rfl, L⟩

end Go.Proofs.Ytnehdmcilmlchaa
