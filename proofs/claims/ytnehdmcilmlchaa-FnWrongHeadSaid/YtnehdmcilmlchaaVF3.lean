/- What each function of this part returns, for every argument that meets its premises. -/
import Derived.Test.YtnehdmcilmlchaaProg
import Derived.Test.YtnehdmcilmlchaaVSxF
import Derived.Test.YtnehdmcilmlchaaVPlX
import Derived.Test.YtnehdmcilmlchaaVF1
namespace Go.Proofs.Ytnehdmcilmlchaa
open Go.Sx Go.Pl Go.RowKit
theorem ag25F3 : Ag Try.prog 25 4 := ⟨⟨_, Try.underlying25⟩, by kernel_rfl⟩
theorem bd25F3 : Built Try.prog 25 [.string .empty, .int .i64 0, .int .i64 0, .int .i64 0] #[(0, 1), (1, 1), (2, 1), (3, 1)] := ⟨_, Try.underlying25, by unfold ZeroV; kernel_rfl, fun w => by kernel_rfl⟩
theorem cl86F3 : Callable Try.prog 86 := callable Try.func86 (by kernel_rfl) rfl
theorem cl87F3 : Callable Try.prog 87 := callable Try.func87 (by kernel_rfl) rfl
theorem fa25_1F3 : FieldAt Try.prog 25 1 1 := ⟨_, _, Try.underlying25, rfl, rfl, ⟨0, by unfold Sz; kernel_rfl⟩⟩
theorem fa25_3F3 : FieldAt Try.prog 25 3 3 := ⟨_, _, Try.underlying25, rfl, rfl, ⟨0, by unfold Sz; kernel_rfl⟩⟩
theorem sc3F3 : Sc Try.prog 3 := ⟨(.int .i64), by kernel_rfl, trivial⟩
theorem sz25F3 : Sz Try.prog 25 4 := by unfold Sz; kernel_rfl
theorem zr25F3 : ZeroV Try.prog 25 [.string .empty, .int .i64 0, .int .i64 0, .int .i64 0] := by unfold ZeroV; kernel_rfl
/-- impl.PlaceIn -/
theorem i_place (s : ByteArray) (c : Ca) (w : World) (hs : s.size ≤ 1048576) :
    Calls Try.prog 21 [.agg [.string s, .int .i64 (c).pos, .int .i64 (c).word, .int .i64 (c).hv].toArray].toArray w (Ret w (.int .i64 (placeOf s c))) := by
  have L : Exm [] w w := Exm.rfl'
  refine enter (n := 12) Try.func21 rfl rfl rfl ?_
  refine wp_seq ?_
  refine c_reg ?_
  refine s_box rfl rfl ?_
  intro b1 w2 lob1 hib1 l3 B1
  have z_l3 := l3.size
  have L := L.tr l3.up
  refine s0 (x_assign (v := .int _ _) rfl) ?_
  refine c_end ?_
  refine n_then ?_
  refine wp_seq ?_
  refine wp_seq ?_
  refine c_reg ?_
  refine st (x_loadAgB ag25F3 rfl B1 rfl) ?_
  refine srb (zcall cl86F3 rfl) (i_cacheOk _ _ _ _ _ (by omega)) (fun h4 w4 l5 => ?_) (fun h4 w4 l5 => ?_)
  · have z_l5 := l5.size
    have L := L.tr l5.up
    have B1 := B1.ext l5
    refine s0 (x_not rfl) ?_
    refine c_end ?_
    refine n_then ?_
    refine c_false rfl ?_
    refine c_skipn ?_
    refine n_then ?_
    refine wp_seq ?_
    obtain ⟨hg1, hg2, hg3, hg4, hg5, hg6⟩ := id h4
    refine c_reg ?_
    refine s0 (x_fieldAddr fa25_1F3 rfl) ?_
    refine st (x_loadB sc3F3 rfl B1 rfl) ?_
    refine s0 (x_mul rfl rfl (by omega)) ?_
    refine s0 (x_fieldAddr fa25_3F3 rfl) ?_
    refine st (x_loadB sc3F3 rfl B1 rfl) ?_
    refine s0 (x_sub rfl rfl (by omega)) ?_
    refine s0 (x_assign (v := .int _ _) rfl) ?_
    refine c_end ?_
    refine n_then ?_
    refine wp_ret ?_
    refine f_ret rfl rfl ?_
    exact ⟨ret_int (by unfold placeOf; rw [if_pos h4]), L⟩
  · have z_l5 := l5.size
    have L := L.tr l5.up
    have B1 := B1.ext l5
    refine s0 (x_not rfl) ?_
    refine c_end ?_
    refine n_then ?_
    refine c_true rfl ?_
    refine wp_seq ?_
    refine c_reg ?_
    refine s0 (x_assign (v := .int _ _) rfl) ?_
    refine c_end ?_
    refine n_then ?_
    refine wp_ret (r_then ?_)
    refine f_ret rfl rfl ?_
    exact ⟨ret_int (by unfold placeOf; rw [if_neg h4]), L⟩

/-- impl.settledAt -/
theorem i_settledAt (s : ByteArray) (a : Int) (w : World) (hs : s.size ≤ 1048576) (ha : 0 ≤ a ∧ a ≤ 8 * s.size) :
    Calls Try.prog 89 [.string s, .int .i64 a].toArray w (Ret w (.agg [.string s, .int .i64 (settledAt s a).pos, .int .i64 (settledAt s a).word, .int .i64 (settledAt s a).hv].toArray)) := by
  have L : Exm [] w w := Exm.rfl'
  refine enter (n := 22) Try.func89 rfl rfl rfl ?_
  refine wp_seq ?_
  refine c_reg ?_
  refine s_alloc zr25F3 ?_
  intro b1 w2 lob1 hib1 l3 B1
  have z_l3 := l3.size
  have L := L.tr l3.up
  refine c_end ?_
  refine n_then ?_
  refine wp_seq ?_
  refine c_reg ?_
  refine s0 (x_move (v := .int _ _) rfl) ?_
  refine s0 (x_add rfl rfl (by omega)) ?_
  refine s0 (x_quo rfl rfl (by omega) (by omega)) ?_
  refine s0 (x_assign (v := .int _ _) rfl) ?_
  refine c_end ?_
  refine n_then ?_
  refine wp_seq ?_
  refine c_reg ?_
  refine s0 (x_move (v := .int _ _) rfl) ?_
  refine s0 (x_mul rfl rfl (by omega)) ?_
  refine s0 (x_move (v := .int _ _) rfl) ?_
  refine s0 (x_sub rfl rfl (by omega)) ?_
  refine s0 (x_assign (v := .int _ _) rfl) ?_
  refine c_end ?_
  refine n_then ?_
  refine wp_seq ?_
  refine c_reg ?_
  refine s0 (x_move (v := .string _) rfl) ?_
  refine s0 (x_move (v := .int _ _) rfl) ?_
  refine s0 (x_move (v := .string _) rfl) ?_
  refine s0 (x_move (v := .int _ _) rfl) ?_
  refine s0 (x_move (v := .int _ _) rfl) ?_
  refine sr (zcall cl87F3 rfl) (i_bits _ _ _ _ (by omega) (by omega) (by omega)) ?_
  intro w4 l5
  have z_l5 := l5.size
  have L := L.tr l5.up
  have B1 := B1.ext l5
  refine s0 (x_move (v := .int _ _) rfl) ?_
  refine s0 (x_build (cs := [.string _, .int _ _, .int _ _, .int _ _]) bd25F3 (pts_cons (v := .string _) rfl (pts_cons (v := .int _ _) rfl (pts_cons (v := .int _ _) rfl (pts_cons (v := .int _ _) rfl pts_nil)))) rfl) ?_
  refine s_storeAg rfl sz25F3 rfl rfl B1 rfl rfl rfl ?_
  intro w6 l7 el7 B1
  have z_l7 := l7.size
  have L := L.fresh l7 (by omega)
  refine c_end ?_
  refine n_then ?_
  refine wp_ret ?_
  refine f_retc rfl rfl ag25F3 B1 rfl ?_
  exact ⟨rfl, L⟩

end Go.Proofs.Ytnehdmcilmlchaa
