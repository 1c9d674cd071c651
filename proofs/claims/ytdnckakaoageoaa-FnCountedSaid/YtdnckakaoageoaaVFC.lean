/- What each function of this part returns, for every argument that meets its premises. -/
import Derived.Test.YtdnckakaoageoaaProg
import Derived.Test.YtdnckakaoageoaaVSxF
import Derived.Test.YtdnckakaoageoaaVPlX
import Derived.Test.YtdnckakaoageoaaVF1
import Derived.Test.YtdnckakaoageoaaVF8
import Derived.Test.YtdnckakaoageoaaVF9
namespace Go.Proofs.Ytdnckakaoageoaa
open Go.Sx Go.Pl Go.RowKit
theorem cl103FC : Callable Try.prog 103 := callable Try.func103 (by kernel_rfl) rfl
theorem cl153FC : Callable Try.prog 153 := callable Try.func153 (by kernel_rfl) rfl
theorem cl199FC : Callable Try.prog 199 := callable Try.func199 (by kernel_rfl) rfl
theorem cl59FC : Callable Try.prog 59 := callable Try.func59 (by kernel_rfl) rfl
theorem cl96FC : Callable Try.prog 96 := callable Try.func96 (by kernel_rfl) rfl
theorem un171FC : Try.prog.underlying 171 = some (.int .u64) := by kernel_rfl
theorem un3FC : Try.prog.underlying 3 = some (.int .i64) := by kernel_rfl
theorem un5FC : Try.prog.underlying 5 = some (.int .u8) := by kernel_rfl
theorem un9FC : Try.prog.underlying 9 = some .string := by kernel_rfl
theorem us196FC : (Try.prog.underlying 196).isSome = true := by kernel_rfl
theorem us3FC : (Try.prog.underlying 3).isSome = true := by kernel_rfl
theorem us5FC : (Try.prog.underlying 5).isSome = true := by kernel_rfl
theorem u64_in {z : Int} (h : 0 ≤ z ∧ z ≤ 9223372036854775807) : IntKind.u64.wrap z = z := by
  simp [IntKind.wrap, IntKind.signed, IntKind.bits]; omega

/-- math/bits.Len64 -/
theorem g_len64 (x : Int) (w : World) (hx : 1 ≤ x ∧ x ≤ 65535) :
    Calls Try.prog 199 [.int .u64 x].toArray w (Ret w (.int .i64 (lz (x - 1) + 1))) := by
  have L : Exm [] w w := Exm.rfl'
  refine enter (n := 25) Try.func199 rfl rfl rfl ?_
  refine wp_seq ?_
  refine c_reg ?_
  refine s0 (x_assign (v := .int _ _) rfl) ?_
  refine c_end ?_
  refine n_then ?_
  refine wp_seq ?_
  refine wp_seq ?_
  refine c_reg ?_
  refine s0 (x_move (v := .int _ _) rfl) ?_
  refine sb (x_geq rfl rfl) (fun h4 => ?_) (fun h4 => ?_)
  · omega
  · refine c_end ?_
    refine n_then ?_
    refine c_false rfl ?_
    refine c_skipn ?_
    refine n_then ?_
    refine wp_seq ?_
    refine wp_seq ?_
    refine c_reg ?_
    refine s0 (x_move (v := .int _ _) rfl) ?_
    refine sb (x_geq rfl rfl) (fun h8 => ?_) (fun h8 => ?_)
    · omega
    · refine c_end ?_
      refine n_then ?_
      refine c_false rfl ?_
      refine c_skipn ?_
      refine n_then ?_
      refine wp_seq ?_
      refine wp_seq ?_
      refine c_reg ?_
      refine s0 (x_move (v := .int _ _) rfl) ?_
      refine sb (x_geq rfl rfl) (fun h14 => ?_) (fun h14 => ?_)
      · refine c_end ?_
        refine n_then ?_
        refine c_true rfl ?_
        refine wp_seq ?_
        refine c_reg ?_
        refine s0 (x_move (v := .int _ _) rfl) ?_
        refine s0 (x_shrc 8 256 rfl rfl (by decide) (by decide)) ?_
        refine s0 (x_assign (v := .int _ _) rfl) ?_
        refine c_end ?_
        refine n_then ?_
        refine c_reg ?_
        refine s0 (x_move (v := .int _ _) rfl) ?_
        refine s0 (x_add rfl rfl (by omega)) ?_
        refine s0 (x_assign (v := .int _ _) rfl) ?_
        refine c_end ?_
        refine n_then ?_
        refine wp_seq ?_
        have hby := (Go.Lib.len8tab.data.toList.getD (IntKind.u8.wrap (x / 256)).toNat 0).toNat_lt
        refine c_reg ?_
        refine s0 (x_move (v := .int _ _) rfl) ?_
        refine s0 (x_move (v := .int _ _) rfl) ?_
        refine s0 (x_convk us196FC un5FC rfl) ?_
        refine s0 (x_index (s := Go.Lib.len8tab) un9FC rfl rfl (by rw [wrap_u8]; omega) (by rw [wrap_u8, Go.Lib.len8tab_size]; omega)) ?_
        refine s0 (x_convb us5FC un3FC rfl) ?_
        refine s0 (x_add rfl rfl (by omega)) ?_
        refine s0 (x_assign (v := .int _ _) rfl) ?_
        refine c_end ?_
        refine n_then ?_
        refine wp_ret ?_
        refine f_ret rfl rfl ?_
        exact ⟨ret_int (by rw [wrap_u8, show x / 256 % 256 = x / 256 by omega, len_small (x := x / 256) (by omega), lz_256 (x := x) (by omega)]; omega), L⟩
      · refine c_end ?_
        refine n_then ?_
        refine c_false rfl ?_
        refine c_skipn ?_
        refine n_then ?_
        refine wp_seq ?_
        have hby := (Go.Lib.len8tab.data.toList.getD (IntKind.u8.wrap x).toNat 0).toNat_lt
        refine c_reg ?_
        refine s0 (x_move (v := .int _ _) rfl) ?_
        refine s0 (x_move (v := .int _ _) rfl) ?_
        refine s0 (x_convk us196FC un5FC rfl) ?_
        refine s0 (x_index (s := Go.Lib.len8tab) un9FC rfl rfl (by rw [wrap_u8]; omega) (by rw [wrap_u8, Go.Lib.len8tab_size]; omega)) ?_
        refine s0 (x_convb us5FC un3FC rfl) ?_
        refine s0 (x_add rfl rfl (by omega)) ?_
        refine s0 (x_assign (v := .int _ _) rfl) ?_
        refine c_end ?_
        refine n_then ?_
        refine wp_ret ?_
        refine f_ret rfl rfl ?_
        exact ⟨ret_int (by rw [wrap_u8, show x % 256 = x by omega, len_small (x := x) (by omega)]; omega), L⟩

/-- math/bits.Len -/
theorem g_len (x : Int) (w : World) (hx : 1 ≤ x ∧ x ≤ 65535) :
    Calls Try.prog 153 [.int .u64 x].toArray w (Ret w (.int .i64 (lz (x - 1) + 1))) := by
  have L : Exm [] w w := Exm.rfl'
  refine enter (n := 8) Try.func153 rfl rfl rfl ?_
  refine wp_seq ?_
  refine c_reg ?_
  refine s0 (x_assign (v := .int _ _) rfl) ?_
  refine c_end ?_
  refine n_then ?_
  refine wp_seq ?_
  refine c_false rfl ?_
  refine c_skipn ?_
  refine n_then ?_
  refine wp_seq ?_
  refine c_reg ?_
  refine s0 (x_move (v := .int _ _) rfl) ?_
  refine sr (zcall cl199FC rfl) (g_len64 _ _ (by omega)) ?_
  intro w1 l2
  have z_l2 := l2.size
  have L := L.tr l2.up
  refine s0 (x_assign (v := .int _ _) rfl) ?_
  refine c_end ?_
  refine n_then ?_
  refine wp_ret ?_
  refine f_ret rfl rfl ?_
  exact ⟨rfl, L⟩

/-- impl.UeSize -/
theorem i_ueSize (n : Int) (w : World) :
    Calls Try.prog 59 [.int .i64 n].toArray w (Ret w (.int .i64 (ueSize n))) := by
  have L : Exm [] w w := Exm.rfl'
  refine enter (n := 12) Try.func59 rfl rfl rfl ?_
  refine wp_seq ?_
  refine c_reg ?_
  refine s0 (x_assign (v := .int _ _) rfl) ?_
  refine c_end ?_
  refine n_then ?_
  refine wp_seq ?_
  refine wp_seq ?_
  refine c_reg ?_
  refine s0 (x_move (v := .int _ _) rfl) ?_
  refine srb (zcall cl103FC rfl) (i_within _ _ _ _) (fun h4 w1 l2 => ?_) (fun h4 w1 l2 => ?_)
  · have z_l2 := l2.size
    have L := L.tr l2.up
    refine s0 (x_not rfl) ?_
    refine c_end ?_
    refine n_then ?_
    refine c_false rfl ?_
    refine c_skipn ?_
    refine n_then ?_
    refine wp_seq ?_
    have hz := lz_range h4
    refine c_reg ?_
    refine s0 (x_move (v := .int _ _) rfl) ?_
    refine s0 (x_add rfl rfl (by omega)) ?_
    refine s0 (x_conv us3FC un171FC rfl (u64_in (by omega))) ?_
    refine sr (zcall cl153FC rfl) (g_len _ _ (by omega)) ?_
    intro w3 l4
    have z_l4 := l4.size
    have L := L.tr l4.up
    refine s0 (x_mul rfl rfl (by rw [show n + 1 - 1 = n by omega]; omega)) ?_
    refine s0 (x_sub rfl rfl (by rw [show n + 1 - 1 = n by omega]; omega)) ?_
    refine s0 (x_assign (v := .int _ _) rfl) ?_
    refine c_end ?_
    refine n_then ?_
    refine wp_ret ?_
    refine f_ret rfl rfl ?_
    exact ⟨ret_int (by unfold ueSize; rw [if_pos h4, show n + 1 - 1 = n by omega]; omega), L⟩
  · have z_l2 := l2.size
    have L := L.tr l2.up
    refine s0 (x_not rfl) ?_
    refine c_end ?_
    refine n_then ?_
    refine c_true rfl ?_
    refine wp_seq ?_
    refine c_reg ?_
    refine s0 (x_assign (v := .int _ _) rfl) ?_
    refine c_end ?_
    refine n_then ?_
    refine wp_ret (r_then ?_)
    refine f_ret rfl rfl ?_
    exact ⟨ret_int (by unfold ueSize; rw [if_neg h4]), L⟩

/-- impl.UeBits -/
theorem i_ueBits (n : Int) (w : World) :
    Calls Try.prog 97 [.int .i64 n].toArray w (RetP w fun v w' => ∃ p c F, v = .slice p (ueBits n).length c ∧ Own w' p (ueBits n).length c 3 1 (ic (ueBits n)) F ∧ Fr w.heap.size F) := by
  have L : Exm [] w w := Exm.rfl'
  refine enter (n := 11) Try.func97 rfl rfl rfl ?_
  refine wp_seq ?_
  refine c_reg ?_
  refine s0 (x_assign (v := .slice _ _ _) rfl) ?_
  refine c_end ?_
  refine n_then ?_
  refine wp_seq ?_
  refine wp_seq ?_
  refine c_reg ?_
  refine s0 (x_move (v := .int _ _) rfl) ?_
  refine srb (zcall cl103FC rfl) (i_within _ _ _ _) (fun h4 w1 l2 => ?_) (fun h4 w1 l2 => ?_)
  · have z_l2 := l2.size
    have L := L.tr l2.up
    refine s0 (x_not rfl) ?_
    refine c_end ?_
    refine n_then ?_
    refine c_false rfl ?_
    refine c_skipn ?_
    refine n_then ?_
    refine wp_seq ?_
    have hus := ueSize_range n
    refine c_reg ?_
    refine s0 (x_move (v := .int _ _) rfl) ?_
    refine s0 (x_add rfl rfl (by omega)) ?_
    refine s0 (x_move (v := .int _ _) rfl) ?_
    refine sr (zcall cl59FC rfl) (i_ueSize _ _) ?_
    intro w3 l4
    have z_l4 := l4.size
    have L := L.tr l4.up
    refine sp (zcall cl96FC rfl) (i_bitsIn _ _ _ (by omega) (by omega)) ?_
    rintro v10 w5 l6 ⟨p10, c10, F10, rfl, o10, f10⟩
    have z_l6 := l6.size
    have L := L.tr l6.up
    have g10 := o10.lt
    refine s0 (x_assign (v := .slice _ _ _) rfl) ?_
    refine c_end ?_
    refine n_then ?_
    refine wp_ret ?_
    refine f_ret rfl rfl ?_
    rw [show ueBits n = bitsIn (n + 1) (ueSize n) from if_pos h4]
    exact ⟨_, rfl, L, _, _, _, rfl, o10, f10.mono (by omega)⟩
  · have z_l2 := l2.size
    have L := L.tr l2.up
    refine s0 (x_not rfl) ?_
    refine c_end ?_
    refine n_then ?_
    refine c_true rfl ?_
    refine wp_seq ?_
    refine c_reg ?_
    refine s0 (x_assign (v := .slice _ _ _) rfl) ?_
    refine c_end ?_
    refine n_then ?_
    refine wp_ret (r_then ?_)
    refine f_ret rfl rfl ?_
    rw [ueBits_no h4]
    exact ⟨_, rfl, L, none, 0, [], rfl, Own.nil, Fr.no⟩

/-- impl.NumOfLevel -/
theorem i_numOfLevel (v : Int) (w : World) (hv : -1073741824 ≤ v ∧ v ≤ 1073741824) :
    Calls Try.prog 60 [.int .i64 v].toArray w (Ret w (.int .i64 (numOf v))) := by
  have L : Exm [] w w := Exm.rfl'
  refine enter (n := 15) Try.func60 rfl rfl rfl ?_
  refine wp_seq ?_
  refine c_reg ?_
  refine s0 (x_assign (v := .int _ _) rfl) ?_
  refine c_end ?_
  refine n_then ?_
  refine wp_seq ?_
  refine wp_block ?_
  refine wp_seq ?_
  refine c_reg ?_
  refine s0 (x_move (v := .int _ _) rfl) ?_
  refine sb (x_gtr rfl rfl) (fun h5 => ?_) (fun h5 => ?_)
  · refine s0 (x_assign (v := .bool _) rfl) ?_
    refine c_end ?_
    refine n_then ?_
    refine c_true rfl ?_
    refine wp_seq ?_
    refine c_reg ?_
    refine s0 (x_move (v := .int _ _) rfl) ?_
    refine s0 (x_mul rfl rfl (by omega)) ?_
    refine s0 (x_sub rfl rfl (by omega)) ?_
    refine s0 (x_assign (v := .int _ _) rfl) ?_
    refine c_end ?_
    refine n_then ?_
    refine wp_ret (r_block (r_then ?_))
    refine f_ret rfl rfl ?_
    exact ⟨ret_int (by unfold numOf; rw [if_pos h5]), L⟩
  · refine s0 (x_assign (v := .bool _) rfl) ?_
    refine c_end ?_
    refine n_then ?_
    refine c_false rfl ?_
    refine wp_seq ?_
    refine c_reg ?_
    refine s0 (x_move (v := .int _ _) rfl) ?_
    refine sb (x_lss rfl rfl) (fun h11 => ?_) (fun h11 => ?_)
    · refine s0 (x_assign (v := .bool _) rfl) ?_
      refine c_end ?_
      refine n_then ?_
      refine c_true rfl ?_
      refine wp_seq ?_
      refine c_reg ?_
      refine s0 (x_move (v := .int _ _) rfl) ?_
      refine s0 (x_mul rfl rfl (by omega)) ?_
      refine s0 (x_sub rfl rfl (by omega)) ?_
      refine s0 (x_assign (v := .int _ _) rfl) ?_
      refine c_end ?_
      refine n_then ?_
      refine wp_ret (r_block (r_then ?_))
      refine f_ret rfl rfl ?_
      exact ⟨ret_int (by unfold numOf; rw [if_neg h5, if_pos h11]), L⟩
    · refine s0 (x_assign (v := .bool _) rfl) ?_
      refine c_end ?_
      refine n_then ?_
      refine c_false rfl ?_
      refine c_skipn ?_
      refine n_block ?_
      refine n_then ?_
      refine wp_seq ?_
      refine c_reg ?_
      refine s0 (x_assign (v := .int _ _) rfl) ?_
      refine c_end ?_
      refine n_then ?_
      refine wp_ret ?_
      refine f_ret rfl rfl ?_
      exact ⟨ret_int (by unfold numOf; rw [if_neg h5, if_neg h11]), L⟩

end Go.Proofs.Ytdnckakaoageoaa
