/- What each function of this part returns, for every argument that meets its premises. -/
import Derived.Test.YtnehdmcilmlchaaProg
import Derived.Test.YtnehdmcilmlchaaSxF
import Derived.Test.YtnehdmcilmlchaaPlX
import Derived.Test.YtnehdmcilmlchaaF1
import Derived.Test.YtnehdmcilmlchaaF5
import Derived.Test.YtnehdmcilmlchaaF8
import Derived.Test.YtnehdmcilmlchaaF9
namespace Go.Proofs.Ytnehdmcilmlchaa
open Go.Sx Go.Pl Go.RowKit
theorem cl171FC : Callable Try.prog 171 := callable Try.func171 (by kernel_rfl) rfl
theorem cl175FC : Callable Try.prog 175 := callable Try.func175 (by kernel_rfl) rfl
theorem cl208FC : Callable Try.prog 208 := callable Try.func208 (by kernel_rfl) rfl
theorem cl247FC : Callable Try.prog 247 := callable Try.func247 (by kernel_rfl) rfl
theorem cl270FC : Callable Try.prog 270 := callable Try.func270 (by kernel_rfl) rfl
theorem cl277FC : Callable Try.prog 277 := callable Try.func277 (by kernel_rfl) rfl
theorem cl88FC : Callable Try.prog 88 := callable Try.func88 (by kernel_rfl) rfl
theorem cl91FC : Callable Try.prog 91 := callable Try.func91 (by kernel_rfl) rfl
theorem cl92FC : Callable Try.prog 92 := callable Try.func92 (by kernel_rfl) rfl
theorem so40FC : SliceOf Try.prog 40 3 1 8 := ⟨by kernel_rfl, by kernel_rfl⟩
theorem un197FC : Try.prog.underlying 197 = some (.int .u64) := by kernel_rfl
theorem un3FC : Try.prog.underlying 3 = some (.int .i64) := by kernel_rfl
theorem un40FC : Try.prog.underlying 40 = some (.slice 3) := by kernel_rfl
theorem un5FC : Try.prog.underlying 5 = some (.int .u8) := by kernel_rfl
theorem un9FC : Try.prog.underlying 9 = some .string := by kernel_rfl
theorem us240FC : (Try.prog.underlying 240).isSome = true := by kernel_rfl
theorem us3FC : (Try.prog.underlying 3).isSome = true := by kernel_rfl
theorem us5FC : (Try.prog.underlying 5).isSome = true := by kernel_rfl
theorem zr3FC : ZeroV Try.prog 3 [.int .i64 0] := by unfold ZeroV; kernel_rfl
theorem u64_in {z : Int} (h : 0 ≤ z ∧ z ≤ 9223372036854775807) : IntKind.u64.wrap z = z := by
  simp [IntKind.wrap, IntKind.signed, IntKind.bits]; omega

/-- math/bits.Len64 -/
theorem g_len64 (x : Int) (w : World) (hx : 1 ≤ x ∧ x ≤ 65535) :
    Calls Try.prog 277 [.int .u64 x].toArray w (Ret w (.int .i64 (lz (x - 1) + 1))) := by
  have L : Exm [] w w := Exm.rfl'
  refine enter (n := 25) Try.func277 rfl rfl rfl ?_
  refine wp_seq ?_
  refine c_reg ?_
  refine s0 (x_assign (v := .int _ _) rfl) ?_
  refine c_end ?_
  refine n_then ?_
  refine wp_seq ?_
  refine wp_seq ?_
  refine c_reg ?_
  refine s0 (x_move (v := .int _ _) rfl) ?_
  refine sb (x_geq rfl rfl) (fun h4 => ?_) (fun h4 => ?_)
  · omega
  · refine c_end ?_
    refine n_then ?_
    refine c_false rfl ?_
    refine c_skipn ?_
    refine n_then ?_
    refine wp_seq ?_
    refine wp_seq ?_
    refine c_reg ?_
    refine s0 (x_move (v := .int _ _) rfl) ?_
    refine sb (x_geq rfl rfl) (fun h8 => ?_) (fun h8 => ?_)
    · omega
    · refine c_end ?_
      refine n_then ?_
      refine c_false rfl ?_
      refine c_skipn ?_
      refine n_then ?_
      refine wp_seq ?_
      refine wp_seq ?_
      refine c_reg ?_
      refine s0 (x_move (v := .int _ _) rfl) ?_
      refine sb (x_geq rfl rfl) (fun h14 => ?_) (fun h14 => ?_)
      · refine c_end ?_
        refine n_then ?_
        refine c_true rfl ?_
        refine wp_seq ?_
        refine c_reg ?_
        refine s0 (x_move (v := .int _ _) rfl) ?_
        refine s0 (x_shrc 8 256 rfl rfl (by decide) (by decide)) ?_
        refine s0 (x_assign (v := .int _ _) rfl) ?_
        refine c_end ?_
        refine n_then ?_
        refine c_reg ?_
        refine s0 (x_move (v := .int _ _) rfl) ?_
        refine s0 (x_add rfl rfl (by omega)) ?_
        refine s0 (x_assign (v := .int _ _) rfl) ?_
        refine c_end ?_
        refine n_then ?_
        refine wp_seq ?_
        have hby := (Go.Lib.len8tab.data.toList.getD (IntKind.u8.wrap (x / 256)).toNat 0).toNat_lt
        refine c_reg ?_
        refine s0 (x_move (v := .int _ _) rfl) ?_
        refine s0 (x_move (v := .int _ _) rfl) ?_
        refine s0 (x_convk us240FC un5FC rfl) ?_
        refine s0 (x_index (s := Go.Lib.len8tab) un9FC rfl rfl (by rw [wrap_u8]; omega) (by rw [wrap_u8, Go.Lib.len8tab_size]; omega)) ?_
        refine s0 (x_convb us5FC un3FC rfl) ?_
        refine s0 (x_add rfl rfl (by omega)) ?_
        refine s0 (x_assign (v := .int _ _) rfl) ?_
        refine c_end ?_
        refine n_then ?_
        refine wp_ret ?_
        refine f_ret rfl rfl ?_
        exact ⟨ret_int (by rw [wrap_u8, show x / 256 % 256 = x / 256 by omega, len_small (x := x / 256) (by omega), lz_256 (x := x) (by omega)]; omega), L⟩
      · refine c_end ?_
        refine n_then ?_
        refine c_false rfl ?_
        refine c_skipn ?_
        refine n_then ?_
        refine wp_seq ?_
        have hby := (Go.Lib.len8tab.data.toList.getD (IntKind.u8.wrap x).toNat 0).toNat_lt
        refine c_reg ?_
        refine s0 (x_move (v := .int _ _) rfl) ?_
        refine s0 (x_move (v := .int _ _) rfl) ?_
        refine s0 (x_convk us240FC un5FC rfl) ?_
        refine s0 (x_index (s := Go.Lib.len8tab) un9FC rfl rfl (by rw [wrap_u8]; omega) (by rw [wrap_u8, Go.Lib.len8tab_size]; omega)) ?_
        refine s0 (x_convb us5FC un3FC rfl) ?_
        refine s0 (x_add rfl rfl (by omega)) ?_
        refine s0 (x_assign (v := .int _ _) rfl) ?_
        refine c_end ?_
        refine n_then ?_
        refine wp_ret ?_
        refine f_ret rfl rfl ?_
        exact ⟨ret_int (by rw [wrap_u8, show x % 256 = x by omega, len_small (x := x) (by omega)]; omega), L⟩

/-- math/bits.Len -/
theorem g_len (x : Int) (w : World) (hx : 1 ≤ x ∧ x ≤ 65535) :
    Calls Try.prog 270 [.int .u64 x].toArray w (Ret w (.int .i64 (lz (x - 1) + 1))) := by
  have L : Exm [] w w := Exm.rfl'
  refine enter (n := 8) Try.func270 rfl rfl rfl ?_
  refine wp_seq ?_
  refine c_reg ?_
  refine s0 (x_assign (v := .int _ _) rfl) ?_
  refine c_end ?_
  refine n_then ?_
  refine wp_seq ?_
  refine c_false rfl ?_
  refine c_skipn ?_
  refine n_then ?_
  refine wp_seq ?_
  refine c_reg ?_
  refine s0 (x_move (v := .int _ _) rfl) ?_
  refine sr (zcall cl277FC rfl) (g_len64 _ _ (by omega)) ?_
  intro w1 l2
  have z_l2 := l2.size
  have L := L.tr l2.up
  refine s0 (x_assign (v := .int _ _) rfl) ?_
  refine c_end ?_
  refine n_then ?_
  refine wp_ret ?_
  refine f_ret rfl rfl ?_
  exact ⟨rfl, L⟩

/-- impl.UeSize -/
theorem i_ueSize (n : Int) (w : World) :
    Calls Try.prog 247 [.int .i64 n].toArray w (Ret w (.int .i64 (ueSize n))) := by
  have L : Exm [] w w := Exm.rfl'
  refine enter (n := 12) Try.func247 rfl rfl rfl ?_
  refine wp_seq ?_
  refine c_reg ?_
  refine s0 (x_assign (v := .int _ _) rfl) ?_
  refine c_end ?_
  refine n_then ?_
  refine wp_seq ?_
  refine wp_seq ?_
  refine c_reg ?_
  refine s0 (x_move (v := .int _ _) rfl) ?_
  refine srb (zcall cl88FC rfl) (i_within _ _ _ _) (fun h4 w1 l2 => ?_) (fun h4 w1 l2 => ?_)
  · have z_l2 := l2.size
    have L := L.tr l2.up
    refine s0 (x_not rfl) ?_
    refine c_end ?_
    refine n_then ?_
    refine c_false rfl ?_
    refine c_skipn ?_
    refine n_then ?_
    refine wp_seq ?_
    have hz := lz_range h4
    refine c_reg ?_
    refine s0 (x_move (v := .int _ _) rfl) ?_
    refine s0 (x_add rfl rfl (by omega)) ?_
    refine s0 (x_conv us3FC un197FC rfl (u64_in (by omega))) ?_
    refine sr (zcall cl270FC rfl) (g_len _ _ (by omega)) ?_
    intro w3 l4
    have z_l4 := l4.size
    have L := L.tr l4.up
    refine s0 (x_mul rfl rfl (by rw [show n + 1 - 1 = n by omega]; omega)) ?_
    refine s0 (x_sub rfl rfl (by rw [show n + 1 - 1 = n by omega]; omega)) ?_
    refine s0 (x_assign (v := .int _ _) rfl) ?_
    refine c_end ?_
    refine n_then ?_
    refine wp_ret ?_
    refine f_ret rfl rfl ?_
    exact ⟨ret_int (by unfold ueSize; rw [if_pos h4, show n + 1 - 1 = n by omega]; omega), L⟩
  · have z_l2 := l2.size
    have L := L.tr l2.up
    refine s0 (x_not rfl) ?_
    refine c_end ?_
    refine n_then ?_
    refine c_true rfl ?_
    refine wp_seq ?_
    refine c_reg ?_
    refine s0 (x_assign (v := .int _ _) rfl) ?_
    refine c_end ?_
    refine n_then ?_
    refine wp_ret (r_then ?_)
    refine f_ret rfl rfl ?_
    exact ⟨ret_int (by unfold ueSize; rw [if_neg h4]), L⟩

/-- impl.UeBits -/
theorem i_ueBits (n : Int) (w : World) :
    Calls Try.prog 201 [.int .i64 n].toArray w (RetP w fun v w' => ∃ p c F, v = .slice p (ueBits n).length c ∧ Own w' p (ueBits n).length c 3 1 (ic (ueBits n)) F ∧ Fr w.heap.size F) := by
  have L : Exm [] w w := Exm.rfl'
  refine enter (n := 11) Try.func201 rfl rfl rfl ?_
  refine wp_seq ?_
  refine c_reg ?_
  refine s0 (x_assign (v := .slice _ _ _) rfl) ?_
  refine c_end ?_
  refine n_then ?_
  refine wp_seq ?_
  refine wp_seq ?_
  refine c_reg ?_
  refine s0 (x_move (v := .int _ _) rfl) ?_
  refine srb (zcall cl88FC rfl) (i_within _ _ _ _) (fun h4 w1 l2 => ?_) (fun h4 w1 l2 => ?_)
  · have z_l2 := l2.size
    have L := L.tr l2.up
    refine s0 (x_not rfl) ?_
    refine c_end ?_
    refine n_then ?_
    refine c_false rfl ?_
    refine c_skipn ?_
    refine n_then ?_
    refine wp_seq ?_
    have hus := ueSize_range n
    refine c_reg ?_
    refine s0 (x_move (v := .int _ _) rfl) ?_
    refine s0 (x_add rfl rfl (by omega)) ?_
    refine s0 (x_move (v := .int _ _) rfl) ?_
    refine sr (zcall cl247FC rfl) (i_ueSize _ _) ?_
    intro w3 l4
    have z_l4 := l4.size
    have L := L.tr l4.up
    refine sp (zcall cl92FC rfl) (i_bitsIn _ _ _ (by omega) (by omega)) ?_
    rintro v10 w5 l6 ⟨p10, c10, F10, rfl, o10, f10⟩
    have z_l6 := l6.size
    have L := L.tr l6.up
    have g10 := o10.lt
    refine s0 (x_assign (v := .slice _ _ _) rfl) ?_
    refine c_end ?_
    refine n_then ?_
    refine wp_ret ?_
    refine f_ret rfl rfl ?_
    rw [show ueBits n = bitsIn (n + 1) (ueSize n) from if_pos h4]
    exact ⟨_, rfl, L, _, _, _, rfl, o10, f10.mono (by omega)⟩
  · have z_l2 := l2.size
    have L := L.tr l2.up
    refine s0 (x_not rfl) ?_
    refine c_end ?_
    refine n_then ?_
    refine c_true rfl ?_
    refine wp_seq ?_
    refine c_reg ?_
    refine s0 (x_assign (v := .slice _ _ _) rfl) ?_
    refine c_end ?_
    refine n_then ?_
    refine wp_ret (r_then ?_)
    refine f_ret rfl rfl ?_
    rw [ueBits_no h4]
    exact ⟨_, rfl, L, none, 0, [], rfl, Own.nil, Fr.no⟩

/-- impl.LevelOf -/
theorem i_levelOf (n : Int) (w : World) (hn : n ≤ 9223372036854775807) :
    Calls Try.prog 243 [.int .i64 n].toArray w (Ret w (.int .i64 (levelOf n))) := by
  have L : Exm [] w w := Exm.rfl'
  refine enter (n := 17) Try.func243 rfl rfl rfl ?_
  refine wp_seq ?_
  refine c_reg ?_
  refine s0 (x_assign (v := .int _ _) rfl) ?_
  refine c_end ?_
  refine n_then ?_
  refine wp_seq ?_
  refine wp_block ?_
  refine wp_seq ?_
  refine c_reg ?_
  refine s0 (x_move (v := .int _ _) rfl) ?_
  refine sb (x_lss rfl rfl) (fun h5 => ?_) (fun h5 => ?_)
  · refine s0 (x_assign (v := .bool _) rfl) ?_
    refine c_end ?_
    refine n_then ?_
    refine c_true rfl ?_
    refine wp_seq ?_
    refine c_reg ?_
    refine s0 (x_assign (v := .int _ _) rfl) ?_
    refine c_end ?_
    refine n_then ?_
    refine wp_ret (r_block (r_then ?_))
    refine f_ret rfl rfl ?_
    exact ⟨ret_int (by unfold levelOf; rw [if_pos h5]), L⟩
  · refine s0 (x_assign (v := .bool _) rfl) ?_
    refine c_end ?_
    refine n_then ?_
    refine c_false rfl ?_
    refine wp_seq ?_
    refine c_reg ?_
    refine s0 (x_move (v := .int _ _) rfl) ?_
    refine s0 (x_rem rfl rfl (by omega) (by omega)) ?_
    refine sb (x_eql rfl rfl) (fun h9 => ?_) (fun h9 => ?_)
    · refine s0 (x_assign (v := .bool _) rfl) ?_
      refine c_end ?_
      refine n_then ?_
      refine c_true rfl ?_
      refine wp_seq ?_
      refine c_reg ?_
      refine s0 (x_move (v := .int _ _) rfl) ?_
      refine s0 (x_quo rfl rfl (by omega) (by omega)) ?_
      refine s0 (x_add rfl rfl (by omega)) ?_
      refine s0 (x_assign (v := .int _ _) rfl) ?_
      refine c_end ?_
      refine n_then ?_
      refine wp_ret (r_block (r_then ?_))
      refine f_ret rfl rfl ?_
      exact ⟨ret_int (by unfold levelOf; rw [if_neg h5, if_pos h9]), L⟩
    · refine s0 (x_assign (v := .bool _) rfl) ?_
      refine c_end ?_
      refine n_then ?_
      refine c_false rfl ?_
      refine c_skipn ?_
      refine n_block ?_
      refine n_then ?_
      refine wp_seq ?_
      refine c_reg ?_
      refine s0 (x_move (v := .int _ _) rfl) ?_
      refine s0 (x_quo rfl rfl (by omega) (by omega)) ?_
      refine s0 (x_add rfl rfl (by omega)) ?_
      refine s0 (x_neg rfl (by omega)) ?_
      refine s0 (x_assign (v := .int _ _) rfl) ?_
      refine c_end ?_
      refine n_then ?_
      refine wp_ret ?_
      refine f_ret rfl rfl ?_
      exact ⟨ret_int (by unfold levelOf; rw [if_neg h5, if_neg h9]), L⟩

/-- impl.NumOfLevel -/
theorem i_numOfLevel (v : Int) (w : World) (hv : -1073741824 ≤ v ∧ v ≤ 1073741824) :
    Calls Try.prog 202 [.int .i64 v].toArray w (Ret w (.int .i64 (numOf v))) := by
  have L : Exm [] w w := Exm.rfl'
  refine enter (n := 15) Try.func202 rfl rfl rfl ?_
  refine wp_seq ?_
  refine c_reg ?_
  refine s0 (x_assign (v := .int _ _) rfl) ?_
  refine c_end ?_
  refine n_then ?_
  refine wp_seq ?_
  refine wp_block ?_
  refine wp_seq ?_
  refine c_reg ?_
  refine s0 (x_move (v := .int _ _) rfl) ?_
  refine sb (x_gtr rfl rfl) (fun h5 => ?_) (fun h5 => ?_)
  · refine s0 (x_assign (v := .bool _) rfl) ?_
    refine c_end ?_
    refine n_then ?_
    refine c_true rfl ?_
    refine wp_seq ?_
    refine c_reg ?_
    refine s0 (x_move (v := .int _ _) rfl) ?_
    refine s0 (x_mul rfl rfl (by omega)) ?_
    refine s0 (x_sub rfl rfl (by omega)) ?_
    refine s0 (x_assign (v := .int _ _) rfl) ?_
    refine c_end ?_
    refine n_then ?_
    refine wp_ret (r_block (r_then ?_))
    refine f_ret rfl rfl ?_
    exact ⟨ret_int (by unfold numOf; rw [if_pos h5]), L⟩
  · refine s0 (x_assign (v := .bool _) rfl) ?_
    refine c_end ?_
    refine n_then ?_
    refine c_false rfl ?_
    refine wp_seq ?_
    refine c_reg ?_
    refine s0 (x_move (v := .int _ _) rfl) ?_
    refine sb (x_lss rfl rfl) (fun h11 => ?_) (fun h11 => ?_)
    · refine s0 (x_assign (v := .bool _) rfl) ?_
      refine c_end ?_
      refine n_then ?_
      refine c_true rfl ?_
      refine wp_seq ?_
      refine c_reg ?_
      refine s0 (x_move (v := .int _ _) rfl) ?_
      refine s0 (x_mul rfl rfl (by omega)) ?_
      refine s0 (x_sub rfl rfl (by omega)) ?_
      refine s0 (x_assign (v := .int _ _) rfl) ?_
      refine c_end ?_
      refine n_then ?_
      refine wp_ret (r_block (r_then ?_))
      refine f_ret rfl rfl ?_
      exact ⟨ret_int (by unfold numOf; rw [if_neg h5, if_pos h11]), L⟩
    · refine s0 (x_assign (v := .bool _) rfl) ?_
      refine c_end ?_
      refine n_then ?_
      refine c_false rfl ?_
      refine c_skipn ?_
      refine n_block ?_
      refine n_then ?_
      refine wp_seq ?_
      refine c_reg ?_
      refine s0 (x_assign (v := .int _ _) rfl) ?_
      refine c_end ?_
      refine n_then ?_
      refine wp_ret ?_
      refine f_ret rfl rfl ?_
      exact ⟨ret_int (by unfold numOf; rw [if_neg h5, if_neg h11]), L⟩

/-- slices.Clone[[]int,int] -/
theorem g_clone (p : Option Addr) (xs : List Int) (c : Nat) (w : World) (hp : Sl w p xs.length c 1 (ic xs)) (hl : xs.length ≤ 1099511627776) :
    Calls Try.prog 208 [.slice p xs.length c].toArray w (RetP w fun v w' => ∃ p c F, v = .slice p (xs).length c ∧ Own w' p (xs).length c 3 1 (ic (xs)) F ∧ Fr w.heap.size F) := by
  have L : Exm [] w w := Exm.rfl'
  refine enter (n := 8) Try.func208 rfl rfl rfl ?_
  refine wp_seq ?_
  refine c_reg ?_
  refine s0 (x_assign (v := .slice _ _ _) rfl) ?_
  refine c_end ?_
  refine n_then ?_
  refine wp_seq ?_
  refine wp_seq ?_
  refine c_reg ?_
  refine s0 (x_move (v := .slice _ _ _) rfl) ?_
  refine sb (x_eqnil un40FC rfl rfl) (fun h4 => ?_) (fun h4 => ?_)
  · refine c_end ?_
    refine n_then ?_
    refine c_true rfl ?_
    refine wp_seq ?_
    refine c_reg ?_
    refine s0 (x_assign (v := .slice _ _ _) rfl) ?_
    refine c_end ?_
    refine n_then ?_
    refine wp_ret (r_then ?_)
    refine f_ret rfl rfl ?_
    obtain ⟨hn0, hc0⟩ := hp.nil h4
    have hx0 : xs = [] := List.eq_nil_of_length_eq_zero hn0
    subst hx0
    exact ⟨_, rfl, L, none, 0, [], rfl, Own.nil, Fr.no⟩
  · refine c_end ?_
    refine n_then ?_
    refine c_false rfl ?_
    refine c_skipn ?_
    refine n_then ?_
    refine wp_seq ?_
    refine c_reg ?_
    refine s_bs0 so40FC ?_
    intro p5 F5 w1 l2 o5 f5 g5
    have o5 : Own w1 p5 0 0 3 1 (ic []) F5 := o5
    have z_l2 := l2.size
    have L := L.tr l2.up
    refine s0 (x_move (v := .slice _ _ _) rfl) ?_
    refine s_appi (B := w.heap.size) so40FC zr3FC rfl rfl (xs := _) o5 (hp.ext L) f5 (by omega) (by omega) (by omega) ?_
    intro p7 c7 F7 w3 l4 o7 hn7 k7 f7 g7
    have z_l4 := l4.size
    have L := L.freshL l4 f5 (by omega)
    refine s0 (x_assign (v := .slice _ _ _) rfl) ?_
    refine c_end ?_
    refine n_then ?_
    refine wp_ret ?_
    refine f_ret rfl rfl ?_
    exact ⟨_, rfl, L, _, _, _, rfl, o7, f7.mono (by omega)⟩

/-- impl.Stopped -/
theorem i_stopped (p : Option Addr) (xs : List Int) (c : Nat) (w : World) (hp : Sl w p xs.length c 1 (ic xs)) (hl : xs.length ≤ 1099511627000) :
    Calls Try.prog 150 [.slice p xs.length c].toArray w (Ret w (.string (stopped xs))) := by
  have L : Exm [] w w := Exm.rfl'
  refine enter (n := 23) Try.func150 rfl rfl rfl ?_
  refine wp_seq ?_
  refine c_reg ?_
  refine s0 (x_assign (v := .string _) rfl) ?_
  refine c_end ?_
  refine n_then ?_
  refine wp_seq ?_
  refine c_reg ?_
  refine s0 (x_move (v := .slice _ _ _) rfl) ?_
  refine sp (zcall cl208FC rfl) (g_clone _ _ _ _ (hp.ext L) (by omega)) ?_
  rintro v7 w1 l2 ⟨p7, c7, F7, rfl, o7, f7⟩
  have z_l2 := l2.size
  have L := L.tr l2.up
  have g7 := o7.lt
  refine s_bsi (xs := [_]) so40FC zr3FC (pts_cons rfl pts_nil) rfl rfl rfl ?_
  intro p8 F8 w3 l4 o8 f8 g8
  have z_l4 := l4.size
  have L := L.tr l4.up
  have o7 := o7.ext l4
  have hn8 := o8.n1
  refine s_appi (B := w.heap.size) so40FC zr3FC rfl rfl (xs := _) o7 o8.sl f7 (by omega) (by omega) (by omega) ?_
  intro p9 c9 F9 w5 l6 o9 hn9 k9 f9 g9
  have z_l6 := l6.size
  have L := L.freshL l6 f7 (by omega)
  have d8_9 : Dj F8 F9 := k9.dj (by first | assumption | exact Dj.symm (by assumption) | exact dj_of f8 g8 f7 g7 (by omega)) g8 (by omega)
  have o8 := o8.exm l6 (by first | assumption | exact Dj.symm (by assumption) | exact dj_of f7 g7 f8 g8 (by omega))
  refine s0 (x_assign (v := .slice _ _ _) rfl) ?_
  refine c_end ?_
  refine n_then ?_
  refine wp_seq ?_
  refine wp_block ?_
  refine c_loop (γ := Nat) (fun k => 8 - k) (fun (k : Nat) E wl => ∃ E0 pz3 cz3 Fz3, E = upd E0 3 (.slice pz3 ((xs ++ [1] ++ List.replicate k 0).length) cz3) ∧ (Exm [] w wl) ∧ (w5.heap.size ≤ wl.heap.size) ∧ (Own wl pz3 ((xs ++ [1] ++ List.replicate k 0).length) cz3 3 1 (ic (xs ++ [1] ++ List.replicate k 0)) Fz3) ∧ (Fr (w.heap.size) Fz3) ∧ (Lt Fz3 wl.heap.size) ∧ (k ≤ (8 - (xs.length + 1) % 8) % 8)) 0 ⟨_, _, _, _, upd_self1 (slice_len (by rw [List.replicate_zero, List.append_nil])), L, (by omega), (by rw [List.replicate_zero, List.append_nil]; exact o9), (f9.mono (by omega)), (g9.mono (by omega)), (Nat.zero_le _)⟩ ?_
  rintro k E wl7 ⟨E0, pz3, cz3, Fz3, rfl, L, Lz, oz3, fz3, gz3, hk⟩
  have Lz0 := L.size
  have hlen : (xs ++ [1] ++ List.replicate k 0).length = xs.length + 1 + k := by rw [List.length_append, List.length_append, List.length_replicate]; rfl
  refine wp_seq ?_
  refine wp_seq ?_
  refine c_reg ?_
  refine s0 (x_move (v := .slice _ _ _) rfl) ?_
  refine s0 (x_lensl un40FC rfl) ?_
  refine s0 (x_rem rfl rfl (by omega) (by omega)) ?_
  refine sb (x_neq rfl rfl) (fun h13 => ?_) (fun h13 => ?_)
  · refine c_end ?_
    refine n_then ?_
    refine c_true rfl ?_
    refine c_skipn ?_
    refine n_then ?_
    refine wp_block ?_
    refine c_reg ?_
    refine s0 (x_move (v := .slice _ _ _) rfl) ?_
    refine s_bsi (xs := [_]) so40FC zr3FC (pts_cons rfl pts_nil) rfl rfl rfl ?_
    intro p15 F15 w8 l9 o15 f15 g15
    have z_l9 := l9.size
    have L := L.tr l9.up
    have oz3 := oz3.ext l9
    have hn15 := o15.n1
    refine s_appi (B := w.heap.size) so40FC zr3FC rfl rfl (xs := _) oz3 o15.sl fz3 (by omega) (by omega) (by omega) ?_
    intro p16 c16 F16 w10 l11 o16 hn16 k16 f16 g16
    have z_l11 := l11.size
    have L := L.freshL l11 fz3 (by omega)
    have d15_16 : Dj F15 F16 := k16.dj (by first | assumption | exact Dj.symm (by assumption) | exact dj_of f15 g15 fz3 gz3 (by omega)) g15 (by omega)
    have o15 := o15.exm l11 (by first | assumption | exact Dj.symm (by assumption) | exact dj_of fz3 gz3 f15 g15 (by omega))
    refine s0 (x_assign (v := .slice _ _ _) rfl) ?_
    refine c_end ?_
    refine n_block ?_
    exact c_round (g' := k + 1) (by omega) ⟨_, _, _, _, upd_self1 (by (rw [List.replicate_succ', ← List.append_assoc]); rfl), L, (by omega), (by (rw [List.replicate_succ', ← List.append_assoc]); exact o16), (f16.mono (by omega)), (g16.mono (by omega)), (by omega)⟩
  · refine c_end ?_
    refine n_then ?_
    refine c_false rfl ?_
    refine wp_exit (e_then (e_then (e_here ?_)))
    refine n_then ?_
    refine wp_seq ?_
    refine c_reg ?_
    refine s0 (x_move (v := .slice _ _ _) rfl) ?_
    refine sr (zcall cl91FC rfl) (i_bytesOf _ _ _ _ oz3.sl (by omega)) ?_
    intro w12 l13
    have z_l13 := l13.size
    have L := L.tr l13.up
    have oz3 := oz3.ext l13
    refine s0 (x_move (v := .tuple _) rfl) ?_
    refine s0 (x_extract rfl rfl) ?_
    refine s0 (x_extract rfl rfl) ?_
    refine s0 (x_assign (v := .string _) rfl) ?_
    refine s0 (x_assign (v := .bool _) rfl) ?_
    refine c_end ?_
    refine n_then ?_
    refine wp_seq ?_
    refine c_reg ?_
    refine s0 (x_move (v := .string _) rfl) ?_
    refine s0 (x_assign (v := .string _) rfl) ?_
    refine c_end ?_
    refine n_then ?_
    refine wp_ret ?_
    refine f_ret rfl rfl ?_
    have hke : k = (8 - (xs ++ [1]).length % 8) % 8 := by rw [List.length_append]; show k = (8 - (xs.length + 1) % 8) % 8; omega
    exact ⟨by unfold stopped pad8; rw [← hke]; rfl, L⟩

/-- spec.l6Num -/
theorem s_l6Num (b B : Nat) (w : World) (hcu : Cu w b B 192) :
    Calls Try.prog 173 [pt b 0].toArray w (RetM [b] w fun v w' => (∃ x : Int, v = .int .i64 x ∧ True) ∧ Cu w' b B 192) := by
  have hcb := hcu.lt
  have L : Exm [b] w w := Exm.rfl'
  refine enter (n := 10) Try.func173 rfl rfl rfl ?_
  refine wp_seq ?_
  refine c_reg ?_
  refine s0 (x_assign (v := .int _ _) rfl) ?_
  refine c_end ?_
  refine n_then ?_
  refine wp_seq ?_
  refine c_reg ?_
  refine s0 (x_move (v := .pointer _) rfl) ?_
  refine s0 (x_move (v := .pointer _) rfl) ?_
  refine spm (zcall cl171FC rfl) (s_below b _ _ _ hcu) ?_
  rintro v5 w1 l2 ⟨⟨x5, rfl, hx5⟩, hcu⟩
  have z_l2 := l2.size
  have L := L.within l2 (by simp)
  refine s0 (x_move (v := .pointer _) rfl) ?_
  refine spm (zcall cl171FC rfl) (s_below b _ _ _ hcu) ?_
  rintro v7 w3 l4 ⟨⟨x7, rfl, hx7⟩, hcu⟩
  have z_l4 := l4.size
  have L := L.within l4 (by simp)
  refine s_bsi (xs := [_, _, _, _, _, _, _, _, _, _, _, _, _, _]) so40FC zr3FC (pts_cons rfl (pts_cons rfl (pts_cons rfl (pts_cons rfl (pts_cons rfl (pts_cons rfl (pts_cons rfl (pts_cons rfl (pts_cons rfl (pts_cons rfl (pts_cons rfl (pts_cons rfl (pts_cons rfl (pts_cons rfl pts_nil)))))))))))))) rfl rfl rfl ?_
  intro p8 F8 w5 l6 o8 f8 g8
  have z_l6 := l6.size
  have L := L.tr l6.up
  have hcu := hcu.ext l6
  have hn8 := o8.n1
  refine spm (zcall cl175FC rfl) (s_pick b _ _ _ _ _ _ hcu _ o8 (by first | assumption | exact nin_of f8 g8 (by omega)) (by omega)) ?_
  rintro v9 w7 l8 ⟨⟨x9, rfl, hx9⟩, hcu⟩
  have z_l8 := l8.size
  have L := L.within l8 (by simp)
  have o8 := o8.ne l8 (by first | assumption | exact nin_of f8 g8 (by omega))
  refine s0 (x_assign (v := .int _ _) rfl) ?_
  refine c_end ?_
  refine n_then ?_
  refine wp_ret ?_
  refine f_ret rfl rfl ?_
  exact ⟨_, rfl, L, ⟨_, rfl, trivial⟩, hcu⟩

end Go.Proofs.Ytnehdmcilmlchaa
