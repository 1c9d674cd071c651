/- What each function of this part returns, for every argument that meets its premises. -/
import Derived.Test.YtfmmkacopgecpaaFG
import Derived.Test.YtfmmkacopgecpaaPlD
namespace Go.Proofs.Ytfmmkacopgecpaa
open Go.Sx Go.Pl Go.RowKit
theorem ag85 : Ag Try.prog 85 3 := ⟨⟨_, Try.underlying85⟩, by kernel_rfl⟩
theorem bd85 : Built Try.prog 85 [.int .i64 0, .int .i64 0, .slice none 0 0] #[(0, 1), (1, 1), (2, 1)] := ⟨_, Try.underlying85, by unfold ZeroV; kernel_rfl, fun w => by kernel_rfl⟩
theorem cl120 : Callable Try.prog 120 := callable Try.func120 (by kernel_rfl) rfl
theorem cl121 : Callable Try.prog 121 := callable Try.func121 (by kernel_rfl) rfl
theorem cl122 : Callable Try.prog 122 := callable Try.func122 (by kernel_rfl) rfl
theorem cl123 : Callable Try.prog 123 := callable Try.func123 (by kernel_rfl) rfl
theorem cl124 : Callable Try.prog 124 := callable Try.func124 (by kernel_rfl) rfl
theorem cl125 : Callable Try.prog 125 := callable Try.func125 (by kernel_rfl) rfl
theorem cl126 : Callable Try.prog 126 := callable Try.func126 (by kernel_rfl) rfl
theorem cl127 : Callable Try.prog 127 := callable Try.func127 (by kernel_rfl) rfl
theorem cl128 : Callable Try.prog 128 := callable Try.func128 (by kernel_rfl) rfl
theorem cl129 : Callable Try.prog 129 := callable Try.func129 (by kernel_rfl) rfl
theorem cl130 : Callable Try.prog 130 := callable Try.func130 (by kernel_rfl) rfl
theorem cl131 : Callable Try.prog 131 := callable Try.func131 (by kernel_rfl) rfl
theorem cl132 : Callable Try.prog 132 := callable Try.func132 (by kernel_rfl) rfl
theorem cl166 : Callable Try.prog 166 := callable Try.func166 (by kernel_rfl) rfl
theorem cl167 : Callable Try.prog 167 := callable Try.func167 (by kernel_rfl) rfl
theorem cl168 : Callable Try.prog 168 := callable Try.func168 (by kernel_rfl) rfl
theorem cl177 : Callable Try.prog 177 := callable Try.func177 (by kernel_rfl) rfl
theorem cl178 : Callable Try.prog 178 := callable Try.func178 (by kernel_rfl) rfl
theorem cl179 : Callable Try.prog 179 := callable Try.func179 (by kernel_rfl) rfl
theorem cl180 : Callable Try.prog 180 := callable Try.func180 (by kernel_rfl) rfl
theorem cl181 : Callable Try.prog 181 := callable Try.func181 (by kernel_rfl) rfl
theorem cl182 : Callable Try.prog 182 := callable Try.func182 (by kernel_rfl) rfl
theorem cl183 : Callable Try.prog 183 := callable Try.func183 (by kernel_rfl) rfl
theorem cl188 : Callable Try.prog 188 := callable Try.func188 (by kernel_rfl) rfl
theorem cl189 : Callable Try.prog 189 := callable Try.func189 (by kernel_rfl) rfl
theorem cl190 : Callable Try.prog 190 := callable Try.func190 (by kernel_rfl) rfl
theorem cl191 : Callable Try.prog 191 := callable Try.func191 (by kernel_rfl) rfl
theorem cl192 : Callable Try.prog 192 := callable Try.func192 (by kernel_rfl) rfl
theorem cl59 : Callable Try.prog 59 := callable Try.func59 (by kernel_rfl) rfl
theorem cl71 : Callable Try.prog 71 := callable Try.func71 (by kernel_rfl) rfl
theorem cl72 : Callable Try.prog 72 := callable Try.func72 (by kernel_rfl) rfl
theorem cl73 : Callable Try.prog 73 := callable Try.func73 (by kernel_rfl) rfl
theorem fa85_0 : FieldAt Try.prog 85 0 0 := ⟨_, _, Try.underlying85, rfl, rfl, ⟨0, by unfold Sz; kernel_rfl⟩⟩
theorem fa85_1 : FieldAt Try.prog 85 1 1 := ⟨_, _, Try.underlying85, rfl, rfl, ⟨0, by unfold Sz; kernel_rfl⟩⟩
theorem fa85_2 : FieldAt Try.prog 85 2 2 := ⟨_, _, Try.underlying85, rfl, rfl, ⟨0, by unfold Sz; kernel_rfl⟩⟩
theorem fa91_0 : FieldAt Try.prog 91 0 0 := ⟨_, _, Try.underlying91, rfl, rfl, ⟨0, by unfold Sz; kernel_rfl⟩⟩
theorem fa91_1 : FieldAt Try.prog 91 1 1 := ⟨_, _, Try.underlying91, rfl, rfl, ⟨0, by unfold Sz; kernel_rfl⟩⟩
theorem fa91_2 : FieldAt Try.prog 91 2 2 := ⟨_, _, Try.underlying91, rfl, rfl, ⟨0, by unfold Sz; kernel_rfl⟩⟩
theorem sz85 : Sz Try.prog 85 3 := by unfold Sz; kernel_rfl
theorem zr85 : ZeroV Try.prog 85 [.int .i64 0, .int .i64 0, .slice none 0 0] := by unfold ZeroV; kernel_rfl
theorem x_quot {P : Program} {n : Nat} {E : Env} {T T' ty : TypeId} {x y : Operand} {a b : Int} (hx : opd n E x = .int .i64 a) (hy : opd n E y = .int .i64 b) (ha : -9223372036854775807 ≤ a ∧ a ≤ 9223372036854775807) (hb : 0 < b) : X0 P n E (.binOp .quo T x y T') ty (.int .i64 (a.tdiv b)) := by
  have h := x_quok (P := P) (T := T) (T' := T') (ty := ty) hx hy (by omega)
  have h2 := tdiv_range hb ha
  rwa [wrap_in ⟨by omega, by omega⟩] at h

/-- impl.limited -/
theorem i_limited (n lo hi : Int) (w : World) :
    Calls Try.prog 191 [.int .i64 n, .int .i64 lo, .int .i64 hi].toArray w (Ret w (.int .i64 (max lo (min n hi)))) := by
  have L : Exm [] w w := Exm.rfl'
  refine enter (n := 12) Try.func191 rfl rfl rfl ?_
  refine wp_seq ?_
  refine c_reg ?_
  refine s0 (x_assign (v := .int _ _) rfl) ?_
  refine c_end ?_
  refine n_then ?_
  refine wp_seq ?_
  refine c_reg ?_
  refine s0 (x_move (v := .int _ _) rfl) ?_
  refine s0 (x_move (v := .int _ _) rfl) ?_
  refine s0 (x_move (v := .int _ _) rfl) ?_
  refine s0 (x_min rfl rfl) ?_
  refine s0 (x_max rfl rfl) ?_
  refine s0 (x_assign (v := .int _ _) rfl) ?_
  refine c_end ?_
  refine n_then ?_
  refine wp_ret ?_
  refine f_ret rfl rfl ?_
  exact ⟨rfl, L⟩

/-- impl.floorDiv -/
theorem i_floorDiv (a b : Int) (w : World) (ha : -4611686018427387904 ≤ a ∧ a ≤ 4611686018427387904) (hb : 0 < b ∧ b ≤ 1099511627776) :
    Calls Try.prog 192 [.int .i64 a, .int .i64 b].toArray w (Ret w (.int .i64 (a / b))) := by
  have hq := floor_eq (a := a) hb.1
  have htr := tdiv_range (a := a) hb.1 (by omega)
  have hts := tdiv_small (a := a) hb.1 ha
  have L : Exm [] w w := Exm.rfl'
  refine enter (n := 16) Try.func192 rfl rfl rfl ?_
  refine wp_seq ?_
  refine c_reg ?_
  refine s0 (x_assign (v := .int _ _) rfl) ?_
  refine c_end ?_
  refine n_then ?_
  refine wp_seq ?_
  refine c_reg ?_
  refine s0 (x_move (v := .int _ _) rfl) ?_
  refine s0 (x_move (v := .int _ _) rfl) ?_
  refine s0 (x_quot rfl rfl (by omega) (by omega)) ?_
  refine s0 (x_assign (v := .int _ _) rfl) ?_
  refine c_end ?_
  refine n_then ?_
  refine wp_seq ?_
  refine wp_seq ?_
  refine c_reg ?_
  refine s0 (x_move (v := .int _ _) rfl) ?_
  refine s0 (x_move (v := .int _ _) rfl) ?_
  refine s0 (x_remk rfl rfl (by omega)) ?_
  refine sb (x_lss rfl rfl) (fun h12 => ?_) (fun h12 => ?_)
  · refine c_end ?_
    refine n_then ?_
    refine c_true rfl ?_
    refine c_reg ?_
    refine s0 (x_move (v := .int _ _) rfl) ?_
    refine s0 (x_sub rfl rfl (by omega)) ?_
    refine s0 (x_assign (v := .int _ _) rfl) ?_
    refine c_end ?_
    refine n_then ?_
    refine wp_seq ?_
    refine c_reg ?_
    refine s0 (x_move (v := .int _ _) rfl) ?_
    refine s0 (x_assign (v := .int _ _) rfl) ?_
    refine c_end ?_
    refine n_then ?_
    refine wp_ret ?_
    refine f_ret rfl rfl ?_
    exact ⟨ret_int (by rw [if_pos h12] at hq; exact hq), L⟩
  · refine c_end ?_
    refine n_then ?_
    refine c_false rfl ?_
    refine c_skipn ?_
    refine n_then ?_
    refine wp_seq ?_
    refine c_reg ?_
    refine s0 (x_move (v := .int _ _) rfl) ?_
    refine s0 (x_assign (v := .int _ _) rfl) ?_
    refine c_end ?_
    refine n_then ?_
    refine wp_ret ?_
    refine f_ret rfl rfl ?_
    exact ⟨ret_int (by rw [if_neg h12] at hq; exact hq), L⟩

/-- spec.l12Floor -/
theorem s_floor (a b : Int) (w : World) (ha : -4611686018427387904 ≤ a ∧ a ≤ 4611686018427387904) (hb : 0 < b ∧ b ≤ 1099511627776) :
    Calls Try.prog 182 [.int .i64 a, .int .i64 b].toArray w (Ret w (.int .i64 (a / b))) := by
  have hfu := floor_up (a := a) hb.1
  have hdr : a < 0 → 0 ≤ (-a + b - 1) / b ∧ (-a + b - 1) / b ≤ -a + b - 1 := fun h => ⟨Int.ediv_nonneg (by omega) (by omega), Int.ediv_le_self _ (by omega)⟩
  have L : Exm [] w w := Exm.rfl'
  refine enter (n := 18) Try.func182 rfl rfl rfl ?_
  refine wp_seq ?_
  refine c_reg ?_
  refine s0 (x_assign (v := .int _ _) rfl) ?_
  refine c_end ?_
  refine n_then ?_
  refine wp_seq ?_
  refine wp_seq ?_
  refine c_reg ?_
  refine s0 (x_move (v := .int _ _) rfl) ?_
  refine sb (x_lss rfl rfl) (fun h6 => ?_) (fun h6 => ?_)
  · refine c_end ?_
    refine n_then ?_
    refine c_true rfl ?_
    refine wp_seq ?_
    refine c_reg ?_
    refine s0 (x_move (v := .int _ _) rfl) ?_
    refine s0 (x_neg rfl (by omega)) ?_
    refine s0 (x_move (v := .int _ _) rfl) ?_
    refine s0 (x_add rfl rfl (by omega)) ?_
    refine s0 (x_sub rfl rfl (by omega)) ?_
    refine s0 (x_move (v := .int _ _) rfl) ?_
    refine s0 (x_quo rfl rfl (by omega) (by omega)) ?_
    refine s0 (x_neg rfl (by omega)) ?_
    refine s0 (x_assign (v := .int _ _) rfl) ?_
    refine c_end ?_
    refine n_then ?_
    refine wp_ret (r_then ?_)
    refine f_ret rfl rfl ?_
    exact ⟨ret_int hfu, L⟩
  · refine c_end ?_
    refine n_then ?_
    refine c_false rfl ?_
    refine c_skipn ?_
    refine n_then ?_
    refine wp_seq ?_
    refine c_reg ?_
    refine s0 (x_move (v := .int _ _) rfl) ?_
    refine s0 (x_move (v := .int _ _) rfl) ?_
    refine s0 (x_quo rfl rfl (by omega) (by omega)) ?_
    refine s0 (x_assign (v := .int _ _) rfl) ?_
    refine c_end ?_
    refine n_then ?_
    refine wp_ret ?_
    refine f_ret rfl rfl ?_
    exact ⟨rfl, L⟩

/-- spec.l20Abs -/
theorem s_abs (n : Int) (w : World) (hn : -1099511627776 ≤ n ∧ n ≤ 1099511627776) :
    Calls Try.prog 180 [.int .i64 n].toArray w (Ret w (.int .i64 (max n (-n)))) := by
  have L : Exm [] w w := Exm.rfl'
  refine enter (n := 7) Try.func180 rfl rfl rfl ?_
  refine wp_seq ?_
  refine c_reg ?_
  refine s0 (x_assign (v := .int _ _) rfl) ?_
  refine c_end ?_
  refine n_then ?_
  refine wp_seq ?_
  refine c_reg ?_
  refine s0 (x_move (v := .int _ _) rfl) ?_
  refine s0 (x_move (v := .int _ _) rfl) ?_
  refine s0 (x_neg rfl (by omega)) ?_
  refine s0 (x_max rfl rfl) ?_
  refine s0 (x_assign (v := .int _ _) rfl) ?_
  refine c_end ?_
  refine n_then ?_
  refine wp_ret ?_
  refine f_ret rfl rfl ?_
  exact ⟨rfl, L⟩

/-- spec.l15Clip -/
theorem s_clip (n : Int) (w : World) :
    Calls Try.prog 183 [.int .i64 n].toArray w (Ret w (.int .i64 (clip n))) := by
  have L : Exm [] w w := Exm.rfl'
  refine enter (n := 6) Try.func183 rfl rfl rfl ?_
  refine wp_seq ?_
  refine c_reg ?_
  refine s0 (x_assign (v := .int _ _) rfl) ?_
  refine c_end ?_
  refine n_then ?_
  refine wp_seq ?_
  refine c_reg ?_
  refine s0 (x_move (v := .int _ _) rfl) ?_
  refine s0 (x_min rfl rfl) ?_
  refine s0 (x_max rfl rfl) ?_
  refine s0 (x_assign (v := .int _ _) rfl) ?_
  refine c_end ?_
  refine n_then ?_
  refine wp_ret ?_
  refine f_ret rfl rfl ?_
  exact ⟨ret_int (by unfold clip; omega), L⟩

/-- impl.AlphaOf -/
theorem i_alphaOf (q : Int) (w : World) :
    Calls Try.prog 189 [.int .i64 q].toArray w (Ret w (.int .i64 (alphaOf q))) := by
  have L : Exm [] w w := Exm.rfl'
  refine enter (n := 8) Try.func189 rfl rfl rfl ?_
  refine wp_seq ?_
  refine c_reg ?_
  refine s0 (x_assign (v := .int _ _) rfl) ?_
  refine c_end ?_
  refine n_then ?_
  refine wp_seq ?_
  refine wp_seq ?_
  refine c_reg ?_
  refine s0 (x_move (v := .int _ _) rfl) ?_
  refine srb (zcall cl95 rfl) (i_within _ _ _ _) (fun h4 w1 l2 => ?_) (fun h4 w1 l2 => ?_)
  · have z_l2 := l2.size
    have L := L.tr l2.up
    refine s0 (x_not rfl) ?_
    refine c_end ?_
    refine n_then ?_
    refine c_false rfl ?_
    refine c_skipn ?_
    refine n_then ?_
    refine wp_seq ?_
    refine c_reg ?_
    refine s0 (x_move (v := .int _ _) rfl) ?_
    refine s0 (x_add rfl rfl (by omega)) ?_
    refine s0 (x_assign (v := .int _ _) rfl) ?_
    refine c_end ?_
    refine n_then ?_
    refine wp_ret ?_
    refine f_ret rfl rfl ?_
    exact ⟨ret_int (by unfold alphaOf; split <;> omega), L⟩
  · have z_l2 := l2.size
    have L := L.tr l2.up
    refine s0 (x_not rfl) ?_
    refine c_end ?_
    refine n_then ?_
    refine c_true rfl ?_
    refine wp_seq ?_
    refine c_reg ?_
    refine s0 (x_assign (v := .int _ _) rfl) ?_
    refine c_end ?_
    refine n_then ?_
    refine wp_ret (r_then ?_)
    refine f_ret rfl rfl ?_
    exact ⟨ret_int (by unfold alphaOf; rw [if_neg h4]), L⟩

/-- impl.BetaOf -/
theorem i_betaOf (q : Int) (w : World) :
    Calls Try.prog 190 [.int .i64 q].toArray w (Ret w (.int .i64 (betaOf q))) := by
  have L : Exm [] w w := Exm.rfl'
  refine enter (n := 9) Try.func190 rfl rfl rfl ?_
  refine wp_seq ?_
  refine c_reg ?_
  refine s0 (x_assign (v := .int _ _) rfl) ?_
  refine c_end ?_
  refine n_then ?_
  refine wp_seq ?_
  refine wp_seq ?_
  refine c_reg ?_
  refine s0 (x_move (v := .int _ _) rfl) ?_
  refine srb (zcall cl95 rfl) (i_within _ _ _ _) (fun h4 w1 l2 => ?_) (fun h4 w1 l2 => ?_)
  · have z_l2 := l2.size
    have L := L.tr l2.up
    refine s0 (x_not rfl) ?_
    refine c_end ?_
    refine n_then ?_
    refine c_false rfl ?_
    refine c_skipn ?_
    refine n_then ?_
    refine wp_seq ?_
    refine c_reg ?_
    refine s0 (x_move (v := .int _ _) rfl) ?_
    refine s0 (x_quo rfl rfl (by omega) (by omega)) ?_
    refine s0 (x_add rfl rfl (by omega)) ?_
    refine s0 (x_assign (v := .int _ _) rfl) ?_
    refine c_end ?_
    refine n_then ?_
    refine wp_ret ?_
    refine f_ret rfl rfl ?_
    exact ⟨ret_int (by unfold betaOf; split <;> omega), L⟩
  · have z_l2 := l2.size
    have L := L.tr l2.up
    refine s0 (x_not rfl) ?_
    refine c_end ?_
    refine n_then ?_
    refine c_true rfl ?_
    refine wp_seq ?_
    refine c_reg ?_
    refine s0 (x_assign (v := .int _ _) rfl) ?_
    refine c_end ?_
    refine n_then ?_
    refine wp_ret (r_then ?_)
    refine f_ret rfl rfl ?_
    exact ⟨ret_int (by unfold betaOf; rw [if_neg h4]), L⟩

/-- spec.AlphaOf -/
theorem s_alphaOf (q : Int) (w : World) :
    Calls Try.prog 130 [.int .i64 q].toArray w (Ret w (.int .i64 (alphaOf q))) := by
  have L : Exm [] w w := Exm.rfl'
  refine enter (n := 8) Try.func130 rfl rfl rfl ?_
  refine wp_seq ?_
  refine c_reg ?_
  refine s0 (x_assign (v := .int _ _) rfl) ?_
  refine c_end ?_
  refine n_then ?_
  refine wp_seq ?_
  refine wp_seq ?_
  refine c_reg ?_
  refine s0 (x_move (v := .int _ _) rfl) ?_
  refine srb (zcall cl114 rfl) (s_l1In _ _ _ _) (fun h4 w1 l2 => ?_) (fun h4 w1 l2 => ?_)
  · have z_l2 := l2.size
    have L := L.tr l2.up
    refine s0 (x_not rfl) ?_
    refine c_end ?_
    refine n_then ?_
    refine c_false rfl ?_
    refine c_skipn ?_
    refine n_then ?_
    refine wp_seq ?_
    refine c_reg ?_
    refine s0 (x_move (v := .int _ _) rfl) ?_
    refine s0 (x_add rfl rfl (by omega)) ?_
    refine s0 (x_assign (v := .int _ _) rfl) ?_
    refine c_end ?_
    refine n_then ?_
    refine wp_ret ?_
    refine f_ret rfl rfl ?_
    exact ⟨ret_int (by unfold alphaOf; split <;> omega), L⟩
  · have z_l2 := l2.size
    have L := L.tr l2.up
    refine s0 (x_not rfl) ?_
    refine c_end ?_
    refine n_then ?_
    refine c_true rfl ?_
    refine wp_seq ?_
    refine c_reg ?_
    refine s0 (x_assign (v := .int _ _) rfl) ?_
    refine c_end ?_
    refine n_then ?_
    refine wp_ret (r_then ?_)
    refine f_ret rfl rfl ?_
    exact ⟨ret_int (by unfold alphaOf; rw [if_neg h4]), L⟩

/-- spec.BetaOf -/
theorem s_betaOf (q : Int) (w : World) :
    Calls Try.prog 181 [.int .i64 q].toArray w (Ret w (.int .i64 (betaOf q))) := by
  have L : Exm [] w w := Exm.rfl'
  refine enter (n := 9) Try.func181 rfl rfl rfl ?_
  refine wp_seq ?_
  refine c_reg ?_
  refine s0 (x_assign (v := .int _ _) rfl) ?_
  refine c_end ?_
  refine n_then ?_
  refine wp_seq ?_
  refine wp_seq ?_
  refine c_reg ?_
  refine s0 (x_move (v := .int _ _) rfl) ?_
  refine srb (zcall cl114 rfl) (s_l1In _ _ _ _) (fun h4 w1 l2 => ?_) (fun h4 w1 l2 => ?_)
  · have z_l2 := l2.size
    have L := L.tr l2.up
    refine s0 (x_not rfl) ?_
    refine c_end ?_
    refine n_then ?_
    refine c_false rfl ?_
    refine c_skipn ?_
    refine n_then ?_
    refine wp_seq ?_
    refine c_reg ?_
    refine s0 (x_move (v := .int _ _) rfl) ?_
    refine s0 (x_quo rfl rfl (by omega) (by omega)) ?_
    refine s0 (x_add rfl rfl (by omega)) ?_
    refine s0 (x_assign (v := .int _ _) rfl) ?_
    refine c_end ?_
    refine n_then ?_
    refine wp_ret ?_
    refine f_ret rfl rfl ?_
    exact ⟨ret_int (by unfold betaOf; split <;> omega), L⟩
  · have z_l2 := l2.size
    have L := L.tr l2.up
    refine s0 (x_not rfl) ?_
    refine c_end ?_
    refine n_then ?_
    refine c_true rfl ?_
    refine wp_seq ?_
    refine c_reg ?_
    refine s0 (x_assign (v := .int _ _) rfl) ?_
    refine c_end ?_
    refine n_then ?_
    refine wp_ret (r_then ?_)
    refine f_ret rfl rfl ?_
    exact ⟨ret_int (by unfold betaOf; rw [if_neg h4]), L⟩

/-- impl.allWithin -/
theorem i_allWithin (lo hi : Int) (p : Option Addr) (n c : Nat) (xs : List Int) (w : World) (hp : Sl w p n c 1 (ic xs)) (hl : n ≤ 1099511627776) :
    Calls Try.prog 178 [.slice p n c, .int .i64 lo, .int .i64 hi].toArray w (Ret w (.bool (decide (allIn lo hi xs)))) := by
  have hn := hp.n
  have L : Exm [] w w := Exm.rfl'
  refine enter (n := 21) Try.func178 rfl rfl rfl ?_
  refine wp_seq ?_
  refine c_reg ?_
  refine s0 (x_assign (v := .bool _) rfl) ?_
  refine c_end ?_
  refine n_then ?_
  refine wp_seq ?_
  refine wp_seq ?_
  refine c_reg ?_
  refine s0 (x_move (v := .slice _ _ _) rfl) ?_
  refine s0 (x_lensl un33 rfl) ?_
  refine s0 (x_move (v := .int _ _) rfl) ?_
  refine c_end ?_
  refine n_then ?_
  refine wp_block ?_
  refine c_loop (γ := Nat) (fun k => n - k) (fun (k : Nat) E wl => ∃ E0, E = upd (upd (upd (upd (upd E0 1 (.int .i64 lo)) 2 (.int .i64 hi)) 9 (.slice p n c)) 10 (.int .i64 n)) 11 (.int .i64 (k : Int)) ∧ (Exm [] w wl) ∧ ((k : Int) ≤ n) ∧ (∀ j : Nat, j < k → lo ≤ xs.getD j 0 ∧ xs.getD j 0 ≤ hi)) 0 ⟨_, upd_self5 rfl rfl rfl rfl rfl, L, (by omega), (by intro j hj; omega)⟩ ?_
  rintro k E wl1 ⟨E0, rfl, L, hk, hall⟩
  have Lz0 := L.size
  refine wp_seq ?_
  refine c_reg ?_
  refine sb (x_lss rfl rfl) (fun h12 => ?_) (fun h12 => ?_)
  · refine c_end ?_
    refine n_then ?_
    refine wp_seq ?_
    refine c_true rfl ?_
    refine c_skipn ?_
    refine n_then ?_
    refine wp_seq ?_
    refine wp_block ?_
    refine wp_seq ?_
    refine c_reg ?_
    refine s0 (x_idx so33 rfl rfl hp (by decide) (by omega) (by omega)) ?_
    refine st (x_ldi sc3 rfl (hp.ext L) (by omega) (by omega)) ?_
    refine s0 (x_assign (v := .int _ _) rfl) ?_
    refine c_end ?_
    refine n_then ?_
    refine wp_seq ?_
    refine c_reg ?_
    refine s0 (x_move (v := .int _ _) rfl) ?_
    refine s0 (x_move (v := .int _ _) rfl) ?_
    refine s0 (x_move (v := .int _ _) rfl) ?_
    refine srb (zcall cl95 rfl) (i_within _ _ _ _) (fun h18 w2 l3 => ?_) (fun h18 w2 l3 => ?_)
    · have z_l3 := l3.size
      have L := L.tr l3.up
      refine s0 (x_not rfl) ?_
      refine c_end ?_
      refine n_then ?_
      refine c_false rfl ?_
      refine c_skipn ?_
      refine n_block ?_
      refine n_then ?_
      refine c_reg ?_
      refine s0 (x_add rfl rfl (by omega)) ?_
      refine s0 (x_move (v := .int _ _) rfl) ?_
      refine c_end ?_
      exact c_round (g' := k + 1) (by omega) ⟨_, upd_self5 rfl rfl rfl rfl (vint (by omega)), L, (by omega), (upto_succ' hall (by simpa using h18))⟩
    · have z_l3 := l3.size
      have L := L.tr l3.up
      refine s0 (x_not rfl) ?_
      refine c_end ?_
      refine n_then ?_
      refine c_true rfl ?_
      refine wp_seq ?_
      refine c_reg ?_
      refine s0 (x_assign (v := .bool _) rfl) ?_
      refine c_end ?_
      refine n_then ?_
      refine wp_ret (r_block (r_then (r_then (r_block (r_then ?_)))))
      refine f_ret rfl rfl ?_
      exact ⟨ret_f (fun h => h18 (by simpa using h k (by omega))), L⟩
  · refine c_end ?_
    refine n_then ?_
    refine wp_seq ?_
    refine c_false rfl ?_
    refine wp_exit (e_then (e_then (e_here ?_)))
    refine n_then ?_
    refine wp_seq ?_
    refine c_reg ?_
    refine s0 (x_assign (v := .bool _) rfl) ?_
    refine c_end ?_
    refine n_then ?_
    refine wp_ret ?_
    refine f_ret rfl rfl ?_
    exact ⟨ret_t (fun j hj => hall j (by omega)), L⟩

/-- spec.l14Pix -/
theorem s_pix (p : Option Addr) (n c : Nat) (xs : List Int) (w : World) (hp : Sl w p n c 1 (ic xs)) (hl : n ≤ 1099511627776) :
    Calls Try.prog 129 [.slice p n c].toArray w (Ret w (.bool (decide (allIn 0 255 xs)))) := by
  have hn := hp.n
  have L : Exm [] w w := Exm.rfl'
  refine enter (n := 16) Try.func129 rfl rfl rfl ?_
  refine wp_seq ?_
  refine c_reg ?_
  refine s0 (x_assign (v := .bool _) rfl) ?_
  refine c_end ?_
  refine n_then ?_
  refine wp_seq ?_
  refine wp_seq ?_
  refine c_reg ?_
  refine s0 (x_assign (v := .int _ _) rfl) ?_
  refine c_end ?_
  refine n_then ?_
  refine wp_block ?_
  refine c_loop (γ := Nat) (fun k => n - k) (fun (k : Nat) E wl => ∃ E0, E = upd (upd E0 0 (.slice p n c)) 3 (.int .i64 (k : Int)) ∧ (Exm [] w wl) ∧ ((k : Int) ≤ n) ∧ (∀ j : Nat, j < k → 0 ≤ xs.getD j 0 ∧ xs.getD j 0 ≤ 255)) 0 ⟨_, upd_self2 rfl rfl, L, (by omega), (by intro j hj; omega)⟩ ?_
  rintro k E wl1 ⟨E0, rfl, L, hk, hall⟩
  have Lz0 := L.size
  refine wp_seq ?_
  refine wp_seq ?_
  refine c_reg ?_
  refine s0 (x_move (v := .int _ _) rfl) ?_
  refine s0 (x_move (v := .slice _ _ _) rfl) ?_
  refine s0 (x_lensl un33 rfl) ?_
  refine sb (x_lss rfl rfl) (fun h7 => ?_) (fun h7 => ?_)
  · refine c_end ?_
    refine n_then ?_
    refine c_true rfl ?_
    refine c_skipn ?_
    refine n_then ?_
    refine wp_seq ?_
    refine wp_block ?_
    refine wp_seq ?_
    refine c_reg ?_
    refine s0 (x_move (v := .slice _ _ _) rfl) ?_
    refine s0 (x_move (v := .int _ _) rfl) ?_
    refine s0 (x_idx so33 rfl rfl hp (by decide) (by omega) (by omega)) ?_
    refine st (x_ldi sc3 rfl (hp.ext L) (by omega) (by omega)) ?_
    refine srb (zcall cl114 rfl) (s_l1In _ _ _ _) (fun h14 w2 l3 => ?_) (fun h14 w2 l3 => ?_)
    · have z_l3 := l3.size
      have L := L.tr l3.up
      refine s0 (x_not rfl) ?_
      refine c_end ?_
      refine n_then ?_
      refine c_false rfl ?_
      refine c_skipn ?_
      refine n_block ?_
      refine n_then ?_
      refine c_reg ?_
      refine s0 (x_move (v := .int _ _) rfl) ?_
      refine s0 (x_add rfl rfl (by omega)) ?_
      refine s0 (x_assign (v := .int _ _) rfl) ?_
      refine c_end ?_
      exact c_round (g' := k + 1) (by omega) ⟨_, upd_self2 rfl (vint (by omega)), L, (by omega), (upto_succ' hall (by simpa using h14))⟩
    · have z_l3 := l3.size
      have L := L.tr l3.up
      refine s0 (x_not rfl) ?_
      refine c_end ?_
      refine n_then ?_
      refine c_true rfl ?_
      refine wp_seq ?_
      refine c_reg ?_
      refine s0 (x_assign (v := .bool _) rfl) ?_
      refine c_end ?_
      refine n_then ?_
      refine wp_ret (r_block (r_then (r_then (r_block (r_then ?_)))))
      refine f_ret rfl rfl ?_
      exact ⟨ret_f (fun h => h14 (by simpa using h k (by omega))), L⟩
  · refine c_end ?_
    refine n_then ?_
    refine c_false rfl ?_
    refine wp_exit (e_then (e_then (e_here ?_)))
    refine n_then ?_
    refine wp_seq ?_
    refine c_reg ?_
    refine s0 (x_assign (v := .bool _) rfl) ?_
    refine c_end ?_
    refine n_then ?_
    refine wp_ret ?_
    refine f_ret rfl rfl ?_
    exact ⟨ret_t (fun j hj => hall j (by omega)), L⟩

/-- impl.near -/
theorem i_near (a b d : Int) (w : World) (ha : -1099511627776 ≤ a ∧ a ≤ 1099511627776) (hb : -1099511627776 ≤ b ∧ b ≤ 1099511627776) :
    Calls Try.prog 188 [.int .i64 a, .int .i64 b, .int .i64 d].toArray w (Ret w (.bool (decide (max (a - b) (b - a) < d)))) := by
  have L : Exm [] w w := Exm.rfl'
  refine enter (n := 16) Try.func188 rfl rfl rfl ?_
  refine wp_seq ?_
  refine c_reg ?_
  refine s0 (x_assign (v := .bool _) rfl) ?_
  refine c_end ?_
  refine n_then ?_
  refine wp_seq ?_
  refine c_reg ?_
  refine s0 (x_move (v := .int _ _) rfl) ?_
  refine s0 (x_move (v := .int _ _) rfl) ?_
  refine s0 (x_sub rfl rfl (by omega)) ?_
  refine s0 (x_move (v := .int _ _) rfl) ?_
  refine s0 (x_move (v := .int _ _) rfl) ?_
  refine s0 (x_sub rfl rfl (by omega)) ?_
  refine s0 (x_max rfl rfl) ?_
  refine s0 (x_move (v := .int _ _) rfl) ?_
  refine s0 (x_lss rfl rfl) ?_
  refine s0 (x_assign (v := .bool _) rfl) ?_
  refine c_end ?_
  refine n_then ?_
  refine wp_ret ?_
  refine f_ret rfl rfl ?_
  exact ⟨rfl, L⟩

theorem edge_no {a b c d q : Int} (h : ¬ edgeC a b c d q) : Ending.returned (.tuple [.int .i64 b, .int .i64 c].toArray) = .returned (.tuple [.int .i64 (edgeL a b c d q), .int .i64 (edgeR a b c d q)].toArray) := by simp only [edgeL, edgeR, if_neg h]
theorem edge_yes {a b c d q x y : Int} (h : edgeC a b c d q) (hx : x = clip (b + edgeD a b c d q)) (hy : y = clip (c - edgeD a b c d q)) : Ending.returned (.tuple [.int .i64 x, .int .i64 y].toArray) = .returned (.tuple [.int .i64 (edgeL a b c d q), .int .i64 (edgeR a b c d q)].toArray) := by simp only [edgeL, edgeR, if_pos h, hx, hy]

/-- impl.EdgeOf -/
theorem i_edgeOf (a b c d q : Int) (w : World) :
    Calls Try.prog 179 [.int .i64 a, .int .i64 b, .int .i64 c, .int .i64 d, .int .i64 q].toArray w (Ret w (.tuple [.int .i64 (edgeL a b c d q), .int .i64 (edgeR a b c d q)].toArray)) := by
  have L : Exm [] w w := Exm.rfl'
  refine enter (n := 72) Try.func179 rfl rfl rfl ?_
  refine wp_seq ?_
  refine c_reg ?_
  refine s0 (x_assign (v := .int _ _) rfl) ?_
  refine s0 (x_assign (v := .int _ _) rfl) ?_
  refine c_end ?_
  refine n_then ?_
  refine wp_seq ?_
  refine wp_seq ?_
  refine c_reg ?_
  refine s0 (x_move (v := .int _ _) rfl) ?_
  refine s0 (x_move (v := .int _ _) rfl) ?_
  refine s0 (x_move (v := .int _ _) rfl) ?_
  refine s0 (x_move (v := .int _ _) rfl) ?_
  refine s_bsi (xs := [_, _, _, _]) so33 zr3 (pts_cons rfl (pts_cons rfl (pts_cons rfl (pts_cons rfl pts_nil)))) rfl rfl rfl ?_
  intro p18 F18 w1 l2 o18 f18 g18
  have z_l2 := l2.size
  have L := L.tr l2.up
  have hn18 := o18.n1
  refine srb (zcall cl178 rfl) (i_allWithin _ _ _ _ _ _ _ o18.sl (by omega)) (fun h19 w3 l4 => ?_) (fun h19 w3 l4 => ?_)
  · have z_l4 := l4.size
    have L := L.tr l4.up
    have o18 := o18.ext l4
    refine s0 (x_not rfl) ?_
    refine s0 (x_move (v := .bool _) rfl) ?_
    refine gt rfl rfl rfl rfl ?_
    refine s0 (x_move (v := .int _ _) rfl) ?_
    refine gt rfl rfl rfl rfl ?_
    refine s0 (x_move (v := .int _ _) rfl) ?_
    refine gt rfl rfl rfl rfl ?_
    refine s0 (x_move (v := .int _ _) rfl) ?_
    refine gt rfl rfl rfl rfl ?_
    refine sr (zcall cl189 rfl) (i_alphaOf _ _) ?_
    intro w5 l6
    have z_l6 := l6.size
    have L := L.tr l6.up
    have o18 := o18.ext l6
    refine gt rfl rfl rfl rfl ?_
    refine srb (zcall cl188 rfl) (i_near _ _ _ _ (by have h4 := four_in.1 h19; omega) (by have h4 := four_in.1 h19; omega)) (fun h26 w7 l8 => ?_) (fun h26 w7 l8 => ?_)
    · have z_l8 := l8.size
      have L := L.tr l8.up
      have o18 := o18.ext l8
      refine gt rfl rfl rfl rfl ?_
      refine s0 (x_not rfl) ?_
      refine s0 (x_pickf (v := .bool _) rfl rfl) ?_
      refine s0 (x_move (v := .bool _) rfl) ?_
      refine gt rfl rfl rfl rfl ?_
      refine s0 (x_move (v := .int _ _) rfl) ?_
      refine gt rfl rfl rfl rfl ?_
      refine s0 (x_move (v := .int _ _) rfl) ?_
      refine gt rfl rfl rfl rfl ?_
      refine s0 (x_move (v := .int _ _) rfl) ?_
      refine gt rfl rfl rfl rfl ?_
      refine sr (zcall cl190 rfl) (i_betaOf _ _) ?_
      intro w9 l10
      have z_l10 := l10.size
      have L := L.tr l10.up
      have o18 := o18.ext l10
      refine gt rfl rfl rfl rfl ?_
      refine srb (zcall cl188 rfl) (i_near _ _ _ _ (by have h4 := four_in.1 h19; omega) (by have h4 := four_in.1 h19; omega)) (fun h34 w11 l12 => ?_) (fun h34 w11 l12 => ?_)
      · have z_l12 := l12.size
        have L := L.tr l12.up
        have o18 := o18.ext l12
        refine gt rfl rfl rfl rfl ?_
        refine s0 (x_not rfl) ?_
        refine s0 (x_pickf (v := .bool _) rfl rfl) ?_
        refine s0 (x_move (v := .bool _) rfl) ?_
        refine gt rfl rfl rfl rfl ?_
        refine s0 (x_move (v := .int _ _) rfl) ?_
        refine gt rfl rfl rfl rfl ?_
        refine s0 (x_move (v := .int _ _) rfl) ?_
        refine gt rfl rfl rfl rfl ?_
        refine s0 (x_move (v := .int _ _) rfl) ?_
        refine gt rfl rfl rfl rfl ?_
        refine sr (zcall cl190 rfl) (i_betaOf _ _) ?_
        intro w13 l14
        have z_l14 := l14.size
        have L := L.tr l14.up
        have o18 := o18.ext l14
        refine gt rfl rfl rfl rfl ?_
        refine srb (zcall cl188 rfl) (i_near _ _ _ _ (by have h4 := four_in.1 h19; omega) (by have h4 := four_in.1 h19; omega)) (fun h42 w15 l16 => ?_) (fun h42 w15 l16 => ?_)
        · have z_l16 := l16.size
          have L := L.tr l16.up
          have o18 := o18.ext l16
          refine gt rfl rfl rfl rfl ?_
          refine s0 (x_not rfl) ?_
          refine s0 (x_pickf (v := .bool _) rfl rfl) ?_
          refine c_end ?_
          refine n_then ?_
          refine c_false rfl ?_
          refine c_skipn ?_
          refine n_then ?_
          refine wp_seq ?_
          have h4 := four_in.1 h19
          have hq := (alpha_pos q).1 (by omega)
          refine c_reg ?_
          refine s0 (x_move (v := .int _ _) rfl) ?_
          refine s0 (x_quo rfl rfl (by omega) (by omega)) ?_
          refine s0 (x_add rfl rfl (by omega)) ?_
          refine s0 (x_assign (v := .int _ _) rfl) ?_
          refine c_end ?_
          refine n_then ?_
          refine wp_seq ?_
          refine c_reg ?_
          refine s0 (x_move (v := .int _ _) rfl) ?_
          refine s0 (x_move (v := .int _ _) rfl) ?_
          refine s0 (x_sub rfl rfl (by omega)) ?_
          refine s0 (x_mul rfl rfl (by omega)) ?_
          refine s0 (x_move (v := .int _ _) rfl) ?_
          refine s0 (x_move (v := .int _ _) rfl) ?_
          refine s0 (x_sub rfl rfl (by omega)) ?_
          refine s0 (x_add rfl rfl (by omega)) ?_
          refine s0 (x_add rfl rfl (by omega)) ?_
          refine sr (zcall cl192 rfl) (i_floorDiv _ _ _ (by omega) (by omega)) ?_
          intro w17 l18
          have z_l18 := l18.size
          have L := L.tr l18.up
          have o18 := o18.ext l18
          refine s0 (x_move (v := .int _ _) rfl) ?_
          refine s0 (x_neg rfl (by omega)) ?_
          refine s0 (x_move (v := .int _ _) rfl) ?_
          refine sr (zcall cl191 rfl) (i_limited _ _ _ _) ?_
          intro w19 l20
          have z_l20 := l20.size
          have L := L.tr l20.up
          have o18 := o18.ext l20
          refine s0 (x_assign (v := .int _ _) rfl) ?_
          refine c_end ?_
          refine n_then ?_
          refine wp_seq ?_
          refine c_reg ?_
          refine s0 (x_move (v := .int _ _) rfl) ?_
          refine s0 (x_move (v := .int _ _) rfl) ?_
          refine s0 (x_add rfl rfl (by omega)) ?_
          refine sr (zcall cl191 rfl) (i_limited _ _ _ _) ?_
          intro w21 l22
          have z_l22 := l22.size
          have L := L.tr l22.up
          have o18 := o18.ext l22
          refine s0 (x_move (v := .int _ _) rfl) ?_
          refine s0 (x_move (v := .int _ _) rfl) ?_
          refine s0 (x_sub rfl rfl (by omega)) ?_
          refine sr (zcall cl191 rfl) (i_limited _ _ _ _) ?_
          intro w23 l24
          have z_l24 := l24.size
          have L := L.tr l24.up
          have o18 := o18.ext l24
          refine s0 (x_assign (v := .int _ _) rfl) ?_
          refine s0 (x_assign (v := .int _ _) rfl) ?_
          refine c_end ?_
          refine n_then ?_
          refine wp_ret ?_
          refine f_rets2 rfl (ro_tmp rfl) (ro_tmp rfl) ?_
          exact ⟨edge_yes ⟨h4, by omega, by omega, by omega⟩ (by unfold clip edgeD; rfl) (by unfold clip edgeD; rfl), L⟩
        · have z_l16 := l16.size
          have L := L.tr l16.up
          have o18 := o18.ext l16
          refine gt rfl rfl rfl rfl ?_
          refine s0 (x_not rfl) ?_
          refine s0 (x_pickf (v := .bool _) rfl rfl) ?_
          refine c_end ?_
          refine n_then ?_
          refine c_true rfl ?_
          refine wp_seq ?_
          refine c_reg ?_
          refine s0 (x_move (v := .int _ _) rfl) ?_
          refine s0 (x_move (v := .int _ _) rfl) ?_
          refine s0 (x_assign (v := .int _ _) rfl) ?_
          refine s0 (x_assign (v := .int _ _) rfl) ?_
          refine c_end ?_
          refine n_then ?_
          refine wp_ret (r_then ?_)
          refine f_rets2 rfl (ro_tmp rfl) (ro_tmp rfl) ?_
          exact ⟨edge_no (fun h => h42 (by have := h.2.2.2; omega)), L⟩
      · have z_l12 := l12.size
        have L := L.tr l12.up
        have o18 := o18.ext l12
        refine gt rfl rfl rfl rfl ?_
        refine s0 (x_not rfl) ?_
        refine s0 (x_pickf (v := .bool _) rfl rfl) ?_
        refine s0 (x_move (v := .bool _) rfl) ?_
        refine gf rfl rfl rfl rfl ?_
        refine gf rfl rfl rfl rfl ?_
        refine gf rfl rfl rfl rfl ?_
        refine gf rfl rfl rfl rfl ?_
        refine gf rfl rfl rfl rfl ?_
        refine gf rfl rfl rfl rfl ?_
        refine s0 (x_pickt (v := .bool _) rfl rfl) ?_
        refine c_end ?_
        refine n_then ?_
        refine c_true rfl ?_
        refine wp_seq ?_
        refine c_reg ?_
        refine s0 (x_move (v := .int _ _) rfl) ?_
        refine s0 (x_move (v := .int _ _) rfl) ?_
        refine s0 (x_assign (v := .int _ _) rfl) ?_
        refine s0 (x_assign (v := .int _ _) rfl) ?_
        refine c_end ?_
        refine n_then ?_
        refine wp_ret (r_then ?_)
        refine f_rets2 rfl (ro_tmp rfl) (ro_tmp rfl) ?_
        exact ⟨edge_no (fun h => h34 (by have := h.2.2.1; omega)), L⟩
    · have z_l8 := l8.size
      have L := L.tr l8.up
      have o18 := o18.ext l8
      refine gt rfl rfl rfl rfl ?_
      refine s0 (x_not rfl) ?_
      refine s0 (x_pickf (v := .bool _) rfl rfl) ?_
      refine s0 (x_move (v := .bool _) rfl) ?_
      refine gf rfl rfl rfl rfl ?_
      refine gf rfl rfl rfl rfl ?_
      refine gf rfl rfl rfl rfl ?_
      refine gf rfl rfl rfl rfl ?_
      refine gf rfl rfl rfl rfl ?_
      refine gf rfl rfl rfl rfl ?_
      refine s0 (x_pickt (v := .bool _) rfl rfl) ?_
      refine s0 (x_move (v := .bool _) rfl) ?_
      refine gf rfl rfl rfl rfl ?_
      refine gf rfl rfl rfl rfl ?_
      refine gf rfl rfl rfl rfl ?_
      refine gf rfl rfl rfl rfl ?_
      refine gf rfl rfl rfl rfl ?_
      refine gf rfl rfl rfl rfl ?_
      refine s0 (x_pickt (v := .bool _) rfl rfl) ?_
      refine c_end ?_
      refine n_then ?_
      refine c_true rfl ?_
      refine wp_seq ?_
      refine c_reg ?_
      refine s0 (x_move (v := .int _ _) rfl) ?_
      refine s0 (x_move (v := .int _ _) rfl) ?_
      refine s0 (x_assign (v := .int _ _) rfl) ?_
      refine s0 (x_assign (v := .int _ _) rfl) ?_
      refine c_end ?_
      refine n_then ?_
      refine wp_ret (r_then ?_)
      refine f_rets2 rfl (ro_tmp rfl) (ro_tmp rfl) ?_
      exact ⟨edge_no (fun h => h26 (by have := h.2.1; omega)), L⟩
  · have z_l4 := l4.size
    have L := L.tr l4.up
    have o18 := o18.ext l4
    refine s0 (x_not rfl) ?_
    refine s0 (x_move (v := .bool _) rfl) ?_
    refine gf rfl rfl rfl rfl ?_
    refine gf rfl rfl rfl rfl ?_
    refine gf rfl rfl rfl rfl ?_
    refine gf rfl rfl rfl rfl ?_
    refine gf rfl rfl rfl rfl ?_
    refine gf rfl rfl rfl rfl ?_
    refine s0 (x_pickt (v := .bool _) rfl rfl) ?_
    refine s0 (x_move (v := .bool _) rfl) ?_
    refine gf rfl rfl rfl rfl ?_
    refine gf rfl rfl rfl rfl ?_
    refine gf rfl rfl rfl rfl ?_
    refine gf rfl rfl rfl rfl ?_
    refine gf rfl rfl rfl rfl ?_
    refine gf rfl rfl rfl rfl ?_
    refine s0 (x_pickt (v := .bool _) rfl rfl) ?_
    refine s0 (x_move (v := .bool _) rfl) ?_
    refine gf rfl rfl rfl rfl ?_
    refine gf rfl rfl rfl rfl ?_
    refine gf rfl rfl rfl rfl ?_
    refine gf rfl rfl rfl rfl ?_
    refine gf rfl rfl rfl rfl ?_
    refine gf rfl rfl rfl rfl ?_
    refine s0 (x_pickt (v := .bool _) rfl rfl) ?_
    refine c_end ?_
    refine n_then ?_
    refine c_true rfl ?_
    refine wp_seq ?_
    refine c_reg ?_
    refine s0 (x_move (v := .int _ _) rfl) ?_
    refine s0 (x_move (v := .int _ _) rfl) ?_
    refine s0 (x_assign (v := .int _ _) rfl) ?_
    refine s0 (x_assign (v := .int _ _) rfl) ?_
    refine c_end ?_
    refine n_then ?_
    refine wp_ret (r_then ?_)
    refine f_rets2 rfl (ro_tmp rfl) (ro_tmp rfl) ?_
    exact ⟨edge_no (fun h => h19 (four_in.2 h.1)), L⟩

/-- spec.EdgeOf -/
theorem s_edgeOf (a b c d q : Int) (w : World) :
    Calls Try.prog 168 [.int .i64 a, .int .i64 b, .int .i64 c, .int .i64 d, .int .i64 q].toArray w (Ret w (.tuple [.int .i64 (edgeL a b c d q), .int .i64 (edgeR a b c d q)].toArray)) := by
  have L : Exm [] w w := Exm.rfl'
  refine enter (n := 76) Try.func168 rfl rfl rfl ?_
  refine wp_seq ?_
  refine c_reg ?_
  refine s0 (x_assign (v := .int _ _) rfl) ?_
  refine s0 (x_assign (v := .int _ _) rfl) ?_
  refine c_end ?_
  refine n_then ?_
  refine wp_seq ?_
  refine wp_seq ?_
  refine c_reg ?_
  refine s0 (x_move (v := .int _ _) rfl) ?_
  refine s0 (x_move (v := .int _ _) rfl) ?_
  refine s0 (x_move (v := .int _ _) rfl) ?_
  refine s0 (x_move (v := .int _ _) rfl) ?_
  refine s_bsi (xs := [_, _, _, _]) so33 zr3 (pts_cons rfl (pts_cons rfl (pts_cons rfl (pts_cons rfl pts_nil)))) rfl rfl rfl ?_
  intro p18 F18 w1 l2 o18 f18 g18
  have z_l2 := l2.size
  have L := L.tr l2.up
  have hn18 := o18.n1
  refine srb (zcall cl129 rfl) (s_pix _ _ _ _ _ o18.sl (by omega)) (fun h19 w3 l4 => ?_) (fun h19 w3 l4 => ?_)
  · have z_l4 := l4.size
    have L := L.tr l4.up
    have o18 := o18.ext l4
    refine s0 (x_not rfl) ?_
    refine s0 (x_move (v := .bool _) rfl) ?_
    refine gt rfl rfl rfl rfl ?_
    refine s0 (x_move (v := .int _ _) rfl) ?_
    refine gt rfl rfl rfl rfl ?_
    refine s0 (x_move (v := .int _ _) rfl) ?_
    refine gt rfl rfl rfl rfl ?_
    refine s0 (x_sub rfl rfl (by have h4 := four_in.1 h19; omega)) ?_
    refine gt rfl rfl rfl rfl ?_
    refine sr (zcall cl180 rfl) (s_abs _ _ (by have h4 := four_in.1 h19; omega)) ?_
    intro w5 l6
    have z_l6 := l6.size
    have L := L.tr l6.up
    have o18 := o18.ext l6
    refine gt rfl rfl rfl rfl ?_
    refine s0 (x_move (v := .int _ _) rfl) ?_
    refine gt rfl rfl rfl rfl ?_
    refine sr (zcall cl130 rfl) (s_alphaOf _ _) ?_
    intro w7 l8
    have z_l8 := l8.size
    have L := L.tr l8.up
    have o18 := o18.ext l8
    refine gt rfl rfl rfl rfl ?_
    refine sb (x_geq rfl rfl) (fun h28 => ?_) (fun h28 => ?_)
    · refine s0 (x_pickf (v := .bool _) rfl rfl) ?_
      refine s0 (x_move (v := .bool _) rfl) ?_
      refine gf rfl rfl rfl rfl ?_
      refine gf rfl rfl rfl rfl ?_
      refine gf rfl rfl rfl rfl ?_
      refine gf rfl rfl rfl rfl ?_
      refine gf rfl rfl rfl rfl ?_
      refine gf rfl rfl rfl rfl ?_
      refine gf rfl rfl rfl rfl ?_
      refine s0 (x_pickt (v := .bool _) rfl rfl) ?_
      refine s0 (x_move (v := .bool _) rfl) ?_
      refine gf rfl rfl rfl rfl ?_
      refine gf rfl rfl rfl rfl ?_
      refine gf rfl rfl rfl rfl ?_
      refine gf rfl rfl rfl rfl ?_
      refine gf rfl rfl rfl rfl ?_
      refine gf rfl rfl rfl rfl ?_
      refine gf rfl rfl rfl rfl ?_
      refine s0 (x_pickt (v := .bool _) rfl rfl) ?_
      refine c_end ?_
      refine n_then ?_
      refine c_true rfl ?_
      refine wp_seq ?_
      refine c_reg ?_
      refine s0 (x_move (v := .int _ _) rfl) ?_
      refine s0 (x_move (v := .int _ _) rfl) ?_
      refine s0 (x_assign (v := .int _ _) rfl) ?_
      refine s0 (x_assign (v := .int _ _) rfl) ?_
      refine c_end ?_
      refine n_then ?_
      refine wp_ret (r_then ?_)
      refine f_rets2 rfl (ro_tmp rfl) (ro_tmp rfl) ?_
      exact ⟨edge_no (fun h => by have := h.2.1; omega), L⟩
    · refine s0 (x_pickf (v := .bool _) rfl rfl) ?_
      refine s0 (x_move (v := .bool _) rfl) ?_
      refine gt rfl rfl rfl rfl ?_
      refine s0 (x_move (v := .int _ _) rfl) ?_
      refine gt rfl rfl rfl rfl ?_
      refine s0 (x_move (v := .int _ _) rfl) ?_
      refine gt rfl rfl rfl rfl ?_
      refine s0 (x_sub rfl rfl (by have h4 := four_in.1 h19; omega)) ?_
      refine gt rfl rfl rfl rfl ?_
      refine sr (zcall cl180 rfl) (s_abs _ _ (by have h4 := four_in.1 h19; omega)) ?_
      intro w9 l10
      have z_l10 := l10.size
      have L := L.tr l10.up
      have o18 := o18.ext l10
      refine gt rfl rfl rfl rfl ?_
      refine s0 (x_move (v := .int _ _) rfl) ?_
      refine gt rfl rfl rfl rfl ?_
      refine sr (zcall cl181 rfl) (s_betaOf _ _) ?_
      intro w11 l12
      have z_l12 := l12.size
      have L := L.tr l12.up
      have o18 := o18.ext l12
      refine gt rfl rfl rfl rfl ?_
      refine sb (x_geq rfl rfl) (fun h37 => ?_) (fun h37 => ?_)
      · refine s0 (x_pickf (v := .bool _) rfl rfl) ?_
        refine s0 (x_move (v := .bool _) rfl) ?_
        refine gf rfl rfl rfl rfl ?_
        refine gf rfl rfl rfl rfl ?_
        refine gf rfl rfl rfl rfl ?_
        refine gf rfl rfl rfl rfl ?_
        refine gf rfl rfl rfl rfl ?_
        refine gf rfl rfl rfl rfl ?_
        refine gf rfl rfl rfl rfl ?_
        refine s0 (x_pickt (v := .bool _) rfl rfl) ?_
        refine c_end ?_
        refine n_then ?_
        refine c_true rfl ?_
        refine wp_seq ?_
        refine c_reg ?_
        refine s0 (x_move (v := .int _ _) rfl) ?_
        refine s0 (x_move (v := .int _ _) rfl) ?_
        refine s0 (x_assign (v := .int _ _) rfl) ?_
        refine s0 (x_assign (v := .int _ _) rfl) ?_
        refine c_end ?_
        refine n_then ?_
        refine wp_ret (r_then ?_)
        refine f_rets2 rfl (ro_tmp rfl) (ro_tmp rfl) ?_
        exact ⟨edge_no (fun h => by have := h.2.2.1; omega), L⟩
      · refine s0 (x_pickf (v := .bool _) rfl rfl) ?_
        refine s0 (x_move (v := .bool _) rfl) ?_
        refine gt rfl rfl rfl rfl ?_
        refine s0 (x_move (v := .int _ _) rfl) ?_
        refine gt rfl rfl rfl rfl ?_
        refine s0 (x_move (v := .int _ _) rfl) ?_
        refine gt rfl rfl rfl rfl ?_
        refine s0 (x_sub rfl rfl (by have h4 := four_in.1 h19; omega)) ?_
        refine gt rfl rfl rfl rfl ?_
        refine sr (zcall cl180 rfl) (s_abs _ _ (by have h4 := four_in.1 h19; omega)) ?_
        intro w13 l14
        have z_l14 := l14.size
        have L := L.tr l14.up
        have o18 := o18.ext l14
        refine gt rfl rfl rfl rfl ?_
        refine s0 (x_move (v := .int _ _) rfl) ?_
        refine gt rfl rfl rfl rfl ?_
        refine sr (zcall cl181 rfl) (s_betaOf _ _) ?_
        intro w15 l16
        have z_l16 := l16.size
        have L := L.tr l16.up
        have o18 := o18.ext l16
        refine gt rfl rfl rfl rfl ?_
        refine sb (x_geq rfl rfl) (fun h46 => ?_) (fun h46 => ?_)
        · refine s0 (x_pickf (v := .bool _) rfl rfl) ?_
          refine c_end ?_
          refine n_then ?_
          refine c_true rfl ?_
          refine wp_seq ?_
          refine c_reg ?_
          refine s0 (x_move (v := .int _ _) rfl) ?_
          refine s0 (x_move (v := .int _ _) rfl) ?_
          refine s0 (x_assign (v := .int _ _) rfl) ?_
          refine s0 (x_assign (v := .int _ _) rfl) ?_
          refine c_end ?_
          refine n_then ?_
          refine wp_ret (r_then ?_)
          refine f_rets2 rfl (ro_tmp rfl) (ro_tmp rfl) ?_
          exact ⟨edge_no (fun h => by have := h.2.2.2; omega), L⟩
        · refine s0 (x_pickf (v := .bool _) rfl rfl) ?_
          refine c_end ?_
          refine n_then ?_
          refine c_false rfl ?_
          refine c_skipn ?_
          refine n_then ?_
          refine wp_seq ?_
          have h4 := four_in.1 h19
          have hq := (alpha_pos q).1 (by omega)
          refine c_reg ?_
          refine s0 (x_move (v := .int _ _) rfl) ?_
          refine s0 (x_quo rfl rfl (by omega) (by omega)) ?_
          refine s0 (x_add rfl rfl (by omega)) ?_
          refine s0 (x_assign (v := .int _ _) rfl) ?_
          refine c_end ?_
          refine n_then ?_
          refine wp_seq ?_
          refine c_reg ?_
          refine s0 (x_move (v := .int _ _) rfl) ?_
          refine s0 (x_neg rfl (by omega)) ?_
          refine s0 (x_move (v := .int _ _) rfl) ?_
          refine s0 (x_move (v := .int _ _) rfl) ?_
          refine s0 (x_move (v := .int _ _) rfl) ?_
          refine s0 (x_sub rfl rfl (by omega)) ?_
          refine s0 (x_mul rfl rfl (by omega)) ?_
          refine s0 (x_move (v := .int _ _) rfl) ?_
          refine s0 (x_add rfl rfl (by omega)) ?_
          refine s0 (x_move (v := .int _ _) rfl) ?_
          refine s0 (x_sub rfl rfl (by omega)) ?_
          refine s0 (x_add rfl rfl (by omega)) ?_
          refine sr (zcall cl182 rfl) (s_floor _ _ _ (by omega) (by omega)) ?_
          intro w17 l18
          have z_l18 := l18.size
          have L := L.tr l18.up
          have o18 := o18.ext l18
          refine s0 (x_min rfl rfl) ?_
          refine s0 (x_max rfl rfl) ?_
          refine s0 (x_assign (v := .int _ _) rfl) ?_
          refine c_end ?_
          refine n_then ?_
          refine wp_seq ?_
          refine c_reg ?_
          refine s0 (x_move (v := .int _ _) rfl) ?_
          refine s0 (x_move (v := .int _ _) rfl) ?_
          refine s0 (x_add rfl rfl (by omega)) ?_
          refine sr (zcall cl183 rfl) (s_clip _ _) ?_
          intro w19 l20
          have z_l20 := l20.size
          have L := L.tr l20.up
          have o18 := o18.ext l20
          refine s0 (x_move (v := .int _ _) rfl) ?_
          refine s0 (x_move (v := .int _ _) rfl) ?_
          refine s0 (x_sub rfl rfl (by omega)) ?_
          refine sr (zcall cl183 rfl) (s_clip _ _) ?_
          intro w21 l22
          have z_l22 := l22.size
          have L := L.tr l22.up
          have o18 := o18.ext l22
          refine s0 (x_assign (v := .int _ _) rfl) ?_
          refine s0 (x_assign (v := .int _ _) rfl) ?_
          refine c_end ?_
          refine n_then ?_
          refine wp_ret ?_
          refine f_rets2 rfl (ro_tmp rfl) (ro_tmp rfl) ?_
          exact ⟨edge_yes ⟨h4, by omega, by omega, by omega⟩ (by unfold edgeD; congr 1; omega) (by unfold edgeD; congr 1; omega), L⟩
  · have z_l4 := l4.size
    have L := L.tr l4.up
    have o18 := o18.ext l4
    refine s0 (x_not rfl) ?_
    refine s0 (x_move (v := .bool _) rfl) ?_
    refine gf rfl rfl rfl rfl ?_
    refine gf rfl rfl rfl rfl ?_
    refine gf rfl rfl rfl rfl ?_
    refine gf rfl rfl rfl rfl ?_
    refine gf rfl rfl rfl rfl ?_
    refine gf rfl rfl rfl rfl ?_
    refine gf rfl rfl rfl rfl ?_
    refine s0 (x_pickt (v := .bool _) rfl rfl) ?_
    refine s0 (x_move (v := .bool _) rfl) ?_
    refine gf rfl rfl rfl rfl ?_
    refine gf rfl rfl rfl rfl ?_
    refine gf rfl rfl rfl rfl ?_
    refine gf rfl rfl rfl rfl ?_
    refine gf rfl rfl rfl rfl ?_
    refine gf rfl rfl rfl rfl ?_
    refine gf rfl rfl rfl rfl ?_
    refine s0 (x_pickt (v := .bool _) rfl rfl) ?_
    refine s0 (x_move (v := .bool _) rfl) ?_
    refine gf rfl rfl rfl rfl ?_
    refine gf rfl rfl rfl rfl ?_
    refine gf rfl rfl rfl rfl ?_
    refine gf rfl rfl rfl rfl ?_
    refine gf rfl rfl rfl rfl ?_
    refine gf rfl rfl rfl rfl ?_
    refine gf rfl rfl rfl rfl ?_
    refine s0 (x_pickt (v := .bool _) rfl rfl) ?_
    refine c_end ?_
    refine n_then ?_
    refine c_true rfl ?_
    refine wp_seq ?_
    refine c_reg ?_
    refine s0 (x_move (v := .int _ _) rfl) ?_
    refine s0 (x_move (v := .int _ _) rfl) ?_
    refine s0 (x_assign (v := .int _ _) rfl) ?_
    refine s0 (x_assign (v := .int _ _) rfl) ?_
    refine c_end ?_
    refine n_then ?_
    refine wp_ret (r_then ?_)
    refine f_rets2 rfl (ro_tmp rfl) (ro_tmp rfl) ?_
    exact ⟨edge_no (fun h => h19 (four_in.2 h.1)), L⟩

/-- impl.FrameOk -/
theorem i_frameOk (W H : Int) (p : Option Addr) (n c : Nat) (xs : List Int) (w : World) (hp : Sl w p n c 1 (ic xs)) (hl : n ≤ 1099511627776) :
    Calls Try.prog 166 [.agg [.int .i64 W, .int .i64 H, .slice p n c].toArray].toArray w (Ret w (.bool (decide (frOk W H xs)))) := by
  have hn := hp.n
  have L : Exm [] w w := Exm.rfl'
  refine enter (n := 24) Try.func166 rfl rfl rfl ?_
  refine wp_seq ?_
  refine c_reg ?_
  refine s_box rfl rfl ?_
  intro b1 w2 lob1 hib1 l3 B1
  have z_l3 := l3.size
  have L := L.tr l3.up
  refine s0 (x_assign (v := .bool _) rfl) ?_
  refine c_end ?_
  refine n_then ?_
  refine wp_seq ?_
  refine c_reg ?_
  refine s0 (x_fieldAddr fa85_0 rfl) ?_
  refine st (x_loadB sc3 rfl B1 rfl) ?_
  refine s0 (x_fieldAddr fa85_1 rfl) ?_
  refine st (x_loadB sc3 rfl B1 rfl) ?_
  refine srb (zcall cl177 rfl) (i_sidesOk _ _ _) (fun h7 w4 l5 => ?_) (fun h7 w4 l5 => ?_)
  · have z_l5 := l5.size
    have L := L.tr l5.up
    have B1 := B1.ext l5
    refine s0 (x_move (v := .bool _) rfl) ?_
    refine gt rfl rfl rfl rfl ?_
    refine s0 (x_fieldAddr fa85_2 rfl) ?_
    refine gt rfl rfl rfl rfl ?_
    refine st (x_loadB sc33 rfl B1 rfl) ?_
    refine gt rfl rfl rfl rfl ?_
    refine s0 (x_lensl un33 rfl) ?_
    refine gt rfl rfl rfl rfl ?_
    refine s0 (x_fieldAddr fa85_0 rfl) ?_
    refine gt rfl rfl rfl rfl ?_
    refine st (x_loadB sc3 rfl B1 rfl) ?_
    refine gt rfl rfl rfl rfl ?_
    refine s0 (x_fieldAddr fa85_1 rfl) ?_
    refine gt rfl rfl rfl rfl ?_
    refine st (x_loadB sc3 rfl B1 rfl) ?_
    refine gt rfl rfl rfl rfl ?_
    refine s0 (x_mul rfl rfl (by have hm := sides_mul h7; omega)) ?_
    refine gt rfl rfl rfl rfl ?_
    refine sb (x_eql rfl rfl) (fun h17 => ?_) (fun h17 => ?_)
    · refine s0 (x_pickt (v := .bool _) rfl rfl) ?_
      refine s0 (x_move (v := .bool _) rfl) ?_
      refine gt rfl rfl rfl rfl ?_
      refine s0 (x_fieldAddr fa85_2 rfl) ?_
      refine gt rfl rfl rfl rfl ?_
      refine st (x_loadB sc33 rfl B1 rfl) ?_
      refine gt rfl rfl rfl rfl ?_
      refine sr (zcall cl178 rfl) (i_allWithin _ _ _ _ _ _ _ (hp.ext L) (by omega)) ?_
      intro w6 l7
      have z_l7 := l7.size
      have L := L.tr l7.up
      have B1 := B1.ext l7
      refine s0 (x_pickt (v := .bool _) rfl rfl) ?_
      refine s0 (x_assign (v := .bool _) rfl) ?_
      refine c_end ?_
      refine n_then ?_
      refine wp_ret ?_
      refine f_ret rfl rfl ?_
      exact ⟨ret_dec2 ⟨fun h => ⟨h7, by omega, h⟩, fun h => h.2.2⟩, L⟩
    · refine s0 (x_pickt (v := .bool _) rfl rfl) ?_
      refine s0 (x_move (v := .bool _) rfl) ?_
      refine gf rfl rfl rfl rfl ?_
      refine gf rfl rfl rfl rfl ?_
      refine gf rfl rfl rfl rfl ?_
      refine s0 (x_pickf (v := .bool _) rfl rfl) ?_
      refine s0 (x_assign (v := .bool _) rfl) ?_
      refine c_end ?_
      refine n_then ?_
      refine wp_ret ?_
      refine f_ret rfl rfl ?_
      exact ⟨ret_f (fun h => h17 (by have := h.2.1; omega)), L⟩
  · have z_l5 := l5.size
    have L := L.tr l5.up
    have B1 := B1.ext l5
    refine s0 (x_move (v := .bool _) rfl) ?_
    refine gf rfl rfl rfl rfl ?_
    refine gf rfl rfl rfl rfl ?_
    refine gf rfl rfl rfl rfl ?_
    refine gf rfl rfl rfl rfl ?_
    refine gf rfl rfl rfl rfl ?_
    refine gf rfl rfl rfl rfl ?_
    refine gf rfl rfl rfl rfl ?_
    refine gf rfl rfl rfl rfl ?_
    refine gf rfl rfl rfl rfl ?_
    refine s0 (x_pickf (v := .bool _) rfl rfl) ?_
    refine s0 (x_move (v := .bool _) rfl) ?_
    refine gf rfl rfl rfl rfl ?_
    refine gf rfl rfl rfl rfl ?_
    refine gf rfl rfl rfl rfl ?_
    refine s0 (x_pickf (v := .bool _) rfl rfl) ?_
    refine s0 (x_assign (v := .bool _) rfl) ?_
    refine c_end ?_
    refine n_then ?_
    refine wp_ret ?_
    refine f_ret rfl rfl ?_
    exact ⟨ret_f (fun h => h7 h.1), L⟩

/-- spec.FrameOk -/
theorem s_frameOk (W H : Int) (p : Option Addr) (n c : Nat) (xs : List Int) (w : World) (hp : Sl w p n c 1 (ic xs)) (hl : n ≤ 1099511627776) :
    Calls Try.prog 73 [.agg [.int .i64 W, .int .i64 H, .slice p n c].toArray].toArray w (Ret w (.bool (decide (frOk W H xs)))) := by
  have hn := hp.n
  have L : Exm [] w w := Exm.rfl'
  refine enter (n := 24) Try.func73 rfl rfl rfl ?_
  refine wp_seq ?_
  refine c_reg ?_
  refine s_box rfl rfl ?_
  intro b1 w2 lob1 hib1 l3 B1
  have z_l3 := l3.size
  have L := L.tr l3.up
  refine s0 (x_assign (v := .bool _) rfl) ?_
  refine c_end ?_
  refine n_then ?_
  refine wp_seq ?_
  refine c_reg ?_
  refine s0 (x_fieldAddr fa85_0 rfl) ?_
  refine st (x_loadB sc3 rfl B1 rfl) ?_
  refine s0 (x_fieldAddr fa85_1 rfl) ?_
  refine st (x_loadB sc3 rfl B1 rfl) ?_
  refine srb (zcall cl128 rfl) (s_sidesOk _ _ _) (fun h7 w4 l5 => ?_) (fun h7 w4 l5 => ?_)
  · have z_l5 := l5.size
    have L := L.tr l5.up
    have B1 := B1.ext l5
    refine s0 (x_move (v := .bool _) rfl) ?_
    refine gt rfl rfl rfl rfl ?_
    refine s0 (x_fieldAddr fa85_2 rfl) ?_
    refine gt rfl rfl rfl rfl ?_
    refine st (x_loadB sc33 rfl B1 rfl) ?_
    refine gt rfl rfl rfl rfl ?_
    refine s0 (x_lensl un33 rfl) ?_
    refine gt rfl rfl rfl rfl ?_
    refine s0 (x_fieldAddr fa85_0 rfl) ?_
    refine gt rfl rfl rfl rfl ?_
    refine st (x_loadB sc3 rfl B1 rfl) ?_
    refine gt rfl rfl rfl rfl ?_
    refine s0 (x_fieldAddr fa85_1 rfl) ?_
    refine gt rfl rfl rfl rfl ?_
    refine st (x_loadB sc3 rfl B1 rfl) ?_
    refine gt rfl rfl rfl rfl ?_
    refine s0 (x_mul rfl rfl (by have hm := sides_mul h7; omega)) ?_
    refine gt rfl rfl rfl rfl ?_
    refine sb (x_eql rfl rfl) (fun h17 => ?_) (fun h17 => ?_)
    · refine s0 (x_pickt (v := .bool _) rfl rfl) ?_
      refine s0 (x_move (v := .bool _) rfl) ?_
      refine gt rfl rfl rfl rfl ?_
      refine s0 (x_fieldAddr fa85_2 rfl) ?_
      refine gt rfl rfl rfl rfl ?_
      refine st (x_loadB sc33 rfl B1 rfl) ?_
      refine gt rfl rfl rfl rfl ?_
      refine sr (zcall cl129 rfl) (s_pix _ _ _ _ _ (hp.ext L) (by omega)) ?_
      intro w6 l7
      have z_l7 := l7.size
      have L := L.tr l7.up
      have B1 := B1.ext l7
      refine s0 (x_pickt (v := .bool _) rfl rfl) ?_
      refine s0 (x_assign (v := .bool _) rfl) ?_
      refine c_end ?_
      refine n_then ?_
      refine wp_ret ?_
      refine f_ret rfl rfl ?_
      exact ⟨ret_dec2 ⟨fun h => ⟨h7, by omega, h⟩, fun h => h.2.2⟩, L⟩
    · refine s0 (x_pickt (v := .bool _) rfl rfl) ?_
      refine s0 (x_move (v := .bool _) rfl) ?_
      refine gf rfl rfl rfl rfl ?_
      refine gf rfl rfl rfl rfl ?_
      refine gf rfl rfl rfl rfl ?_
      refine s0 (x_pickf (v := .bool _) rfl rfl) ?_
      refine s0 (x_assign (v := .bool _) rfl) ?_
      refine c_end ?_
      refine n_then ?_
      refine wp_ret ?_
      refine f_ret rfl rfl ?_
      exact ⟨ret_f (fun h => h17 (by have := h.2.1; omega)), L⟩
  · have z_l5 := l5.size
    have L := L.tr l5.up
    have B1 := B1.ext l5
    refine s0 (x_move (v := .bool _) rfl) ?_
    refine gf rfl rfl rfl rfl ?_
    refine gf rfl rfl rfl rfl ?_
    refine gf rfl rfl rfl rfl ?_
    refine gf rfl rfl rfl rfl ?_
    refine gf rfl rfl rfl rfl ?_
    refine gf rfl rfl rfl rfl ?_
    refine gf rfl rfl rfl rfl ?_
    refine gf rfl rfl rfl rfl ?_
    refine gf rfl rfl rfl rfl ?_
    refine s0 (x_pickf (v := .bool _) rfl rfl) ?_
    refine s0 (x_move (v := .bool _) rfl) ?_
    refine gf rfl rfl rfl rfl ?_
    refine gf rfl rfl rfl rfl ?_
    refine gf rfl rfl rfl rfl ?_
    refine s0 (x_pickf (v := .bool _) rfl rfl) ?_
    refine s0 (x_assign (v := .bool _) rfl) ?_
    refine c_end ?_
    refine n_then ?_
    refine wp_ret ?_
    refine f_ret rfl rfl ?_
    exact ⟨ret_f (fun h => h7 h.1), L⟩

/-- impl.isFiltered -/
theorem i_filtered (W H q : Int) (p : Option Addr) (n c : Nat) (xs : List Int) (w : World) (hp : Sl w p n c 1 (ic xs)) (hl : n ≤ 1099511627776) :
    Calls Try.prog 121 [.agg [.int .i64 W, .int .i64 H, .slice p n c].toArray, .int .i64 q].toArray w (Ret w (.bool (decide (fqOk W H q xs)))) := by
  have L : Exm [] w w := Exm.rfl'
  refine enter (n := 11) Try.func121 rfl rfl rfl ?_
  refine wp_seq ?_
  refine c_reg ?_
  refine s_box rfl rfl ?_
  intro b1 w2 lob1 hib1 l3 B1
  have z_l3 := l3.size
  have L := L.tr l3.up
  refine s0 (x_assign (v := .bool _) rfl) ?_
  refine c_end ?_
  refine n_then ?_
  refine wp_seq ?_
  refine c_reg ?_
  refine st (x_loadAgB ag85 rfl B1 rfl) ?_
  refine srb (zcall cl166 rfl) (i_frameOk _ _ _ _ _ _ _ (hp.ext L) (by omega)) (fun h6 w4 l5 => ?_) (fun h6 w4 l5 => ?_)
  · have z_l5 := l5.size
    have L := L.tr l5.up
    have B1 := B1.ext l5
    refine s0 (x_move (v := .bool _) rfl) ?_
    refine gt rfl rfl rfl rfl ?_
    refine s0 (x_move (v := .int _ _) rfl) ?_
    refine gt rfl rfl rfl rfl ?_
    refine sr (zcall cl95 rfl) (i_within _ _ _ _) ?_
    intro w6 l7
    have z_l7 := l7.size
    have L := L.tr l7.up
    have B1 := B1.ext l7
    refine s0 (x_pickt (v := .bool _) rfl rfl) ?_
    refine s0 (x_assign (v := .bool _) rfl) ?_
    refine c_end ?_
    refine n_then ?_
    refine wp_ret ?_
    refine f_ret rfl rfl ?_
    exact ⟨ret_dec2 ⟨fun h => ⟨h6, h⟩, fun h => h.2⟩, L⟩
  · have z_l5 := l5.size
    have L := L.tr l5.up
    have B1 := B1.ext l5
    refine s0 (x_move (v := .bool _) rfl) ?_
    refine gf rfl rfl rfl rfl ?_
    refine gf rfl rfl rfl rfl ?_
    refine s0 (x_pickf (v := .bool _) rfl rfl) ?_
    refine s0 (x_assign (v := .bool _) rfl) ?_
    refine c_end ?_
    refine n_then ?_
    refine wp_ret ?_
    refine f_ret rfl rfl ?_
    exact ⟨ret_f (fun h => h6 h.1), L⟩

/-- (impl.Frame).own -/
theorem i_own (W H : Int) (p : Option Addr) (n c : Nat) (xs : List Int) (w : World) (hp : Sl w p n c 1 (ic xs)) (hl : n ≤ 1099511627776) :
    Calls Try.prog 120 [.agg [.int .i64 W, .int .i64 H, .slice p n c].toArray].toArray w (RetP w fun v w' => ∃ p' c' F', v = .agg [.int .i64 W, .int .i64 H, .slice p' n c'].toArray ∧ Own w' p' n c' 3 1 (ic xs) F' ∧ Fr w.heap.size F') := by
  obtain rfl : n = xs.length := hp.n
  have L : Exm [] w w := Exm.rfl'
  refine enter (n := 11) Try.func120 rfl rfl rfl ?_
  refine wp_seq ?_
  refine c_reg ?_
  refine s_box rfl rfl ?_
  intro b1 w2 lob1 hib1 l3 B1
  have z_l3 := l3.size
  have L := L.tr l3.up
  refine s_alloc zr85 ?_
  intro b4 w5 lob4 hib4 l6 B4
  have z_l6 := l6.size
  have L := L.tr l6.up
  have B1 := B1.ext l6
  refine c_end ?_
  refine n_then ?_
  refine wp_seq ?_
  refine c_plan (fun wq => Exm [b4] w5 wq) 9 (.cons (0, 2) (.cons (1, 1) (.cons (2, 2) (.cons (3, 1) (.cons (4, 2) (.cons (5, 1) (.cons (6, 0) (.cons (7, 2) (.cons (8, 0) .nil))))))))) (by kernel_rfl) (by kernel_rfl) (Exm.drew _) ?_
  obtain ⟨w7, hwd⟩ : ∃ x, x = w5.drew := ⟨_, rfl⟩
  have l8 : Ext w5 w7 := by rw [hwd]; exact Exm.drew _
  rw [← hwd]; clear hwd
  have Lq : Exm [b4] w5 w7 := l8.up
  have qB1 := B1
  have qB4 := B4
  have qL := L
  have z_l8 := l8.size
  have L := L.tr l8.up
  have B1 := B1.ext l8
  have B4 := B4.ext l8
  refine p0 rfl (x_fieldAddr fa85_0 rfl) ?_
  refine ps rfl (fun wq hwq => x_loadB sc3 rfl (qB1.ne hwq (by omega)) rfl) ?_
  refine p0 rfl (x_fieldAddr fa85_1 rfl) ?_
  refine ps rfl (fun wq hwq => x_loadB sc3 rfl (qB1.ne hwq (by omega)) rfl) ?_
  refine p0 rfl (x_fieldAddr fa85_2 rfl) ?_
  refine ps rfl (fun wq hwq => x_loadB sc33 rfl (qB1.ne hwq (by omega)) rfl) ?_
  refine pu rfl ?_ (by rintro ⟨_, _, h, _⟩; cases h)
  refine sp (zcall cl111 rfl) (g_clone _ _ _ _ (hp.ext L) (by omega)) ?_
  rintro v9 w9 l10 ⟨p9, c9, F9, rfl, o9, f9⟩
  have z_l10 := l10.size
  have L := L.tr l10.up
  have Lq := Lq.tr l10.up
  have B1 := B1.ext l10
  have B4 := B4.ext l10
  have g9 := o9.lt
  refine c_end ⟨rfl, fun h hS => Lq, ?_⟩
  refine p0 rfl (x_build (cs := [.int _ _, .int _ _, .slice _ _ _]) bd85 (pts_cons (v := .int _ _) rfl (pts_cons (v := .int _ _) rfl (pts_cons (v := .slice _ _ _) rfl pts_nil))) rfl) ?_
  refine pu rfl ?_ (by rintro ⟨_, _, h, _⟩; cases h)
  refine s_storeAg rfl sz85 rfl rfl B4 rfl rfl rfl ?_
  intro w11 l12 el12 B4
  have z_l12 := l12.size
  have L := L.fresh l12 (by omega)
  have Lq := Lq.within l12 (by simp)
  have B1 := B1.ne l12 (by omega)
  have o9 := o9.ne l12 (by first | assumption | exact nin_of f9 g9 (by omega))
  refine c_end ⟨rfl, fun h hS => Lq, ?_⟩
  refine p_nil (np_normal ?_)
  refine n_then ?_
  refine wp_ret ?_
  refine f_retc rfl rfl ag85 B4 rfl ?_
  exact ⟨_, rfl, L, _, _, _, rfl, o9, f9.mono (by omega)⟩

/-- spec.l18Copy -/
theorem s_copy (W H : Int) (p : Option Addr) (n c : Nat) (xs : List Int) (w : World) (hp : Sl w p n c 1 (ic xs)) (hl : n ≤ 1099511627776) :
    Calls Try.prog 124 [.agg [.int .i64 W, .int .i64 H, .slice p n c].toArray].toArray w (RetP w fun v w' => ∃ p' c' F', v = .agg [.int .i64 W, .int .i64 H, .slice p' n c'].toArray ∧ Own w' p' n c' 3 1 (ic xs) F' ∧ Fr w.heap.size F') := by
  obtain rfl : n = xs.length := hp.n
  have L : Exm [] w w := Exm.rfl'
  refine enter (n := 12) Try.func124 rfl rfl rfl ?_
  refine wp_seq ?_
  refine c_reg ?_
  refine s_box rfl rfl ?_
  intro b1 w2 lob1 hib1 l3 B1
  have z_l3 := l3.size
  have L := L.tr l3.up
  refine s_alloc zr85 ?_
  intro b4 w5 lob4 hib4 l6 B4
  have z_l6 := l6.size
  have L := L.tr l6.up
  have B1 := B1.ext l6
  refine c_end ?_
  refine n_then ?_
  refine wp_seq ?_
  refine c_plan (fun wq => Exm [b4] w5 wq) 10 (.cons (0, 2) (.cons (1, 1) (.cons (2, 2) (.cons (3, 1) (.cons (5, 2) (.cons (6, 1) (.cons (4, 0) (.cons (7, 0) (.cons (8, 2) (.cons (9, 0) .nil)))))))))) (by kernel_rfl) (by kernel_rfl) (Exm.drew _) ?_
  obtain ⟨w7, hwd⟩ : ∃ x, x = w5.drew := ⟨_, rfl⟩
  have l8 : Ext w5 w7 := by rw [hwd]; exact Exm.drew _
  rw [← hwd]; clear hwd
  have Lq : Exm [b4] w5 w7 := l8.up
  have qB1 := B1
  have qB4 := B4
  have qL := L
  have z_l8 := l8.size
  have L := L.tr l8.up
  have B1 := B1.ext l8
  have B4 := B4.ext l8
  refine p0 rfl (x_fieldAddr fa85_0 rfl) ?_
  refine ps rfl (fun wq hwq => x_loadB sc3 rfl (qB1.ne hwq (by omega)) rfl) ?_
  refine p0 rfl (x_fieldAddr fa85_1 rfl) ?_
  refine ps rfl (fun wq hwq => x_loadB sc3 rfl (qB1.ne hwq (by omega)) rfl) ?_
  refine p0 rfl (x_fieldAddr fa85_2 rfl) ?_
  refine ps rfl (fun wq hwq => x_loadB sc33 rfl (qB1.ne hwq (by omega)) rfl) ?_
  refine pu rfl ?_ (by rintro ⟨_, _, h, _⟩; cases h)
  refine s_bs0 so33 ?_
  intro p7 F7 w9 l10 o7 f7 g7
  have o7 : Own w9 p7 0 0 3 1 (ic []) F7 := o7
  have z_l10 := l10.size
  have L := L.tr l10.up
  have Lq := Lq.tr l10.up
  have B1 := B1.ext l10
  have B4 := B4.ext l10
  refine c_end ⟨rfl, fun h hS => Lq, ?_⟩
  refine pu rfl ?_ (by rintro ⟨_, _, h, _⟩; cases h)
  refine s_appi (B := w7.heap.size) so33 zr3 rfl rfl (xs := _) o7 (hp.ext L) f7 (by omega) (by omega) (by omega) ?_
  intro p10 c10 F10 w11 l12 o10 hn10 k10 f10 g10
  have ab1_10 : b1 ∉ F10 := k10.nin (by first | assumption | exact nin_of f7 g7 (by omega)) (by omega)
  have B1 := B1.exm l12 (by first | assumption | exact nin_of f7 g7 (by omega))
  have ab4_10 : b4 ∉ F10 := k10.nin (by first | assumption | exact nin_of f7 g7 (by omega)) (by omega)
  have B4 := B4.exm l12 (by first | assumption | exact nin_of f7 g7 (by omega))
  have z_l12 := l12.size
  have L := L.freshL l12 f7 (by omega)
  have Lq := Lq.freshL l12 f7 (by omega)
  refine c_end ⟨rfl, fun h hS => Lq, ?_⟩
  refine p0 rfl (x_build (cs := [.int _ _, .int _ _, .slice _ _ _]) bd85 (pts_cons (v := .int _ _) rfl (pts_cons (v := .int _ _) rfl (pts_cons (v := .slice _ _ _) rfl pts_nil))) rfl) ?_
  refine pu rfl ?_ (by rintro ⟨_, _, h, _⟩; cases h)
  refine s_storeAg rfl sz85 rfl rfl B4 rfl rfl rfl ?_
  intro w13 l14 el14 B4
  have z_l14 := l14.size
  have L := L.fresh l14 (by omega)
  have Lq := Lq.within l14 (by simp)
  have B1 := B1.ne l14 (by omega)
  have o10 := o10.ne l14 (by first | assumption | exact nin_of f10 g10 (by omega))
  refine c_end ⟨rfl, fun h hS => Lq, ?_⟩
  refine p_nil (np_normal ?_)
  refine n_then ?_
  refine wp_ret ?_
  refine f_retc rfl rfl ag85 B4 rfl ?_
  exact ⟨_, rfl, L, _, _, _, rfl, (by simpa using o10), f10.mono (by omega)⟩

/-- (impl.Frame).smoothEdge -/
theorem i_smooth (W H : Int) (pA : Option Addr) (n c : Nat) (xs : List Int) (a s q : Int) (FA : List Nat) (w : World) (oA : Own w pA n c 3 1 (ic xs) FA) (hl : n ≤ 1048576) (hs : 0 ≤ a - 2 * s ∧ a + s < n ∧ 1 ≤ s ∧ s ≤ 32) :
    Calls Try.prog 167 [.agg [.int .i64 W, .int .i64 H, .slice pA n c].toArray, .int .i64 a, .int .i64 s, .int .i64 q].toArray w (RetM FA w fun v w' => Own w' pA n c 3 1 (ic (eg q xs (a, s))) FA) := by
  have fA : Fr 0 FA := fun _ _ => Nat.zero_le _
  have gA := oA.lt
  have hnA := oA.n1
  have L : Exm FA w w := Exm.rfl'
  refine enter (n := 50) Try.func167 rfl rfl rfl ?_
  refine wp_seq ?_
  refine c_reg ?_
  refine s_box rfl rfl ?_
  intro b1 w2 lob1 hib1 l3 B1
  have z_l3 := l3.size
  have L := L.tr l3.up
  have oA := oA.ext l3
  refine c_end ?_
  refine n_then ?_
  refine c_plan (fun wq => Exm [] w2 wq) 41 (.cons (0, 2) (.cons (1, 1) (.cons (2, 2) (.cons (3, 2) (.cons (4, 2) (.cons (5, 2) (.cons (7, 2) (.cons (8, 2) (.cons (9, 1) (.cons (10, 2) (.cons (11, 2) (.cons (12, 2) (.cons (13, 2) (.cons (14, 2) (.cons (15, 1) (.cons (16, 2) (.cons (17, 1) (.cons (18, 2) (.cons (19, 2) (.cons (20, 2) (.cons (21, 2) (.cons (22, 1) (.cons (23, 2) (.cons (24, 1) (.cons (25, 2) (.cons (26, 2) (.cons (27, 1) (.cons (28, 2) (.cons (29, 1) (.cons (30, 2) (.cons (31, 2) (.cons (32, 2) (.cons (33, 2) (.cons (34, 1) (.cons (35, 2) (.fork 6 36 (.cons (36, 0) (.cons (37, 2) (.cons (38, 2) (.cons (39, 2) (.cons (40, 2) (.cons (41, 0) (.cons (42, 0) (.cons (43, 0) .nil)))))))) (.cons (37, 2) (.cons (38, 2) (.cons (39, 2) (.cons (40, 2) (.fork 6 41 (.cons (41, 0) (.cons (42, 0) (.cons (43, 0) .nil))) (.cons (6, 0) (.cons (42, 0) (.cons (43, 0) .nil)))))))))))))))))))))))))))))))))))))))))))) (by kernel_rfl) (by kernel_rfl) (Exm.drew _) ?_
  obtain ⟨w4, hwd⟩ : ∃ x, x = w2.drew := ⟨_, rfl⟩
  have l5 : Ext w2 w4 := by rw [hwd]; exact Exm.drew _
  rw [← hwd]; clear hwd
  have Lq : Exm [] w2 w4 := l5.up
  have qB1 := B1
  have qoA := oA
  have qL := L
  have z_l5 := l5.size
  have L := L.tr l5.up
  have B1 := B1.ext l5
  have oA := oA.ext l5
  refine p0 rfl (x_fieldAddr fa85_2 rfl) ?_
  refine ps rfl (fun wq hwq => x_loadB sc33 rfl (qB1.ext hwq) rfl) ?_
  refine p0 rfl (x_move (v := .int _ _) rfl) ?_
  refine p0 rfl (x_move (v := .int _ _) rfl) ?_
  refine p0 rfl (x_sub rfl rfl (by omega)) ?_
  refine p0 rfl (x_fieldAddr fa85_2 rfl) ?_
  refine p0 rfl (x_move (v := .int _ _) rfl) ?_
  refine p0 rfl (x_fieldAddr fa85_2 rfl) ?_
  refine ps rfl (fun wq hwq => x_loadB sc33 rfl (qB1.ext hwq) rfl) ?_
  refine p0 rfl (x_move (v := .int _ _) rfl) ?_
  refine p0 rfl (x_move (v := .int _ _) rfl) ?_
  refine p0 rfl (x_mul rfl rfl (by omega)) ?_
  refine p0 rfl (x_sub rfl rfl (by omega)) ?_
  refine p0 rfl (x_idx so33 rfl rfl oA.sl (by decide) (by omega) (by omega)) ?_
  refine ps rfl (fun wq hwq => x_ldi sc3 rfl (qoA.ext hwq).sl (by omega) (by omega)) ?_
  refine p0 rfl (x_fieldAddr fa85_2 rfl) ?_
  refine ps rfl (fun wq hwq => x_loadB sc33 rfl (qB1.ext hwq) rfl) ?_
  refine p0 rfl (x_move (v := .int _ _) rfl) ?_
  refine p0 rfl (x_move (v := .int _ _) rfl) ?_
  refine p0 rfl (x_sub rfl rfl (by omega)) ?_
  refine p0 rfl (x_idx so33 rfl rfl oA.sl (by decide) (by omega) (by omega)) ?_
  refine ps rfl (fun wq hwq => x_ldi sc3 rfl (qoA.ext hwq).sl (by omega) (by omega)) ?_
  refine p0 rfl (x_fieldAddr fa85_2 rfl) ?_
  refine ps rfl (fun wq hwq => x_loadB sc33 rfl (qB1.ext hwq) rfl) ?_
  refine p0 rfl (x_move (v := .int _ _) rfl) ?_
  refine p0 rfl (x_idx so33 rfl rfl oA.sl (by decide) (by omega) (by omega)) ?_
  refine ps rfl (fun wq hwq => x_ldi sc3 rfl (qoA.ext hwq).sl (by omega) (by omega)) ?_
  refine p0 rfl (x_fieldAddr fa85_2 rfl) ?_
  refine ps rfl (fun wq hwq => x_loadB sc33 rfl (qB1.ext hwq) rfl) ?_
  refine p0 rfl (x_move (v := .int _ _) rfl) ?_
  refine p0 rfl (x_move (v := .int _ _) rfl) ?_
  refine p0 rfl (x_add rfl rfl (by omega)) ?_
  refine p0 rfl (x_idx so33 rfl rfl oA.sl (by decide) (by omega) (by omega)) ?_
  refine ps rfl (fun wq hwq => x_ldi sc3 rfl (qoA.ext hwq).sl (by omega) (by omega)) ?_
  refine p0 rfl (x_move (v := .int _ _) rfl) ?_
  refine pfork ?_ ?_
  · refine pu rfl ?_ (by rintro ⟨_, _, h, _⟩; cases h)
    refine st (x_loadB sc33 rfl B1 rfl) ?_
    refine c_end ⟨rfl, fun h hS => Lq, ?_⟩
    refine pu rfl ?_ (by rintro ⟨_, _, h, _⟩; cases h)
    refine sr (zcall cl179 rfl) (i_edgeOf _ _ _ _ _ _) ?_
    intro w6 l7
    have z_l7 := l7.size
    have L := L.tr l7.up
    have Lq := Lq.tr l7.up
    have B1 := B1.ext l7
    have oA := oA.ext l7
    refine c_end ⟨rfl, fun h hS => Lq, ?_⟩
    refine p0 rfl (x_move (v := .tuple _) rfl) ?_
    refine p0 rfl (x_extract rfl rfl) ?_
    refine p0 rfl (x_extract rfl rfl) ?_
    refine p0 rfl (x_idx so33 rfl rfl oA.sl (by decide) (by omega) (by omega)) ?_
    refine pu rfl ?_ (by rintro ⟨_, _, h, _⟩; cases h)
    refine s_stoi rfl sz3 rfl rfl oA (by omega) (by omega) ?_
    intro w8 l9 el9 oA
    have z_l9 := l9.size
    have L := L.withinL l9 (by simp)
    have B1 := B1.exm l9 (by first | assumption | exact nin_of fA gA (by omega))
    have hnl9 := oA.n1
    refine c_end ⟨rfl, fun h hS => absurd h (by decide), ?_⟩
    refine pu rfl ?_ (by rintro ⟨_, _, h, _⟩; cases h)
    refine s0 (x_idx so33 rfl rfl oA.sl (by decide) (by omega) (by omega)) ?_
    refine c_end ⟨rfl, fun h hS => absurd h (by decide), ?_⟩
    refine pu rfl ?_ (by rintro ⟨_, _, h, _⟩; cases h)
    refine s_stoi rfl sz3 rfl rfl oA (by omega) (by omega) ?_
    intro w10 l11 el11 oA
    have z_l11 := l11.size
    have L := L.withinL l11 (by simp)
    have B1 := B1.exm l11 (by first | assumption | exact nin_of fA gA (by omega))
    have hnl11 := oA.n1
    refine c_end ⟨rfl, fun h hS => absurd h (by decide), ?_⟩
    refine p_nil (np_normal ?_)
    refine f_end0 rfl ?_
    exact ⟨_, rfl, L, oA⟩
  · refine pu rfl ?_ (by rintro ⟨_, _, h, _⟩; cases h)
    refine sr (zcall cl179 rfl) (i_edgeOf _ _ _ _ _ _) ?_
    intro w12 l13
    have z_l13 := l13.size
    have L := L.tr l13.up
    have Lq := Lq.tr l13.up
    have B1 := B1.ext l13
    have oA := oA.ext l13
    refine c_end ⟨rfl, fun h hS => Lq, ?_⟩
    refine p0 rfl (x_move (v := .tuple _) rfl) ?_
    refine p0 rfl (x_extract rfl rfl) ?_
    refine p0 rfl (x_extract rfl rfl) ?_
    refine p0 rfl (x_idx so33 rfl rfl oA.sl (by decide) (by omega) (by omega)) ?_
    refine pfork ?_ ?_
    · refine pu rfl ?_ (by rintro ⟨_, _, h, _⟩; cases h)
      refine st (x_loadB sc33 rfl B1 rfl) ?_
      refine c_end ⟨rfl, fun h hS => Lq, ?_⟩
      refine pu rfl ?_ (by rintro ⟨_, _, h, _⟩; cases h)
      refine s_stoi rfl sz3 rfl rfl oA (by omega) (by omega) ?_
      intro w14 l15 el15 oA
      have z_l15 := l15.size
      have L := L.withinL l15 (by simp)
      have B1 := B1.exm l15 (by first | assumption | exact nin_of fA gA (by omega))
      have hnl15 := oA.n1
      refine c_end ⟨rfl, fun h hS => absurd h (by decide), ?_⟩
      refine pu rfl ?_ (by rintro ⟨_, _, h, _⟩; cases h)
      refine s0 (x_idx so33 rfl rfl oA.sl (by decide) (by omega) (by omega)) ?_
      refine c_end ⟨rfl, fun h hS => absurd h (by decide), ?_⟩
      refine pu rfl ?_ (by rintro ⟨_, _, h, _⟩; cases h)
      refine s_stoi rfl sz3 rfl rfl oA (by omega) (by omega) ?_
      intro w16 l17 el17 oA
      have z_l17 := l17.size
      have L := L.withinL l17 (by simp)
      have B1 := B1.exm l17 (by first | assumption | exact nin_of fA gA (by omega))
      have hnl17 := oA.n1
      refine c_end ⟨rfl, fun h hS => absurd h (by decide), ?_⟩
      refine p_nil (np_normal ?_)
      refine f_end0 rfl ?_
      exact ⟨_, rfl, L, oA⟩
    · refine pu rfl ?_ (by rintro ⟨_, _, h, _⟩; cases h)
      refine s_stoi rfl sz3 rfl rfl oA (by omega) (by omega) ?_
      intro w18 l19 el19 oA
      have z_l19 := l19.size
      have L := L.withinL l19 (by simp)
      have B1 := B1.exm l19 (by first | assumption | exact nin_of fA gA (by omega))
      have hnl19 := oA.n1
      refine c_end ⟨rfl, fun h hS => absurd h (by decide), ?_⟩
      refine pu rfl ?_ (by rintro ⟨_, _, h, _⟩; cases h)
      refine st (x_loadB sc33 rfl B1 rfl) ?_
      refine c_end ⟨rfl, fun h hS => hS, ?_⟩
      refine pu rfl ?_ (by rintro ⟨_, _, h, _⟩; cases h)
      refine s0 (x_idx so33 rfl rfl oA.sl (by decide) (by omega) (by omega)) ?_
      refine c_end ⟨rfl, fun h hS => absurd h (by decide), ?_⟩
      refine pu rfl ?_ (by rintro ⟨_, _, h, _⟩; cases h)
      refine s_stoi rfl sz3 rfl rfl oA (by omega) (by omega) ?_
      intro w20 l21 el21 oA
      have z_l21 := l21.size
      have L := L.withinL l21 (by simp)
      have B1 := B1.exm l21 (by first | assumption | exact nin_of fA gA (by omega))
      have hnl21 := oA.n1
      refine c_end ⟨rfl, fun h hS => absurd h (by decide), ?_⟩
      refine p_nil (np_normal ?_)
      refine f_end0 rfl ?_
      exact ⟨_, rfl, L, oA⟩

/-- (impl.Frame).vertical -/
theorem i_vertical (W H : Int) (pA : Option Addr) (n c : Nat) (xs : List Int) (a b q : Int) (FA : List Nat) (w : World) (oA : Own w pA n c 3 1 (ic xs) FA) (hl : n ≤ 1048576) (hW : 8 ≤ W ∧ W ≤ 32) (hm : W % 8 = 0) (hH : H ≤ 32) (hn : (n : Int) = W * H) (ha : 0 ≤ a ∧ a ≤ b ∧ b ≤ H) :
    Calls Try.prog 122 [.agg [.int .i64 W, .int .i64 H, .slice pA n c].toArray, .int .i64 a, .int .i64 b, .int .i64 q].toArray w (RetM FA w fun v w' => Own w' pA n c 3 1 (ic (egs q xs (vRows W a (b - a).toNat))) FA) := by
  have fA : Fr 0 FA := fun _ _ => Nat.zero_le _
  have gA := oA.lt
  have hnA := oA.n1
  have L : Exm FA w w := Exm.rfl'
  refine enter (n := 31) Try.func122 rfl rfl rfl ?_
  refine wp_seq ?_
  refine c_reg ?_
  refine s_box rfl rfl ?_
  intro b1 w2 lob1 hib1 l3 B1
  have z_l3 := l3.size
  have L := L.tr l3.up
  have oA := oA.ext l3
  refine c_end ?_
  refine n_then ?_
  refine wp_seq ?_
  refine c_reg ?_
  refine s0 (x_move (v := .int _ _) rfl) ?_
  refine s0 (x_assign (v := .int _ _) rfl) ?_
  refine c_end ?_
  refine n_then ?_
  refine wp_block ?_
  refine c_loop (γ := Nat) (fun j => (b - a).toNat - j) (fun (j : Nat) E wl => ∃ E0, E = upd (upd (upd (upd E0 2 (.int .i64 b)) 3 (.int .i64 q)) 4 (pt b1 0)) 8 (.int .i64 (a + j)) ∧ (Exm FA w wl) ∧ (w2.heap.size ≤ wl.heap.size) ∧ (Bx wl b1 [.int .i64 W, .int .i64 H, .slice pA n c] 85) ∧ (Own wl pA n c 3 1 (ic (egs q xs (vRows W a j))) FA) ∧ ((j : Int) ≤ b - a)) 0 ⟨_, upd_self4 rfl rfl rfl (vint (by omega)), L, (by omega), B1, oA, (by omega)⟩ ?_
  rintro j E wl4 ⟨E0, rfl, L, Lz, B1, oA, hj⟩
  have Lz0 := L.size
  refine wp_seq ?_
  refine wp_seq ?_
  refine c_reg ?_
  refine s0 (x_move (v := .int _ _) rfl) ?_
  refine s0 (x_move (v := .int _ _) rfl) ?_
  refine sb (x_lss rfl rfl) (fun h13 => ?_) (fun h13 => ?_)
  · refine c_end ?_
    refine n_then ?_
    refine c_true rfl ?_
    refine c_skipn ?_
    refine n_then ?_
    refine wp_seq ?_
    refine wp_block ?_
    refine wp_seq ?_
    refine c_reg ?_
    refine s0 (x_assign (v := .int _ _) rfl) ?_
    refine c_end ?_
    refine n_then ?_
    refine wp_block ?_
    refine c_loop (γ := Nat) (fun i => (W / 8 - 1).toNat - i) (fun (i : Nat) E wl => ∃ E0, E = upd (upd (upd (upd (upd E0 2 (.int .i64 b)) 3 (.int .i64 q)) 4 (pt b1 0)) 8 (.int .i64 (a + j))) 9 (.int .i64 (8 + 8 * (i : Int))) ∧ (Exm FA w wl) ∧ (wl4.heap.size ≤ wl.heap.size) ∧ (Bx wl b1 [.int .i64 W, .int .i64 H, .slice pA n c] 85) ∧ (Own wl pA n c 3 1 (ic (egs q xs (vRows W a j ++ vRow W (a + j) i))) FA) ∧ (8 + 8 * (i : Int) ≤ W)) 0 ⟨_, upd_self5 rfl rfl rfl rfl (vint (by omega)), L, (by omega), B1, (by rw [vRow_zero, List.append_nil]; exact oA), (by omega)⟩ ?_
    rintro i E wl5 ⟨E0, rfl, L, Lz, B1, oA, hi⟩
    have Lz0 := L.size
    have hy := row_in hW hn (show 0 ≤ a + (j : Int) by omega) (show a + (j : Int) ≤ H - 1 by omega)
    have hlen := egs_length q (vRows W a j ++ vRow W (a + j) i) xs
    refine wp_seq ?_
    refine wp_seq ?_
    refine c_reg ?_
    refine s0 (x_move (v := .int _ _) rfl) ?_
    refine s0 (x_fieldAddr fa85_0 rfl) ?_
    refine st (x_loadB sc3 rfl B1 rfl) ?_
    refine sb (x_lss rfl rfl) (fun h19 => ?_) (fun h19 => ?_)
    · refine c_end ?_
      refine n_then ?_
      refine c_true rfl ?_
      refine c_skipn ?_
      refine n_then ?_
      refine wp_seq ?_
      refine wp_block ?_
      refine c_reg ?_
      refine st (x_loadAgB ag85 rfl B1 rfl) ?_
      refine s0 (x_move (v := .int _ _) rfl) ?_
      refine s0 (x_fieldAddr fa85_0 rfl) ?_
      refine st (x_loadB sc3 rfl B1 rfl) ?_
      refine s0 (x_mul rfl rfl (by omega)) ?_
      refine s0 (x_move (v := .int _ _) rfl) ?_
      refine s0 (x_add rfl rfl (by omega)) ?_
      refine s0 (x_move (v := .int _ _) rfl) ?_
      refine spm (zcall cl167 rfl) (i_smooth _ _ _ _ _ _ _ _ _ _ _ oA (by omega) (by omega)) ?_
      rintro v30 w6 l7 oA
      have z_l7 := l7.size
      have L := L.withinL l7 (by simp)
      have B1 := B1.exm l7 (by first | assumption | exact nin_of fA gA (by omega))
      refine c_end ?_
      refine n_block ?_
      refine n_then ?_
      refine c_reg ?_
      refine s0 (x_move (v := .int _ _) rfl) ?_
      refine s0 (x_add rfl rfl (by omega)) ?_
      refine s0 (x_assign (v := .int _ _) rfl) ?_
      refine c_end ?_
      exact c_round (g' := i + 1) (by omega) ⟨_, upd_self5 rfl rfl rfl rfl (vint (by omega)), L, (by omega), B1, (by rw [vRow_succ, ← List.append_assoc, egs_snoc]; exact oA), (by omega)⟩
    · refine c_end ?_
      refine n_then ?_
      refine c_false rfl ?_
      refine wp_exit (e_then (e_then (e_here ?_)))
      refine n_block ?_
      refine n_then ?_
      refine c_reg ?_
      refine s0 (x_move (v := .int _ _) rfl) ?_
      refine s0 (x_add rfl rfl (by omega)) ?_
      refine s0 (x_assign (v := .int _ _) rfl) ?_
      refine c_end ?_
      exact c_round (g' := j + 1) (by omega) ⟨_, upd_self4 rfl rfl rfl (vint (by omega)), L, (by omega), B1, (by rw [vRows_succ, show (W / 8 - 1).toNat = i by omega]; exact oA), (by omega)⟩
  · refine c_end ?_
    refine n_then ?_
    refine c_false rfl ?_
    refine wp_exit (e_then (e_then (e_here ?_)))
    refine f_end0 rfl ?_
    obtain hje : j = (b - a).toNat := by omega
    rw [hje] at oA
    exact ⟨_, rfl, L, oA⟩

/-- (impl.Frame).horizontal -/
theorem i_horizontal (W H : Int) (pA : Option Addr) (n c : Nat) (xs : List Int) (y q : Int) (FA : List Nat) (w : World) (oA : Own w pA n c 3 1 (ic xs) FA) (hl : n ≤ 1048576) (hW : 8 ≤ W ∧ W ≤ 32) (hm : W % 8 = 0) (hH : H ≤ 32) (hn : (n : Int) = W * H) (hy : 2 ≤ y ∧ y ≤ H - 2) :
    Calls Try.prog 123 [.agg [.int .i64 W, .int .i64 H, .slice pA n c].toArray, .int .i64 y, .int .i64 q].toArray w (RetM FA w fun v w' => Own w' pA n c 3 1 (ic (egs q xs (hRow W y W.toNat))) FA) := by
  have fA : Fr 0 FA := fun _ _ => Nat.zero_le _
  have gA := oA.lt
  have hnA := oA.n1
  have L : Exm FA w w := Exm.rfl'
  refine enter (n := 24) Try.func123 rfl rfl rfl ?_
  refine wp_seq ?_
  refine c_reg ?_
  refine s_box rfl rfl ?_
  intro b1 w2 lob1 hib1 l3 B1
  have z_l3 := l3.size
  have L := L.tr l3.up
  have oA := oA.ext l3
  refine c_end ?_
  refine n_then ?_
  refine wp_seq ?_
  refine c_reg ?_
  refine s0 (x_fieldAddr fa85_0 rfl) ?_
  refine st (x_loadB sc3 rfl B1 rfl) ?_
  refine s0 (x_move (v := .int _ _) rfl) ?_
  refine c_end ?_
  refine n_then ?_
  refine wp_block ?_
  refine c_loop (γ := Nat) (fun i => W.toNat - i) (fun (i : Nat) E wl => ∃ E0, E = upd (upd (upd (upd (upd E0 1 (.int .i64 y)) 2 (.int .i64 q)) 3 (pt b1 0)) 8 (.int .i64 W)) 9 (.int .i64 (i : Int)) ∧ (Exm FA w wl) ∧ (w2.heap.size ≤ wl.heap.size) ∧ (Bx wl b1 [.int .i64 W, .int .i64 H, .slice pA n c] 85) ∧ (Own wl pA n c 3 1 (ic (egs q xs (hRow W y i))) FA) ∧ ((i : Int) ≤ W)) 0 ⟨_, upd_self5 rfl rfl rfl rfl rfl, L, (by omega), B1, oA, (by omega)⟩ ?_
  rintro i E wl4 ⟨E0, rfl, L, Lz, B1, oA, hi⟩
  have Lz0 := L.size
  have hy2 := rows_in hW hn hy.1 hy.2
  have hlen := egs_length q (hRow W y i) xs
  refine wp_seq ?_
  refine c_reg ?_
  refine sb (x_lss rfl rfl) (fun h10 => ?_) (fun h10 => ?_)
  · refine c_end ?_
    refine n_then ?_
    refine wp_seq ?_
    refine c_true rfl ?_
    refine c_skipn ?_
    refine n_then ?_
    refine wp_seq ?_
    refine wp_block ?_
    refine wp_seq ?_
    refine c_reg ?_
    refine s0 (x_move (v := .int _ _) rfl) ?_
    refine s0 (x_assign (v := .int _ _) rfl) ?_
    refine c_end ?_
    refine n_then ?_
    refine c_reg ?_
    refine st (x_loadAgB ag85 rfl B1 rfl) ?_
    refine s0 (x_move (v := .int _ _) rfl) ?_
    refine s0 (x_fieldAddr fa85_0 rfl) ?_
    refine st (x_loadB sc3 rfl B1 rfl) ?_
    refine s0 (x_mul rfl rfl (by omega)) ?_
    refine s0 (x_move (v := .int _ _) rfl) ?_
    refine s0 (x_add rfl rfl (by omega)) ?_
    refine s0 (x_fieldAddr fa85_0 rfl) ?_
    refine st (x_loadB sc3 rfl B1 rfl) ?_
    refine s0 (x_move (v := .int _ _) rfl) ?_
    refine spm (zcall cl167 rfl) (i_smooth _ _ _ _ _ _ _ _ _ _ _ oA (by omega) (by omega)) ?_
    rintro v22 w5 l6 oA
    have z_l6 := l6.size
    have L := L.withinL l6 (by simp)
    have B1 := B1.exm l6 (by first | assumption | exact nin_of fA gA (by omega))
    refine c_end ?_
    refine n_block ?_
    refine n_then ?_
    refine c_reg ?_
    refine s0 (x_add rfl rfl (by omega)) ?_
    refine s0 (x_move (v := .int _ _) rfl) ?_
    refine c_end ?_
    exact c_round (g' := i + 1) (by omega) ⟨_, upd_self5 rfl rfl rfl rfl (vint (by omega)), L, (by omega), B1, (by rw [hRow_succ, egs_snoc]; exact oA), (by omega)⟩
  · refine c_end ?_
    refine n_then ?_
    refine wp_seq ?_
    refine c_false rfl ?_
    refine wp_exit (e_then (e_then (e_here ?_)))
    refine f_end0 rfl ?_
    obtain hje : i = W.toNat := by omega
    rw [hje] at oA
    exact ⟨_, rfl, L, oA⟩

/-- spec.l20Across -/
theorem s_across (W H : Int) (pA : Option Addr) (n c : Nat) (xs : List Int) (a b q : Int) (FA : List Nat) (w : World) (oA : Own w pA n c 3 1 (ic xs) FA) (hl : n ≤ 1048576) (hW : 8 ≤ W ∧ W ≤ 32) (hm : W % 8 = 0) (hH : H ≤ 32) (hn : (n : Int) = W * H) (ha : 0 ≤ a ∧ a ≤ b ∧ b ≤ H) :
    Calls Try.prog 126 [.agg [.int .i64 W, .int .i64 H, .slice pA n c].toArray, .agg [.int .i64 W, .int .i64 H, .slice pA n c].toArray, .int .i64 q, .int .i64 a, .int .i64 b].toArray w (RetM FA w fun v w' => v = .agg [.int .i64 W, .int .i64 H, .slice pA n c].toArray ∧ Own w' pA n c 3 1 (ic (egs q xs (vRows W a (b - a).toNat))) FA) := by
  have fA : Fr 0 FA := fun _ _ => Nat.zero_le _
  have gA := oA.lt
  have hnA := oA.n1
  have L : Exm FA w w := Exm.rfl'
  refine enter (n := 74) Try.func126 rfl rfl rfl ?_
  refine wp_seq ?_
  refine c_reg ?_
  refine s_box rfl rfl ?_
  intro b1 w2 lob1 hib1 l3 B1
  have z_l3 := l3.size
  have L := L.tr l3.up
  have oA := oA.ext l3
  refine s_box rfl rfl ?_
  intro b4 w5 lob4 hib4 l6 B4
  have z_l6 := l6.size
  have L := L.tr l6.up
  have B1 := B1.ext l6
  have oA := oA.ext l6
  refine s_alloc zr85 ?_
  intro b7 w8 lob7 hib7 l9 B7
  have z_l9 := l9.size
  have L := L.tr l9.up
  have B1 := B1.ext l9
  have B4 := B4.ext l9
  have oA := oA.ext l9
  refine c_end ?_
  refine n_then ?_
  refine wp_seq ?_
  refine wp_seq ?_
  refine c_reg ?_
  refine s0 (x_move (v := .int _ _) rfl) ?_
  refine s0 (x_assign (v := .int _ _) rfl) ?_
  refine c_end ?_
  refine n_then ?_
  refine wp_block ?_
  refine c_loop (γ := Nat) (fun j => (b - a).toNat - j) (fun (j : Nat) E wl => ∃ E0, E = upd (upd (upd (upd (upd (upd E0 2 (.int .i64 q)) 4 (.int .i64 b)) 5 (pt b1 0)) 6 (pt b4 0)) 10 (pt b7 0)) 11 (.int .i64 (a + j)) ∧ (Exm FA w wl) ∧ (w8.heap.size ≤ wl.heap.size) ∧ (Bx wl b1 [.int .i64 W, .int .i64 H, .slice pA n c] 85) ∧ (Bx wl b4 [.int .i64 W, .int .i64 H, .slice pA n c] 85) ∧ (Bx wl b7 [.int .i64 0, .int .i64 0, .slice none 0 0] 85) ∧ (Own wl pA n c 3 1 (ic (egs q xs (vRows W a j))) FA) ∧ ((j : Int) ≤ b - a)) 0 ⟨_, upd_self6 rfl rfl rfl rfl rfl (vint (by omega)), L, (by omega), B1, B4, B7, oA, (by omega)⟩ ?_
  rintro j E wl10 ⟨E0, rfl, L, Lz, B1, B4, B7, oA, hj⟩
  have Lz0 := L.size
  refine wp_seq ?_
  refine wp_seq ?_
  refine c_reg ?_
  refine s0 (x_move (v := .int _ _) rfl) ?_
  refine s0 (x_move (v := .int _ _) rfl) ?_
  refine sb (x_lss rfl rfl) (fun h19 => ?_) (fun h19 => ?_)
  · refine c_end ?_
    refine n_then ?_
    refine c_true rfl ?_
    refine c_skipn ?_
    refine n_then ?_
    refine wp_seq ?_
    refine wp_block ?_
    refine wp_seq ?_
    refine c_reg ?_
    refine s0 (x_assign (v := .int _ _) rfl) ?_
    refine c_end ?_
    refine n_then ?_
    refine wp_block ?_
    refine c_loop (γ := Nat) (fun i => (W / 8 - 1).toNat - i) (fun (i : Nat) E wl => ∃ E0, E = upd (upd (upd (upd (upd (upd (upd E0 2 (.int .i64 q)) 4 (.int .i64 b)) 5 (pt b1 0)) 6 (pt b4 0)) 10 (pt b7 0)) 11 (.int .i64 (a + j))) 12 (.int .i64 (8 + 8 * (i : Int))) ∧ (Exm FA w wl) ∧ (wl10.heap.size ≤ wl.heap.size) ∧ (Bx wl b1 [.int .i64 W, .int .i64 H, .slice pA n c] 85) ∧ (Bx wl b4 [.int .i64 W, .int .i64 H, .slice pA n c] 85) ∧ (Bx wl b7 [.int .i64 0, .int .i64 0, .slice none 0 0] 85) ∧ (Own wl pA n c 3 1 (ic (egs q xs (vRows W a j ++ vRow W (a + j) i))) FA) ∧ (8 + 8 * (i : Int) ≤ W)) 0 ⟨_, upd_self7 rfl rfl rfl rfl rfl rfl (vint (by omega)), L, (by omega), B1, B4, B7, (by rw [vRow_zero, List.append_nil]; exact oA), (by omega)⟩ ?_
    rintro i E wl11 ⟨E0, rfl, L, Lz, B1, B4, B7, oA, hi⟩
    have Lz0 := L.size
    have hy := row_in hW hn (show 0 ≤ a + (j : Int) by omega) (show a + (j : Int) ≤ H - 1 by omega)
    have hlen := egs_length q (vRows W a j ++ vRow W (a + j) i) xs
    refine wp_seq ?_
    refine wp_seq ?_
    refine c_reg ?_
    refine s0 (x_move (v := .int _ _) rfl) ?_
    refine s0 (x_fieldAddr fa85_0 rfl) ?_
    refine st (x_loadB sc3 rfl B1 rfl) ?_
    refine sb (x_lss rfl rfl) (fun h25 => ?_) (fun h25 => ?_)
    · refine c_end ?_
      refine n_then ?_
      refine c_true rfl ?_
      refine c_skipn ?_
      refine n_then ?_
      refine wp_seq ?_
      refine wp_block ?_
      refine wp_seq ?_
      refine c_reg ?_
      refine s0 (x_move (v := .int _ _) rfl) ?_
      refine s0 (x_fieldAddr fa85_0 rfl) ?_
      refine st (x_loadB sc3 rfl B1 rfl) ?_
      refine s0 (x_mul rfl rfl (by omega)) ?_
      refine s0 (x_move (v := .int _ _) rfl) ?_
      refine s0 (x_add rfl rfl (by omega)) ?_
      refine s0 (x_assign (v := .int _ _) rfl) ?_
      refine c_end ?_
      refine n_then ?_
      refine wp_seq ?_
      refine c_plan (fun wq => Exm [] wl11 wq) 30 (.cons (0, 2) (.cons (1, 1) (.cons (2, 2) (.cons (3, 2) (.cons (4, 2) (.cons (5, 1) (.cons (6, 2) (.cons (7, 1) (.cons (8, 2) (.cons (9, 2) (.cons (10, 2) (.cons (11, 1) (.cons (12, 2) (.cons (13, 1) (.cons (14, 2) (.cons (15, 2) (.cons (16, 1) (.cons (17, 2) (.cons (18, 1) (.cons (19, 2) (.cons (20, 2) (.cons (21, 2) (.cons (22, 1) (.cons (23, 2) (.cons (24, 0) (.cons (25, 2) (.cons (26, 2) (.cons (27, 2) (.cons (28, 2) (.cons (29, 2) .nil)))))))))))))))))))))))))))))) (by kernel_rfl) (by kernel_rfl) (Exm.drew _) ?_
      obtain ⟨w12, hwd⟩ : ∃ x, x = wl11.drew := ⟨_, rfl⟩
      have l13 : Ext wl11 w12 := by rw [hwd]; exact Exm.drew _
      rw [← hwd]; clear hwd
      have Lq : Exm [] wl11 w12 := l13.up
      have qB1 := B1
      have qB4 := B4
      have qB7 := B7
      have qoA := oA
      have qL := L
      have z_l13 := l13.size
      have L := L.tr l13.up
      have B1 := B1.ext l13
      have B4 := B4.ext l13
      have B7 := B7.ext l13
      have oA := oA.ext l13
      refine p0 rfl (x_fieldAddr fa85_2 rfl) ?_
      refine ps rfl (fun wq hwq => x_loadB sc33 rfl (qB1.ext hwq) rfl) ?_
      refine p0 rfl (x_move (v := .int _ _) rfl) ?_
      refine p0 rfl (x_sub rfl rfl (by omega)) ?_
      refine p0 rfl (x_idx so33 rfl rfl oA.sl (by decide) (by omega) (by omega)) ?_
      refine ps rfl (fun wq hwq => x_ldi sc3 rfl (qoA.ext hwq).sl (by omega) (by omega)) ?_
      refine p0 rfl (x_fieldAddr fa85_2 rfl) ?_
      refine ps rfl (fun wq hwq => x_loadB sc33 rfl (qB1.ext hwq) rfl) ?_
      refine p0 rfl (x_move (v := .int _ _) rfl) ?_
      refine p0 rfl (x_sub rfl rfl (by omega)) ?_
      refine p0 rfl (x_idx so33 rfl rfl oA.sl (by decide) (by omega) (by omega)) ?_
      refine ps rfl (fun wq hwq => x_ldi sc3 rfl (qoA.ext hwq).sl (by omega) (by omega)) ?_
      refine p0 rfl (x_fieldAddr fa85_2 rfl) ?_
      refine ps rfl (fun wq hwq => x_loadB sc33 rfl (qB1.ext hwq) rfl) ?_
      refine p0 rfl (x_move (v := .int _ _) rfl) ?_
      refine p0 rfl (x_idx so33 rfl rfl oA.sl (by decide) (by omega) (by omega)) ?_
      refine ps rfl (fun wq hwq => x_ldi sc3 rfl (qoA.ext hwq).sl (by omega) (by omega)) ?_
      refine p0 rfl (x_fieldAddr fa85_2 rfl) ?_
      refine ps rfl (fun wq hwq => x_loadB sc33 rfl (qB1.ext hwq) rfl) ?_
      refine p0 rfl (x_move (v := .int _ _) rfl) ?_
      refine p0 rfl (x_add rfl rfl (by omega)) ?_
      refine p0 rfl (x_idx so33 rfl rfl oA.sl (by decide) (by omega) (by omega)) ?_
      refine ps rfl (fun wq hwq => x_ldi sc3 rfl (qoA.ext hwq).sl (by omega) (by omega)) ?_
      refine p0 rfl (x_move (v := .int _ _) rfl) ?_
      refine pu rfl ?_ (by rintro ⟨_, _, h, _⟩; cases h)
      refine sr (zcall cl168 rfl) (s_edgeOf _ _ _ _ _ _) ?_
      intro w14 l15
      have z_l15 := l15.size
      have L := L.tr l15.up
      have Lq := Lq.tr l15.up
      have B1 := B1.ext l15
      have B4 := B4.ext l15
      have B7 := B7.ext l15
      have oA := oA.ext l15
      refine c_end ⟨rfl, fun h hS => Lq, ?_⟩
      refine p0 rfl (x_move (v := .tuple _) rfl) ?_
      refine p0 rfl (x_extract rfl rfl) ?_
      refine p0 rfl (x_extract rfl rfl) ?_
      refine p0 rfl (x_assign (v := .int _ _) rfl) ?_
      refine p0 rfl (x_assign (v := .int _ _) rfl) ?_
      refine p_nil (np_normal ?_)
      refine n_then ?_
      refine wp_seq ?_
      refine c_reg ?_
      refine s0 (x_fieldAddr fa85_2 rfl) ?_
      refine st (x_loadB sc33 rfl B4 rfl) ?_
      refine s0 (x_move (v := .int _ _) rfl) ?_
      refine s0 (x_sub rfl rfl (by omega)) ?_
      refine s0 (x_move (v := .int _ _) rfl) ?_
      refine s0 (x_idx so33 rfl rfl oA.sl (by decide) (by omega) (by omega)) ?_
      refine s_stoi rfl sz3 rfl rfl oA (by omega) (by omega) ?_
      intro w16 l17 el17 oA
      have z_l17 := l17.size
      have L := L.withinL l17 (by simp)
      have B1 := B1.exm l17 (by first | assumption | exact nin_of fA gA (by omega))
      have B4 := B4.exm l17 (by first | assumption | exact nin_of fA gA (by omega))
      have B7 := B7.exm l17 (by first | assumption | exact nin_of fA gA (by omega))
      have hnl17 := oA.n1
      refine c_end ?_
      refine n_then ?_
      refine c_reg ?_
      refine s0 (x_fieldAddr fa85_2 rfl) ?_
      refine st (x_loadB sc33 rfl B4 rfl) ?_
      refine s0 (x_move (v := .int _ _) rfl) ?_
      refine s0 (x_move (v := .int _ _) rfl) ?_
      refine s0 (x_idx so33 rfl rfl oA.sl (by decide) (by omega) (by omega)) ?_
      refine s_stoi rfl sz3 rfl rfl oA (by omega) (by omega) ?_
      intro w18 l19 el19 oA
      have z_l19 := l19.size
      have L := L.withinL l19 (by simp)
      have B1 := B1.exm l19 (by first | assumption | exact nin_of fA gA (by omega))
      have B4 := B4.exm l19 (by first | assumption | exact nin_of fA gA (by omega))
      have B7 := B7.exm l19 (by first | assumption | exact nin_of fA gA (by omega))
      have hnl19 := oA.n1
      refine c_end ?_
      refine n_block ?_
      refine n_then ?_
      refine c_reg ?_
      refine s0 (x_move (v := .int _ _) rfl) ?_
      refine s0 (x_add rfl rfl (by omega)) ?_
      refine s0 (x_assign (v := .int _ _) rfl) ?_
      refine c_end ?_
      exact c_round (g' := i + 1) (by omega) ⟨_, upd_self7 rfl rfl rfl rfl rfl rfl (vint (by omega)), L, (by omega), B1, B4, B7, (by rw [vRow_succ, ← List.append_assoc, egs_snoc, eg_def, Int.mul_one]; exact oA), (by omega)⟩
    · refine c_end ?_
      refine n_then ?_
      refine c_false rfl ?_
      refine wp_exit (e_then (e_then (e_here ?_)))
      refine n_block ?_
      refine n_then ?_
      refine c_reg ?_
      refine s0 (x_move (v := .int _ _) rfl) ?_
      refine s0 (x_add rfl rfl (by omega)) ?_
      refine s0 (x_assign (v := .int _ _) rfl) ?_
      refine c_end ?_
      exact c_round (g' := j + 1) (by omega) ⟨_, upd_self6 rfl rfl rfl rfl rfl (vint (by omega)), L, (by omega), B1, B4, B7, (by rw [vRows_succ, show (W / 8 - 1).toNat = i by omega]; exact oA), (by omega)⟩
  · refine c_end ?_
    refine n_then ?_
    refine c_false rfl ?_
    refine wp_exit (e_then (e_then (e_here ?_)))
    refine n_then ?_
    refine wp_seq ?_
    refine c_reg ?_
    refine st (x_loadAgB ag85 rfl B4 rfl) ?_
    refine s_storeAg rfl sz85 rfl rfl B7 rfl rfl rfl ?_
    intro w20 l21 el21 B7
    have z_l21 := l21.size
    have L := L.fresh l21 (by omega)
    have B1 := B1.ne l21 (by omega)
    have B4 := B4.ne l21 (by omega)
    have oA := oA.ne l21 (by first | assumption | exact nin_of fA gA (by omega))
    refine c_end ?_
    refine n_then ?_
    refine wp_ret ?_
    refine f_retc rfl rfl ag85 B7 rfl ?_
    obtain hje : j = (b - a).toNat := by omega
    rw [hje] at oA
    exact ⟨_, rfl, L, rfl, oA⟩

/-- spec.l20Down -/
theorem s_down (W H : Int) (pA : Option Addr) (n c : Nat) (xs : List Int) (y q : Int) (FA : List Nat) (w : World) (oA : Own w pA n c 3 1 (ic xs) FA) (hl : n ≤ 1048576) (hW : 8 ≤ W ∧ W ≤ 32) (hm : W % 8 = 0) (hH : H ≤ 32) (hn : (n : Int) = W * H) (hy : 2 ≤ y ∧ y ≤ H - 2) :
    Calls Try.prog 127 [.agg [.int .i64 W, .int .i64 H, .slice pA n c].toArray, .agg [.int .i64 W, .int .i64 H, .slice pA n c].toArray, .int .i64 q, .int .i64 y].toArray w (RetM FA w fun v w' => v = .agg [.int .i64 W, .int .i64 H, .slice pA n c].toArray ∧ Own w' pA n c 3 1 (ic (egs q xs (hRow W y W.toNat))) FA) := by
  have fA : Fr 0 FA := fun _ _ => Nat.zero_le _
  have gA := oA.lt
  have hnA := oA.n1
  have L : Exm FA w w := Exm.rfl'
  refine enter (n := 71) Try.func127 rfl rfl rfl ?_
  refine wp_seq ?_
  refine c_reg ?_
  refine s_box rfl rfl ?_
  intro b1 w2 lob1 hib1 l3 B1
  have z_l3 := l3.size
  have L := L.tr l3.up
  have oA := oA.ext l3
  refine s_box rfl rfl ?_
  intro b4 w5 lob4 hib4 l6 B4
  have z_l6 := l6.size
  have L := L.tr l6.up
  have B1 := B1.ext l6
  have oA := oA.ext l6
  refine s_alloc zr85 ?_
  intro b7 w8 lob7 hib7 l9 B7
  have z_l9 := l9.size
  have L := L.tr l9.up
  have B1 := B1.ext l9
  have B4 := B4.ext l9
  have oA := oA.ext l9
  refine c_end ?_
  refine n_then ?_
  refine wp_seq ?_
  refine c_reg ?_
  refine s0 (x_fieldAddr fa85_0 rfl) ?_
  refine st (x_loadB sc3 rfl B1 rfl) ?_
  refine s0 (x_assign (v := .int _ _) rfl) ?_
  refine c_end ?_
  refine n_then ?_
  refine wp_seq ?_
  refine wp_seq ?_
  refine c_reg ?_
  refine s0 (x_assign (v := .int _ _) rfl) ?_
  refine c_end ?_
  refine n_then ?_
  refine wp_block ?_
  refine c_loop (γ := Nat) (fun i => W.toNat - i) (fun (i : Nat) E wl => ∃ E0, E = upd (upd (upd (upd (upd (upd (upd E0 2 (.int .i64 q)) 3 (.int .i64 y)) 4 (pt b1 0)) 5 (pt b4 0)) 8 (pt b7 0)) 9 (.int .i64 W)) 10 (.int .i64 (i : Int)) ∧ (Exm FA w wl) ∧ (w8.heap.size ≤ wl.heap.size) ∧ (Bx wl b1 [.int .i64 W, .int .i64 H, .slice pA n c] 85) ∧ (Bx wl b4 [.int .i64 W, .int .i64 H, .slice pA n c] 85) ∧ (Bx wl b7 [.int .i64 0, .int .i64 0, .slice none 0 0] 85) ∧ (Own wl pA n c 3 1 (ic (egs q xs (hRow W y i))) FA) ∧ ((i : Int) ≤ W)) 0 ⟨_, upd_self7 rfl rfl rfl rfl rfl rfl rfl, L, (by omega), B1, B4, B7, oA, (by omega)⟩ ?_
  rintro i E wl10 ⟨E0, rfl, L, Lz, B1, B4, B7, oA, hi⟩
  have Lz0 := L.size
  have hy2 := rows_in hW hn hy.1 hy.2
  have hlen := egs_length q (hRow W y i) xs
  refine wp_seq ?_
  refine wp_seq ?_
  refine c_reg ?_
  refine s0 (x_move (v := .int _ _) rfl) ?_
  refine s0 (x_move (v := .int _ _) rfl) ?_
  refine sb (x_lss rfl rfl) (fun h18 => ?_) (fun h18 => ?_)
  · refine c_end ?_
    refine n_then ?_
    refine c_true rfl ?_
    refine c_skipn ?_
    refine n_then ?_
    refine wp_seq ?_
    refine wp_block ?_
    refine wp_seq ?_
    refine c_reg ?_
    refine s0 (x_move (v := .int _ _) rfl) ?_
    refine s0 (x_move (v := .int _ _) rfl) ?_
    refine s0 (x_mul rfl rfl (by omega)) ?_
    refine s0 (x_move (v := .int _ _) rfl) ?_
    refine s0 (x_add rfl rfl (by omega)) ?_
    refine s0 (x_assign (v := .int _ _) rfl) ?_
    refine c_end ?_
    refine n_then ?_
    refine wp_seq ?_
    refine c_plan (fun wq => Exm [] wl10 wq) 34 (.cons (0, 2) (.cons (1, 1) (.cons (2, 2) (.cons (3, 2) (.cons (4, 2) (.cons (5, 2) (.cons (6, 2) (.cons (7, 1) (.cons (8, 2) (.cons (9, 1) (.cons (10, 2) (.cons (11, 2) (.cons (12, 2) (.cons (13, 2) (.cons (14, 1) (.cons (15, 2) (.cons (16, 1) (.cons (17, 2) (.cons (18, 2) (.cons (19, 1) (.cons (20, 2) (.cons (21, 1) (.cons (22, 2) (.cons (23, 2) (.cons (24, 2) (.cons (25, 2) (.cons (26, 1) (.cons (27, 2) (.cons (28, 0) (.cons (29, 2) (.cons (30, 2) (.cons (31, 2) (.cons (32, 2) (.cons (33, 2) .nil)))))))))))))))))))))))))))))))))) (by kernel_rfl) (by kernel_rfl) (Exm.drew _) ?_
    obtain ⟨w11, hwd⟩ : ∃ x, x = wl10.drew := ⟨_, rfl⟩
    have l12 : Ext wl10 w11 := by rw [hwd]; exact Exm.drew _
    rw [← hwd]; clear hwd
    have Lq : Exm [] wl10 w11 := l12.up
    have qB1 := B1
    have qB4 := B4
    have qB7 := B7
    have qoA := oA
    have qL := L
    have z_l12 := l12.size
    have L := L.tr l12.up
    have B1 := B1.ext l12
    have B4 := B4.ext l12
    have B7 := B7.ext l12
    have oA := oA.ext l12
    refine p0 rfl (x_fieldAddr fa85_2 rfl) ?_
    refine ps rfl (fun wq hwq => x_loadB sc33 rfl (qB1.ext hwq) rfl) ?_
    refine p0 rfl (x_move (v := .int _ _) rfl) ?_
    refine p0 rfl (x_move (v := .int _ _) rfl) ?_
    refine p0 rfl (x_mul rfl rfl (by omega)) ?_
    refine p0 rfl (x_sub rfl rfl (by omega)) ?_
    refine p0 rfl (x_idx so33 rfl rfl oA.sl (by decide) (by omega) (by omega)) ?_
    refine ps rfl (fun wq hwq => x_ldi sc3 rfl (qoA.ext hwq).sl (by omega) (by omega)) ?_
    refine p0 rfl (x_fieldAddr fa85_2 rfl) ?_
    refine ps rfl (fun wq hwq => x_loadB sc33 rfl (qB1.ext hwq) rfl) ?_
    refine p0 rfl (x_move (v := .int _ _) rfl) ?_
    refine p0 rfl (x_move (v := .int _ _) rfl) ?_
    refine p0 rfl (x_sub rfl rfl (by omega)) ?_
    refine p0 rfl (x_idx so33 rfl rfl oA.sl (by decide) (by omega) (by omega)) ?_
    refine ps rfl (fun wq hwq => x_ldi sc3 rfl (qoA.ext hwq).sl (by omega) (by omega)) ?_
    refine p0 rfl (x_fieldAddr fa85_2 rfl) ?_
    refine ps rfl (fun wq hwq => x_loadB sc33 rfl (qB1.ext hwq) rfl) ?_
    refine p0 rfl (x_move (v := .int _ _) rfl) ?_
    refine p0 rfl (x_idx so33 rfl rfl oA.sl (by decide) (by omega) (by omega)) ?_
    refine ps rfl (fun wq hwq => x_ldi sc3 rfl (qoA.ext hwq).sl (by omega) (by omega)) ?_
    refine p0 rfl (x_fieldAddr fa85_2 rfl) ?_
    refine ps rfl (fun wq hwq => x_loadB sc33 rfl (qB1.ext hwq) rfl) ?_
    refine p0 rfl (x_move (v := .int _ _) rfl) ?_
    refine p0 rfl (x_move (v := .int _ _) rfl) ?_
    refine p0 rfl (x_add rfl rfl (by omega)) ?_
    refine p0 rfl (x_idx so33 rfl rfl oA.sl (by decide) (by omega) (by omega)) ?_
    refine ps rfl (fun wq hwq => x_ldi sc3 rfl (qoA.ext hwq).sl (by omega) (by omega)) ?_
    refine p0 rfl (x_move (v := .int _ _) rfl) ?_
    refine pu rfl ?_ (by rintro ⟨_, _, h, _⟩; cases h)
    refine sr (zcall cl168 rfl) (s_edgeOf _ _ _ _ _ _) ?_
    intro w13 l14
    have z_l14 := l14.size
    have L := L.tr l14.up
    have Lq := Lq.tr l14.up
    have B1 := B1.ext l14
    have B4 := B4.ext l14
    have B7 := B7.ext l14
    have oA := oA.ext l14
    refine c_end ⟨rfl, fun h hS => Lq, ?_⟩
    refine p0 rfl (x_move (v := .tuple _) rfl) ?_
    refine p0 rfl (x_extract rfl rfl) ?_
    refine p0 rfl (x_extract rfl rfl) ?_
    refine p0 rfl (x_assign (v := .int _ _) rfl) ?_
    refine p0 rfl (x_assign (v := .int _ _) rfl) ?_
    refine p_nil (np_normal ?_)
    refine n_then ?_
    refine wp_seq ?_
    refine c_reg ?_
    refine s0 (x_fieldAddr fa85_2 rfl) ?_
    refine st (x_loadB sc33 rfl B4 rfl) ?_
    refine s0 (x_move (v := .int _ _) rfl) ?_
    refine s0 (x_move (v := .int _ _) rfl) ?_
    refine s0 (x_sub rfl rfl (by omega)) ?_
    refine s0 (x_move (v := .int _ _) rfl) ?_
    refine s0 (x_idx so33 rfl rfl oA.sl (by decide) (by omega) (by omega)) ?_
    refine s_stoi rfl sz3 rfl rfl oA (by omega) (by omega) ?_
    intro w15 l16 el16 oA
    have z_l16 := l16.size
    have L := L.withinL l16 (by simp)
    have B1 := B1.exm l16 (by first | assumption | exact nin_of fA gA (by omega))
    have B4 := B4.exm l16 (by first | assumption | exact nin_of fA gA (by omega))
    have B7 := B7.exm l16 (by first | assumption | exact nin_of fA gA (by omega))
    have hnl16 := oA.n1
    refine c_end ?_
    refine n_then ?_
    refine c_reg ?_
    refine s0 (x_fieldAddr fa85_2 rfl) ?_
    refine st (x_loadB sc33 rfl B4 rfl) ?_
    refine s0 (x_move (v := .int _ _) rfl) ?_
    refine s0 (x_move (v := .int _ _) rfl) ?_
    refine s0 (x_idx so33 rfl rfl oA.sl (by decide) (by omega) (by omega)) ?_
    refine s_stoi rfl sz3 rfl rfl oA (by omega) (by omega) ?_
    intro w17 l18 el18 oA
    have z_l18 := l18.size
    have L := L.withinL l18 (by simp)
    have B1 := B1.exm l18 (by first | assumption | exact nin_of fA gA (by omega))
    have B4 := B4.exm l18 (by first | assumption | exact nin_of fA gA (by omega))
    have B7 := B7.exm l18 (by first | assumption | exact nin_of fA gA (by omega))
    have hnl18 := oA.n1
    refine c_end ?_
    refine n_block ?_
    refine n_then ?_
    refine c_reg ?_
    refine s0 (x_move (v := .int _ _) rfl) ?_
    refine s0 (x_add rfl rfl (by omega)) ?_
    refine s0 (x_assign (v := .int _ _) rfl) ?_
    refine c_end ?_
    exact c_round (g' := i + 1) (by omega) ⟨_, upd_self7 rfl rfl rfl rfl rfl rfl (vint (by omega)), L, (by omega), B1, B4, B7, (by rw [hRow_succ, egs_snoc]; exact oA), (by omega)⟩
  · refine c_end ?_
    refine n_then ?_
    refine c_false rfl ?_
    refine wp_exit (e_then (e_then (e_here ?_)))
    refine n_then ?_
    refine wp_seq ?_
    refine c_reg ?_
    refine st (x_loadAgB ag85 rfl B4 rfl) ?_
    refine s_storeAg rfl sz85 rfl rfl B7 rfl rfl rfl ?_
    intro w19 l20 el20 B7
    have z_l20 := l20.size
    have L := L.fresh l20 (by omega)
    have B1 := B1.ne l20 (by omega)
    have B4 := B4.ne l20 (by omega)
    have oA := oA.ne l20 (by first | assumption | exact nin_of fA gA (by omega))
    refine c_end ?_
    refine n_then ?_
    refine wp_ret ?_
    refine f_retc rfl rfl ag85 B7 rfl ?_
    obtain hje : i = W.toNat := by omega
    rw [hje] at oA
    exact ⟨_, rfl, L, rfl, oA⟩

/-- impl.VertRow -/
theorem i_vertRow (W H q r : Int) (p : Option Addr) (n c : Nat) (xs : List Int) (w : World) (hp : Sl w p n c 1 (ic xs)) (hl : n ≤ 1048576) :
    Calls Try.prog 68 [.agg [.int .i64 W, .int .i64 H, .slice p n c].toArray, .int .i64 q, .int .i64 r].toArray w (RetP w fun v w' => ∃ p' c' F', v = .agg [.int .i64 W, .int .i64 H, .slice p' n c'].toArray ∧ Own w' p' n c' 3 1 (ic (vertOf W H q r xs)) F' ∧ Fr w.heap.size F') := by
  have hn0 := hp.n
  have L : Exm [] w w := Exm.rfl'
  refine enter (n := 30) Try.func68 rfl rfl rfl ?_
  refine wp_seq ?_
  refine c_reg ?_
  refine s_box rfl rfl ?_
  intro b1 w2 lob1 hib1 l3 B1
  have z_l3 := l3.size
  have L := L.tr l3.up
  refine s_alloc zr85 ?_
  intro b4 w5 lob4 hib4 l6 B4
  have z_l6 := l6.size
  have L := L.tr l6.up
  have B1 := B1.ext l6
  refine c_end ?_
  refine n_then ?_
  refine wp_seq ?_
  refine c_reg ?_
  refine st (x_loadAgB ag85 rfl B1 rfl) ?_
  refine sp (zcall cl120 rfl) (i_own _ _ _ _ _ _ _ (hp.ext L) (by omega)) ?_
  rintro v9 w7 l8 ⟨p9, c9, F9, rfl, o9, f9⟩
  have z_l8 := l8.size
  have L := L.tr l8.up
  have B1 := B1.ext l8
  have B4 := B4.ext l8
  have g9 := o9.lt
  refine s_alloc zr85 ?_
  intro b9 w10 lob9 hib9 l11 B9
  have z_l11 := l11.size
  have L := L.tr l11.up
  have B1 := B1.ext l11
  have B4 := B4.ext l11
  have o9 := o9.ext l11
  refine s_storeAg rfl sz85 rfl rfl B9 rfl rfl rfl ?_
  intro w12 l13 el13 B9
  have z_l13 := l13.size
  have L := L.fresh l13 (by omega)
  have B1 := B1.ne l13 (by omega)
  have B4 := B4.ne l13 (by omega)
  have o9 := o9.ne l13 (by first | assumption | exact nin_of f9 g9 (by omega))
  refine c_end ?_
  refine n_then ?_
  refine wp_seq ?_
  refine wp_seq ?_
  refine c_reg ?_
  refine st (x_loadAgB ag85 rfl B1 rfl) ?_
  refine s0 (x_move (v := .int _ _) rfl) ?_
  refine srb (zcall cl121 rfl) (i_filtered _ _ _ _ _ _ _ _ (hp.ext L) (by omega)) (fun h12 w14 l15 => ?_) (fun h12 w14 l15 => ?_)
  · have z_l15 := l15.size
    have L := L.tr l15.up
    have B1 := B1.ext l15
    have B4 := B4.ext l15
    have B9 := B9.ext l15
    have o9 := o9.ext l15
    refine s0 (x_move (v := .bool _) rfl) ?_
    refine gt rfl rfl rfl rfl ?_
    refine s0 (x_move (v := .int _ _) rfl) ?_
    refine gt rfl rfl rfl rfl ?_
    refine s0 (x_fieldAddr fa85_1 rfl) ?_
    refine gt rfl rfl rfl rfl ?_
    refine st (x_loadB sc3 rfl B1 rfl) ?_
    refine gt rfl rfl rfl rfl ?_
    refine s0 (x_quo rfl rfl (by have hg := fr_geo h12.1; omega) (by have hg := fr_geo h12.1; omega)) ?_
    refine gt rfl rfl rfl rfl ?_
    refine s0 (x_sub rfl rfl (by have hg := fr_geo h12.1; omega)) ?_
    refine gt rfl rfl rfl rfl ?_
    refine srb (zcall cl95 rfl) (i_within _ _ _ _) (fun h19 w16 l17 => ?_) (fun h19 w16 l17 => ?_)
    · have z_l17 := l17.size
      have L := L.tr l17.up
      have B1 := B1.ext l17
      have B4 := B4.ext l17
      have B9 := B9.ext l17
      have o9 := o9.ext l17
      refine s0 (x_pickt (v := .bool _) rfl rfl) ?_
      refine c_end ?_
      refine n_then ?_
      refine c_true rfl ?_
      have hg := fr_geo h12.1
      refine c_reg ?_
      refine st (x_loadAgB ag85 rfl B9 rfl) ?_
      refine s0 (x_move (v := .int _ _) rfl) ?_
      refine s0 (x_mul rfl rfl (by omega)) ?_
      refine s0 (x_move (v := .int _ _) rfl) ?_
      refine s0 (x_mul rfl rfl (by omega)) ?_
      refine s0 (x_add rfl rfl (by omega)) ?_
      refine s0 (x_move (v := .int _ _) rfl) ?_
      refine spm (zcall cl122 rfl) (i_vertical _ _ _ _ _ _ _ _ _ _ _ o9 (by omega) (by omega) (by omega) (by omega) (by omega) (by omega)) ?_
      rintro v28 w18 l19 o9
      have z_l19 := l19.size
      have L := L.freshL l19 f9 (by omega)
      have B1 := B1.exm l19 (by first | assumption | exact nin_of f9 g9 (by omega))
      have B4 := B4.exm l19 (by first | assumption | exact nin_of f9 g9 (by omega))
      have B9 := B9.exm l19 (by first | assumption | exact nin_of f9 g9 (by omega))
      refine c_end ?_
      refine n_then ?_
      refine wp_seq ?_
      refine c_reg ?_
      refine st (x_loadAgB ag85 rfl B9 rfl) ?_
      refine s_storeAg rfl sz85 rfl rfl B4 rfl rfl rfl ?_
      intro w20 l21 el21 B4
      have z_l21 := l21.size
      have L := L.fresh l21 (by omega)
      have B1 := B1.ne l21 (by omega)
      have B9 := B9.ne l21 (by omega)
      have o9 := o9.ne l21 (by first | assumption | exact nin_of f9 g9 (by omega))
      refine c_end ?_
      refine n_then ?_
      refine wp_ret ?_
      refine f_retc rfl rfl ag85 B4 rfl ?_
      rw [vert_yes h12 (by omega) (by omega)]
      exact ⟨_, rfl, L, _, _, _, rfl, o9, f9.mono (by omega)⟩
    · have z_l17 := l17.size
      have L := L.tr l17.up
      have B1 := B1.ext l17
      have B4 := B4.ext l17
      have B9 := B9.ext l17
      have o9 := o9.ext l17
      refine s0 (x_pickt (v := .bool _) rfl rfl) ?_
      refine c_end ?_
      refine n_then ?_
      refine c_false rfl ?_
      refine c_skipn ?_
      refine n_then ?_
      refine wp_seq ?_
      refine c_reg ?_
      refine st (x_loadAgB ag85 rfl B9 rfl) ?_
      refine s_storeAg rfl sz85 rfl rfl B4 rfl rfl rfl ?_
      intro w22 l23 el23 B4
      have z_l23 := l23.size
      have L := L.fresh l23 (by omega)
      have B1 := B1.ne l23 (by omega)
      have B9 := B9.ne l23 (by omega)
      have o9 := o9.ne l23 (by first | assumption | exact nin_of f9 g9 (by omega))
      refine c_end ?_
      refine n_then ?_
      refine wp_ret ?_
      refine f_retc rfl rfl ag85 B4 rfl ?_
      rw [vert_no (fun h => h19 h.2)]
      exact ⟨_, rfl, L, _, _, _, rfl, o9, f9.mono (by omega)⟩
  · have z_l15 := l15.size
    have L := L.tr l15.up
    have B1 := B1.ext l15
    have B4 := B4.ext l15
    have B9 := B9.ext l15
    have o9 := o9.ext l15
    refine s0 (x_move (v := .bool _) rfl) ?_
    refine gf rfl rfl rfl rfl ?_
    refine gf rfl rfl rfl rfl ?_
    refine gf rfl rfl rfl rfl ?_
    refine gf rfl rfl rfl rfl ?_
    refine gf rfl rfl rfl rfl ?_
    refine gf rfl rfl rfl rfl ?_
    refine s0 (x_pickf (v := .bool _) rfl rfl) ?_
    refine c_end ?_
    refine n_then ?_
    refine c_false rfl ?_
    refine c_skipn ?_
    refine n_then ?_
    refine wp_seq ?_
    refine c_reg ?_
    refine st (x_loadAgB ag85 rfl B9 rfl) ?_
    refine s_storeAg rfl sz85 rfl rfl B4 rfl rfl rfl ?_
    intro w24 l25 el25 B4
    have z_l25 := l25.size
    have L := L.fresh l25 (by omega)
    have B1 := B1.ne l25 (by omega)
    have B9 := B9.ne l25 (by omega)
    have o9 := o9.ne l25 (by first | assumption | exact nin_of f9 g9 (by omega))
    refine c_end ?_
    refine n_then ?_
    refine wp_ret ?_
    refine f_retc rfl rfl ag85 B4 rfl ?_
    rw [vert_no (fun h => h12 h.1)]
    exact ⟨_, rfl, L, _, _, _, rfl, o9, f9.mono (by omega)⟩

/-- impl.HorRow -/
theorem i_horRow (W H q r : Int) (p : Option Addr) (n c : Nat) (xs : List Int) (w : World) (hp : Sl w p n c 1 (ic xs)) (hl : n ≤ 1048576) :
    Calls Try.prog 69 [.agg [.int .i64 W, .int .i64 H, .slice p n c].toArray, .int .i64 q, .int .i64 r].toArray w (RetP w fun v w' => ∃ p' c' F', v = .agg [.int .i64 W, .int .i64 H, .slice p' n c'].toArray ∧ Own w' p' n c' 3 1 (ic (horOf W H q r xs)) F' ∧ Fr w.heap.size F') := by
  have hn0 := hp.n
  have L : Exm [] w w := Exm.rfl'
  refine enter (n := 27) Try.func69 rfl rfl rfl ?_
  refine wp_seq ?_
  refine c_reg ?_
  refine s_box rfl rfl ?_
  intro b1 w2 lob1 hib1 l3 B1
  have z_l3 := l3.size
  have L := L.tr l3.up
  refine s_alloc zr85 ?_
  intro b4 w5 lob4 hib4 l6 B4
  have z_l6 := l6.size
  have L := L.tr l6.up
  have B1 := B1.ext l6
  refine c_end ?_
  refine n_then ?_
  refine wp_seq ?_
  refine c_reg ?_
  refine st (x_loadAgB ag85 rfl B1 rfl) ?_
  refine sp (zcall cl120 rfl) (i_own _ _ _ _ _ _ _ (hp.ext L) (by omega)) ?_
  rintro v9 w7 l8 ⟨p9, c9, F9, rfl, o9, f9⟩
  have z_l8 := l8.size
  have L := L.tr l8.up
  have B1 := B1.ext l8
  have B4 := B4.ext l8
  have g9 := o9.lt
  refine s_alloc zr85 ?_
  intro b9 w10 lob9 hib9 l11 B9
  have z_l11 := l11.size
  have L := L.tr l11.up
  have B1 := B1.ext l11
  have B4 := B4.ext l11
  have o9 := o9.ext l11
  refine s_storeAg rfl sz85 rfl rfl B9 rfl rfl rfl ?_
  intro w12 l13 el13 B9
  have z_l13 := l13.size
  have L := L.fresh l13 (by omega)
  have B1 := B1.ne l13 (by omega)
  have B4 := B4.ne l13 (by omega)
  have o9 := o9.ne l13 (by first | assumption | exact nin_of f9 g9 (by omega))
  refine c_end ?_
  refine n_then ?_
  refine wp_seq ?_
  refine wp_seq ?_
  refine c_reg ?_
  refine st (x_loadAgB ag85 rfl B1 rfl) ?_
  refine s0 (x_move (v := .int _ _) rfl) ?_
  refine srb (zcall cl121 rfl) (i_filtered _ _ _ _ _ _ _ _ (hp.ext L) (by omega)) (fun h12 w14 l15 => ?_) (fun h12 w14 l15 => ?_)
  · have z_l15 := l15.size
    have L := L.tr l15.up
    have B1 := B1.ext l15
    have B4 := B4.ext l15
    have B9 := B9.ext l15
    have o9 := o9.ext l15
    refine s0 (x_move (v := .bool _) rfl) ?_
    refine gt rfl rfl rfl rfl ?_
    refine s0 (x_move (v := .int _ _) rfl) ?_
    refine gt rfl rfl rfl rfl ?_
    refine s0 (x_fieldAddr fa85_1 rfl) ?_
    refine gt rfl rfl rfl rfl ?_
    refine st (x_loadB sc3 rfl B1 rfl) ?_
    refine gt rfl rfl rfl rfl ?_
    refine s0 (x_quo rfl rfl (by have hg := fr_geo h12.1; omega) (by have hg := fr_geo h12.1; omega)) ?_
    refine gt rfl rfl rfl rfl ?_
    refine s0 (x_sub rfl rfl (by have hg := fr_geo h12.1; omega)) ?_
    refine gt rfl rfl rfl rfl ?_
    refine srb (zcall cl95 rfl) (i_within _ _ _ _) (fun h19 w16 l17 => ?_) (fun h19 w16 l17 => ?_)
    · have z_l17 := l17.size
      have L := L.tr l17.up
      have B1 := B1.ext l17
      have B4 := B4.ext l17
      have B9 := B9.ext l17
      have o9 := o9.ext l17
      refine s0 (x_pickt (v := .bool _) rfl rfl) ?_
      refine c_end ?_
      refine n_then ?_
      refine c_true rfl ?_
      have hg := fr_geo h12.1
      refine c_reg ?_
      refine st (x_loadAgB ag85 rfl B9 rfl) ?_
      refine s0 (x_move (v := .int _ _) rfl) ?_
      refine s0 (x_mul rfl rfl (by omega)) ?_
      refine s0 (x_move (v := .int _ _) rfl) ?_
      refine spm (zcall cl123 rfl) (i_horizontal _ _ _ _ _ _ _ _ _ _ o9 (by omega) (by omega) (by omega) (by omega) (by omega) (by omega)) ?_
      rintro v25 w18 l19 o9
      have z_l19 := l19.size
      have L := L.freshL l19 f9 (by omega)
      have B1 := B1.exm l19 (by first | assumption | exact nin_of f9 g9 (by omega))
      have B4 := B4.exm l19 (by first | assumption | exact nin_of f9 g9 (by omega))
      have B9 := B9.exm l19 (by first | assumption | exact nin_of f9 g9 (by omega))
      refine c_end ?_
      refine n_then ?_
      refine wp_seq ?_
      refine c_reg ?_
      refine st (x_loadAgB ag85 rfl B9 rfl) ?_
      refine s_storeAg rfl sz85 rfl rfl B4 rfl rfl rfl ?_
      intro w20 l21 el21 B4
      have z_l21 := l21.size
      have L := L.fresh l21 (by omega)
      have B1 := B1.ne l21 (by omega)
      have B9 := B9.ne l21 (by omega)
      have o9 := o9.ne l21 (by first | assumption | exact nin_of f9 g9 (by omega))
      refine c_end ?_
      refine n_then ?_
      refine wp_ret ?_
      refine f_retc rfl rfl ag85 B4 rfl ?_
      rw [hor_yes h12 (by omega) (by omega)]
      exact ⟨_, rfl, L, _, _, _, rfl, o9, f9.mono (by omega)⟩
    · have z_l17 := l17.size
      have L := L.tr l17.up
      have B1 := B1.ext l17
      have B4 := B4.ext l17
      have B9 := B9.ext l17
      have o9 := o9.ext l17
      refine s0 (x_pickt (v := .bool _) rfl rfl) ?_
      refine c_end ?_
      refine n_then ?_
      refine c_false rfl ?_
      refine c_skipn ?_
      refine n_then ?_
      refine wp_seq ?_
      refine c_reg ?_
      refine st (x_loadAgB ag85 rfl B9 rfl) ?_
      refine s_storeAg rfl sz85 rfl rfl B4 rfl rfl rfl ?_
      intro w22 l23 el23 B4
      have z_l23 := l23.size
      have L := L.fresh l23 (by omega)
      have B1 := B1.ne l23 (by omega)
      have B9 := B9.ne l23 (by omega)
      have o9 := o9.ne l23 (by first | assumption | exact nin_of f9 g9 (by omega))
      refine c_end ?_
      refine n_then ?_
      refine wp_ret ?_
      refine f_retc rfl rfl ag85 B4 rfl ?_
      rw [hor_no (fun h => h19 h.2)]
      exact ⟨_, rfl, L, _, _, _, rfl, o9, f9.mono (by omega)⟩
  · have z_l15 := l15.size
    have L := L.tr l15.up
    have B1 := B1.ext l15
    have B4 := B4.ext l15
    have B9 := B9.ext l15
    have o9 := o9.ext l15
    refine s0 (x_move (v := .bool _) rfl) ?_
    refine gf rfl rfl rfl rfl ?_
    refine gf rfl rfl rfl rfl ?_
    refine gf rfl rfl rfl rfl ?_
    refine gf rfl rfl rfl rfl ?_
    refine gf rfl rfl rfl rfl ?_
    refine gf rfl rfl rfl rfl ?_
    refine s0 (x_pickf (v := .bool _) rfl rfl) ?_
    refine c_end ?_
    refine n_then ?_
    refine c_false rfl ?_
    refine c_skipn ?_
    refine n_then ?_
    refine wp_seq ?_
    refine c_reg ?_
    refine st (x_loadAgB ag85 rfl B9 rfl) ?_
    refine s_storeAg rfl sz85 rfl rfl B4 rfl rfl rfl ?_
    intro w24 l25 el25 B4
    have z_l25 := l25.size
    have L := L.fresh l25 (by omega)
    have B1 := B1.ne l25 (by omega)
    have B9 := B9.ne l25 (by omega)
    have o9 := o9.ne l25 (by first | assumption | exact nin_of f9 g9 (by omega))
    refine c_end ?_
    refine n_then ?_
    refine wp_ret ?_
    refine f_retc rfl rfl ag85 B4 rfl ?_
    rw [hor_no (fun h => h12 h.1)]
    exact ⟨_, rfl, L, _, _, _, rfl, o9, f9.mono (by omega)⟩

/-- spec.l21Ok -/
theorem s_l21Ok (W H q r : Int) (p : Option Addr) (n c : Nat) (xs : List Int) (w : World) (hp : Sl w p n c 1 (ic xs)) (hl : n ≤ 1048576) :
    Calls Try.prog 125 [.agg [.int .i64 W, .int .i64 H, .slice p n c].toArray, .int .i64 q, .int .i64 r].toArray w (Ret w (.bool (decide (fqOk W H q xs ∧ 0 ≤ r ∧ r ≤ H / 8 - 1)))) := by
  have L : Exm [] w w := Exm.rfl'
  refine enter (n := 22) Try.func125 rfl rfl rfl ?_
  refine wp_seq ?_
  refine c_reg ?_
  refine s_box rfl rfl ?_
  intro b1 w2 lob1 hib1 l3 B1
  have z_l3 := l3.size
  have L := L.tr l3.up
  refine s0 (x_assign (v := .bool _) rfl) ?_
  refine c_end ?_
  refine n_then ?_
  refine wp_seq ?_
  refine c_reg ?_
  refine st (x_loadAgB ag85 rfl B1 rfl) ?_
  refine srb (zcall cl73 rfl) (s_frameOk _ _ _ _ _ _ _ (hp.ext L) (by omega)) (fun h8 w4 l5 => ?_) (fun h8 w4 l5 => ?_)
  · have z_l5 := l5.size
    have L := L.tr l5.up
    have B1 := B1.ext l5
    refine s0 (x_move (v := .bool _) rfl) ?_
    refine gt rfl rfl rfl rfl ?_
    refine s0 (x_move (v := .int _ _) rfl) ?_
    refine gt rfl rfl rfl rfl ?_
    refine sr (zcall cl130 rfl) (s_alphaOf _ _) ?_
    intro w6 l7
    have z_l7 := l7.size
    have L := L.tr l7.up
    have B1 := B1.ext l7
    refine gt rfl rfl rfl rfl ?_
    refine sb (x_gtr rfl rfl) (fun h12 => ?_) (fun h12 => ?_)
    · refine s0 (x_pickt (v := .bool _) rfl rfl) ?_
      refine s0 (x_move (v := .bool _) rfl) ?_
      refine gt rfl rfl rfl rfl ?_
      refine s0 (x_move (v := .int _ _) rfl) ?_
      refine gt rfl rfl rfl rfl ?_
      refine s0 (x_fieldAddr fa85_1 rfl) ?_
      refine gt rfl rfl rfl rfl ?_
      refine st (x_loadB sc3 rfl B1 rfl) ?_
      refine gt rfl rfl rfl rfl ?_
      refine s0 (x_quo rfl rfl (by have hg := fr_geo h8; omega) (by have hg := fr_geo h8; omega)) ?_
      refine gt rfl rfl rfl rfl ?_
      refine s0 (x_sub rfl rfl (by have hg := fr_geo h8; omega)) ?_
      refine gt rfl rfl rfl rfl ?_
      refine sr (zcall cl114 rfl) (s_l1In _ _ _ _) ?_
      intro w8 l9
      have z_l9 := l9.size
      have L := L.tr l9.up
      have B1 := B1.ext l9
      refine s0 (x_pickt (v := .bool _) rfl rfl) ?_
      refine s0 (x_assign (v := .bool _) rfl) ?_
      refine c_end ?_
      refine n_then ?_
      refine wp_ret ?_
      refine f_ret rfl rfl ?_
      exact ⟨ret_dec2 ⟨fun h => ⟨⟨h8, (alpha_pos q).1 h12⟩, h⟩, fun h => h.2⟩, L⟩
    · refine s0 (x_pickt (v := .bool _) rfl rfl) ?_
      refine s0 (x_move (v := .bool _) rfl) ?_
      refine gf rfl rfl rfl rfl ?_
      refine gf rfl rfl rfl rfl ?_
      refine gf rfl rfl rfl rfl ?_
      refine gf rfl rfl rfl rfl ?_
      refine gf rfl rfl rfl rfl ?_
      refine gf rfl rfl rfl rfl ?_
      refine s0 (x_pickf (v := .bool _) rfl rfl) ?_
      refine s0 (x_assign (v := .bool _) rfl) ?_
      refine c_end ?_
      refine n_then ?_
      refine wp_ret ?_
      refine f_ret rfl rfl ?_
      exact ⟨ret_f (fun h => h12 ((alpha_pos q).2 h.1.2)), L⟩
  · have z_l5 := l5.size
    have L := L.tr l5.up
    have B1 := B1.ext l5
    refine s0 (x_move (v := .bool _) rfl) ?_
    refine gf rfl rfl rfl rfl ?_
    refine gf rfl rfl rfl rfl ?_
    refine gf rfl rfl rfl rfl ?_
    refine s0 (x_pickf (v := .bool _) rfl rfl) ?_
    refine s0 (x_move (v := .bool _) rfl) ?_
    refine gf rfl rfl rfl rfl ?_
    refine gf rfl rfl rfl rfl ?_
    refine gf rfl rfl rfl rfl ?_
    refine gf rfl rfl rfl rfl ?_
    refine gf rfl rfl rfl rfl ?_
    refine gf rfl rfl rfl rfl ?_
    refine s0 (x_pickf (v := .bool _) rfl rfl) ?_
    refine s0 (x_assign (v := .bool _) rfl) ?_
    refine c_end ?_
    refine n_then ?_
    refine wp_ret ?_
    refine f_ret rfl rfl ?_
    exact ⟨ret_f (fun h => h8 h.1.1), L⟩

/-- spec.VertRow -/
theorem s_vertRow (W H q r : Int) (p : Option Addr) (n c : Nat) (xs : List Int) (w : World) (hp : Sl w p n c 1 (ic xs)) (hl : n ≤ 1048576) :
    Calls Try.prog 71 [.agg [.int .i64 W, .int .i64 H, .slice p n c].toArray, .int .i64 q, .int .i64 r].toArray w (RetP w fun v w' => ∃ p' c' F', v = .agg [.int .i64 W, .int .i64 H, .slice p' n c'].toArray ∧ Own w' p' n c' 3 1 (ic (vertOf W H q r xs)) F' ∧ Fr w.heap.size F') := by
  have hn0 := hp.n
  have L : Exm [] w w := Exm.rfl'
  refine enter (n := 25) Try.func71 rfl rfl rfl ?_
  refine wp_seq ?_
  refine c_reg ?_
  refine s_box rfl rfl ?_
  intro b1 w2 lob1 hib1 l3 B1
  have z_l3 := l3.size
  have L := L.tr l3.up
  refine s_alloc zr85 ?_
  intro b4 w5 lob4 hib4 l6 B4
  have z_l6 := l6.size
  have L := L.tr l6.up
  have B1 := B1.ext l6
  refine c_end ?_
  refine n_then ?_
  refine wp_seq ?_
  refine c_reg ?_
  refine st (x_loadAgB ag85 rfl B1 rfl) ?_
  refine sp (zcall cl124 rfl) (s_copy _ _ _ _ _ _ _ (hp.ext L) (by omega)) ?_
  rintro v9 w7 l8 ⟨p9, c9, F9, rfl, o9, f9⟩
  have z_l8 := l8.size
  have L := L.tr l8.up
  have B1 := B1.ext l8
  have B4 := B4.ext l8
  have g9 := o9.lt
  refine s_alloc zr85 ?_
  intro b9 w10 lob9 hib9 l11 B9
  have z_l11 := l11.size
  have L := L.tr l11.up
  have B1 := B1.ext l11
  have B4 := B4.ext l11
  have o9 := o9.ext l11
  refine s_storeAg rfl sz85 rfl rfl B9 rfl rfl rfl ?_
  intro w12 l13 el13 B9
  have z_l13 := l13.size
  have L := L.fresh l13 (by omega)
  have B1 := B1.ne l13 (by omega)
  have B4 := B4.ne l13 (by omega)
  have o9 := o9.ne l13 (by first | assumption | exact nin_of f9 g9 (by omega))
  refine c_end ?_
  refine n_then ?_
  refine wp_seq ?_
  refine wp_seq ?_
  refine c_reg ?_
  refine st (x_loadAgB ag85 rfl B1 rfl) ?_
  refine s0 (x_move (v := .int _ _) rfl) ?_
  refine s0 (x_move (v := .int _ _) rfl) ?_
  refine srb (zcall cl125 rfl) (s_l21Ok _ _ _ _ _ _ _ _ _ (hp.ext L) (by omega)) (fun h13 w14 l15 => ?_) (fun h13 w14 l15 => ?_)
  · have z_l15 := l15.size
    have L := L.tr l15.up
    have B1 := B1.ext l15
    have B4 := B4.ext l15
    have B9 := B9.ext l15
    have o9 := o9.ext l15
    refine s0 (x_not rfl) ?_
    refine c_end ?_
    refine n_then ?_
    refine c_false rfl ?_
    refine c_skipn ?_
    refine n_then ?_
    refine wp_seq ?_
    have hg := fr_geo h13.1.1
    refine c_reg ?_
    refine st (x_loadAgB ag85 rfl B9 rfl) ?_
    refine st (x_loadAgB ag85 rfl B9 rfl) ?_
    refine s0 (x_move (v := .int _ _) rfl) ?_
    refine s0 (x_move (v := .int _ _) rfl) ?_
    refine s0 (x_mul rfl rfl (by omega)) ?_
    refine s0 (x_move (v := .int _ _) rfl) ?_
    refine s0 (x_mul rfl rfl (by omega)) ?_
    refine s0 (x_add rfl rfl (by omega)) ?_
    refine spm (zcall cl126 rfl) (s_across _ _ _ _ _ _ _ _ _ _ _ o9 (by omega) (by omega) (by omega) (by omega) (by omega) (by omega)) ?_
    rintro v24 w16 l17 ⟨rfl, o9⟩
    have z_l17 := l17.size
    have L := L.freshL l17 f9 (by omega)
    have B1 := B1.exm l17 (by first | assumption | exact nin_of f9 g9 (by omega))
    have B4 := B4.exm l17 (by first | assumption | exact nin_of f9 g9 (by omega))
    have B9 := B9.exm l17 (by first | assumption | exact nin_of f9 g9 (by omega))
    refine s_storeAg rfl sz85 rfl rfl B4 rfl rfl rfl ?_
    intro w18 l19 el19 B4
    have z_l19 := l19.size
    have L := L.fresh l19 (by omega)
    have B1 := B1.ne l19 (by omega)
    have B9 := B9.ne l19 (by omega)
    have o9 := o9.ne l19 (by first | assumption | exact nin_of f9 g9 (by omega))
    refine c_end ?_
    refine n_then ?_
    refine wp_ret ?_
    refine f_retc rfl rfl ag85 B4 rfl ?_
    rw [vert_yes h13.1 (by omega) (by omega)]
    exact ⟨_, rfl, L, _, _, _, rfl, o9, f9.mono (by omega)⟩
  · have z_l15 := l15.size
    have L := L.tr l15.up
    have B1 := B1.ext l15
    have B4 := B4.ext l15
    have B9 := B9.ext l15
    have o9 := o9.ext l15
    refine s0 (x_not rfl) ?_
    refine c_end ?_
    refine n_then ?_
    refine c_true rfl ?_
    refine wp_seq ?_
    refine c_reg ?_
    refine st (x_loadAgB ag85 rfl B9 rfl) ?_
    refine s_storeAg rfl sz85 rfl rfl B4 rfl rfl rfl ?_
    intro w20 l21 el21 B4
    have z_l21 := l21.size
    have L := L.fresh l21 (by omega)
    have B1 := B1.ne l21 (by omega)
    have B9 := B9.ne l21 (by omega)
    have o9 := o9.ne l21 (by first | assumption | exact nin_of f9 g9 (by omega))
    refine c_end ?_
    refine n_then ?_
    refine wp_ret (r_then ?_)
    refine f_retc rfl rfl ag85 B4 rfl ?_
    rw [vert_no h13]
    exact ⟨_, rfl, L, _, _, _, rfl, o9, f9.mono (by omega)⟩

/-- spec.HorRow -/
theorem s_horRow (W H q r : Int) (p : Option Addr) (n c : Nat) (xs : List Int) (w : World) (hp : Sl w p n c 1 (ic xs)) (hl : n ≤ 1048576) :
    Calls Try.prog 72 [.agg [.int .i64 W, .int .i64 H, .slice p n c].toArray, .int .i64 q, .int .i64 r].toArray w (RetP w fun v w' => ∃ p' c' F', v = .agg [.int .i64 W, .int .i64 H, .slice p' n c'].toArray ∧ Own w' p' n c' 3 1 (ic (horOf W H q r xs)) F' ∧ Fr w.heap.size F') := by
  have hn0 := hp.n
  have L : Exm [] w w := Exm.rfl'
  refine enter (n := 26) Try.func72 rfl rfl rfl ?_
  refine wp_seq ?_
  refine c_reg ?_
  refine s_box rfl rfl ?_
  intro b1 w2 lob1 hib1 l3 B1
  have z_l3 := l3.size
  have L := L.tr l3.up
  refine s_alloc zr85 ?_
  intro b4 w5 lob4 hib4 l6 B4
  have z_l6 := l6.size
  have L := L.tr l6.up
  have B1 := B1.ext l6
  refine c_end ?_
  refine n_then ?_
  refine wp_seq ?_
  refine c_reg ?_
  refine st (x_loadAgB ag85 rfl B1 rfl) ?_
  refine sp (zcall cl124 rfl) (s_copy _ _ _ _ _ _ _ (hp.ext L) (by omega)) ?_
  rintro v9 w7 l8 ⟨p9, c9, F9, rfl, o9, f9⟩
  have z_l8 := l8.size
  have L := L.tr l8.up
  have B1 := B1.ext l8
  have B4 := B4.ext l8
  have g9 := o9.lt
  refine s_alloc zr85 ?_
  intro b9 w10 lob9 hib9 l11 B9
  have z_l11 := l11.size
  have L := L.tr l11.up
  have B1 := B1.ext l11
  have B4 := B4.ext l11
  have o9 := o9.ext l11
  refine s_storeAg rfl sz85 rfl rfl B9 rfl rfl rfl ?_
  intro w12 l13 el13 B9
  have z_l13 := l13.size
  have L := L.fresh l13 (by omega)
  have B1 := B1.ne l13 (by omega)
  have B4 := B4.ne l13 (by omega)
  have o9 := o9.ne l13 (by first | assumption | exact nin_of f9 g9 (by omega))
  refine c_end ?_
  refine n_then ?_
  refine wp_seq ?_
  refine wp_seq ?_
  refine c_reg ?_
  refine st (x_loadAgB ag85 rfl B1 rfl) ?_
  refine s0 (x_move (v := .int _ _) rfl) ?_
  refine s0 (x_move (v := .int _ _) rfl) ?_
  refine srb (zcall cl125 rfl) (s_l21Ok _ _ _ _ _ _ _ _ _ (hp.ext L) (by omega)) (fun h13 w14 l15 => ?_) (fun h13 w14 l15 => ?_)
  · have z_l15 := l15.size
    have L := L.tr l15.up
    have B1 := B1.ext l15
    have B4 := B4.ext l15
    have B9 := B9.ext l15
    have o9 := o9.ext l15
    refine s0 (x_not rfl) ?_
    refine s0 (x_move (v := .bool _) rfl) ?_
    refine gt rfl rfl rfl rfl ?_
    refine s0 (x_move (v := .int _ _) rfl) ?_
    refine gt rfl rfl rfl rfl ?_
    refine sb (x_eql rfl rfl) (fun h17 => ?_) (fun h17 => ?_)
    · refine s0 (x_pickf (v := .bool _) rfl rfl) ?_
      refine c_end ?_
      refine n_then ?_
      refine c_true rfl ?_
      refine wp_seq ?_
      refine c_reg ?_
      refine st (x_loadAgB ag85 rfl B9 rfl) ?_
      refine s_storeAg rfl sz85 rfl rfl B4 rfl rfl rfl ?_
      intro w16 l17 el17 B4
      have z_l17 := l17.size
      have L := L.fresh l17 (by omega)
      have B1 := B1.ne l17 (by omega)
      have B9 := B9.ne l17 (by omega)
      have o9 := o9.ne l17 (by first | assumption | exact nin_of f9 g9 (by omega))
      refine c_end ?_
      refine n_then ?_
      refine wp_ret (r_then ?_)
      refine f_retc rfl rfl ag85 B4 rfl ?_
      rw [hor_no (fun h => by omega)]
      exact ⟨_, rfl, L, _, _, _, rfl, o9, f9.mono (by omega)⟩
    · refine s0 (x_pickf (v := .bool _) rfl rfl) ?_
      refine c_end ?_
      refine n_then ?_
      refine c_false rfl ?_
      refine c_skipn ?_
      refine n_then ?_
      refine wp_seq ?_
      have hg := fr_geo h13.1.1
      refine c_reg ?_
      refine st (x_loadAgB ag85 rfl B9 rfl) ?_
      refine st (x_loadAgB ag85 rfl B9 rfl) ?_
      refine s0 (x_move (v := .int _ _) rfl) ?_
      refine s0 (x_move (v := .int _ _) rfl) ?_
      refine s0 (x_mul rfl rfl (by omega)) ?_
      refine spm (zcall cl127 rfl) (s_down _ _ _ _ _ _ _ _ _ _ o9 (by omega) (by omega) (by omega) (by omega) (by omega) (by omega)) ?_
      rintro v25 w18 l19 ⟨rfl, o9⟩
      have z_l19 := l19.size
      have L := L.freshL l19 f9 (by omega)
      have B1 := B1.exm l19 (by first | assumption | exact nin_of f9 g9 (by omega))
      have B4 := B4.exm l19 (by first | assumption | exact nin_of f9 g9 (by omega))
      have B9 := B9.exm l19 (by first | assumption | exact nin_of f9 g9 (by omega))
      refine s_storeAg rfl sz85 rfl rfl B4 rfl rfl rfl ?_
      intro w20 l21 el21 B4
      have z_l21 := l21.size
      have L := L.fresh l21 (by omega)
      have B1 := B1.ne l21 (by omega)
      have B9 := B9.ne l21 (by omega)
      have o9 := o9.ne l21 (by first | assumption | exact nin_of f9 g9 (by omega))
      refine c_end ?_
      refine n_then ?_
      refine wp_ret ?_
      refine f_retc rfl rfl ag85 B4 rfl ?_
      rw [hor_yes h13.1 (by omega) (by omega)]
      exact ⟨_, rfl, L, _, _, _, rfl, o9, f9.mono (by omega)⟩
  · have z_l15 := l15.size
    have L := L.tr l15.up
    have B1 := B1.ext l15
    have B4 := B4.ext l15
    have B9 := B9.ext l15
    have o9 := o9.ext l15
    refine s0 (x_not rfl) ?_
    refine s0 (x_move (v := .bool _) rfl) ?_
    refine gf rfl rfl rfl rfl ?_
    refine gf rfl rfl rfl rfl ?_
    refine s0 (x_pickt (v := .bool _) rfl rfl) ?_
    refine c_end ?_
    refine n_then ?_
    refine c_true rfl ?_
    refine wp_seq ?_
    refine c_reg ?_
    refine st (x_loadAgB ag85 rfl B9 rfl) ?_
    refine s_storeAg rfl sz85 rfl rfl B4 rfl rfl rfl ?_
    intro w22 l23 el23 B4
    have z_l23 := l23.size
    have L := L.fresh l23 (by omega)
    have B1 := B1.ne l23 (by omega)
    have B9 := B9.ne l23 (by omega)
    have o9 := o9.ne l23 (by first | assumption | exact nin_of f9 g9 (by omega))
    refine c_end ?_
    refine n_then ?_
    refine wp_ret (r_then ?_)
    refine f_retc rfl rfl ag85 B4 rfl ?_
    rw [hor_no (fun h => h13 ⟨h.1, by omega, by omega⟩)]
    exact ⟨_, rfl, L, _, _, _, rfl, o9, f9.mono (by omega)⟩

/-- impl.DeblockRef -/
theorem i_deblockRef (W H q : Int) (p : Option Addr) (n c : Nat) (xs : List Int) (w : World) (hp : Sl w p n c 1 (ic xs)) (hl : n ≤ 1048576) :
    Calls Try.prog 131 [.agg [.int .i64 W, .int .i64 H, .slice p n c].toArray, .int .i64 q].toArray w (RetP w fun v w' => ∃ p' c' F', v = .agg [.int .i64 W, .int .i64 H, .slice p' n c'].toArray ∧ Own w' p' n c' 3 1 (ic (dbOf W H q xs)) F' ∧ Fr w.heap.size F') := by
  have hn0 := hp.n
  have L : Exm [] w w := Exm.rfl'
  refine enter (n := 30) Try.func131 rfl rfl rfl ?_
  refine wp_seq ?_
  refine c_reg ?_
  refine s_box rfl rfl ?_
  intro b1 w2 lob1 hib1 l3 B1
  have z_l3 := l3.size
  have L := L.tr l3.up
  refine s_alloc zr85 ?_
  intro b4 w5 lob4 hib4 l6 B4
  have z_l6 := l6.size
  have L := L.tr l6.up
  have B1 := B1.ext l6
  refine c_end ?_
  refine n_then ?_
  refine wp_seq ?_
  refine c_reg ?_
  refine st (x_loadAgB ag85 rfl B1 rfl) ?_
  refine sp (zcall cl120 rfl) (i_own _ _ _ _ _ _ _ (hp.ext L) (by omega)) ?_
  rintro v8 w7 l8 ⟨p8, c8, F8, rfl, o8, f8⟩
  have z_l8 := l8.size
  have L := L.tr l8.up
  have B1 := B1.ext l8
  have B4 := B4.ext l8
  have g8 := o8.lt
  refine s_alloc zr85 ?_
  intro b9 w10 lob9 hib9 l11 B9
  have z_l11 := l11.size
  have L := L.tr l11.up
  have B1 := B1.ext l11
  have B4 := B4.ext l11
  have o8 := o8.ext l11
  refine s_storeAg rfl sz85 rfl rfl B9 rfl rfl rfl ?_
  intro w12 l13 el13 B9
  have z_l13 := l13.size
  have L := L.fresh l13 (by omega)
  have B1 := B1.ne l13 (by omega)
  have B4 := B4.ne l13 (by omega)
  have o8 := o8.ne l13 (by first | assumption | exact nin_of f8 g8 (by omega))
  refine c_end ?_
  refine n_then ?_
  refine wp_seq ?_
  refine wp_seq ?_
  refine c_reg ?_
  refine st (x_loadAgB ag85 rfl B1 rfl) ?_
  refine s0 (x_move (v := .int _ _) rfl) ?_
  refine srb (zcall cl121 rfl) (i_filtered _ _ _ _ _ _ _ _ (hp.ext L) (by omega)) (fun h11 w14 l15 => ?_) (fun h11 w14 l15 => ?_)
  · have z_l15 := l15.size
    have L := L.tr l15.up
    have B1 := B1.ext l15
    have B4 := B4.ext l15
    have B9 := B9.ext l15
    have o8 := o8.ext l15
    refine s0 (x_not rfl) ?_
    refine c_end ?_
    refine n_then ?_
    refine c_false rfl ?_
    refine c_skipn ?_
    refine n_then ?_
    refine wp_seq ?_
    have hg := fr_geo h11.1
    refine c_reg ?_
    refine st (x_loadAgB ag85 rfl B9 rfl) ?_
    refine s0 (x_fieldAddr fa85_1 rfl) ?_
    refine st (x_loadB sc3 rfl B1 rfl) ?_
    refine s0 (x_move (v := .int _ _) rfl) ?_
    refine spm (zcall cl122 rfl) (i_vertical _ _ _ _ _ _ _ _ _ _ _ o8 (by omega) (by omega) (by omega) (by omega) (by omega) (by omega)) ?_
    rintro v18 w16 l17 o8
    have z_l17 := l17.size
    have L := L.freshL l17 f8 (by omega)
    have B1 := B1.exm l17 (by first | assumption | exact nin_of f8 g8 (by omega))
    have B4 := B4.exm l17 (by first | assumption | exact nin_of f8 g8 (by omega))
    have B9 := B9.exm l17 (by first | assumption | exact nin_of f8 g8 (by omega))
    refine c_end ?_
    refine n_then ?_
    refine wp_seq ?_
    refine wp_seq ?_
    refine c_reg ?_
    refine s0 (x_assign (v := .int _ _) rfl) ?_
    refine c_end ?_
    refine n_then ?_
    refine wp_block ?_
    refine c_loop (γ := Nat) (fun j => (H / 8).toNat - j) (fun (j : Nat) E wl => ∃ E0, E = upd (upd (upd (upd (upd E0 1 (.int .i64 q)) 2 (pt b1 0)) 4 (pt b4 0)) 5 (pt b9 0)) 6 (.int .i64 (8 * ((j : Int) + 1))) ∧ (Exm [] w wl) ∧ (w16.heap.size ≤ wl.heap.size) ∧ (Bx wl b1 [.int .i64 W, .int .i64 H, .slice p n c] 85) ∧ (Bx wl b4 [.int .i64 0, .int .i64 0, .slice none 0 0] 85) ∧ (Bx wl b9 [.int .i64 W, .int .i64 H, .slice p8 n c8] 85) ∧ (Own wl p8 n c8 3 1 (ic (egs q (egs q xs (vRows W 0 (H - 0).toNat)) (hRows W j))) F8) ∧ (8 * ((j : Int) + 1) ≤ H)) 0 ⟨_, upd_self5 rfl rfl rfl rfl rfl, L, (by omega), B1, B4, B9, o8, (by omega)⟩ ?_
    rintro j E wl18 ⟨E0, rfl, L, Lz, B1, B4, B9, o8, hj⟩
    have Lz0 := L.size
    refine wp_seq ?_
    refine wp_seq ?_
    refine c_reg ?_
    refine s0 (x_move (v := .int _ _) rfl) ?_
    refine s0 (x_fieldAddr fa85_1 rfl) ?_
    refine st (x_loadB sc3 rfl B1 rfl) ?_
    refine sb (x_lss rfl rfl) (fun h22 => ?_) (fun h22 => ?_)
    · refine c_end ?_
      refine n_then ?_
      refine c_true rfl ?_
      refine c_skipn ?_
      refine n_then ?_
      refine wp_seq ?_
      refine wp_block ?_
      refine c_reg ?_
      refine st (x_loadAgB ag85 rfl B9 rfl) ?_
      refine s0 (x_move (v := .int _ _) rfl) ?_
      refine s0 (x_move (v := .int _ _) rfl) ?_
      refine spm (zcall cl123 rfl) (i_horizontal _ _ _ _ _ _ _ _ _ _ o8 (by omega) (by omega) (by omega) (by omega) (by omega) (by omega)) ?_
      rintro v28 w19 l20 o8
      have z_l20 := l20.size
      have L := L.freshL l20 f8 (by omega)
      have B1 := B1.exm l20 (by first | assumption | exact nin_of f8 g8 (by omega))
      have B4 := B4.exm l20 (by first | assumption | exact nin_of f8 g8 (by omega))
      have B9 := B9.exm l20 (by first | assumption | exact nin_of f8 g8 (by omega))
      refine c_end ?_
      refine n_block ?_
      refine n_then ?_
      refine c_reg ?_
      refine s0 (x_move (v := .int _ _) rfl) ?_
      refine s0 (x_add rfl rfl (by omega)) ?_
      refine s0 (x_assign (v := .int _ _) rfl) ?_
      refine c_end ?_
      exact c_round (g' := j + 1) (by omega) ⟨_, upd_self5 rfl rfl rfl rfl (vint (by omega)), L, (by omega), B1, B4, B9, (by rw [hRows_succ, egs_app]; exact o8), (by omega)⟩
    · refine c_end ?_
      refine n_then ?_
      refine c_false rfl ?_
      refine wp_exit (e_then (e_then (e_here ?_)))
      refine n_then ?_
      refine wp_seq ?_
      refine c_reg ?_
      refine st (x_loadAgB ag85 rfl B9 rfl) ?_
      refine s_storeAg rfl sz85 rfl rfl B4 rfl rfl rfl ?_
      intro w21 l22 el22 B4
      have z_l22 := l22.size
      have L := L.fresh l22 (by omega)
      have B1 := B1.ne l22 (by omega)
      have B9 := B9.ne l22 (by omega)
      have o8 := o8.ne l22 (by first | assumption | exact nin_of f8 g8 (by omega))
      refine c_end ?_
      refine n_then ?_
      refine wp_ret ?_
      refine f_retc rfl rfl ag85 B4 rfl ?_
      rw [← db_impl h11 (j := j) (by omega)]
      exact ⟨_, rfl, L, _, _, _, rfl, o8, f8.mono (by omega)⟩
  · have z_l15 := l15.size
    have L := L.tr l15.up
    have B1 := B1.ext l15
    have B4 := B4.ext l15
    have B9 := B9.ext l15
    have o8 := o8.ext l15
    refine s0 (x_not rfl) ?_
    refine c_end ?_
    refine n_then ?_
    refine c_true rfl ?_
    refine wp_seq ?_
    refine c_reg ?_
    refine st (x_loadAgB ag85 rfl B9 rfl) ?_
    refine s_storeAg rfl sz85 rfl rfl B4 rfl rfl rfl ?_
    intro w23 l24 el24 B4
    have z_l24 := l24.size
    have L := L.fresh l24 (by omega)
    have B1 := B1.ne l24 (by omega)
    have B9 := B9.ne l24 (by omega)
    have o8 := o8.ne l24 (by first | assumption | exact nin_of f8 g8 (by omega))
    refine c_end ?_
    refine n_then ?_
    refine wp_ret (r_then ?_)
    refine f_retc rfl rfl ag85 B4 rfl ?_
    rw [db_no h11]
    exact ⟨_, rfl, L, _, _, _, rfl, o8, f8.mono (by omega)⟩

/-- impl.DeblockFast -/
theorem i_deblockFast (W H q : Int) (p : Option Addr) (n c : Nat) (xs : List Int) (w : World) (hp : Sl w p n c 1 (ic xs)) (hl : n ≤ 1048576) :
    Calls Try.prog 77 [.agg [.int .i64 W, .int .i64 H, .slice p n c].toArray, .int .i64 q].toArray w (RetP w fun v w' => ∃ p' c' F', v = .agg [.int .i64 W, .int .i64 H, .slice p' n c'].toArray ∧ Own w' p' n c' 3 1 (ic (dbOf W H q xs)) F' ∧ Fr w.heap.size F') := by
  have L : Exm [] w w := Exm.rfl'
  refine enter (n := 8) Try.func77 rfl rfl rfl ?_
  refine wp_seq ?_
  refine c_reg ?_
  refine s_box rfl rfl ?_
  intro b1 w2 lob1 hib1 l3 B1
  have z_l3 := l3.size
  have L := L.tr l3.up
  refine s_alloc zr85 ?_
  intro b4 w5 lob4 hib4 l6 B4
  have z_l6 := l6.size
  have L := L.tr l6.up
  have B1 := B1.ext l6
  refine c_end ?_
  refine n_then ?_
  refine wp_seq ?_
  refine c_reg ?_
  refine st (x_loadAgB ag85 rfl B1 rfl) ?_
  refine s0 (x_move (v := .int _ _) rfl) ?_
  refine sp (zcall cl131 rfl) (i_deblockRef _ _ _ _ _ _ _ _ (hp.ext L) (by omega)) ?_
  rintro v7 w7 l8 ⟨p7, c7, F7, rfl, o7, f7⟩
  have z_l8 := l8.size
  have L := L.tr l8.up
  have B1 := B1.ext l8
  have B4 := B4.ext l8
  have g7 := o7.lt
  refine s_storeAg rfl sz85 rfl rfl B4 rfl rfl rfl ?_
  intro w9 l10 el10 B4
  have z_l10 := l10.size
  have L := L.fresh l10 (by omega)
  have B1 := B1.ne l10 (by omega)
  have o7 := o7.ne l10 (by first | assumption | exact nin_of f7 g7 (by omega))
  refine c_end ?_
  refine n_then ?_
  refine wp_ret ?_
  refine f_retc rfl rfl ag85 B4 rfl ?_
  exact ⟨_, rfl, L, _, _, _, rfl, o7, f7.mono (by omega)⟩

/-- spec.DeblockFast -/
theorem s_deblockFast (W H q : Int) (p : Option Addr) (n c : Nat) (xs : List Int) (w : World) (hp : Sl w p n c 1 (ic xs)) (hl : n ≤ 1048576) :
    Calls Try.prog 75 [.agg [.int .i64 W, .int .i64 H, .slice p n c].toArray, .int .i64 q].toArray w (RetP w fun v w' => ∃ p' c' F', v = .agg [.int .i64 W, .int .i64 H, .slice p' n c'].toArray ∧ Own w' p' n c' 3 1 (ic (dbOf W H q xs)) F' ∧ Fr w.heap.size F') := by
  have hn0 := hp.n
  have L : Exm [] w w := Exm.rfl'
  refine enter (n := 33) Try.func75 rfl rfl rfl ?_
  refine wp_seq ?_
  refine c_reg ?_
  refine s_box rfl rfl ?_
  intro b1 w2 lob1 hib1 l3 B1
  have z_l3 := l3.size
  have L := L.tr l3.up
  refine s_alloc zr85 ?_
  intro b4 w5 lob4 hib4 l6 B4
  have z_l6 := l6.size
  have L := L.tr l6.up
  have B1 := B1.ext l6
  refine c_end ?_
  refine n_then ?_
  refine wp_seq ?_
  refine c_reg ?_
  refine st (x_loadAgB ag85 rfl B1 rfl) ?_
  refine sp (zcall cl124 rfl) (s_copy _ _ _ _ _ _ _ (hp.ext L) (by omega)) ?_
  rintro v8 w7 l8 ⟨p8, c8, F8, rfl, o8, f8⟩
  have z_l8 := l8.size
  have L := L.tr l8.up
  have B1 := B1.ext l8
  have B4 := B4.ext l8
  have g8 := o8.lt
  refine s_alloc zr85 ?_
  intro b9 w10 lob9 hib9 l11 B9
  have z_l11 := l11.size
  have L := L.tr l11.up
  have B1 := B1.ext l11
  have B4 := B4.ext l11
  have o8 := o8.ext l11
  refine s_storeAg rfl sz85 rfl rfl B9 rfl rfl rfl ?_
  intro w12 l13 el13 B9
  have z_l13 := l13.size
  have L := L.fresh l13 (by omega)
  have B1 := B1.ne l13 (by omega)
  have B4 := B4.ne l13 (by omega)
  have o8 := o8.ne l13 (by first | assumption | exact nin_of f8 g8 (by omega))
  refine c_end ?_
  refine n_then ?_
  refine wp_seq ?_
  refine wp_seq ?_
  refine c_reg ?_
  refine st (x_loadAgB ag85 rfl B1 rfl) ?_
  refine srb (zcall cl73 rfl) (s_frameOk _ _ _ _ _ _ _ (hp.ext L) (by omega)) (fun h10 w14 l15 => ?_) (fun h10 w14 l15 => ?_)
  · have z_l15 := l15.size
    have L := L.tr l15.up
    have B1 := B1.ext l15
    have B4 := B4.ext l15
    have B9 := B9.ext l15
    have o8 := o8.ext l15
    refine s0 (x_not rfl) ?_
    refine s0 (x_move (v := .bool _) rfl) ?_
    refine gt rfl rfl rfl rfl ?_
    refine s0 (x_move (v := .int _ _) rfl) ?_
    refine gt rfl rfl rfl rfl ?_
    refine sr (zcall cl130 rfl) (s_alphaOf _ _) ?_
    intro w16 l17
    have z_l17 := l17.size
    have L := L.tr l17.up
    have B1 := B1.ext l17
    have B4 := B4.ext l17
    have B9 := B9.ext l17
    have o8 := o8.ext l17
    refine gt rfl rfl rfl rfl ?_
    refine sb (x_eql rfl rfl) (fun h15 => ?_) (fun h15 => ?_)
    · refine s0 (x_pickf (v := .bool _) rfl rfl) ?_
      refine c_end ?_
      refine n_then ?_
      refine c_true rfl ?_
      refine wp_seq ?_
      refine c_reg ?_
      refine st (x_loadAgB ag85 rfl B9 rfl) ?_
      refine s_storeAg rfl sz85 rfl rfl B4 rfl rfl rfl ?_
      intro w18 l19 el19 B4
      have z_l19 := l19.size
      have L := L.fresh l19 (by omega)
      have B1 := B1.ne l19 (by omega)
      have B9 := B9.ne l19 (by omega)
      have o8 := o8.ne l19 (by first | assumption | exact nin_of f8 g8 (by omega))
      refine c_end ?_
      refine n_then ?_
      refine wp_ret (r_then ?_)
      refine f_retc rfl rfl ag85 B4 rfl ?_
      rw [db_no (fun h => by have := (alpha_pos q).2 h.2; omega)]
      exact ⟨_, rfl, L, _, _, _, rfl, o8, f8.mono (by omega)⟩
    · refine s0 (x_pickf (v := .bool _) rfl rfl) ?_
      refine c_end ?_
      refine n_then ?_
      refine c_false rfl ?_
      refine c_skipn ?_
      refine n_then ?_
      refine wp_seq ?_
      refine wp_seq ?_
      have hq : fqOk W H q xs := ⟨h10, (alpha_pos q).1 (by have := alpha_range q; omega)⟩
      have hg := fr_geo h10
      refine c_reg ?_
      refine s0 (x_assign (v := .int _ _) rfl) ?_
      refine c_end ?_
      refine n_then ?_
      refine wp_block ?_
      refine c_loop (γ := Nat) (fun k => (H / 8).toNat - k) (fun (k : Nat) E wl => ∃ E0 pz905 cz905 Fz905, E = upd (upd (upd (upd (upd E0 1 (.int .i64 q)) 2 (pt b1 0)) 4 (pt b4 0)) 5 (pt b9 0)) 6 (.int .i64 (k : Int)) ∧ (Exm [] w wl) ∧ (w16.heap.size ≤ wl.heap.size) ∧ (Bx wl b1 [.int .i64 W, .int .i64 H, .slice p n c] 85) ∧ (Bx wl b4 [.int .i64 0, .int .i64 0, .slice none 0 0] 85) ∧ (Bx wl b9 [.int .i64 W, .int .i64 H, .slice pz905 n cz905] 85) ∧ (Own wl pz905 (n) cz905 3 1 (ic (dbR q W xs k)) Fz905) ∧ (Fr (w5.heap.size) Fz905) ∧ (Lt Fz905 wl.heap.size) ∧ (b1 ∉ Fz905) ∧ (b4 ∉ Fz905) ∧ (b9 ∉ Fz905) ∧ ((k : Int) ≤ H / 8)) 0 ⟨_, _, _, _, upd_self5 rfl rfl rfl rfl rfl, L, (by omega), B1, B4, B9, (by rw [show dbR q W xs 0 = xs by rw [dbR]]; exact o8), (f8.mono (by omega)), (g8.mono (by omega)), (by first | assumption | exact nin_of f8 g8 (by omega)), (by first | assumption | exact nin_of f8 g8 (by omega)), (by first | assumption | exact nin_of f8 g8 (by omega)), (by omega)⟩ ?_
      rintro k E wl20 ⟨E0, pz905, cz905, Fz905, rfl, L, Lz, B1, B4, B9, oz905, fz905, gz905, ab1_z905, ab4_z905, ab9_z905, hk⟩
      have Lz0 := L.size
      refine wp_seq ?_
      refine wp_seq ?_
      refine c_reg ?_
      refine s0 (x_move (v := .int _ _) rfl) ?_
      refine s0 (x_fieldAddr fa85_1 rfl) ?_
      refine st (x_loadB sc3 rfl B1 rfl) ?_
      refine s0 (x_quo rfl rfl (by omega) (by omega)) ?_
      refine sb (x_lss rfl rfl) (fun h22 => ?_) (fun h22 => ?_)
      · refine c_end ?_
        refine n_then ?_
        refine c_true rfl ?_
        refine c_skipn ?_
        refine n_then ?_
        refine wp_seq ?_
        refine wp_block ?_
        refine c_reg ?_
        refine st (x_loadAgB ag85 rfl B9 rfl) ?_
        refine s0 (x_move (v := .int _ _) rfl) ?_
        refine s0 (x_move (v := .int _ _) rfl) ?_
        refine sp (zcall cl71 rfl) (s_vertRow _ _ _ _ _ _ _ _ _ oz905.sl (by omega)) ?_
        rintro v28 w21 l22 ⟨p28, c28, F28, rfl, o28, f28⟩
        have z_l22 := l22.size
        have L := L.tr l22.up
        have B1 := B1.ext l22
        have B4 := B4.ext l22
        have B9 := B9.ext l22
        have oz905 := oz905.ext l22
        have g28 := o28.lt
        refine s0 (x_move (v := .int _ _) rfl) ?_
        refine s0 (x_move (v := .int _ _) rfl) ?_
        refine sp (zcall cl72 rfl) (s_horRow _ _ _ _ _ _ _ _ _ o28.sl (by omega)) ?_
        rintro v31 w23 l24 ⟨p31, c31, F31, rfl, o31, f31⟩
        have z_l24 := l24.size
        have L := L.tr l24.up
        have B1 := B1.ext l24
        have B4 := B4.ext l24
        have B9 := B9.ext l24
        have oz905 := oz905.ext l24
        have o28 := o28.ext l24
        have g31 := o31.lt
        refine s_storeAg rfl sz85 rfl rfl B9 rfl rfl rfl ?_
        intro w25 l26 el26 B9
        have z_l26 := l26.size
        have L := L.fresh l26 (by omega)
        have B1 := B1.ne l26 (by omega)
        have B4 := B4.ne l26 (by omega)
        have oz905 := oz905.ne l26 (by first | assumption | exact nin_of fz905 gz905 (by omega))
        have o28 := o28.ne l26 (by first | assumption | exact nin_of f28 g28 (by omega))
        have o31 := o31.ne l26 (by first | assumption | exact nin_of f31 g31 (by omega))
        refine c_end ?_
        refine n_block ?_
        refine n_then ?_
        refine c_reg ?_
        refine s0 (x_move (v := .int _ _) rfl) ?_
        refine s0 (x_add rfl rfl (by omega)) ?_
        refine s0 (x_assign (v := .int _ _) rfl) ?_
        refine c_end ?_
        exact c_round (g' := k + 1) (by omega) ⟨_, _, _, _, upd_self5 rfl rfl rfl rfl (vint (by omega)), L, (by omega), B1, B4, B9, (by (rw [← dbR_step hq (r := k) (by omega)]); exact o31), (f31.mono (by omega)), (g31.mono (by omega)), (by first | assumption | exact nin_of f31 g31 (by omega)), (by first | assumption | exact nin_of f31 g31 (by omega)), (by first | assumption | exact nin_of f31 g31 (by omega)), (by omega)⟩
      · refine c_end ?_
        refine n_then ?_
        refine c_false rfl ?_
        refine wp_exit (e_then (e_then (e_here ?_)))
        refine n_then ?_
        refine wp_seq ?_
        refine c_reg ?_
        refine st (x_loadAgB ag85 rfl B9 rfl) ?_
        refine s_storeAg rfl sz85 rfl rfl B4 rfl rfl rfl ?_
        intro w27 l28 el28 B4
        have z_l28 := l28.size
        have L := L.fresh l28 (by omega)
        have B1 := B1.ne l28 (by omega)
        have B9 := B9.ne l28 (by omega)
        have oz905 := oz905.ne l28 (by first | assumption | exact nin_of fz905 gz905 (by omega))
        refine c_end ?_
        refine n_then ?_
        refine wp_ret ?_
        refine f_retc rfl rfl ag85 B4 rfl ?_
        rw [← db_spec hq (r := k) (by omega)]
        exact ⟨_, rfl, L, _, _, _, rfl, oz905, fz905.mono (by omega)⟩
  · have z_l15 := l15.size
    have L := L.tr l15.up
    have B1 := B1.ext l15
    have B4 := B4.ext l15
    have B9 := B9.ext l15
    have o8 := o8.ext l15
    refine s0 (x_not rfl) ?_
    refine s0 (x_move (v := .bool _) rfl) ?_
    refine gf rfl rfl rfl rfl ?_
    refine gf rfl rfl rfl rfl ?_
    refine gf rfl rfl rfl rfl ?_
    refine s0 (x_pickt (v := .bool _) rfl rfl) ?_
    refine c_end ?_
    refine n_then ?_
    refine c_true rfl ?_
    refine wp_seq ?_
    refine c_reg ?_
    refine st (x_loadAgB ag85 rfl B9 rfl) ?_
    refine s_storeAg rfl sz85 rfl rfl B4 rfl rfl rfl ?_
    intro w29 l30 el30 B4
    have z_l30 := l30.size
    have L := L.fresh l30 (by omega)
    have B1 := B1.ne l30 (by omega)
    have B9 := B9.ne l30 (by omega)
    have o8 := o8.ne l30 (by first | assumption | exact nin_of f8 g8 (by omega))
    refine c_end ?_
    refine n_then ?_
    refine wp_ret (r_then ?_)
    refine f_retc rfl rfl ag85 B4 rfl ?_
    rw [db_no (fun h => h10 h.1)]
    exact ⟨_, rfl, L, _, _, _, rfl, o8, f8.mono (by omega)⟩

/-- laws.szFrame -/
theorem l_szFrame (W H : Int) (p : Option Addr) (n c : Nat) (left : Int) (w : World) (hs : n ≤ 9223372036854775807) (hl : 0 ≤ left ∧ left ≤ 9223372036854775807) :
    Calls Try.prog 74 [.agg [.int .i64 W, .int .i64 H, .slice p n c].toArray, .int .i64 left].toArray w (Ret w (.int .i64 (szOf left n))) := by
  have L : Exm [] w w := Exm.rfl'
  refine enter (n := 12) Try.func74 rfl rfl rfl ?_
  refine wp_seq ?_
  refine c_reg ?_
  refine s_box rfl rfl ?_
  intro b1 w2 lob1 hib1 l3 B1
  have z_l3 := l3.size
  have L := L.tr l3.up
  refine s0 (x_assign (v := .int _ _) rfl) ?_
  refine c_end ?_
  refine n_then ?_
  refine wp_seq ?_
  refine c_reg ?_
  refine s0 (x_fieldAddr fa91_2 rfl) ?_
  refine st (x_loadB sc33 rfl B1 rfl) ?_
  refine s0 (x_move (v := .int _ _) rfl) ?_
  refine sr (zcall cl103 rfl) (l_szIntS _ _ _ _ _ (by omega) (by omega)) ?_
  intro w4 l5
  have z_l5 := l5.size
  have L := L.tr l5.up
  have B1 := B1.ext l5
  refine s0 (x_assign (v := .int _ _) rfl) ?_
  refine c_end ?_
  refine n_then ?_
  refine wp_seq ?_
  refine wp_seq ?_
  refine c_reg ?_
  refine s0 (x_move (v := .int _ _) rfl) ?_
  refine sb (x_lss rfl rfl) (fun h10 => ?_) (fun h10 => ?_)
  · refine c_end ?_
    refine n_then ?_
    refine c_true rfl ?_
    refine wp_seq ?_
    refine c_reg ?_
    refine s0 (x_assign (v := .int _ _) rfl) ?_
    refine c_end ?_
    refine n_then ?_
    refine wp_ret (r_then ?_)
    refine f_ret rfl rfl ?_
    exact ⟨ret_int (by unfold szOf at h10 ⊢; split at h10 <;> simp_all <;> omega), L⟩
  · refine c_end ?_
    refine n_then ?_
    refine c_false rfl ?_
    refine c_skipn ?_
    refine n_then ?_
    refine wp_seq ?_
    refine c_reg ?_
    refine s0 (x_move (v := .int _ _) rfl) ?_
    refine s0 (x_assign (v := .int _ _) rfl) ?_
    refine c_end ?_
    refine n_then ?_
    refine wp_ret ?_
    refine f_ret rfl rfl ?_
    exact ⟨rfl, L⟩

/-- laws.toFrame -/
theorem l_toFrame (W H : Int) (p : Option Addr) (n c : Nat) (xs : List Int) (w : World) (hp : Sl w p n c 1 (ic xs)) (hl : n ≤ 1099511627776) :
    Calls Try.prog 76 [.agg [.int .i64 W, .int .i64 H, .slice p n c].toArray].toArray w (RetP w fun v w' => ∃ p' c' F', v = .agg [.int .i64 W, .int .i64 H, .slice p' n c'].toArray ∧ Own w' p' n c' 3 1 (ic xs) F' ∧ Fr w.heap.size F') := by
  obtain rfl : n = xs.length := hp.n
  have L : Exm [] w w := Exm.rfl'
  refine enter (n := 15) Try.func76 rfl rfl rfl ?_
  refine wp_seq ?_
  refine c_reg ?_
  refine s_box rfl rfl ?_
  intro b1 w2 lob1 hib1 l3 B1
  have z_l3 := l3.size
  have L := L.tr l3.up
  refine s_alloc zr85 ?_
  intro b4 w5 lob4 hib4 l6 B4
  have z_l6 := l6.size
  have L := L.tr l6.up
  have B1 := B1.ext l6
  refine c_end ?_
  refine n_then ?_
  refine wp_seq ?_
  refine c_reg ?_
  refine s_alloc zr85 ?_
  intro b7 w8 lob7 hib7 l9 B7
  have z_l9 := l9.size
  have L := L.tr l9.up
  have B1 := B1.ext l9
  have B4 := B4.ext l9
  refine c_end ?_
  refine n_then ?_
  refine wp_seq ?_
  refine c_reg ?_
  refine s0 (x_fieldAddr fa91_0 rfl) ?_
  refine st (x_loadB sc3 rfl B1 rfl) ?_
  refine s0 (x_fieldAddr fa85_0 rfl) ?_
  refine s_store (v := .int _ _) (cs' := [_, _, _]) rfl sz3 rfl rfl rfl rfl B7 rfl rfl ?_
  intro w10 l11 el11 B7
  have z_l11 := l11.size
  have L := L.fresh l11 (by omega)
  have B1 := B1.ne l11 (by omega)
  have B4 := B4.ne l11 (by omega)
  refine c_end ?_
  refine n_then ?_
  refine wp_seq ?_
  refine c_reg ?_
  refine s0 (x_fieldAddr fa91_1 rfl) ?_
  refine st (x_loadB sc3 rfl B1 rfl) ?_
  refine s0 (x_fieldAddr fa85_1 rfl) ?_
  refine s_store (v := .int _ _) (cs' := [_, _, _]) rfl sz3 rfl rfl rfl rfl B7 rfl rfl ?_
  intro w12 l13 el13 B7
  have z_l13 := l13.size
  have L := L.fresh l13 (by omega)
  have B1 := B1.ne l13 (by omega)
  have B4 := B4.ne l13 (by omega)
  refine c_end ?_
  refine n_then ?_
  refine wp_seq ?_
  refine c_reg ?_
  refine s0 (x_fieldAddr fa91_2 rfl) ?_
  refine st (x_loadB sc33 rfl B1 rfl) ?_
  refine sp (zcall cl41 rfl) (l_toIntS _ _ _ _ (hp.ext L) (by omega)) ?_
  rintro v12 w14 l15 ⟨p12, c12, F12, rfl, o12, f12⟩
  have z_l15 := l15.size
  have L := L.tr l15.up
  have B1 := B1.ext l15
  have B4 := B4.ext l15
  have B7 := B7.ext l15
  have g12 := o12.lt
  refine s0 (x_fieldAddr fa85_2 rfl) ?_
  refine s_store (v := .slice _ _ _) (cs' := [_, _, _]) rfl sz33 rfl rfl rfl rfl B7 rfl rfl ?_
  intro w16 l17 el17 B7
  have z_l17 := l17.size
  have L := L.fresh l17 (by omega)
  have B1 := B1.ne l17 (by omega)
  have B4 := B4.ne l17 (by omega)
  have o12 := o12.ne l17 (by first | assumption | exact nin_of f12 g12 (by omega))
  refine c_end ?_
  refine n_then ?_
  refine wp_seq ?_
  refine c_reg ?_
  refine st (x_loadAgB ag85 rfl B7 rfl) ?_
  refine s_storeAg rfl sz85 rfl rfl B4 rfl rfl rfl ?_
  intro w18 l19 el19 B4
  have z_l19 := l19.size
  have L := L.fresh l19 (by omega)
  have B1 := B1.ne l19 (by omega)
  have B7 := B7.ne l19 (by omega)
  have o12 := o12.ne l19 (by first | assumption | exact nin_of f12 g12 (by omega))
  refine c_end ?_
  refine n_then ?_
  refine wp_ret ?_
  refine f_retc rfl rfl ag85 B4 rfl ?_
  exact ⟨_, rfl, L, _, _, _, rfl, o12, f12.mono (by omega)⟩

/-- laws.eqFrame -/
theorem l_eqFrame (W H W' H' : Int) (p q : Option Addr) (n m c d : Nat) (xs ys : List Int) (w : World) (hp : Sl w p n c 1 (ic xs)) (hq : Sl w q m d 1 (ic ys)) (hl : n ≤ 1099511627776) :
    Calls Try.prog 78 [.agg [.int .i64 W, .int .i64 H, .slice p n c].toArray, .agg [.int .i64 W', .int .i64 H', .slice q m d].toArray].toArray w (Ret w (.bool (decide (W = W' ∧ H = H' ∧ xs = ys)))) := by
  obtain rfl : n = xs.length := hp.n
  obtain rfl : m = ys.length := hq.n
  have L : Exm [] w w := Exm.rfl'
  refine enter (n := 21) Try.func78 rfl rfl rfl ?_
  refine wp_seq ?_
  refine c_reg ?_
  refine s_box rfl rfl ?_
  intro b1 w2 lob1 hib1 l3 B1
  have z_l3 := l3.size
  have L := L.tr l3.up
  refine s_box rfl rfl ?_
  intro b4 w5 lob4 hib4 l6 B4
  have z_l6 := l6.size
  have L := L.tr l6.up
  have B1 := B1.ext l6
  refine s0 (x_assign (v := .bool _) rfl) ?_
  refine c_end ?_
  refine n_then ?_
  refine wp_seq ?_
  refine wp_seq ?_
  refine c_reg ?_
  refine s0 (x_fieldAddr fa85_0 rfl) ?_
  refine st (x_loadB sc3 rfl B1 rfl) ?_
  refine s0 (x_fieldAddr fa85_0 rfl) ?_
  refine st (x_loadB sc3 rfl B4 rfl) ?_
  refine sb (x_neq rfl rfl) (fun h9 => ?_) (fun h9 => ?_)
  · refine c_end ?_
    refine n_then ?_
    refine c_true rfl ?_
    refine wp_seq ?_
    refine c_reg ?_
    refine s0 (x_assign (v := .bool _) rfl) ?_
    refine c_end ?_
    refine n_then ?_
    refine wp_ret (r_then ?_)
    refine f_ret rfl rfl ?_
    exact ⟨ret_f (by simp_all), L⟩
  · refine c_end ?_
    refine n_then ?_
    refine c_false rfl ?_
    refine c_skipn ?_
    refine n_then ?_
    refine wp_seq ?_
    refine wp_seq ?_
    refine c_reg ?_
    refine s0 (x_fieldAddr fa85_1 rfl) ?_
    refine st (x_loadB sc3 rfl B1 rfl) ?_
    refine s0 (x_fieldAddr fa85_1 rfl) ?_
    refine st (x_loadB sc3 rfl B4 rfl) ?_
    refine sb (x_neq rfl rfl) (fun h14 => ?_) (fun h14 => ?_)
    · refine c_end ?_
      refine n_then ?_
      refine c_true rfl ?_
      refine wp_seq ?_
      refine c_reg ?_
      refine s0 (x_assign (v := .bool _) rfl) ?_
      refine c_end ?_
      refine n_then ?_
      refine wp_ret (r_then ?_)
      refine f_ret rfl rfl ?_
      exact ⟨ret_f (by simp_all), L⟩
    · refine c_end ?_
      refine n_then ?_
      refine c_false rfl ?_
      refine c_skipn ?_
      refine n_then ?_
      refine wp_seq ?_
      refine wp_seq ?_
      refine c_reg ?_
      refine s0 (x_fieldAddr fa85_2 rfl) ?_
      refine st (x_loadB sc33 rfl B1 rfl) ?_
      refine s0 (x_fieldAddr fa85_2 rfl) ?_
      refine st (x_loadB sc33 rfl B4 rfl) ?_
      refine srb (zcall cl44 rfl) (l_eqIntS _ _ _ _ _ _ _ (hp.ext L) (hq.ext L) (by omega)) (fun h19 w7 l8 => ?_) (fun h19 w7 l8 => ?_)
      · have z_l8 := l8.size
        have L := L.tr l8.up
        have B1 := B1.ext l8
        have B4 := B4.ext l8
        refine s0 (x_not rfl) ?_
        refine c_end ?_
        refine n_then ?_
        refine c_false rfl ?_
        refine c_skipn ?_
        refine n_then ?_
        refine wp_seq ?_
        refine c_reg ?_
        refine s0 (x_assign (v := .bool _) rfl) ?_
        refine c_end ?_
        refine n_then ?_
        refine wp_ret ?_
        refine f_ret rfl rfl ?_
        exact ⟨ret_t (by simp_all), L⟩
      · have z_l8 := l8.size
        have L := L.tr l8.up
        have B1 := B1.ext l8
        have B4 := B4.ext l8
        refine s0 (x_not rfl) ?_
        refine c_end ?_
        refine n_then ?_
        refine c_true rfl ?_
        refine wp_seq ?_
        refine c_reg ?_
        refine s0 (x_assign (v := .bool _) rfl) ?_
        refine c_end ?_
        refine n_then ?_
        refine wp_ret (r_then ?_)
        refine f_ret rfl rfl ?_
        exact ⟨ret_f (by simp_all), L⟩

/-- laws.markFrame -/
theorem l_markFrame (W H : Int) (pA : Option Addr) (n c : Nat) (xs : List Int) (k : Int) (FA : List Nat) (w : World) (oA : Own w pA n c 3 1 (ic xs) FA) (hl : n ≤ 1099511627776) (hk : 0 ≤ k ∧ k ≤ 1099511627776) :
    Calls Try.prog 79 [.agg [.int .i64 W, .int .i64 H, .slice pA n c].toArray, .int .i64 k].toArray w (RetM FA w fun v w' => v = .int .i64 (k + n) ∧ Own w' pA n c 3 1 (ic (mkI k n)) FA) := by
  obtain rfl : n = xs.length := oA.n1
  have fA : Fr 0 FA := fun _ _ => Nat.zero_le _
  have gA := oA.lt
  have hnA := oA.n1
  have L : Exm FA w w := Exm.rfl'
  refine enter (n := 10) Try.func79 rfl rfl rfl ?_
  refine wp_seq ?_
  refine c_reg ?_
  refine s_box rfl rfl ?_
  intro b1 w2 lob1 hib1 l3 B1
  have z_l3 := l3.size
  have L := L.tr l3.up
  have oA := oA.ext l3
  refine s0 (x_assign (v := .int _ _) rfl) ?_
  refine c_end ?_
  refine n_then ?_
  refine wp_seq ?_
  refine c_reg ?_
  refine s0 (x_fieldAddr fa85_2 rfl) ?_
  refine st (x_loadB sc33 rfl B1 rfl) ?_
  refine s0 (x_move (v := .int _ _) rfl) ?_
  refine spm (zcall cl59 rfl) (l_markIntS _ _ _ _ _ _ oA (by omega) (by omega)) ?_
  rintro v8 w4 l5 ⟨rfl, oA⟩
  have z_l5 := l5.size
  have L := L.withinL l5 (by simp)
  have B1 := B1.exm l5 (by first | assumption | exact nin_of fA gA (by omega))
  refine s0 (x_assign (v := .int _ _) rfl) ?_
  refine c_end ?_
  refine n_then ?_
  refine wp_seq ?_
  refine c_reg ?_
  refine s0 (x_move (v := .int _ _) rfl) ?_
  refine s0 (x_assign (v := .int _ _) rfl) ?_
  refine c_end ?_
  refine n_then ?_
  refine wp_ret ?_
  refine f_ret rfl rfl ?_
  exact ⟨_, rfl, L, rfl, oA⟩

/-- laws.heldFrame -/
theorem l_heldFrame (W H : Int) (p : Option Addr) (n c : Nat) (k : Int) (w : World) (hp : Sl w p n c 1 (ic (mkI k n))) (hl : n ≤ 1099511627776) (hk : 0 ≤ k ∧ k ≤ 1099511627776) :
    Calls Try.prog 80 [.agg [.int .i64 W, .int .i64 H, .slice p n c].toArray, .int .i64 k].toArray w (Ret w (.int .i64 (k + n))) := by
  have L : Exm [] w w := Exm.rfl'
  refine enter (n := 12) Try.func80 rfl rfl rfl ?_
  refine wp_seq ?_
  refine c_reg ?_
  refine s_box rfl rfl ?_
  intro b1 w2 lob1 hib1 l3 B1
  have z_l3 := l3.size
  have L := L.tr l3.up
  refine s0 (x_assign (v := .int _ _) rfl) ?_
  refine c_end ?_
  refine n_then ?_
  refine wp_seq ?_
  refine c_reg ?_
  refine s0 (x_fieldAddr fa85_2 rfl) ?_
  refine st (x_loadB sc33 rfl B1 rfl) ?_
  refine s0 (x_move (v := .int _ _) rfl) ?_
  refine sr (zcall cl132 rfl) (l_heldIntS _ _ _ _ _ (hp.ext L) (by omega) (by omega)) ?_
  intro w4 l5
  have z_l5 := l5.size
  have L := L.tr l5.up
  have B1 := B1.ext l5
  refine s0 (x_assign (v := .int _ _) rfl) ?_
  refine c_end ?_
  refine n_then ?_
  refine wp_seq ?_
  refine wp_seq ?_
  refine c_reg ?_
  refine s0 (x_move (v := .int _ _) rfl) ?_
  refine sb (x_lss rfl rfl) (fun h10 => ?_) (fun h10 => ?_)
  · omega
  · refine c_end ?_
    refine n_then ?_
    refine c_false rfl ?_
    refine c_skipn ?_
    refine n_then ?_
    refine wp_seq ?_
    refine c_reg ?_
    refine s0 (x_move (v := .int _ _) rfl) ?_
    refine s0 (x_assign (v := .int _ _) rfl) ?_
    refine c_end ?_
    refine n_then ?_
    refine wp_ret ?_
    refine f_ret rfl rfl ?_
    exact ⟨rfl, L⟩

end Go.Proofs.Ytfmmkacopgecpaa
