/- What each function of this part returns, for every argument that meets its premises. -/
import Derived.Test.YtepnknffaecbdaaProg
import Derived.Test.YtepnknffaecbdaaVSxF
import Derived.Test.YtepnknffaecbdaaVPlX
import Derived.Test.YtepnknffaecbdaaVF4
namespace Go.Proofs.Ytepnknffaecbdaa
open Go.Sx Go.Pl Go.RowKit
theorem ag111F7 : Ag Try.prog 111 2 := ⟨⟨_, Try.underlying111⟩, by kernel_rfl⟩
theorem cl152F7 : Callable Try.prog 152 := callable Try.func152 (by kernel_rfl) rfl
theorem cl32F7 : Callable Try.prog 32 := callable Try.func32 (by kernel_rfl) rfl
theorem cl36F7 : Callable Try.prog 36 := callable Try.func36 (by kernel_rfl) rfl
theorem fa102_0F7 : FieldAt Try.prog 102 0 0 := ⟨_, _, Try.underlying102, rfl, rfl, ⟨0, by unfold Sz; kernel_rfl⟩⟩
theorem fa102_1F7 : FieldAt Try.prog 102 1 1 := ⟨_, _, Try.underlying102, rfl, rfl, ⟨0, by unfold Sz; kernel_rfl⟩⟩
theorem fa111_0F7 : FieldAt Try.prog 111 0 0 := ⟨_, _, Try.underlying111, rfl, rfl, ⟨0, by unfold Sz; kernel_rfl⟩⟩
theorem fa111_1F7 : FieldAt Try.prog 111 1 1 := ⟨_, _, Try.underlying111, rfl, rfl, ⟨0, by unfold Sz; kernel_rfl⟩⟩
theorem sc3F7 : Sc Try.prog 3 := ⟨(.int .i64), by kernel_rfl, trivial⟩
theorem sc40F7 : Sc Try.prog 40 := ⟨(.slice 3), by kernel_rfl, trivial⟩
theorem sz111F7 : Sz Try.prog 111 2 := by unfold Sz; kernel_rfl
theorem sz3F7 : Sz Try.prog 3 1 := by unfold Sz; kernel_rfl
theorem sz40F7 : Sz Try.prog 40 1 := by unfold Sz; kernel_rfl
theorem zr111F7 : ZeroV Try.prog 111 [.int .i64 0, .slice none 0 0] := by unfold ZeroV; kernel_rfl
/-- laws.szBlock -/
theorem l_szBlock (m : Int) (p : Option Addr) (n c : Nat) (left : Int) (w : World) (hs : n ≤ 9223372036854775807) (hl : 0 ≤ left ∧ left ≤ 9223372036854775807) :
    Calls Try.prog 67 [.agg [.int .i64 m, .slice p n c].toArray, .int .i64 left].toArray w (Ret w (.int .i64 (szOf left n))) := by
  have L : Exm [] w w := Exm.rfl'
  refine enter (n := 12) Try.func67 rfl rfl rfl ?_
  refine wp_seq ?_
  refine c_reg ?_
  refine s_box rfl rfl ?_
  intro b1 w2 lob1 hib1 l3 B1
  have z_l3 := l3.size
  have L := L.tr l3.up
  refine s0 (x_assign (v := .int _ _) rfl) ?_
  refine c_end ?_
  refine n_then ?_
  refine wp_seq ?_
  refine c_reg ?_
  refine s0 (x_fieldAddr fa102_1F7 rfl) ?_
  refine st (x_loadB sc40F7 rfl B1 rfl) ?_
  refine s0 (x_move (v := .int _ _) rfl) ?_
  refine sr (zcall cl152F7 rfl) (l_szIntS _ _ _ _ _ (by omega) (by omega)) ?_
  intro w4 l5
  have z_l5 := l5.size
  have L := L.tr l5.up
  have B1 := B1.ext l5
  refine s0 (x_assign (v := .int _ _) rfl) ?_
  refine c_end ?_
  refine n_then ?_
  refine wp_seq ?_
  refine wp_seq ?_
  refine c_reg ?_
  refine s0 (x_move (v := .int _ _) rfl) ?_
  refine sb (x_lss rfl rfl) (fun h10 => ?_) (fun h10 => ?_)
  · refine c_end ?_
    refine n_then ?_
    refine c_true rfl ?_
    refine wp_seq ?_
    refine c_reg ?_
    refine s0 (x_assign (v := .int _ _) rfl) ?_
    refine c_end ?_
    refine n_then ?_
    refine wp_ret (r_then ?_)
    refine f_ret rfl rfl ?_
    exact ⟨ret_int (by unfold szOf at h10 ⊢; split at h10 <;> simp_all <;> omega), L⟩
  · refine c_end ?_
    refine n_then ?_
    refine c_false rfl ?_
    refine c_skipn ?_
    refine n_then ?_
    refine wp_seq ?_
    refine c_reg ?_
    refine s0 (x_move (v := .int _ _) rfl) ?_
    refine s0 (x_assign (v := .int _ _) rfl) ?_
    refine c_end ?_
    refine n_then ?_
    refine wp_ret ?_
    refine f_ret rfl rfl ?_
    exact ⟨rfl, L⟩

/-- laws.toBlock -/
theorem l_toBlock (m : Int) (p : Option Addr) (xs : List Int) (c : Nat) (w : World) (hp : Sl w p xs.length c 1 (ic xs)) (hl : xs.length ≤ 1099511627776) :
    Calls Try.prog 71 [.agg [.int .i64 m, .slice p xs.length c].toArray].toArray w (RetP w fun v w' => ∃ p' c' F', v = .agg [.int .i64 m, .slice p' xs.length c'].toArray ∧ Own w' p' xs.length c' 3 1 (ic xs) F' ∧ Fr w.heap.size F') := by
  have L : Exm [] w w := Exm.rfl'
  refine enter (n := 12) Try.func71 rfl rfl rfl ?_
  refine wp_seq ?_
  refine c_reg ?_
  refine s_box rfl rfl ?_
  intro b1 w2 lob1 hib1 l3 B1
  have z_l3 := l3.size
  have L := L.tr l3.up
  refine s_alloc zr111F7 ?_
  intro b4 w5 lob4 hib4 l6 B4
  have z_l6 := l6.size
  have L := L.tr l6.up
  have B1 := B1.ext l6
  refine c_end ?_
  refine n_then ?_
  refine wp_seq ?_
  refine c_reg ?_
  refine s_alloc zr111F7 ?_
  intro b7 w8 lob7 hib7 l9 B7
  have z_l9 := l9.size
  have L := L.tr l9.up
  have B1 := B1.ext l9
  have B4 := B4.ext l9
  refine c_end ?_
  refine n_then ?_
  refine wp_seq ?_
  refine c_reg ?_
  refine s0 (x_fieldAddr fa102_0F7 rfl) ?_
  refine st (x_loadB sc3F7 rfl B1 rfl) ?_
  refine s0 (x_fieldAddr fa111_0F7 rfl) ?_
  refine s_store (v := .int _ _) (cs' := [_, _]) rfl sz3F7 rfl rfl rfl rfl B7 rfl rfl ?_
  intro w10 l11 el11 B7
  have z_l11 := l11.size
  have L := L.fresh l11 (by omega)
  have B1 := B1.ne l11 (by omega)
  have B4 := B4.ne l11 (by omega)
  refine c_end ?_
  refine n_then ?_
  refine wp_seq ?_
  refine c_reg ?_
  refine s0 (x_fieldAddr fa102_1F7 rfl) ?_
  refine st (x_loadB sc40F7 rfl B1 rfl) ?_
  refine sp (zcall cl32F7 rfl) (l_toIntS _ _ _ _ (hp.ext L) (by omega)) ?_
  rintro v9 w12 l13 ⟨p9, c9, F9, rfl, o9, f9⟩
  have z_l13 := l13.size
  have L := L.tr l13.up
  have B1 := B1.ext l13
  have B4 := B4.ext l13
  have B7 := B7.ext l13
  have g9 := o9.lt
  refine s0 (x_fieldAddr fa111_1F7 rfl) ?_
  refine s_store (v := .slice _ _ _) (cs' := [_, _]) rfl sz40F7 rfl rfl rfl rfl B7 rfl rfl ?_
  intro w14 l15 el15 B7
  have z_l15 := l15.size
  have L := L.fresh l15 (by omega)
  have B1 := B1.ne l15 (by omega)
  have B4 := B4.ne l15 (by omega)
  have o9 := o9.ne l15 (by first | assumption | exact nin_of f9 g9 (by omega))
  refine c_end ?_
  refine n_then ?_
  refine wp_seq ?_
  refine c_reg ?_
  refine st (x_loadAgB ag111F7 rfl B7 rfl) ?_
  refine s_storeAg rfl sz111F7 rfl rfl B4 rfl rfl rfl ?_
  intro w16 l17 el17 B4
  have z_l17 := l17.size
  have L := L.fresh l17 (by omega)
  have B1 := B1.ne l17 (by omega)
  have B7 := B7.ne l17 (by omega)
  have o9 := o9.ne l17 (by first | assumption | exact nin_of f9 g9 (by omega))
  refine c_end ?_
  refine n_then ?_
  refine wp_ret ?_
  refine f_retc rfl rfl ag111F7 B4 rfl ?_
  exact ⟨_, rfl, L, _, _, _, rfl, o9, f9.mono (by omega)⟩

/-- laws.eqBlock -/
theorem l_eqBlock (m m' : Int) (p q : Option Addr) (xs ys : List Int) (c d : Nat) (w : World) (hp : Sl w p xs.length c 1 (ic xs)) (hq : Sl w q ys.length d 1 (ic ys)) (hl : xs.length ≤ 1099511627776) :
    Calls Try.prog 74 [.agg [.int .i64 m, .slice p xs.length c].toArray, .agg [.int .i64 m', .slice q ys.length d].toArray].toArray w (Ret w (.bool (decide (m = m' ∧ xs = ys)))) := by
  have L : Exm [] w w := Exm.rfl'
  refine enter (n := 16) Try.func74 rfl rfl rfl ?_
  refine wp_seq ?_
  refine c_reg ?_
  refine s_box rfl rfl ?_
  intro b1 w2 lob1 hib1 l3 B1
  have z_l3 := l3.size
  have L := L.tr l3.up
  refine s_box rfl rfl ?_
  intro b4 w5 lob4 hib4 l6 B4
  have z_l6 := l6.size
  have L := L.tr l6.up
  have B1 := B1.ext l6
  refine s0 (x_assign (v := .bool _) rfl) ?_
  refine c_end ?_
  refine n_then ?_
  refine wp_seq ?_
  refine wp_seq ?_
  refine c_reg ?_
  refine s0 (x_fieldAddr fa111_0F7 rfl) ?_
  refine st (x_loadB sc3F7 rfl B1 rfl) ?_
  refine s0 (x_fieldAddr fa111_0F7 rfl) ?_
  refine st (x_loadB sc3F7 rfl B4 rfl) ?_
  refine sb (x_neq rfl rfl) (fun h9 => ?_) (fun h9 => ?_)
  · refine c_end ?_
    refine n_then ?_
    refine c_true rfl ?_
    refine wp_seq ?_
    refine c_reg ?_
    refine s0 (x_assign (v := .bool _) rfl) ?_
    refine c_end ?_
    refine n_then ?_
    refine wp_ret (r_then ?_)
    refine f_ret rfl rfl ?_
    exact ⟨ret_f (by simp_all), L⟩
  · refine c_end ?_
    refine n_then ?_
    refine c_false rfl ?_
    refine c_skipn ?_
    refine n_then ?_
    refine wp_seq ?_
    refine wp_seq ?_
    refine c_reg ?_
    refine s0 (x_fieldAddr fa111_1F7 rfl) ?_
    refine st (x_loadB sc40F7 rfl B1 rfl) ?_
    refine s0 (x_fieldAddr fa111_1F7 rfl) ?_
    refine st (x_loadB sc40F7 rfl B4 rfl) ?_
    refine srb (zcall cl36F7 rfl) (l_eqIntS _ _ _ _ _ _ _ (hp.ext L) (hq.ext L) (by omega)) (fun h14 w7 l8 => ?_) (fun h14 w7 l8 => ?_)
    · have z_l8 := l8.size
      have L := L.tr l8.up
      have B1 := B1.ext l8
      have B4 := B4.ext l8
      refine s0 (x_not rfl) ?_
      refine c_end ?_
      refine n_then ?_
      refine c_false rfl ?_
      refine c_skipn ?_
      refine n_then ?_
      refine wp_seq ?_
      refine c_reg ?_
      refine s0 (x_assign (v := .bool _) rfl) ?_
      refine c_end ?_
      refine n_then ?_
      refine wp_ret ?_
      refine f_ret rfl rfl ?_
      exact ⟨ret_t (by simp_all), L⟩
    · have z_l8 := l8.size
      have L := L.tr l8.up
      have B1 := B1.ext l8
      have B4 := B4.ext l8
      refine s0 (x_not rfl) ?_
      refine c_end ?_
      refine n_then ?_
      refine c_true rfl ?_
      refine wp_seq ?_
      refine c_reg ?_
      refine s0 (x_assign (v := .bool _) rfl) ?_
      refine c_end ?_
      refine n_then ?_
      refine wp_ret (r_then ?_)
      refine f_ret rfl rfl ?_
      exact ⟨ret_f (by simp_all), L⟩

theorem upto_succ' {φ : Nat → Prop} {k : Nat} (h : ∀ j : Nat, j < k → φ j) (h1 : φ k) : ∀ j : Nat, j < k + 1 → φ j := fun j hj => by
  rcases Nat.lt_or_ge j k with h2 | h2
  · exact h j h2
  · obtain rfl : j = k := by omega
    exact h1

end Go.Proofs.Ytepnknffaecbdaa
