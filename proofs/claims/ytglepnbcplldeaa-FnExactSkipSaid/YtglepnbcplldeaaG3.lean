/- What each function of this part returns, for every argument that meets its premises. -/
import Derived.Test.YtglepnbcplldeaaF3
namespace Go.Proofs.Ytglepnbcplldeaa
open Go.Sx Go.Pl Go.RowKit
theorem cl30 : Callable Try.prog 30 := callable Try.func30 (by kernel_rfl) rfl
theorem cl31 : Callable Try.prog 31 := callable Try.func31 (by kernel_rfl) rfl
theorem cl32 : Callable Try.prog 32 := callable Try.func32 (by kernel_rfl) rfl
theorem cl33 : Callable Try.prog 33 := callable Try.func33 (by kernel_rfl) rfl
theorem cl37 : Callable Try.prog 37 := callable Try.func37 (by kernel_rfl) rfl
theorem cl38 : Callable Try.prog 38 := callable Try.func38 (by kernel_rfl) rfl
theorem cl51 : Callable Try.prog 51 := callable Try.func51 (by kernel_rfl) rfl
theorem cl52 : Callable Try.prog 52 := callable Try.func52 (by kernel_rfl) rfl
/-- laws.FnExactPlaceIn -/
theorem l_fnPlace (s : ByteArray) (c : Ca) (w : World) (hs : s.size ≤ 9223372036854775807) :
    Calls Try.prog 4 [.agg [.string s, .int .i64 (c).pos, .int .i64 (c).word, .int .i64 (c).hv].toArray].toArray w (Ret w (.bool true)) := by
  have L : Exm [] w w := Exm.rfl'
  refine enter (n := 20) Try.func4 rfl rfl rfl ?_
  refine wp_seq ?_
  refine c_reg ?_
  refine s_box rfl rfl ?_
  intro b1 w2 lob1 hib1 l3 B1
  have z_l3 := l3.size
  have L := L.tr l3.up
  refine s0 (x_assign (v := .bool _) rfl) ?_
  refine c_end ?_
  refine n_then ?_
  refine wp_seq ?_
  refine c_reg ?_
  refine s0 (x_assign (v := .int _ _) rfl) ?_
  refine c_end ?_
  refine n_then ?_
  refine wp_seq ?_
  refine c_reg ?_
  refine st (x_loadAgB ag23 rfl B1 rfl) ?_
  refine s0 (x_move (v := .int _ _) rfl) ?_
  refine sr (zcall cl16 rfl) (l_szCache _ _ _ _ _ _ (by omega) (by omega)) ?_
  intro w4 l5
  have z_l5 := l5.size
  have L := L.tr l5.up
  have B1 := B1.ext l5
  refine s0 (x_assign (v := .int _ _) rfl) ?_
  refine c_end ?_
  refine n_then ?_
  refine wp_seq ?_
  refine wp_seq ?_
  refine c_reg ?_
  refine s0 (x_move (v := .int _ _) rfl) ?_
  refine sb (x_lss rfl rfl) (fun h10 => ?_) (fun h10 => ?_)
  · refine c_end ?_
    refine n_then ?_
    refine c_true rfl ?_
    refine wp_seq ?_
    refine c_reg ?_
    refine s0 (x_assign (v := .bool _) rfl) ?_
    refine c_end ?_
    refine n_then ?_
    refine wp_ret (r_then ?_)
    refine f_ret rfl rfl ?_
    exact ⟨rfl, L⟩
  · refine c_end ?_
    refine n_then ?_
    refine c_false rfl ?_
    refine c_skipn ?_
    refine n_then ?_
    refine wp_seq ?_
    have hs1 : s.size ≤ 1048576 := by unfold szOf at h10; split at h10 <;> omega
    refine c_reg ?_
    refine st (x_loadAgB ag23 rfl B1 rfl) ?_
    refine sr (zcall cl18 rfl) (l_toCache _ _ _ _ _) ?_
    intro w6 l7
    have z_l7 := l7.size
    have L := L.tr l7.up
    have B1 := B1.ext l7
    refine sr (zcall cl20 rfl) (s_place _ c _ (by omega)) ?_
    intro w8 l9
    have z_l9 := l9.size
    have L := L.tr l9.up
    have B1 := B1.ext l9
    refine s0 (x_assign (v := .int _ _) rfl) ?_
    refine c_end ?_
    refine n_then ?_
    refine wp_seq ?_
    refine c_reg ?_
    refine st (x_loadAgB ag23 rfl B1 rfl) ?_
    refine sr (zcall cl18 rfl) (l_toCache _ _ _ _ _) ?_
    intro w10 l11
    have z_l11 := l11.size
    have L := L.tr l11.up
    have B1 := B1.ext l11
    refine sr (zcall cl21 rfl) (i_place _ c _ (by omega)) ?_
    intro w12 l13
    have z_l13 := l13.size
    have L := L.tr l13.up
    have B1 := B1.ext l13
    refine s0 (x_assign (v := .int _ _) rfl) ?_
    refine c_end ?_
    refine n_then ?_
    refine wp_seq ?_
    refine wp_seq ?_
    refine c_reg ?_
    refine s0 (x_move (v := .int _ _) rfl) ?_
    refine s0 (x_move (v := .int _ _) rfl) ?_
    refine sb (x_neq rfl rfl) (fun h19 => ?_) (fun h19 => ?_)
    · exact absurd rfl h19
    · refine c_end ?_
      refine n_then ?_
      refine c_false rfl ?_
      refine c_skipn ?_
      refine n_then ?_
      refine wp_seq ?_
      refine c_reg ?_
      refine s0 (x_assign (v := .bool _) rfl) ?_
      refine c_end ?_
      refine n_then ?_
      refine wp_ret ?_
      refine f_ret rfl rfl ?_
      exact ⟨rfl, L⟩

/-- laws.FnExactRefill -/
theorem l_fnRefill (s : ByteArray) (c : Ca) (w : World) (hs : s.size ≤ 9223372036854775807) :
    Calls Try.prog 7 [.agg [.string s, .int .i64 (c).pos, .int .i64 (c).word, .int .i64 (c).hv].toArray].toArray w (Ret w (.bool true)) := by
  have L : Exm [] w w := Exm.rfl'
  refine enter (n := 21) Try.func7 rfl rfl rfl ?_
  refine wp_seq ?_
  refine c_reg ?_
  refine s_box rfl rfl ?_
  intro b1 w2 lob1 hib1 l3 B1
  have z_l3 := l3.size
  have L := L.tr l3.up
  refine s0 (x_assign (v := .bool _) rfl) ?_
  refine c_end ?_
  refine n_then ?_
  refine wp_seq ?_
  refine c_reg ?_
  refine s0 (x_assign (v := .int _ _) rfl) ?_
  refine c_end ?_
  refine n_then ?_
  refine wp_seq ?_
  refine c_reg ?_
  refine st (x_loadAgB ag23 rfl B1 rfl) ?_
  refine s0 (x_move (v := .int _ _) rfl) ?_
  refine sr (zcall cl16 rfl) (l_szCache _ _ _ _ _ _ (by omega) (by omega)) ?_
  intro w4 l5
  have z_l5 := l5.size
  have L := L.tr l5.up
  have B1 := B1.ext l5
  refine s0 (x_assign (v := .int _ _) rfl) ?_
  refine c_end ?_
  refine n_then ?_
  refine wp_seq ?_
  refine wp_seq ?_
  refine c_reg ?_
  refine s0 (x_move (v := .int _ _) rfl) ?_
  refine sb (x_lss rfl rfl) (fun h10 => ?_) (fun h10 => ?_)
  · refine c_end ?_
    refine n_then ?_
    refine c_true rfl ?_
    refine wp_seq ?_
    refine c_reg ?_
    refine s0 (x_assign (v := .bool _) rfl) ?_
    refine c_end ?_
    refine n_then ?_
    refine wp_ret (r_then ?_)
    refine f_ret rfl rfl ?_
    exact ⟨rfl, L⟩
  · refine c_end ?_
    refine n_then ?_
    refine c_false rfl ?_
    refine c_skipn ?_
    refine n_then ?_
    refine wp_seq ?_
    have hs1 : s.size ≤ 1048576 := by unfold szOf at h10; split at h10 <;> omega
    refine c_reg ?_
    refine st (x_loadAgB ag23 rfl B1 rfl) ?_
    refine sr (zcall cl18 rfl) (l_toCache _ _ _ _ _) ?_
    intro w6 l7
    have z_l7 := l7.size
    have L := L.tr l7.up
    have B1 := B1.ext l7
    refine sr (zcall cl29 rfl) (s_refill _ c _ (by omega)) ?_
    intro w8 l9
    have z_l9 := l9.size
    have L := L.tr l9.up
    have B1 := B1.ext l9
    refine s_alloc zr26 ?_
    intro b10 w11 lob10 hib10 l12 B10
    have z_l12 := l12.size
    have L := L.tr l12.up
    have B1 := B1.ext l12
    refine s_storeAg rfl sz26 rfl rfl B10 rfl rfl rfl ?_
    intro w13 l14 el14 B10
    have z_l14 := l14.size
    have L := L.fresh l14 (by omega)
    have B1 := B1.ne l14 (by omega)
    refine c_end ?_
    refine n_then ?_
    refine wp_seq ?_
    refine c_reg ?_
    refine st (x_loadAgB ag23 rfl B1 rfl) ?_
    refine sr (zcall cl18 rfl) (l_toCache _ _ _ _ _) ?_
    intro w15 l16
    have z_l16 := l16.size
    have L := L.tr l16.up
    have B1 := B1.ext l16
    have B10 := B10.ext l16
    refine sr (zcall cl30 rfl) (i_refill _ c _ (by omega)) ?_
    intro w17 l18
    have z_l18 := l18.size
    have L := L.tr l18.up
    have B1 := B1.ext l18
    have B10 := B10.ext l18
    refine s_alloc zr26 ?_
    intro b19 w20 lob19 hib19 l21 B19
    have z_l21 := l21.size
    have L := L.tr l21.up
    have B1 := B1.ext l21
    have B10 := B10.ext l21
    refine s_storeAg rfl sz26 rfl rfl B19 rfl rfl rfl ?_
    intro w22 l23 el23 B19
    have z_l23 := l23.size
    have L := L.fresh l23 (by omega)
    have B1 := B1.ne l23 (by omega)
    have B10 := B10.ne l23 (by omega)
    refine c_end ?_
    refine n_then ?_
    refine wp_seq ?_
    refine wp_seq ?_
    refine c_reg ?_
    refine st (x_loadAgB ag26 rfl B19 rfl) ?_
    refine st (x_loadAgB ag26 rfl B10 rfl) ?_
    refine srb (zcall cl31 rfl) (l_eqCache _ _ _ _ _) (fun h19 w24 l25 => ?_) (fun h19 w24 l25 => ?_)
    · have z_l25 := l25.size
      have L := L.tr l25.up
      have B1 := B1.ext l25
      have B10 := B10.ext l25
      have B19 := B19.ext l25
      refine s0 (x_not rfl) ?_
      refine c_end ?_
      refine n_then ?_
      refine c_false rfl ?_
      refine c_skipn ?_
      refine n_then ?_
      refine wp_seq ?_
      refine c_reg ?_
      refine s0 (x_assign (v := .bool _) rfl) ?_
      refine c_end ?_
      refine n_then ?_
      refine wp_ret ?_
      refine f_ret rfl rfl ?_
      exact ⟨rfl, L⟩
    · exact (h19 (by simp)).elim

/-- laws.FnExactSettle -/
theorem l_fnSettle (s : ByteArray) (c : Ca) (w : World) (hs : s.size ≤ 9223372036854775807) :
    Calls Try.prog 8 [.agg [.string s, .int .i64 (c).pos, .int .i64 (c).word, .int .i64 (c).hv].toArray].toArray w (Ret w (.bool true)) := by
  have L : Exm [] w w := Exm.rfl'
  refine enter (n := 21) Try.func8 rfl rfl rfl ?_
  refine wp_seq ?_
  refine c_reg ?_
  refine s_box rfl rfl ?_
  intro b1 w2 lob1 hib1 l3 B1
  have z_l3 := l3.size
  have L := L.tr l3.up
  refine s0 (x_assign (v := .bool _) rfl) ?_
  refine c_end ?_
  refine n_then ?_
  refine wp_seq ?_
  refine c_reg ?_
  refine s0 (x_assign (v := .int _ _) rfl) ?_
  refine c_end ?_
  refine n_then ?_
  refine wp_seq ?_
  refine c_reg ?_
  refine st (x_loadAgB ag23 rfl B1 rfl) ?_
  refine s0 (x_move (v := .int _ _) rfl) ?_
  refine sr (zcall cl16 rfl) (l_szCache _ _ _ _ _ _ (by omega) (by omega)) ?_
  intro w4 l5
  have z_l5 := l5.size
  have L := L.tr l5.up
  have B1 := B1.ext l5
  refine s0 (x_assign (v := .int _ _) rfl) ?_
  refine c_end ?_
  refine n_then ?_
  refine wp_seq ?_
  refine wp_seq ?_
  refine c_reg ?_
  refine s0 (x_move (v := .int _ _) rfl) ?_
  refine sb (x_lss rfl rfl) (fun h10 => ?_) (fun h10 => ?_)
  · refine c_end ?_
    refine n_then ?_
    refine c_true rfl ?_
    refine wp_seq ?_
    refine c_reg ?_
    refine s0 (x_assign (v := .bool _) rfl) ?_
    refine c_end ?_
    refine n_then ?_
    refine wp_ret (r_then ?_)
    refine f_ret rfl rfl ?_
    exact ⟨rfl, L⟩
  · refine c_end ?_
    refine n_then ?_
    refine c_false rfl ?_
    refine c_skipn ?_
    refine n_then ?_
    refine wp_seq ?_
    have hs1 : s.size ≤ 1048576 := by unfold szOf at h10; split at h10 <;> omega
    refine c_reg ?_
    refine st (x_loadAgB ag23 rfl B1 rfl) ?_
    refine sr (zcall cl18 rfl) (l_toCache _ _ _ _ _) ?_
    intro w6 l7
    have z_l7 := l7.size
    have L := L.tr l7.up
    have B1 := B1.ext l7
    refine sr (zcall cl32 rfl) (s_settle _ c _ (by omega)) ?_
    intro w8 l9
    have z_l9 := l9.size
    have L := L.tr l9.up
    have B1 := B1.ext l9
    refine s_alloc zr26 ?_
    intro b10 w11 lob10 hib10 l12 B10
    have z_l12 := l12.size
    have L := L.tr l12.up
    have B1 := B1.ext l12
    refine s_storeAg rfl sz26 rfl rfl B10 rfl rfl rfl ?_
    intro w13 l14 el14 B10
    have z_l14 := l14.size
    have L := L.fresh l14 (by omega)
    have B1 := B1.ne l14 (by omega)
    refine c_end ?_
    refine n_then ?_
    refine wp_seq ?_
    refine c_reg ?_
    refine st (x_loadAgB ag23 rfl B1 rfl) ?_
    refine sr (zcall cl18 rfl) (l_toCache _ _ _ _ _) ?_
    intro w15 l16
    have z_l16 := l16.size
    have L := L.tr l16.up
    have B1 := B1.ext l16
    have B10 := B10.ext l16
    refine sr (zcall cl33 rfl) (i_settle _ c _ (by omega)) ?_
    intro w17 l18
    have z_l18 := l18.size
    have L := L.tr l18.up
    have B1 := B1.ext l18
    have B10 := B10.ext l18
    refine s_alloc zr26 ?_
    intro b19 w20 lob19 hib19 l21 B19
    have z_l21 := l21.size
    have L := L.tr l21.up
    have B1 := B1.ext l21
    have B10 := B10.ext l21
    refine s_storeAg rfl sz26 rfl rfl B19 rfl rfl rfl ?_
    intro w22 l23 el23 B19
    have z_l23 := l23.size
    have L := L.fresh l23 (by omega)
    have B1 := B1.ne l23 (by omega)
    have B10 := B10.ne l23 (by omega)
    refine c_end ?_
    refine n_then ?_
    refine wp_seq ?_
    refine wp_seq ?_
    refine c_reg ?_
    refine st (x_loadAgB ag26 rfl B19 rfl) ?_
    refine st (x_loadAgB ag26 rfl B10 rfl) ?_
    refine srb (zcall cl31 rfl) (l_eqCache _ _ _ _ _) (fun h19 w24 l25 => ?_) (fun h19 w24 l25 => ?_)
    · have z_l25 := l25.size
      have L := L.tr l25.up
      have B1 := B1.ext l25
      have B10 := B10.ext l25
      have B19 := B19.ext l25
      refine s0 (x_not rfl) ?_
      refine c_end ?_
      refine n_then ?_
      refine c_false rfl ?_
      refine c_skipn ?_
      refine n_then ?_
      refine wp_seq ?_
      refine c_reg ?_
      refine s0 (x_assign (v := .bool _) rfl) ?_
      refine c_end ?_
      refine n_then ?_
      refine wp_ret ?_
      refine f_ret rfl rfl ?_
      exact ⟨rfl, L⟩
    · exact (h19 (by simp)).elim

/-- laws.FnExactPeek -/
theorem l_fnPeek (s : ByteArray) (c : Ca) (n : Int) (w : World) (hs : s.size ≤ 9223372036854775807) :
    Calls Try.prog 13 [.agg [.string s, .int .i64 (c).pos, .int .i64 (c).word, .int .i64 (c).hv].toArray, .int .i64 n].toArray w (Ret w (.bool true)) := by
  have L : Exm [] w w := Exm.rfl'
  refine enter (n := 38) Try.func13 rfl rfl rfl ?_
  refine wp_seq ?_
  refine c_reg ?_
  refine s_box rfl rfl ?_
  intro b1 w2 lob1 hib1 l3 B1
  have z_l3 := l3.size
  have L := L.tr l3.up
  refine s0 (x_assign (v := .bool _) rfl) ?_
  refine c_end ?_
  refine n_then ?_
  refine wp_seq ?_
  refine c_reg ?_
  refine s0 (x_assign (v := .int _ _) rfl) ?_
  refine c_end ?_
  refine n_then ?_
  refine wp_seq ?_
  refine c_reg ?_
  refine st (x_loadAgB ag23 rfl B1 rfl) ?_
  refine s0 (x_move (v := .int _ _) rfl) ?_
  refine sr (zcall cl16 rfl) (l_szCache _ _ _ _ _ _ (by omega) (by omega)) ?_
  intro w4 l5
  have z_l5 := l5.size
  have L := L.tr l5.up
  have B1 := B1.ext l5
  refine s0 (x_assign (v := .int _ _) rfl) ?_
  refine c_end ?_
  refine n_then ?_
  refine wp_seq ?_
  refine wp_seq ?_
  refine c_reg ?_
  refine s0 (x_move (v := .int _ _) rfl) ?_
  refine sb (x_lss rfl rfl) (fun h14 => ?_) (fun h14 => ?_)
  · refine c_end ?_
    refine n_then ?_
    refine c_true rfl ?_
    refine wp_seq ?_
    refine c_reg ?_
    refine s0 (x_assign (v := .bool _) rfl) ?_
    refine c_end ?_
    refine n_then ?_
    refine wp_ret (r_then ?_)
    refine f_ret rfl rfl ?_
    exact ⟨rfl, L⟩
  · refine c_end ?_
    refine n_then ?_
    refine c_false rfl ?_
    refine c_skipn ?_
    refine n_then ?_
    refine wp_seq ?_
    have hs1 : s.size ≤ 1048576 := by unfold szOf at h14; split at h14 <;> omega
    refine c_reg ?_
    refine st (x_loadAgB ag23 rfl B1 rfl) ?_
    refine sr (zcall cl18 rfl) (l_toCache _ _ _ _ _) ?_
    intro w6 l7
    have z_l7 := l7.size
    have L := L.tr l7.up
    have B1 := B1.ext l7
    refine s0 (x_move (v := .int _ _) rfl) ?_
    refine sr (zcall cl51 rfl) (s_peek _ c _ _ (by omega)) ?_
    intro w8 l9
    have z_l9 := l9.size
    have L := L.tr l9.up
    have B1 := B1.ext l9
    refine s0 (x_move (v := .tuple _) rfl) ?_
    refine s0 (x_extract rfl rfl) ?_
    refine s0 (x_extract rfl rfl) ?_
    refine s_alloc zr26 ?_
    intro b10 w11 lob10 hib10 l12 B10
    have z_l12 := l12.size
    have L := L.tr l12.up
    have B1 := B1.ext l12
    refine s_storeAg rfl sz26 rfl rfl B10 rfl rfl rfl ?_
    intro w13 l14 el14 B10
    have z_l14 := l14.size
    have L := L.fresh l14 (by omega)
    have B1 := B1.ne l14 (by omega)
    refine s0 (x_assign (v := .int _ _) rfl) ?_
    refine c_end ?_
    refine n_then ?_
    refine wp_seq ?_
    refine c_reg ?_
    refine st (x_loadAgB ag23 rfl B1 rfl) ?_
    refine sr (zcall cl18 rfl) (l_toCache _ _ _ _ _) ?_
    intro w15 l16
    have z_l16 := l16.size
    have L := L.tr l16.up
    have B1 := B1.ext l16
    have B10 := B10.ext l16
    refine s0 (x_move (v := .int _ _) rfl) ?_
    refine sr (zcall cl37 rfl) (i_peek _ c _ _ (by omega)) ?_
    intro w17 l18
    have z_l18 := l18.size
    have L := L.tr l18.up
    have B1 := B1.ext l18
    have B10 := B10.ext l18
    refine s0 (x_move (v := .tuple _) rfl) ?_
    refine s0 (x_extract rfl rfl) ?_
    refine s0 (x_extract rfl rfl) ?_
    refine s_alloc zr26 ?_
    intro b19 w20 lob19 hib19 l21 B19
    have z_l21 := l21.size
    have L := L.tr l21.up
    have B1 := B1.ext l21
    have B10 := B10.ext l21
    refine s_storeAg rfl sz26 rfl rfl B19 rfl rfl rfl ?_
    intro w22 l23 el23 B19
    have z_l23 := l23.size
    have L := L.fresh l23 (by omega)
    have B1 := B1.ne l23 (by omega)
    have B10 := B10.ne l23 (by omega)
    refine s0 (x_assign (v := .int _ _) rfl) ?_
    refine c_end ?_
    refine n_then ?_
    refine wp_seq ?_
    refine wp_seq ?_
    refine c_reg ?_
    refine st (x_loadAgB ag26 rfl B19 rfl) ?_
    refine st (x_loadAgB ag26 rfl B10 rfl) ?_
    refine srb (zcall cl31 rfl) (l_eqCache _ _ _ _ _) (fun h31 w24 l25 => ?_) (fun h31 w24 l25 => ?_)
    · have z_l25 := l25.size
      have L := L.tr l25.up
      have B1 := B1.ext l25
      have B10 := B10.ext l25
      have B19 := B19.ext l25
      refine s0 (x_not rfl) ?_
      refine s0 (x_move (v := .bool _) rfl) ?_
      refine gt rfl rfl rfl rfl ?_
      refine s0 (x_move (v := .int _ _) rfl) ?_
      refine gt rfl rfl rfl rfl ?_
      refine s0 (x_move (v := .int _ _) rfl) ?_
      refine gt rfl rfl rfl rfl ?_
      refine sb (x_neq rfl rfl) (fun h36 => ?_) (fun h36 => ?_)
      · exact absurd rfl h36
      · refine s0 (x_pickf (v := .bool _) rfl rfl) ?_
        refine c_end ?_
        refine n_then ?_
        refine c_false rfl ?_
        refine c_skipn ?_
        refine n_then ?_
        refine wp_seq ?_
        refine c_reg ?_
        refine s0 (x_assign (v := .bool _) rfl) ?_
        refine c_end ?_
        refine n_then ?_
        refine wp_ret ?_
        refine f_ret rfl rfl ?_
        exact ⟨rfl, L⟩
    · exact (h31 (by simp)).elim

/-- laws.FnExactSkip -/
theorem l_fnSkip (s : ByteArray) (c : Ca) (n : Int) (w : World) (hs : s.size ≤ 9223372036854775807) :
    Calls Try.prog 14 [.agg [.string s, .int .i64 (c).pos, .int .i64 (c).word, .int .i64 (c).hv].toArray, .int .i64 n].toArray w (Ret w (.bool true)) := by
  have L : Exm [] w w := Exm.rfl'
  refine enter (n := 38) Try.func14 rfl rfl rfl ?_
  refine wp_seq ?_
  refine c_reg ?_
  refine s_box rfl rfl ?_
  intro b1 w2 lob1 hib1 l3 B1
  have z_l3 := l3.size
  have L := L.tr l3.up
  refine s0 (x_assign (v := .bool _) rfl) ?_
  refine c_end ?_
  refine n_then ?_
  refine wp_seq ?_
  refine c_reg ?_
  refine s0 (x_assign (v := .int _ _) rfl) ?_
  refine c_end ?_
  refine n_then ?_
  refine wp_seq ?_
  refine c_reg ?_
  refine st (x_loadAgB ag23 rfl B1 rfl) ?_
  refine s0 (x_move (v := .int _ _) rfl) ?_
  refine sr (zcall cl16 rfl) (l_szCache _ _ _ _ _ _ (by omega) (by omega)) ?_
  intro w4 l5
  have z_l5 := l5.size
  have L := L.tr l5.up
  have B1 := B1.ext l5
  refine s0 (x_assign (v := .int _ _) rfl) ?_
  refine c_end ?_
  refine n_then ?_
  refine wp_seq ?_
  refine wp_seq ?_
  refine c_reg ?_
  refine s0 (x_move (v := .int _ _) rfl) ?_
  refine sb (x_lss rfl rfl) (fun h14 => ?_) (fun h14 => ?_)
  · refine c_end ?_
    refine n_then ?_
    refine c_true rfl ?_
    refine wp_seq ?_
    refine c_reg ?_
    refine s0 (x_assign (v := .bool _) rfl) ?_
    refine c_end ?_
    refine n_then ?_
    refine wp_ret (r_then ?_)
    refine f_ret rfl rfl ?_
    exact ⟨rfl, L⟩
  · refine c_end ?_
    refine n_then ?_
    refine c_false rfl ?_
    refine c_skipn ?_
    refine n_then ?_
    refine wp_seq ?_
    have hs1 : s.size ≤ 1048576 := by unfold szOf at h14; split at h14 <;> omega
    refine c_reg ?_
    refine st (x_loadAgB ag23 rfl B1 rfl) ?_
    refine sr (zcall cl18 rfl) (l_toCache _ _ _ _ _) ?_
    intro w6 l7
    have z_l7 := l7.size
    have L := L.tr l7.up
    have B1 := B1.ext l7
    refine s0 (x_move (v := .int _ _) rfl) ?_
    refine sr (zcall cl52 rfl) (s_skip _ c _ _ (by omega)) ?_
    intro w8 l9
    have z_l9 := l9.size
    have L := L.tr l9.up
    have B1 := B1.ext l9
    refine s0 (x_move (v := .tuple _) rfl) ?_
    refine s0 (x_extract rfl rfl) ?_
    refine s0 (x_extract rfl rfl) ?_
    refine s_alloc zr26 ?_
    intro b10 w11 lob10 hib10 l12 B10
    have z_l12 := l12.size
    have L := L.tr l12.up
    have B1 := B1.ext l12
    refine s_storeAg rfl sz26 rfl rfl B10 rfl rfl rfl ?_
    intro w13 l14 el14 B10
    have z_l14 := l14.size
    have L := L.fresh l14 (by omega)
    have B1 := B1.ne l14 (by omega)
    refine s0 (x_assign (v := .bool _) rfl) ?_
    refine c_end ?_
    refine n_then ?_
    refine wp_seq ?_
    refine c_reg ?_
    refine st (x_loadAgB ag23 rfl B1 rfl) ?_
    refine sr (zcall cl18 rfl) (l_toCache _ _ _ _ _) ?_
    intro w15 l16
    have z_l16 := l16.size
    have L := L.tr l16.up
    have B1 := B1.ext l16
    have B10 := B10.ext l16
    refine s0 (x_move (v := .int _ _) rfl) ?_
    refine sr (zcall cl38 rfl) (i_skip _ c _ _ (by omega)) ?_
    intro w17 l18
    have z_l18 := l18.size
    have L := L.tr l18.up
    have B1 := B1.ext l18
    have B10 := B10.ext l18
    refine s0 (x_move (v := .tuple _) rfl) ?_
    refine s0 (x_extract rfl rfl) ?_
    refine s0 (x_extract rfl rfl) ?_
    refine s_alloc zr26 ?_
    intro b19 w20 lob19 hib19 l21 B19
    have z_l21 := l21.size
    have L := L.tr l21.up
    have B1 := B1.ext l21
    have B10 := B10.ext l21
    refine s_storeAg rfl sz26 rfl rfl B19 rfl rfl rfl ?_
    intro w22 l23 el23 B19
    have z_l23 := l23.size
    have L := L.fresh l23 (by omega)
    have B1 := B1.ne l23 (by omega)
    have B10 := B10.ne l23 (by omega)
    refine s0 (x_assign (v := .bool _) rfl) ?_
    refine c_end ?_
    refine n_then ?_
    refine wp_seq ?_
    refine wp_seq ?_
    refine c_reg ?_
    refine st (x_loadAgB ag26 rfl B19 rfl) ?_
    refine st (x_loadAgB ag26 rfl B10 rfl) ?_
    refine srb (zcall cl31 rfl) (l_eqCache _ _ _ _ _) (fun h31 w24 l25 => ?_) (fun h31 w24 l25 => ?_)
    · have z_l25 := l25.size
      have L := L.tr l25.up
      have B1 := B1.ext l25
      have B10 := B10.ext l25
      have B19 := B19.ext l25
      refine s0 (x_not rfl) ?_
      refine s0 (x_move (v := .bool _) rfl) ?_
      refine gt rfl rfl rfl rfl ?_
      refine s0 (x_move (v := .bool _) rfl) ?_
      refine gt rfl rfl rfl rfl ?_
      refine s0 (x_move (v := .bool _) rfl) ?_
      refine gt rfl rfl rfl rfl ?_
      refine sb (x_neqb un4 rfl rfl) (fun h36 => ?_) (fun h36 => ?_)
      · exact absurd rfl h36
      · refine s0 (x_pickf (v := .bool _) rfl rfl) ?_
        refine c_end ?_
        refine n_then ?_
        refine c_false rfl ?_
        refine c_skipn ?_
        refine n_then ?_
        refine wp_seq ?_
        refine c_reg ?_
        refine s0 (x_assign (v := .bool _) rfl) ?_
        refine c_end ?_
        refine n_then ?_
        refine wp_ret ?_
        refine f_ret rfl rfl ?_
        exact ⟨rfl, L⟩
    · exact (h31 (by simp)).elim

end Go.Proofs.Ytglepnbcplldeaa
