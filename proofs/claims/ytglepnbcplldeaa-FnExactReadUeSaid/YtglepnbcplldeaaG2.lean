/- What each function of this part returns, for every argument that meets its premises. -/
import Derived.Test.YtglepnbcplldeaaF2
namespace Go.Proofs.Ytglepnbcplldeaa
open Go.Sx Go.Pl Go.RowKit
theorem ag31 : Ag Try.prog 31 2 := ⟨⟨_, Try.underlying31⟩, by kernel_rfl⟩
theorem cl22 : Callable Try.prog 22 := callable Try.func22 (by kernel_rfl) rfl
theorem cl24 : Callable Try.prog 24 := callable Try.func24 (by kernel_rfl) rfl
theorem cl26 : Callable Try.prog 26 := callable Try.func26 (by kernel_rfl) rfl
theorem cl27 : Callable Try.prog 27 := callable Try.func27 (by kernel_rfl) rfl
theorem cl28 : Callable Try.prog 28 := callable Try.func28 (by kernel_rfl) rfl
theorem cl45 : Callable Try.prog 45 := callable Try.func45 (by kernel_rfl) rfl
theorem cl46 : Callable Try.prog 46 := callable Try.func46 (by kernel_rfl) rfl
/-- laws.FnExactReadBits -/
theorem l_fnReadBits (s : ByteArray) (a n : Int) (w : World) (hs : s.size ≤ 9223372036854775807) :
    Calls Try.prog 5 [.agg [.string s, .int .i64 a].toArray, .int .i64 n].toArray w (Ret w (.bool true)) := by
  have L : Exm [] w w := Exm.rfl'
  refine enter (n := 47) Try.func5 rfl rfl rfl ?_
  refine wp_seq ?_
  refine c_reg ?_
  refine s_box rfl rfl ?_
  intro b1 w2 lob1 hib1 l3 B1
  have z_l3 := l3.size
  have L := L.tr l3.up
  refine s0 (x_assign (v := .bool _) rfl) ?_
  refine c_end ?_
  refine n_then ?_
  refine wp_seq ?_
  refine c_reg ?_
  refine s0 (x_assign (v := .int _ _) rfl) ?_
  refine c_end ?_
  refine n_then ?_
  refine wp_seq ?_
  refine c_reg ?_
  refine st (x_loadAgB ag31 rfl B1 rfl) ?_
  refine s0 (x_move (v := .int _ _) rfl) ?_
  refine sr (zcall cl22 rfl) (l_szReader _ _ _ _ (by omega) (by omega)) ?_
  intro w4 l5
  have z_l5 := l5.size
  have L := L.tr l5.up
  have B1 := B1.ext l5
  refine s0 (x_assign (v := .int _ _) rfl) ?_
  refine c_end ?_
  refine n_then ?_
  refine wp_seq ?_
  refine wp_seq ?_
  refine c_reg ?_
  refine s0 (x_move (v := .int _ _) rfl) ?_
  refine sb (x_lss rfl rfl) (fun h16 => ?_) (fun h16 => ?_)
  · refine c_end ?_
    refine n_then ?_
    refine c_true rfl ?_
    refine wp_seq ?_
    refine c_reg ?_
    refine s0 (x_assign (v := .bool _) rfl) ?_
    refine c_end ?_
    refine n_then ?_
    refine wp_ret (r_then ?_)
    refine f_ret rfl rfl ?_
    exact ⟨rfl, L⟩
  · refine c_end ?_
    refine n_then ?_
    refine c_false rfl ?_
    refine c_skipn ?_
    refine n_then ?_
    refine wp_seq ?_
    have hs1 : s.size ≤ 1048576 := by unfold szOf at h16; split at h16 <;> omega
    refine c_reg ?_
    refine st (x_loadAgB ag31 rfl B1 rfl) ?_
    refine sr (zcall cl24 rfl) (l_toReader _ _ _) ?_
    intro w6 l7
    have z_l7 := l7.size
    have L := L.tr l7.up
    have B1 := B1.ext l7
    refine s0 (x_move (v := .int _ _) rfl) ?_
    refine sr (zcall cl23 rfl) (s_readBits _ _ _ _ (by omega)) ?_
    intro w8 l9
    have z_l9 := l9.size
    have L := L.tr l9.up
    have B1 := B1.ext l9
    refine s0 (x_move (v := .tuple _) rfl) ?_
    refine s0 (x_extract rfl rfl) ?_
    refine s0 (x_extract rfl rfl) ?_
    refine s0 (x_extract rfl rfl) ?_
    refine s_alloc zr33 ?_
    intro b10 w11 lob10 hib10 l12 B10
    have z_l12 := l12.size
    have L := L.tr l12.up
    have B1 := B1.ext l12
    refine s_storeAg rfl sz33 rfl rfl B10 rfl rfl rfl ?_
    intro w13 l14 el14 B10
    have z_l14 := l14.size
    have L := L.fresh l14 (by omega)
    have B1 := B1.ne l14 (by omega)
    refine s0 (x_assign (v := .int _ _) rfl) ?_
    refine s0 (x_assign (v := .bool _) rfl) ?_
    refine c_end ?_
    refine n_then ?_
    refine wp_seq ?_
    refine c_reg ?_
    refine st (x_loadAgB ag31 rfl B1 rfl) ?_
    refine sr (zcall cl24 rfl) (l_toReader _ _ _) ?_
    intro w15 l16
    have z_l16 := l16.size
    have L := L.tr l16.up
    have B1 := B1.ext l16
    have B10 := B10.ext l16
    refine s0 (x_move (v := .int _ _) rfl) ?_
    refine sr (zcall cl25 rfl) (i_readBits _ _ _ _ (by omega)) ?_
    intro w17 l18
    have z_l18 := l18.size
    have L := L.tr l18.up
    have B1 := B1.ext l18
    have B10 := B10.ext l18
    refine s0 (x_move (v := .tuple _) rfl) ?_
    refine s0 (x_extract rfl rfl) ?_
    refine s0 (x_extract rfl rfl) ?_
    refine s0 (x_extract rfl rfl) ?_
    refine s_alloc zr33 ?_
    intro b19 w20 lob19 hib19 l21 B19
    have z_l21 := l21.size
    have L := L.tr l21.up
    have B1 := B1.ext l21
    have B10 := B10.ext l21
    refine s_storeAg rfl sz33 rfl rfl B19 rfl rfl rfl ?_
    intro w22 l23 el23 B19
    have z_l23 := l23.size
    have L := L.fresh l23 (by omega)
    have B1 := B1.ne l23 (by omega)
    have B10 := B10.ne l23 (by omega)
    refine s0 (x_assign (v := .int _ _) rfl) ?_
    refine s0 (x_assign (v := .bool _) rfl) ?_
    refine c_end ?_
    refine n_then ?_
    refine wp_seq ?_
    refine wp_seq ?_
    refine c_reg ?_
    refine st (x_loadAgB ag33 rfl B19 rfl) ?_
    refine st (x_loadAgB ag33 rfl B10 rfl) ?_
    refine srb (zcall cl26 rfl) (l_eqReader _ _ _ _ _) (fun h35 w24 l25 => ?_) (fun h35 w24 l25 => ?_)
    · have z_l25 := l25.size
      have L := L.tr l25.up
      have B1 := B1.ext l25
      have B10 := B10.ext l25
      have B19 := B19.ext l25
      refine s0 (x_not rfl) ?_
      refine s0 (x_move (v := .bool _) rfl) ?_
      refine gt rfl rfl rfl rfl ?_
      refine s0 (x_move (v := .int _ _) rfl) ?_
      refine gt rfl rfl rfl rfl ?_
      refine s0 (x_move (v := .int _ _) rfl) ?_
      refine gt rfl rfl rfl rfl ?_
      refine sb (x_neq rfl rfl) (fun h40 => ?_) (fun h40 => ?_)
      · exact absurd rfl h40
      · refine s0 (x_pickf (v := .bool _) rfl rfl) ?_
        refine s0 (x_move (v := .bool _) rfl) ?_
        refine gt rfl rfl rfl rfl ?_
        refine s0 (x_move (v := .bool _) rfl) ?_
        refine gt rfl rfl rfl rfl ?_
        refine s0 (x_move (v := .bool _) rfl) ?_
        refine gt rfl rfl rfl rfl ?_
        refine sb (x_neqb un4 rfl rfl) (fun h45 => ?_) (fun h45 => ?_)
        · exact absurd rfl h45
        · refine s0 (x_pickf (v := .bool _) rfl rfl) ?_
          refine c_end ?_
          refine n_then ?_
          refine c_false rfl ?_
          refine c_skipn ?_
          refine n_then ?_
          refine wp_seq ?_
          refine c_reg ?_
          refine s0 (x_assign (v := .bool _) rfl) ?_
          refine c_end ?_
          refine n_then ?_
          refine wp_ret ?_
          refine f_ret rfl rfl ?_
          exact ⟨rfl, L⟩
    · exact (h35 (by simp)).elim

/-- laws.FnExactReadUe -/
theorem l_fnReadUe (s : ByteArray) (a : Int) (w : World) (hs : s.size ≤ 9223372036854775807) :
    Calls Try.prog 11 [.agg [.string s, .int .i64 a].toArray].toArray w (Ret w (.bool true)) := by
  have L : Exm [] w w := Exm.rfl'
  refine enter (n := 43) Try.func11 rfl rfl rfl ?_
  refine wp_seq ?_
  refine c_reg ?_
  refine s_box rfl rfl ?_
  intro b1 w2 lob1 hib1 l3 B1
  have z_l3 := l3.size
  have L := L.tr l3.up
  refine s0 (x_assign (v := .bool _) rfl) ?_
  refine c_end ?_
  refine n_then ?_
  refine wp_seq ?_
  refine c_reg ?_
  refine s0 (x_assign (v := .int _ _) rfl) ?_
  refine c_end ?_
  refine n_then ?_
  refine wp_seq ?_
  refine c_reg ?_
  refine st (x_loadAgB ag31 rfl B1 rfl) ?_
  refine s0 (x_move (v := .int _ _) rfl) ?_
  refine sr (zcall cl22 rfl) (l_szReader _ _ _ _ (by omega) (by omega)) ?_
  intro w4 l5
  have z_l5 := l5.size
  have L := L.tr l5.up
  have B1 := B1.ext l5
  refine s0 (x_assign (v := .int _ _) rfl) ?_
  refine c_end ?_
  refine n_then ?_
  refine wp_seq ?_
  refine wp_seq ?_
  refine c_reg ?_
  refine s0 (x_move (v := .int _ _) rfl) ?_
  refine sb (x_lss rfl rfl) (fun h14 => ?_) (fun h14 => ?_)
  · refine c_end ?_
    refine n_then ?_
    refine c_true rfl ?_
    refine wp_seq ?_
    refine c_reg ?_
    refine s0 (x_assign (v := .bool _) rfl) ?_
    refine c_end ?_
    refine n_then ?_
    refine wp_ret (r_then ?_)
    refine f_ret rfl rfl ?_
    exact ⟨rfl, L⟩
  · refine c_end ?_
    refine n_then ?_
    refine c_false rfl ?_
    refine c_skipn ?_
    refine n_then ?_
    refine wp_seq ?_
    have hs1 : s.size ≤ 1048576 := by unfold szOf at h14; split at h14 <;> omega
    refine c_reg ?_
    refine st (x_loadAgB ag31 rfl B1 rfl) ?_
    refine sr (zcall cl24 rfl) (l_toReader _ _ _) ?_
    intro w6 l7
    have z_l7 := l7.size
    have L := L.tr l7.up
    have B1 := B1.ext l7
    refine sr (zcall cl45 rfl) (s_ue _ _ _ (by omega)) ?_
    intro w8 l9
    have z_l9 := l9.size
    have L := L.tr l9.up
    have B1 := B1.ext l9
    refine s0 (x_move (v := .tuple _) rfl) ?_
    refine s0 (x_extract rfl rfl) ?_
    refine s0 (x_extract rfl rfl) ?_
    refine s0 (x_extract rfl rfl) ?_
    refine s_alloc zr33 ?_
    intro b10 w11 lob10 hib10 l12 B10
    have z_l12 := l12.size
    have L := L.tr l12.up
    have B1 := B1.ext l12
    refine s_storeAg rfl sz33 rfl rfl B10 rfl rfl rfl ?_
    intro w13 l14 el14 B10
    have z_l14 := l14.size
    have L := L.fresh l14 (by omega)
    have B1 := B1.ne l14 (by omega)
    refine s0 (x_assign (v := .int _ _) rfl) ?_
    refine s0 (x_assign (v := .int _ _) rfl) ?_
    refine c_end ?_
    refine n_then ?_
    refine wp_seq ?_
    refine c_reg ?_
    refine st (x_loadAgB ag31 rfl B1 rfl) ?_
    refine sr (zcall cl24 rfl) (l_toReader _ _ _) ?_
    intro w15 l16
    have z_l16 := l16.size
    have L := L.tr l16.up
    have B1 := B1.ext l16
    have B10 := B10.ext l16
    refine sr (zcall cl46 rfl) (i_ue _ _ _ (by omega)) ?_
    intro w17 l18
    have z_l18 := l18.size
    have L := L.tr l18.up
    have B1 := B1.ext l18
    have B10 := B10.ext l18
    refine s0 (x_move (v := .tuple _) rfl) ?_
    refine s0 (x_extract rfl rfl) ?_
    refine s0 (x_extract rfl rfl) ?_
    refine s0 (x_extract rfl rfl) ?_
    refine s_alloc zr33 ?_
    intro b19 w20 lob19 hib19 l21 B19
    have z_l21 := l21.size
    have L := L.tr l21.up
    have B1 := B1.ext l21
    have B10 := B10.ext l21
    refine s_storeAg rfl sz33 rfl rfl B19 rfl rfl rfl ?_
    intro w22 l23 el23 B19
    have z_l23 := l23.size
    have L := L.fresh l23 (by omega)
    have B1 := B1.ne l23 (by omega)
    have B10 := B10.ne l23 (by omega)
    refine s0 (x_assign (v := .int _ _) rfl) ?_
    refine s0 (x_assign (v := .int _ _) rfl) ?_
    refine c_end ?_
    refine n_then ?_
    refine wp_seq ?_
    refine wp_seq ?_
    refine c_reg ?_
    refine st (x_loadAgB ag33 rfl B19 rfl) ?_
    refine st (x_loadAgB ag33 rfl B10 rfl) ?_
    refine srb (zcall cl26 rfl) (l_eqReader _ _ _ _ _) (fun h31 w24 l25 => ?_) (fun h31 w24 l25 => ?_)
    · have z_l25 := l25.size
      have L := L.tr l25.up
      have B1 := B1.ext l25
      have B10 := B10.ext l25
      have B19 := B19.ext l25
      refine s0 (x_not rfl) ?_
      refine s0 (x_move (v := .bool _) rfl) ?_
      refine gt rfl rfl rfl rfl ?_
      refine s0 (x_move (v := .int _ _) rfl) ?_
      refine gt rfl rfl rfl rfl ?_
      refine s0 (x_move (v := .int _ _) rfl) ?_
      refine gt rfl rfl rfl rfl ?_
      refine sb (x_neq rfl rfl) (fun h36 => ?_) (fun h36 => ?_)
      · exact absurd rfl h36
      · refine s0 (x_pickf (v := .bool _) rfl rfl) ?_
        refine s0 (x_move (v := .bool _) rfl) ?_
        refine gt rfl rfl rfl rfl ?_
        refine s0 (x_move (v := .int _ _) rfl) ?_
        refine gt rfl rfl rfl rfl ?_
        refine s0 (x_move (v := .int _ _) rfl) ?_
        refine gt rfl rfl rfl rfl ?_
        refine sb (x_neq rfl rfl) (fun h41 => ?_) (fun h41 => ?_)
        · exact absurd rfl h41
        · refine s0 (x_pickf (v := .bool _) rfl rfl) ?_
          refine c_end ?_
          refine n_then ?_
          refine c_false rfl ?_
          refine c_skipn ?_
          refine n_then ?_
          refine wp_seq ?_
          refine c_reg ?_
          refine s0 (x_assign (v := .bool _) rfl) ?_
          refine c_end ?_
          refine n_then ?_
          refine wp_ret ?_
          refine f_ret rfl rfl ?_
          exact ⟨rfl, L⟩
    · exact (h31 (by simp)).elim

/-- laws.FnExactStopOk -/
theorem l_fnStopOk (s : ByteArray) (a : Int) (w : World) (hs : s.size ≤ 9223372036854775807) :
    Calls Try.prog 6 [.agg [.string s, .int .i64 a].toArray].toArray w (Ret w (.bool true)) := by
  have L : Exm [] w w := Exm.rfl'
  refine enter (n := 20) Try.func6 rfl rfl rfl ?_
  refine wp_seq ?_
  refine c_reg ?_
  refine s_box rfl rfl ?_
  intro b1 w2 lob1 hib1 l3 B1
  have z_l3 := l3.size
  have L := L.tr l3.up
  refine s0 (x_assign (v := .bool _) rfl) ?_
  refine c_end ?_
  refine n_then ?_
  refine wp_seq ?_
  refine c_reg ?_
  refine s0 (x_assign (v := .int _ _) rfl) ?_
  refine c_end ?_
  refine n_then ?_
  refine wp_seq ?_
  refine c_reg ?_
  refine st (x_loadAgB ag31 rfl B1 rfl) ?_
  refine s0 (x_move (v := .int _ _) rfl) ?_
  refine sr (zcall cl22 rfl) (l_szReader _ _ _ _ (by omega) (by omega)) ?_
  intro w4 l5
  have z_l5 := l5.size
  have L := L.tr l5.up
  have B1 := B1.ext l5
  refine s0 (x_assign (v := .int _ _) rfl) ?_
  refine c_end ?_
  refine n_then ?_
  refine wp_seq ?_
  refine wp_seq ?_
  refine c_reg ?_
  refine s0 (x_move (v := .int _ _) rfl) ?_
  refine sb (x_lss rfl rfl) (fun h10 => ?_) (fun h10 => ?_)
  · refine c_end ?_
    refine n_then ?_
    refine c_true rfl ?_
    refine wp_seq ?_
    refine c_reg ?_
    refine s0 (x_assign (v := .bool _) rfl) ?_
    refine c_end ?_
    refine n_then ?_
    refine wp_ret (r_then ?_)
    refine f_ret rfl rfl ?_
    exact ⟨rfl, L⟩
  · refine c_end ?_
    refine n_then ?_
    refine c_false rfl ?_
    refine c_skipn ?_
    refine n_then ?_
    refine wp_seq ?_
    have hs1 : s.size ≤ 1048576 := by unfold szOf at h10; split at h10 <;> omega
    refine c_reg ?_
    refine st (x_loadAgB ag31 rfl B1 rfl) ?_
    refine sr (zcall cl24 rfl) (l_toReader _ _ _) ?_
    intro w6 l7
    have z_l7 := l7.size
    have L := L.tr l7.up
    have B1 := B1.ext l7
    refine sr (zcall cl27 rfl) (s_stop _ _ _ (by omega)) ?_
    intro w8 l9
    have z_l9 := l9.size
    have L := L.tr l9.up
    have B1 := B1.ext l9
    refine s0 (x_assign (v := .int _ _) rfl) ?_
    refine c_end ?_
    refine n_then ?_
    refine wp_seq ?_
    refine c_reg ?_
    refine st (x_loadAgB ag31 rfl B1 rfl) ?_
    refine sr (zcall cl24 rfl) (l_toReader _ _ _) ?_
    intro w10 l11
    have z_l11 := l11.size
    have L := L.tr l11.up
    have B1 := B1.ext l11
    refine sr (zcall cl28 rfl) (i_stop _ _ _ (by omega)) ?_
    intro w12 l13
    have z_l13 := l13.size
    have L := L.tr l13.up
    have B1 := B1.ext l13
    refine s0 (x_assign (v := .int _ _) rfl) ?_
    refine c_end ?_
    refine n_then ?_
    refine wp_seq ?_
    refine wp_seq ?_
    refine c_reg ?_
    refine s0 (x_move (v := .int _ _) rfl) ?_
    refine s0 (x_move (v := .int _ _) rfl) ?_
    refine sb (x_neq rfl rfl) (fun h19 => ?_) (fun h19 => ?_)
    · exact absurd rfl h19
    · refine c_end ?_
      refine n_then ?_
      refine c_false rfl ?_
      refine c_skipn ?_
      refine n_then ?_
      refine wp_seq ?_
      refine c_reg ?_
      refine s0 (x_assign (v := .bool _) rfl) ?_
      refine c_end ?_
      refine n_then ?_
      refine wp_ret ?_
      refine f_ret rfl rfl ?_
      exact ⟨rfl, L⟩

end Go.Proofs.Ytglepnbcplldeaa
