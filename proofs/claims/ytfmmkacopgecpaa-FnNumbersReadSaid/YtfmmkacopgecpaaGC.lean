/- What each function of this part returns, for every argument that meets its premises. -/
import Derived.Test.YtfmmkacopgecpaaFC
namespace Go.Proofs.Ytfmmkacopgecpaa
open Go.Sx Go.Pl Go.RowKit
theorem cl21 : Callable Try.prog 21 := callable Try.func21 (by kernel_rfl) rfl
theorem cl50 : Callable Try.prog 50 := callable Try.func50 (by kernel_rfl) rfl
theorem cl51 : Callable Try.prog 51 := callable Try.func51 (by kernel_rfl) rfl
theorem cl53 : Callable Try.prog 53 := callable Try.func53 (by kernel_rfl) rfl
theorem cl55 : Callable Try.prog 55 := callable Try.func55 (by kernel_rfl) rfl
theorem cl56 : Callable Try.prog 56 := callable Try.func56 (by kernel_rfl) rfl
/-- laws.FnNumbersRead -/
theorem l_fnNumbersRead (p : Option Addr) (xs : List Int) (c : Nat) (B : Nat) (w : World) (hp : Sl w p xs.length c 1 (bc xs)) (hr : ∀ x ∈ xs, 0 ≤ x ∧ x ≤ 255) (hpB : Bl p xs.length B) (hB : B ≤ w.heap.size) :
    Calls Try.prog 9 [.slice p xs.length c].toArray w (Ret w (.bool true)) := by
  have L : Exm [] w w := Exm.rfl'
  refine enter (n := 77) Try.func9 rfl rfl rfl ?_
  refine wp_seq ?_
  refine c_reg ?_
  refine s0 (x_assign (v := .bool _) rfl) ?_
  refine c_end ?_
  refine n_then ?_
  refine wp_seq ?_
  refine wp_seq ?_
  refine c_reg ?_
  refine s0 (x_move (v := .slice _ _ _) rfl) ?_
  refine srb (zcall cl21 rfl) (l_big _ _ _ _) (fun h11 w1 l2 => ?_) (fun h11 w1 l2 => ?_)
  · have z_l2 := l2.size
    have L := L.tr l2.up
    refine c_end ?_
    refine n_then ?_
    refine c_true rfl ?_
    refine wp_seq ?_
    refine c_reg ?_
    refine s0 (x_assign (v := .bool _) rfl) ?_
    refine c_end ?_
    refine n_then ?_
    refine wp_ret (r_then ?_)
    refine f_ret rfl rfl ?_
    exact ⟨rfl, L⟩
  · have z_l2 := l2.size
    have L := L.tr l2.up
    refine c_end ?_
    refine n_then ?_
    refine c_false rfl ?_
    refine c_skipn ?_
    refine n_then ?_
    refine wp_seq ?_
    have hl : xs.length ≤ 1048576 := by omega
    refine c_reg ?_
    refine s0 (x_move (v := .slice _ _ _) rfl) ?_
    refine sp (zcall cl50 rfl) (s_drawUeBits _ _ _ _ _ (hp.ext L) hr hpB (by omega) (by omega)) ?_
    rintro v13 w3 l4 ⟨n13, rfl⟩
    have z_l4 := l4.size
    have L := L.tr l4.up
    refine s0 (x_assign (v := .int _ _) rfl) ?_
    refine c_end ?_
    refine n_then ?_
    refine wp_seq ?_
    have hbl := ueBits_len (n := n13)
    refine c_reg ?_
    refine s0 (x_move (v := .int _ _) rfl) ?_
    refine sp (zcall cl51 rfl) (i_ueBits _ _) ?_
    rintro v15 w5 l6 ⟨p15, c15, F15, rfl, o15, f15⟩
    have z_l6 := l6.size
    have L := L.tr l6.up
    have g15 := o15.lt
    refine s0 (x_assign (v := .slice _ _ _) rfl) ?_
    refine c_end ?_
    refine n_then ?_
    refine wp_seq ?_
    refine wp_seq ?_
    refine c_reg ?_
    refine s0 (x_move (v := .int _ _) rfl) ?_
    refine sb (x_lss rfl rfl) (fun h17 => ?_) (fun h17 => ?_)
    · refine s0 (x_move (v := .bool _) rfl) ?_
      refine gf rfl rfl rfl rfl ?_
      refine gf rfl rfl rfl rfl ?_
      refine s0 (x_pickt (v := .bool _) rfl rfl) ?_
      refine c_end ?_
      refine n_then ?_
      refine c_true rfl ?_
      refine wp_seq ?_
      refine c_reg ?_
      refine s0 (x_move (v := .slice _ _ _) rfl) ?_
      refine s0 (x_lensl un33 rfl) ?_
      refine sb (x_eql rfl rfl) (fun h24 => ?_) (fun h24 => ?_)
      · refine s0 (x_move (v := .bool _) rfl) ?_
        refine gt rfl rfl rfl rfl ?_
        refine s0 (x_move (v := .int _ _) rfl) ?_
        refine gt rfl rfl rfl rfl ?_
        refine sr (zcall cl52 rfl) (i_ueSize _ _) ?_
        intro w7 l8
        have z_l8 := l8.size
        have L := L.tr l8.up
        have o15 := o15.ext l8
        refine gt rfl rfl rfl rfl ?_
        refine s0 (x_eql rfl rfl) ?_
        refine s0 (x_pickt (v := .bool _) rfl rfl) ?_
        refine s0 (x_assign (v := .bool _) rfl) ?_
        refine c_end ?_
        refine n_then ?_
        refine wp_ret (r_then ?_)
        refine f_ret rfl rfl ?_
        exact ⟨ret_bt (by rw [ueSize_no (by omega)]), L⟩
      · exact (h24 (by rw [ueBits_no (by omega)]; rfl)).elim
    · refine s0 (x_move (v := .bool _) rfl) ?_
      refine gt rfl rfl rfl rfl ?_
      refine s0 (x_move (v := .int _ _) rfl) ?_
      refine gt rfl rfl rfl rfl ?_
      refine sb (x_gtr rfl rfl) (fun h20 => ?_) (fun h20 => ?_)
      · refine s0 (x_pickf (v := .bool _) rfl rfl) ?_
        refine c_end ?_
        refine n_then ?_
        refine c_true rfl ?_
        refine wp_seq ?_
        refine c_reg ?_
        refine s0 (x_move (v := .slice _ _ _) rfl) ?_
        refine s0 (x_lensl un33 rfl) ?_
        refine sb (x_eql rfl rfl) (fun h24 => ?_) (fun h24 => ?_)
        · refine s0 (x_move (v := .bool _) rfl) ?_
          refine gt rfl rfl rfl rfl ?_
          refine s0 (x_move (v := .int _ _) rfl) ?_
          refine gt rfl rfl rfl rfl ?_
          refine sr (zcall cl52 rfl) (i_ueSize _ _) ?_
          intro w9 l10
          have z_l10 := l10.size
          have L := L.tr l10.up
          have o15 := o15.ext l10
          refine gt rfl rfl rfl rfl ?_
          refine s0 (x_eql rfl rfl) ?_
          refine s0 (x_pickt (v := .bool _) rfl rfl) ?_
          refine s0 (x_assign (v := .bool _) rfl) ?_
          refine c_end ?_
          refine n_then ?_
          refine wp_ret (r_then ?_)
          refine f_ret rfl rfl ?_
          exact ⟨ret_bt (by rw [ueSize_no (by omega)]), L⟩
        · exact (h24 (by rw [ueBits_no (by omega)]; rfl)).elim
      · refine s0 (x_pickf (v := .bool _) rfl rfl) ?_
        refine c_end ?_
        refine n_then ?_
        refine c_false rfl ?_
        refine c_skipn ?_
        refine n_then ?_
        refine wp_seq ?_
        have hn : 0 ≤ n13 ∧ n13 ≤ 65534 := by omega
        have hbl := hbl hn
        have hus := ueSize_range n13
        have hst := ue_stopped hn
        have hsz := stopped_size (ueBits n13)
        have hlv := num_level hn.1
        have hlr : -1073741824 ≤ levelOf n13 ∧ levelOf n13 ≤ 1073741824 := by unfold levelOf; split <;> (try split) <;> omega
        refine c_reg ?_
        refine s0 (x_move (v := .slice _ _ _) rfl) ?_
        refine sr (zcall cl53 rfl) (i_stopped _ _ _ _ o15.sl (by omega)) ?_
        intro w11 l12
        have z_l12 := l12.size
        have L := L.tr l12.up
        have o15 := o15.ext l12
        refine s0 (x_assign (v := .string _) rfl) ?_
        refine c_end ?_
        refine n_then ?_
        refine wp_seq ?_
        refine c_reg ?_
        refine s0 (x_move (v := .string _) rfl) ?_
        refine s0 (x_build (cs := [.string _, .int .i64 0]) bd54 (pts_cons (v := .string _) rfl pts_nil) rfl) ?_
        refine sr (zcall cl54 rfl) (i_ue _ _ _ (by omega)) ?_
        intro w13 l14
        have z_l14 := l14.size
        have L := L.tr l14.up
        have o15 := o15.ext l14
        refine s0 (x_move (v := .tuple _) rfl) ?_
        refine s0 (x_extract rfl rfl) ?_
        refine s0 (x_extract rfl rfl) ?_
        refine s0 (x_extract rfl rfl) ?_
        refine s_alloc zr54 ?_
        intro b15 w16 lob15 hib15 l17 B15
        have z_l17 := l17.size
        have L := L.tr l17.up
        have o15 := o15.ext l17
        refine s_storeAg rfl sz54 rfl rfl B15 rfl rfl rfl ?_
        intro w18 l19 el19 B15
        have z_l19 := l19.size
        have L := L.fresh l19 (by omega)
        have o15 := o15.ne l19 (by first | assumption | exact nin_of f15 g15 (by omega))
        refine s0 (x_assign (v := .int _ _) rfl) ?_
        refine s0 (x_assign (v := .int _ _) rfl) ?_
        refine c_end ?_
        refine n_then ?_
        refine wp_seq ?_
        refine c_reg ?_
        refine s0 (x_move (v := .int _ _) rfl) ?_
        refine sr (zcall cl55 rfl) (i_levelOf _ _ (by omega)) ?_
        intro w20 l21
        have z_l21 := l21.size
        have L := L.tr l21.up
        have B15 := B15.ext l21
        have o15 := o15.ext l21
        refine s0 (x_assign (v := .int _ _) rfl) ?_
        refine c_end ?_
        refine n_then ?_
        refine wp_seq ?_
        refine c_reg ?_
        refine s0 (x_move (v := .int _ _) rfl) ?_
        refine sb (x_eql rfl rfl) (fun h42 => ?_) (fun h42 => ?_)
        · refine s0 (x_move (v := .bool _) rfl) ?_
          refine gt rfl rfl rfl rfl ?_
          refine s0 (x_move (v := .int _ _) rfl) ?_
          refine gt rfl rfl rfl rfl ?_
          refine s0 (x_move (v := .int _ _) rfl) ?_
          refine gt rfl rfl rfl rfl ?_
          refine sb (x_eql rfl rfl) (fun h46 => ?_) (fun h46 => ?_)
          · refine s0 (x_pickt (v := .bool _) rfl rfl) ?_
            refine s0 (x_move (v := .bool _) rfl) ?_
            refine gt rfl rfl rfl rfl ?_
            refine s0 (x_fieldAddr fa54_1 rfl) ?_
            refine gt rfl rfl rfl rfl ?_
            refine st (x_loadB sc3 rfl B15 rfl) ?_
            refine gt rfl rfl rfl rfl ?_
            refine s0 (x_move (v := .slice _ _ _) rfl) ?_
            refine gt rfl rfl rfl rfl ?_
            refine s0 (x_lensl un33 rfl) ?_
            refine gt rfl rfl rfl rfl ?_
            refine sb (x_eql rfl rfl) (fun h53 => ?_) (fun h53 => ?_)
            · refine s0 (x_pickt (v := .bool _) rfl rfl) ?_
              refine s0 (x_move (v := .bool _) rfl) ?_
              refine gt rfl rfl rfl rfl ?_
              refine s0 (x_move (v := .slice _ _ _) rfl) ?_
              refine gt rfl rfl rfl rfl ?_
              refine s0 (x_lensl un33 rfl) ?_
              refine gt rfl rfl rfl rfl ?_
              refine s0 (x_move (v := .int _ _) rfl) ?_
              refine gt rfl rfl rfl rfl ?_
              refine sr (zcall cl52 rfl) (i_ueSize _ _) ?_
              intro w22 l23
              have z_l23 := l23.size
              have L := L.tr l23.up
              have B15 := B15.ext l23
              have o15 := o15.ext l23
              refine gt rfl rfl rfl rfl ?_
              refine sb (x_eql rfl rfl) (fun h60 => ?_) (fun h60 => ?_)
              · refine s0 (x_pickt (v := .bool _) rfl rfl) ?_
                refine s0 (x_move (v := .bool _) rfl) ?_
                refine gt rfl rfl rfl rfl ?_
                refine s0 (x_move (v := .int _ _) rfl) ?_
                refine gt rfl rfl rfl rfl ?_
                refine sb (x_neq rfl rfl) (fun h64 => ?_) (fun h64 => ?_)
                · refine s0 (x_pickt (v := .bool _) rfl rfl) ?_
                  refine s0 (x_move (v := .bool _) rfl) ?_
                  refine gt rfl rfl rfl rfl ?_
                  refine s0 (x_move (v := .int _ _) rfl) ?_
                  refine gt rfl rfl rfl rfl ?_
                  refine sr (zcall cl56 rfl) (i_numOfLevel _ _ (by omega)) ?_
                  intro w24 l25
                  have z_l25 := l25.size
                  have L := L.tr l25.up
                  have B15 := B15.ext l25
                  have o15 := o15.ext l25
                  refine gt rfl rfl rfl rfl ?_
                  refine s0 (x_move (v := .int _ _) rfl) ?_
                  refine gt rfl rfl rfl rfl ?_
                  refine sb (x_eql rfl rfl) (fun h70 => ?_) (fun h70 => ?_)
                  · refine s0 (x_pickt (v := .bool _) rfl rfl) ?_
                    refine s0 (x_move (v := .bool _) rfl) ?_
                    refine gt rfl rfl rfl rfl ?_
                    refine s0 (x_move (v := .int _ _) rfl) ?_
                    refine gt rfl rfl rfl rfl ?_
                    refine sr (zcall cl52 rfl) (i_ueSize _ _) ?_
                    intro w26 l27
                    have z_l27 := l27.size
                    have L := L.tr l27.up
                    have B15 := B15.ext l27
                    have o15 := o15.ext l27
                    refine gt rfl rfl rfl rfl ?_
                    refine s0 (x_leq rfl rfl) ?_
                    refine s0 (x_pickt (v := .bool _) rfl rfl) ?_
                    refine s0 (x_assign (v := .bool _) rfl) ?_
                    refine c_end ?_
                    refine n_then ?_
                    refine wp_ret ?_
                    refine f_ret rfl rfl ?_
                    exact ⟨ret_bt hus.2, L⟩
                  · exact absurd hlv.1 h70
                · exact absurd hlv.2 h64
              · exact absurd hbl h60
            · exact absurd hst.2.2 h53
          · exact absurd hst.2.1 h46
        · exact absurd hst.1 h42

end Go.Proofs.Ytfmmkacopgecpaa
