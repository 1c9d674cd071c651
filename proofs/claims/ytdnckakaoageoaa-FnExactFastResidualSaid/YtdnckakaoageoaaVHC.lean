/- What each function of this part returns, for every argument that meets its premises. -/
import Derived.Test.YtdnckakaoageoaaProg
import Derived.Test.YtdnckakaoageoaaVSxF
import Derived.Test.YtdnckakaoageoaaVPlU
import Derived.Test.YtdnckakaoageoaaVF1
import Derived.Test.YtdnckakaoageoaaVF4
import Derived.Test.YtdnckakaoageoaaVFB
import Derived.Test.YtdnckakaoageoaaVFY
import Derived.Test.YtdnckakaoageoaaVFZ
import Derived.Test.YtdnckakaoageoaaVHE
namespace Go.Proofs.Ytdnckakaoageoaa
open Go.Sx Go.Pl Go.RowKit
theorem cl103HC : Callable Try.prog 103 := callable Try.func103 (by kernel_rfl) rfl
theorem cl152HC : Callable Try.prog 152 := callable Try.func152 (by kernel_rfl) rfl
theorem cl177HC : Callable Try.prog 177 := callable Try.func177 (by kernel_rfl) rfl
theorem cl178HC : Callable Try.prog 178 := callable Try.func178 (by kernel_rfl) rfl
theorem cl179HC : Callable Try.prog 179 := callable Try.func179 (by kernel_rfl) rfl
theorem cl180HC : Callable Try.prog 180 := callable Try.func180 (by kernel_rfl) rfl
theorem cl181HC : Callable Try.prog 181 := callable Try.func181 (by kernel_rfl) rfl
theorem cl182HC : Callable Try.prog 182 := callable Try.func182 (by kernel_rfl) rfl
theorem fa27_2HC : FieldAt Try.prog 27 2 2 := ⟨_, _, Try.underlying27, rfl, rfl, ⟨0, by unfold Sz; kernel_rfl⟩⟩
theorem fa27_3HC : FieldAt Try.prog 27 3 3 := ⟨_, _, Try.underlying27, rfl, rfl, ⟨0, by unfold Sz; kernel_rfl⟩⟩
theorem sc3HC : Sc Try.prog 3 := ⟨(.int .i64), by kernel_rfl, trivial⟩
theorem sc4HC : Sc Try.prog 4 := ⟨.bool, by kernel_rfl, trivial⟩
theorem un22HC : Try.prog.underlying 22 = some (.slice 3) := by kernel_rfl
/-- impl.ResidualOf -/
theorem i_residual (W H q : Int) (y z : Bool) (pA : Option Addr) (nA cA : Nat) (p : Option Addr) (xs : List Int) (c : Nat) (w : World) (hp : Sl w p xs.length c 1 (ic xs)) (hl : xs.length ≤ 1099511627776) :
    Calls Try.prog 86 [.agg [.int .i64 W, .int .i64 H, .int .i64 q, .bool y, .bool z, .slice pA nA cA].toArray, .slice p xs.length c].toArray w (RetP w fun v w' => ∃ p c F, v = .slice p (residual q y xs).length c ∧ Own w' p (residual q y xs).length c 3 1 (ic (residual q y xs)) F ∧ Fr w.heap.size F) := by
  obtain ⟨Y, hY, rfl⟩ : ∃ (Y : Prop) (_ : Decidable Y), y = decide Y := ⟨y = true, inferInstance, by simp⟩
  have L : Exm [] w w := Exm.rfl'
  refine enter (n := 34) Try.func86 rfl rfl rfl ?_
  refine wp_seq ?_
  refine c_reg ?_
  refine s_box rfl rfl ?_
  intro b1 w2 lob1 hib1 l3 B1
  have z_l3 := l3.size
  have L := L.tr l3.up
  refine s0 (x_assign (v := .slice _ _ _) rfl) ?_
  refine c_end ?_
  refine n_then ?_
  refine wp_seq ?_
  refine wp_seq ?_
  refine c_reg ?_
  refine s0 (x_move (v := .slice _ _ _) rfl) ?_
  refine srb (zcall cl152HC rfl) (i_levelsOk _ _ _ _ (hp.ext L) (by omega)) (fun h7 w4 l5 => ?_) (fun h7 w4 l5 => ?_)
  · have z_l5 := l5.size
    have L := L.tr l5.up
    have B1 := B1.ext l5
    refine s0 (x_not rfl) ?_
    refine s0 (x_move (v := .bool _) rfl) ?_
    refine gt rfl rfl rfl rfl ?_
    refine s0 (x_fieldAddr fa27_2HC rfl) ?_
    refine gt rfl rfl rfl rfl ?_
    refine st (x_loadB sc3HC rfl B1 rfl) ?_
    refine gt rfl rfl rfl rfl ?_
    refine srb (zcall cl103HC rfl) (i_within _ _ _ _) (fun h12 w6 l7 => ?_) (fun h12 w6 l7 => ?_)
    · have z_l7 := l7.size
      have L := L.tr l7.up
      have B1 := B1.ext l7
      refine gt rfl rfl rfl rfl ?_
      refine s0 (x_not rfl) ?_
      refine s0 (x_pickf (v := .bool _) rfl rfl) ?_
      refine c_end ?_
      refine n_then ?_
      refine c_false rfl ?_
      refine c_skipn ?_
      refine n_then ?_
      refine wp_seq ?_
      have hq : 0 ≤ q ∧ q ≤ 51 := h12
      have hlz := levels_size h7
      have hpl := placed_len h7
      have hsl := scaled_len (placed_ok h7) hq
      have hg4 := prodG_le mAt (scaled (placed xs) q) 4
      have hg8 := prodG_le hEnt (scaled (placed xs) q) 8
      refine c_reg ?_
      refine s0 (x_move (v := .slice _ _ _) rfl) ?_
      refine sp (zcall cl177HC rfl) (i_placed _ _ _ _ (hp.ext L) (by omega)) ?_
      rintro v16 w8 l9 ⟨p16, c16, F16, rfl, o16, f16⟩
      have z_l9 := l9.size
      have L := L.tr l9.up
      have B1 := B1.ext l9
      have g16 := o16.lt
      refine s0 (x_assign (v := .slice _ _ _) rfl) ?_
      refine c_end ?_
      refine n_then ?_
      refine wp_seq ?_
      refine wp_seq ?_
      refine c_reg ?_
      refine s0 (x_fieldAddr fa27_3HC rfl) ?_
      refine sbl (x_loadB sc4HC rfl B1 rfl) (fun h18 => ?_) (fun h18 => ?_)
      · refine c_end ?_
        refine n_then ?_
        refine c_true rfl ?_
        refine wp_seq ?_
        refine c_reg ?_
        refine s0 (x_move (v := .slice _ _ _) rfl) ?_
        refine s0 (x_assign (v := .slice _ _ _) rfl) ?_
        refine c_end ?_
        refine n_then ?_
        refine wp_ret (r_then ?_)
        refine f_ret rfl rfl ?_
        rw [show residual q (decide Y) xs = placed xs from by unfold residual; rw [if_pos ⟨h7, hq⟩, if_pos (decide_eq_true h18)]]
        exact ⟨_, rfl, L, _, _, _, rfl, o16, f16.mono (by omega)⟩
      · refine c_end ?_
        refine n_then ?_
        refine c_false rfl ?_
        refine c_skipn ?_
        refine n_then ?_
        refine wp_seq ?_
        refine c_reg ?_
        refine s0 (x_move (v := .slice _ _ _) rfl) ?_
        refine s0 (x_fieldAddr fa27_2HC rfl) ?_
        refine st (x_loadB sc3HC rfl B1 rfl) ?_
        refine sp (zcall cl178HC rfl) (i_scaled _ _ _ _ _ o16.sl (by omega)) ?_
        rintro v23 w10 l11 ⟨p23, c23, F23, rfl, o23, f23⟩
        have z_l11 := l11.size
        have L := L.tr l11.up
        have B1 := B1.ext l11
        have o16 := o16.ext l11
        have g23 := o23.lt
        refine s0 (x_assign (v := .slice _ _ _) rfl) ?_
        refine c_end ?_
        refine n_then ?_
        refine wp_seq ?_
        refine wp_seq ?_
        refine c_reg ?_
        refine s0 (x_move (v := .slice _ _ _) rfl) ?_
        refine s0 (x_lensl un22HC rfl) ?_
        refine sr (zcall cl179HC rfl) (i_sizeOf _ _) ?_
        intro w12 l13
        have z_l13 := l13.size
        have L := L.tr l13.up
        have B1 := B1.ext l13
        have o16 := o16.ext l13
        have o23 := o23.ext l13
        refine sb (x_eql rfl rfl) (fun h27 => ?_) (fun h27 => ?_)
        · refine c_end ?_
          refine n_then ?_
          refine c_true rfl ?_
          refine wp_seq ?_
          have hle : xs.length = 16 := by unfold sideOf at h27; omega
          refine c_reg ?_
          refine s0 (x_move (v := .slice _ _ _) rfl) ?_
          refine sp (zcall cl181HC rfl) (i_inv4 _ _ _ _ o23.sl (by omega)) ?_
          rintro v29 w14 l15 ⟨p29, c29, F29, rfl, o29, f29⟩
          have z_l15 := l15.size
          have L := L.tr l15.up
          have B1 := B1.ext l15
          have o16 := o16.ext l15
          have o23 := o23.ext l15
          have g29 := o29.lt
          refine sp (zcall cl180HC rfl) (i_rounded _ _ _ _ o29.sl (by omega)) ?_
          rintro v30 w16 l17 ⟨p30, c30, F30, rfl, o30, f30⟩
          have z_l17 := l17.size
          have L := L.tr l17.up
          have B1 := B1.ext l17
          have o16 := o16.ext l17
          have o23 := o23.ext l17
          have o29 := o29.ext l17
          have g30 := o30.lt
          refine s0 (x_assign (v := .slice _ _ _) rfl) ?_
          refine c_end ?_
          refine n_then ?_
          refine wp_ret (r_then ?_)
          refine f_ret rfl rfl ?_
          rw [show residual q (decide Y) xs = rounded (prodG mAt (scaled (placed xs) q) 4) from by unfold residual; rw [if_pos ⟨h7, hq⟩, if_neg (by simpa using h18), if_pos hle]]
          exact ⟨_, rfl, L, _, _, _, rfl, o30, f30.mono (by omega)⟩
        · refine c_end ?_
          refine n_then ?_
          refine c_false rfl ?_
          refine c_skipn ?_
          refine n_then ?_
          refine wp_seq ?_
          have hle : ¬ xs.length = 16 := fun h => h27 (by unfold sideOf; rw [if_pos (by omega)])
          refine c_reg ?_
          refine s0 (x_move (v := .slice _ _ _) rfl) ?_
          refine sp (zcall cl182HC rfl) (i_inv8 _ _ _ _ o23.sl (by omega)) ?_
          rintro v32 w18 l19 ⟨p32, c32, F32, rfl, o32, f32⟩
          have z_l19 := l19.size
          have L := L.tr l19.up
          have B1 := B1.ext l19
          have o16 := o16.ext l19
          have o23 := o23.ext l19
          have g32 := o32.lt
          refine sp (zcall cl180HC rfl) (i_rounded _ _ _ _ o32.sl (by omega)) ?_
          rintro v33 w20 l21 ⟨p33, c33, F33, rfl, o33, f33⟩
          have z_l21 := l21.size
          have L := L.tr l21.up
          have B1 := B1.ext l21
          have o16 := o16.ext l21
          have o23 := o23.ext l21
          have o32 := o32.ext l21
          have g33 := o33.lt
          refine s0 (x_assign (v := .slice _ _ _) rfl) ?_
          refine c_end ?_
          refine n_then ?_
          refine wp_ret ?_
          refine f_ret rfl rfl ?_
          rw [show residual q (decide Y) xs = rounded (prodG hEnt (scaled (placed xs) q) 8) from by unfold residual; rw [if_pos ⟨h7, hq⟩, if_neg (by simpa using h18), if_neg hle]]
          exact ⟨_, rfl, L, _, _, _, rfl, o33, f33.mono (by omega)⟩
    · have z_l7 := l7.size
      have L := L.tr l7.up
      have B1 := B1.ext l7
      refine gt rfl rfl rfl rfl ?_
      refine s0 (x_not rfl) ?_
      refine s0 (x_pickf (v := .bool _) rfl rfl) ?_
      refine c_end ?_
      refine n_then ?_
      refine c_true rfl ?_
      refine wp_seq ?_
      refine c_reg ?_
      refine s0 (x_assign (v := .slice _ _ _) rfl) ?_
      refine c_end ?_
      refine n_then ?_
      refine wp_ret (r_then ?_)
      refine f_ret rfl rfl ?_
      rw [residual_no (fun h => h12 h.2)]
      exact ⟨_, rfl, L, none, 0, [], rfl, Own.nil, Fr.no⟩
  · have z_l5 := l5.size
    have L := L.tr l5.up
    have B1 := B1.ext l5
    refine s0 (x_not rfl) ?_
    refine s0 (x_move (v := .bool _) rfl) ?_
    refine gf rfl rfl rfl rfl ?_
    refine gf rfl rfl rfl rfl ?_
    refine gf rfl rfl rfl rfl ?_
    refine gf rfl rfl rfl rfl ?_
    refine s0 (x_pickt (v := .bool _) rfl rfl) ?_
    refine c_end ?_
    refine n_then ?_
    refine c_true rfl ?_
    refine wp_seq ?_
    refine c_reg ?_
    refine s0 (x_assign (v := .slice _ _ _) rfl) ?_
    refine c_end ?_
    refine n_then ?_
    refine wp_ret (r_then ?_)
    refine f_ret rfl rfl ?_
    rw [residual_no (fun h => h7 h.1)]
    exact ⟨_, rfl, L, none, 0, [], rfl, Own.nil, Fr.no⟩

end Go.Proofs.Ytdnckakaoageoaa
