/- What each function of this part returns, for every argument that meets its premises. -/
import Derived.Test.YtepnknffaecbdaaProg
import Derived.Test.YtepnknffaecbdaaVSxF
import Derived.Test.YtepnknffaecbdaaVPlU
import Derived.Test.YtepnknffaecbdaaVF1
import Derived.Test.YtepnknffaecbdaaVF4
import Derived.Test.YtepnknffaecbdaaVFB
import Derived.Test.YtepnknffaecbdaaVFY
import Derived.Test.YtepnknffaecbdaaVFZ
import Derived.Test.YtepnknffaecbdaaVHE
namespace Go.Proofs.Ytepnknffaecbdaa
open Go.Sx Go.Pl Go.RowKit
theorem cl163HC : Callable Try.prog 163 := callable Try.func163 (by kernel_rfl) rfl
theorem cl210HC : Callable Try.prog 210 := callable Try.func210 (by kernel_rfl) rfl
theorem cl211HC : Callable Try.prog 211 := callable Try.func211 (by kernel_rfl) rfl
theorem cl212HC : Callable Try.prog 212 := callable Try.func212 (by kernel_rfl) rfl
theorem cl213HC : Callable Try.prog 213 := callable Try.func213 (by kernel_rfl) rfl
theorem cl214HC : Callable Try.prog 214 := callable Try.func214 (by kernel_rfl) rfl
theorem cl215HC : Callable Try.prog 215 := callable Try.func215 (by kernel_rfl) rfl
theorem cl216HC : Callable Try.prog 216 := callable Try.func216 (by kernel_rfl) rfl
theorem cl223HC : Callable Try.prog 223 := callable Try.func223 (by kernel_rfl) rfl
theorem cl224HC : Callable Try.prog 224 := callable Try.func224 (by kernel_rfl) rfl
theorem cl225HC : Callable Try.prog 225 := callable Try.func225 (by kernel_rfl) rfl
theorem cl226HC : Callable Try.prog 226 := callable Try.func226 (by kernel_rfl) rfl
theorem cl227HC : Callable Try.prog 227 := callable Try.func227 (by kernel_rfl) rfl
theorem cl228HC : Callable Try.prog 228 := callable Try.func228 (by kernel_rfl) rfl
theorem cl88HC : Callable Try.prog 88 := callable Try.func88 (by kernel_rfl) rfl
theorem fa42_2HC : FieldAt Try.prog 42 2 2 := ⟨_, _, Try.underlying42, rfl, rfl, ⟨0, by unfold Sz; kernel_rfl⟩⟩
theorem fa42_3HC : FieldAt Try.prog 42 3 3 := ⟨_, _, Try.underlying42, rfl, rfl, ⟨0, by unfold Sz; kernel_rfl⟩⟩
theorem sc3HC : Sc Try.prog 3 := ⟨(.int .i64), by kernel_rfl, trivial⟩
theorem sc4HC : Sc Try.prog 4 := ⟨.bool, by kernel_rfl, trivial⟩
theorem so40HC : SliceOf Try.prog 40 3 1 8 := ⟨by kernel_rfl, by kernel_rfl⟩
theorem un40HC : Try.prog.underlying 40 = some (.slice 3) := by kernel_rfl
/-- impl.ResidualOf -/
theorem i_residual (W H q : Int) (y z : Bool) (pA : Option Addr) (nA cA : Nat) (p : Option Addr) (xs : List Int) (c : Nat) (w : World) (hp : Sl w p xs.length c 1 (ic xs)) (hl : xs.length ≤ 1099511627776) :
    Calls Try.prog 162 [.agg [.int .i64 W, .int .i64 H, .int .i64 q, .bool y, .bool z, .slice pA nA cA].toArray, .slice p xs.length c].toArray w (RetP w fun v w' => ∃ p c F, v = .slice p (residual q y xs).length c ∧ Own w' p (residual q y xs).length c 3 1 (ic (residual q y xs)) F ∧ Fr w.heap.size F) := by
  obtain ⟨Y, hY, rfl⟩ : ∃ (Y : Prop) (_ : Decidable Y), y = decide Y := ⟨y = true, inferInstance, by simp⟩
  have L : Exm [] w w := Exm.rfl'
  refine enter (n := 34) Try.func162 rfl rfl rfl ?_
  refine wp_seq ?_
  refine c_reg ?_
  refine s_box rfl rfl ?_
  intro b1 w2 lob1 hib1 l3 B1
  have z_l3 := l3.size
  have L := L.tr l3.up
  refine s0 (x_assign (v := .slice _ _ _) rfl) ?_
  refine c_end ?_
  refine n_then ?_
  refine wp_seq ?_
  refine wp_seq ?_
  refine c_reg ?_
  refine s0 (x_move (v := .slice _ _ _) rfl) ?_
  refine srb (zcall cl223HC rfl) (i_levelsOk _ _ _ _ (hp.ext L) (by omega)) (fun h7 w4 l5 => ?_) (fun h7 w4 l5 => ?_)
  · have z_l5 := l5.size
    have L := L.tr l5.up
    have B1 := B1.ext l5
    refine s0 (x_not rfl) ?_
    refine s0 (x_move (v := .bool _) rfl) ?_
    refine gt rfl rfl rfl rfl ?_
    refine s0 (x_fieldAddr fa42_2HC rfl) ?_
    refine gt rfl rfl rfl rfl ?_
    refine st (x_loadB sc3HC rfl B1 rfl) ?_
    refine gt rfl rfl rfl rfl ?_
    refine srb (zcall cl88HC rfl) (i_within _ _ _ _) (fun h12 w6 l7 => ?_) (fun h12 w6 l7 => ?_)
    · have z_l7 := l7.size
      have L := L.tr l7.up
      have B1 := B1.ext l7
      refine gt rfl rfl rfl rfl ?_
      refine s0 (x_not rfl) ?_
      refine s0 (x_pickf (v := .bool _) rfl rfl) ?_
      refine c_end ?_
      refine n_then ?_
      refine c_false rfl ?_
      refine c_skipn ?_
      refine n_then ?_
      refine wp_seq ?_
      have hq : 0 ≤ q ∧ q ≤ 51 := h12
      have hlz := levels_size h7
      have hpl := placed_len h7
      have hsl := scaled_len (placed_ok h7) hq
      have hg4 := prodG_le mAt (scaled (placed xs) q) 4
      have hg8 := prodG_le hEnt (scaled (placed xs) q) 8
      refine c_reg ?_
      refine s0 (x_move (v := .slice _ _ _) rfl) ?_
      refine sp (zcall cl224HC rfl) (i_placed _ _ _ _ (hp.ext L) (by omega)) ?_
      rintro v16 w8 l9 ⟨p16, c16, F16, rfl, o16, f16⟩
      have z_l9 := l9.size
      have L := L.tr l9.up
      have B1 := B1.ext l9
      have g16 := o16.lt
      refine s0 (x_assign (v := .slice _ _ _) rfl) ?_
      refine c_end ?_
      refine n_then ?_
      refine wp_seq ?_
      refine wp_seq ?_
      refine c_reg ?_
      refine s0 (x_fieldAddr fa42_3HC rfl) ?_
      refine sbl (x_loadB sc4HC rfl B1 rfl) (fun h18 => ?_) (fun h18 => ?_)
      · refine c_end ?_
        refine n_then ?_
        refine c_true rfl ?_
        refine wp_seq ?_
        refine c_reg ?_
        refine s0 (x_move (v := .slice _ _ _) rfl) ?_
        refine s0 (x_assign (v := .slice _ _ _) rfl) ?_
        refine c_end ?_
        refine n_then ?_
        refine wp_ret (r_then ?_)
        refine f_ret rfl rfl ?_
        rw [show residual q (decide Y) xs = placed xs from by unfold residual; rw [if_pos ⟨h7, hq⟩, if_pos (decide_eq_true h18)]]
        exact ⟨_, rfl, L, _, _, _, rfl, o16, f16.mono (by omega)⟩
      · refine c_end ?_
        refine n_then ?_
        refine c_false rfl ?_
        refine c_skipn ?_
        refine n_then ?_
        refine wp_seq ?_
        refine c_reg ?_
        refine s0 (x_move (v := .slice _ _ _) rfl) ?_
        refine s0 (x_fieldAddr fa42_2HC rfl) ?_
        refine st (x_loadB sc3HC rfl B1 rfl) ?_
        refine sp (zcall cl225HC rfl) (i_scaled _ _ _ _ _ o16.sl (by omega)) ?_
        rintro v23 w10 l11 ⟨p23, c23, F23, rfl, o23, f23⟩
        have z_l11 := l11.size
        have L := L.tr l11.up
        have B1 := B1.ext l11
        have o16 := o16.ext l11
        have g23 := o23.lt
        refine s0 (x_assign (v := .slice _ _ _) rfl) ?_
        refine c_end ?_
        refine n_then ?_
        refine wp_seq ?_
        refine wp_seq ?_
        refine c_reg ?_
        refine s0 (x_move (v := .slice _ _ _) rfl) ?_
        refine s0 (x_lensl un40HC rfl) ?_
        refine sr (zcall cl163HC rfl) (i_sizeOf _ _) ?_
        intro w12 l13
        have z_l13 := l13.size
        have L := L.tr l13.up
        have B1 := B1.ext l13
        have o16 := o16.ext l13
        have o23 := o23.ext l13
        refine sb (x_eql rfl rfl) (fun h27 => ?_) (fun h27 => ?_)
        · refine c_end ?_
          refine n_then ?_
          refine c_true rfl ?_
          refine wp_seq ?_
          have hle : xs.length = 16 := by unfold sideOf at h27; omega
          refine c_reg ?_
          refine s0 (x_move (v := .slice _ _ _) rfl) ?_
          refine sp (zcall cl227HC rfl) (i_inv4 _ _ _ _ o23.sl (by omega)) ?_
          rintro v29 w14 l15 ⟨p29, c29, F29, rfl, o29, f29⟩
          have z_l15 := l15.size
          have L := L.tr l15.up
          have B1 := B1.ext l15
          have o16 := o16.ext l15
          have o23 := o23.ext l15
          have g29 := o29.lt
          refine sp (zcall cl226HC rfl) (i_rounded _ _ _ _ o29.sl (by omega)) ?_
          rintro v30 w16 l17 ⟨p30, c30, F30, rfl, o30, f30⟩
          have z_l17 := l17.size
          have L := L.tr l17.up
          have B1 := B1.ext l17
          have o16 := o16.ext l17
          have o23 := o23.ext l17
          have o29 := o29.ext l17
          have g30 := o30.lt
          refine s0 (x_assign (v := .slice _ _ _) rfl) ?_
          refine c_end ?_
          refine n_then ?_
          refine wp_ret (r_then ?_)
          refine f_ret rfl rfl ?_
          rw [show residual q (decide Y) xs = rounded (prodG mAt (scaled (placed xs) q) 4) from by unfold residual; rw [if_pos ⟨h7, hq⟩, if_neg (by simpa using h18), if_pos hle]]
          exact ⟨_, rfl, L, _, _, _, rfl, o30, f30.mono (by omega)⟩
        · refine c_end ?_
          refine n_then ?_
          refine c_false rfl ?_
          refine c_skipn ?_
          refine n_then ?_
          refine wp_seq ?_
          have hle : ¬ xs.length = 16 := fun h => h27 (by unfold sideOf; rw [if_pos (by omega)])
          refine c_reg ?_
          refine s0 (x_move (v := .slice _ _ _) rfl) ?_
          refine sp (zcall cl228HC rfl) (i_inv8 _ _ _ _ o23.sl (by omega)) ?_
          rintro v32 w18 l19 ⟨p32, c32, F32, rfl, o32, f32⟩
          have z_l19 := l19.size
          have L := L.tr l19.up
          have B1 := B1.ext l19
          have o16 := o16.ext l19
          have o23 := o23.ext l19
          have g32 := o32.lt
          refine sp (zcall cl226HC rfl) (i_rounded _ _ _ _ o32.sl (by omega)) ?_
          rintro v33 w20 l21 ⟨p33, c33, F33, rfl, o33, f33⟩
          have z_l21 := l21.size
          have L := L.tr l21.up
          have B1 := B1.ext l21
          have o16 := o16.ext l21
          have o23 := o23.ext l21
          have o32 := o32.ext l21
          have g33 := o33.lt
          refine s0 (x_assign (v := .slice _ _ _) rfl) ?_
          refine c_end ?_
          refine n_then ?_
          refine wp_ret ?_
          refine f_ret rfl rfl ?_
          rw [show residual q (decide Y) xs = rounded (prodG hEnt (scaled (placed xs) q) 8) from by unfold residual; rw [if_pos ⟨h7, hq⟩, if_neg (by simpa using h18), if_neg hle]]
          exact ⟨_, rfl, L, _, _, _, rfl, o33, f33.mono (by omega)⟩
    · have z_l7 := l7.size
      have L := L.tr l7.up
      have B1 := B1.ext l7
      refine gt rfl rfl rfl rfl ?_
      refine s0 (x_not rfl) ?_
      refine s0 (x_pickf (v := .bool _) rfl rfl) ?_
      refine c_end ?_
      refine n_then ?_
      refine c_true rfl ?_
      refine wp_seq ?_
      refine c_reg ?_
      refine s0 (x_assign (v := .slice _ _ _) rfl) ?_
      refine c_end ?_
      refine n_then ?_
      refine wp_ret (r_then ?_)
      refine f_ret rfl rfl ?_
      rw [residual_no (fun h => h12 h.2)]
      exact ⟨_, rfl, L, none, 0, [], rfl, Own.nil, Fr.no⟩
  · have z_l5 := l5.size
    have L := L.tr l5.up
    have B1 := B1.ext l5
    refine s0 (x_not rfl) ?_
    refine s0 (x_move (v := .bool _) rfl) ?_
    refine gf rfl rfl rfl rfl ?_
    refine gf rfl rfl rfl rfl ?_
    refine gf rfl rfl rfl rfl ?_
    refine gf rfl rfl rfl rfl ?_
    refine s0 (x_pickt (v := .bool _) rfl rfl) ?_
    refine c_end ?_
    refine n_then ?_
    refine c_true rfl ?_
    refine wp_seq ?_
    refine c_reg ?_
    refine s0 (x_assign (v := .slice _ _ _) rfl) ?_
    refine c_end ?_
    refine n_then ?_
    refine wp_ret (r_then ?_)
    refine f_ret rfl rfl ?_
    rw [residual_no (fun h => h7 h.1)]
    exact ⟨_, rfl, L, none, 0, [], rfl, Own.nil, Fr.no⟩

/-- spec.ResidualOf -/
theorem s_residual (W H q : Int) (y z : Bool) (pA : Option Addr) (nA cA : Nat) (p : Option Addr) (xs : List Int) (c : Nat) (w : World) (hp : Sl w p xs.length c 1 (ic xs)) (hl : xs.length ≤ 1099511627776) :
    Calls Try.prog 154 [.agg [.int .i64 W, .int .i64 H, .int .i64 q, .bool y, .bool z, .slice pA nA cA].toArray, .slice p xs.length c].toArray w (RetP w fun v w' => ∃ p c F, v = .slice p (residual q y xs).length c ∧ Own w' p (residual q y xs).length c 3 1 (ic (residual q y xs)) F ∧ Fr w.heap.size F) := by
  obtain ⟨Y, hY, rfl⟩ : ∃ (Y : Prop) (_ : Decidable Y), y = decide Y := ⟨y = true, inferInstance, by simp⟩
  have L : Exm [] w w := Exm.rfl'
  refine enter (n := 38) Try.func154 rfl rfl rfl ?_
  refine wp_seq ?_
  refine c_reg ?_
  refine s_box rfl rfl ?_
  intro b1 w2 lob1 hib1 l3 B1
  have z_l3 := l3.size
  have L := L.tr l3.up
  refine s0 (x_assign (v := .slice _ _ _) rfl) ?_
  refine c_end ?_
  refine n_then ?_
  refine wp_seq ?_
  refine wp_seq ?_
  refine c_reg ?_
  refine s0 (x_move (v := .slice _ _ _) rfl) ?_
  refine srb (zcall cl210HC rfl) (s_levelsOk _ _ _ _ (hp.ext L) (by omega)) (fun h7 w4 l5 => ?_) (fun h7 w4 l5 => ?_)
  · have z_l5 := l5.size
    have L := L.tr l5.up
    have B1 := B1.ext l5
    refine s0 (x_not rfl) ?_
    refine s0 (x_move (v := .bool _) rfl) ?_
    refine gt rfl rfl rfl rfl ?_
    refine s0 (x_fieldAddr fa42_2HC rfl) ?_
    refine gt rfl rfl rfl rfl ?_
    refine st (x_loadB sc3HC rfl B1 rfl) ?_
    refine gt rfl rfl rfl rfl ?_
    refine sr (zcall cl211HC rfl) (s_stepOf _ _) ?_
    intro w6 l7
    have z_l7 := l7.size
    have L := L.tr l7.up
    have B1 := B1.ext l7
    refine gt rfl rfl rfl rfl ?_
    refine sb (x_eql rfl rfl) (fun h13 => ?_) (fun h13 => ?_)
    · refine s0 (x_pickf (v := .bool _) rfl rfl) ?_
      refine c_end ?_
      refine n_then ?_
      refine c_true rfl ?_
      refine wp_seq ?_
      refine c_reg ?_
      refine s_bs0 so40HC ?_
      intro p15 F15 w8 l9 o15 f15 g15
      have o15 : Own w8 p15 0 0 3 1 (ic []) F15 := o15
      have z_l9 := l9.size
      have L := L.tr l9.up
      have B1 := B1.ext l9
      refine s0 (x_assign (v := .slice _ _ _) rfl) ?_
      refine c_end ?_
      refine n_then ?_
      refine wp_ret (r_then ?_)
      refine f_ret rfl rfl ?_
      rw [residual_no (fun h => by have := stepOf_le h.2; omega)]
      exact ⟨_, rfl, L, _, _, _, rfl, o15, f15.mono (by omega)⟩
    · refine s0 (x_pickf (v := .bool _) rfl rfl) ?_
      refine c_end ?_
      refine n_then ?_
      refine c_false rfl ?_
      refine c_skipn ?_
      refine n_then ?_
      refine wp_seq ?_
      have hq : 0 ≤ q ∧ q ≤ 51 := Classical.byContradiction fun h => h13 (stepOf_no h)
      have hlz := levels_size h7
      have hpl := placed_len h7
      have hsl := scaled_len (placed_ok h7) hq
      have hg4 := prodG_le mAt (scaled (placed xs) q) 4
      have hg8 := prodG_le hEnt (scaled (placed xs) q) 8
      refine c_reg ?_
      refine s0 (x_move (v := .slice _ _ _) rfl) ?_
      refine sp (zcall cl212HC rfl) (s_placed _ _ _ _ (hp.ext L) (by omega)) ?_
      rintro v17 w10 l11 ⟨p17, c17, F17, rfl, o17, f17⟩
      have z_l11 := l11.size
      have L := L.tr l11.up
      have B1 := B1.ext l11
      have g17 := o17.lt
      refine s0 (x_assign (v := .slice _ _ _) rfl) ?_
      refine c_end ?_
      refine n_then ?_
      refine wp_seq ?_
      refine wp_block ?_
      refine wp_seq ?_
      refine c_reg ?_
      refine s0 (x_fieldAddr fa42_3HC rfl) ?_
      refine sbl (x_loadB sc4HC rfl B1 rfl) (fun h20 => ?_) (fun h20 => ?_)
      · refine s0 (x_assign (v := .bool _) rfl) ?_
        refine c_end ?_
        refine n_then ?_
        refine c_true rfl ?_
        refine wp_seq ?_
        refine c_reg ?_
        refine s0 (x_move (v := .slice _ _ _) rfl) ?_
        refine s0 (x_assign (v := .slice _ _ _) rfl) ?_
        refine c_end ?_
        refine n_then ?_
        refine wp_ret (r_block (r_then ?_))
        refine f_ret rfl rfl ?_
        rw [show residual q (decide Y) xs = placed xs from by unfold residual; rw [if_pos ⟨h7, hq⟩, if_pos (decide_eq_true h20)]]
        exact ⟨_, rfl, L, _, _, _, rfl, o17, f17.mono (by omega)⟩
      · refine s0 (x_assign (v := .bool _) rfl) ?_
        refine c_end ?_
        refine n_then ?_
        refine c_false rfl ?_
        refine wp_seq ?_
        refine c_reg ?_
        refine s0 (x_move (v := .slice _ _ _) rfl) ?_
        refine s0 (x_lensl un40HC rfl) ?_
        refine sb (x_eql rfl rfl) (fun h25 => ?_) (fun h25 => ?_)
        · refine s0 (x_assign (v := .bool _) rfl) ?_
          refine c_end ?_
          refine n_then ?_
          refine c_true rfl ?_
          refine wp_seq ?_
          have hle : xs.length = 16 := by omega
          refine c_reg ?_
          refine s0 (x_move (v := .slice _ _ _) rfl) ?_
          refine s0 (x_fieldAddr fa42_2HC rfl) ?_
          refine st (x_loadB sc3HC rfl B1 rfl) ?_
          refine sp (zcall cl215HC rfl) (s_scaled _ _ _ _ _ o17.sl (by omega)) ?_
          rintro v29 w12 l13 ⟨p29, c29, F29, rfl, o29, f29⟩
          have z_l13 := l13.size
          have L := L.tr l13.up
          have B1 := B1.ext l13
          have o17 := o17.ext l13
          have g29 := o29.lt
          refine sp (zcall cl214HC rfl) (s_inv4 _ _ _ _ o29.sl (by omega)) ?_
          rintro v30 w14 l15 ⟨p30, c30, F30, rfl, o30, f30⟩
          have z_l15 := l15.size
          have L := L.tr l15.up
          have B1 := B1.ext l15
          have o17 := o17.ext l15
          have o29 := o29.ext l15
          have g30 := o30.lt
          refine sp (zcall cl213HC rfl) (s_rounded _ _ _ _ o30.sl (by omega)) ?_
          rintro v31 w16 l17 ⟨p31, c31, F31, rfl, o31, f31⟩
          have z_l17 := l17.size
          have L := L.tr l17.up
          have B1 := B1.ext l17
          have o17 := o17.ext l17
          have o29 := o29.ext l17
          have o30 := o30.ext l17
          have g31 := o31.lt
          refine s0 (x_assign (v := .slice _ _ _) rfl) ?_
          refine c_end ?_
          refine n_then ?_
          refine wp_ret (r_block (r_then ?_))
          refine f_ret rfl rfl ?_
          rw [show residual q (decide Y) xs = rounded (prodG mAt (scaled (placed xs) q) 4) from by unfold residual; rw [if_pos ⟨h7, hq⟩, if_neg (by simpa using h20), if_pos hle]]
          exact ⟨_, rfl, L, _, _, _, rfl, o31, f31.mono (by omega)⟩
        · refine s0 (x_assign (v := .bool _) rfl) ?_
          refine c_end ?_
          refine n_then ?_
          refine c_false rfl ?_
          refine c_skipn ?_
          refine n_block ?_
          refine n_then ?_
          refine wp_seq ?_
          have hle : ¬ xs.length = 16 := by omega
          refine c_reg ?_
          refine s0 (x_move (v := .slice _ _ _) rfl) ?_
          refine s0 (x_fieldAddr fa42_2HC rfl) ?_
          refine st (x_loadB sc3HC rfl B1 rfl) ?_
          refine sp (zcall cl215HC rfl) (s_scaled _ _ _ _ _ o17.sl (by omega)) ?_
          rintro v35 w18 l19 ⟨p35, c35, F35, rfl, o35, f35⟩
          have z_l19 := l19.size
          have L := L.tr l19.up
          have B1 := B1.ext l19
          have o17 := o17.ext l19
          have g35 := o35.lt
          refine sp (zcall cl216HC rfl) (s_inv8 _ _ _ _ o35.sl (by omega)) ?_
          rintro v36 w20 l21 ⟨p36, c36, F36, rfl, o36, f36⟩
          have z_l21 := l21.size
          have L := L.tr l21.up
          have B1 := B1.ext l21
          have o17 := o17.ext l21
          have o35 := o35.ext l21
          have g36 := o36.lt
          refine sp (zcall cl213HC rfl) (s_rounded _ _ _ _ o36.sl (by omega)) ?_
          rintro v37 w22 l23 ⟨p37, c37, F37, rfl, o37, f37⟩
          have z_l23 := l23.size
          have L := L.tr l23.up
          have B1 := B1.ext l23
          have o17 := o17.ext l23
          have o35 := o35.ext l23
          have o36 := o36.ext l23
          have g37 := o37.lt
          refine s0 (x_assign (v := .slice _ _ _) rfl) ?_
          refine c_end ?_
          refine n_then ?_
          refine wp_ret ?_
          refine f_ret rfl rfl ?_
          rw [show residual q (decide Y) xs = rounded (prodG hEnt (scaled (placed xs) q) 8) from by unfold residual; rw [if_pos ⟨h7, hq⟩, if_neg (by simpa using h20), if_neg hle]]
          exact ⟨_, rfl, L, _, _, _, rfl, o37, f37.mono (by omega)⟩
  · have z_l5 := l5.size
    have L := L.tr l5.up
    have B1 := B1.ext l5
    refine s0 (x_not rfl) ?_
    refine s0 (x_move (v := .bool _) rfl) ?_
    refine gf rfl rfl rfl rfl ?_
    refine gf rfl rfl rfl rfl ?_
    refine gf rfl rfl rfl rfl ?_
    refine gf rfl rfl rfl rfl ?_
    refine s0 (x_pickt (v := .bool _) rfl rfl) ?_
    refine c_end ?_
    refine n_then ?_
    refine c_true rfl ?_
    refine wp_seq ?_
    refine c_reg ?_
    refine s_bs0 so40HC ?_
    intro p15 F15 w24 l25 o15 f15 g15
    have o15 : Own w24 p15 0 0 3 1 (ic []) F15 := o15
    have z_l25 := l25.size
    have L := L.tr l25.up
    have B1 := B1.ext l25
    refine s0 (x_assign (v := .slice _ _ _) rfl) ?_
    refine c_end ?_
    refine n_then ?_
    refine wp_ret (r_then ?_)
    refine f_ret rfl rfl ?_
    rw [residual_no (fun h => h7 h.1)]
    exact ⟨_, rfl, L, _, _, _, rfl, o15, f15.mono (by omega)⟩

end Go.Proofs.Ytepnknffaecbdaa
