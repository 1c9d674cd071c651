/- What each function of this part returns, for every argument that meets its premises. -/
import Derived.Test.YtnehdmcilmlchaaProg
import Derived.Test.YtnehdmcilmlchaaVSxF
import Derived.Test.YtnehdmcilmlchaaVPlY
import Derived.Test.YtnehdmcilmlchaaVF2
import Derived.Test.YtnehdmcilmlchaaVF4
import Derived.Test.YtnehdmcilmlchaaVF9
namespace Go.Proofs.Ytnehdmcilmlchaa
open Go.Sx Go.Pl Go.RowKit
theorem ag35FL : Ag Try.prog 35 2 := ⟨⟨_, Try.underlying35⟩, by kernel_rfl⟩
theorem cl121FL : Callable Try.prog 121 := callable Try.func121 (by kernel_rfl) rfl
theorem cl90FL : Callable Try.prog 90 := callable Try.func90 (by kernel_rfl) rfl
theorem fa145_0FL : FieldAt Try.prog 145 0 0 := ⟨_, _, Try.underlying145, rfl, rfl, ⟨1, by unfold Sz; kernel_rfl⟩⟩
theorem fa145_1FL : FieldAt Try.prog 145 1 2 := ⟨_, _, Try.underlying145, rfl, rfl, ⟨0, by unfold Sz; kernel_rfl⟩⟩
theorem sc3FL : Sc Try.prog 3 := ⟨(.int .i64), by kernel_rfl, trivial⟩
theorem sz3FL : Sz Try.prog 3 1 := by unfold Sz; kernel_rfl
theorem sz35FL : Sz Try.prog 35 2 := by unfold Sz; kernel_rfl
theorem zr35FL : ZeroV Try.prog 35 [.string .empty, .int .i64 0] := by unfold ZeroV; kernel_rfl
/-- impl.unless -/
theorem i_unless_t (c : Int) (w : World) :
    Calls Try.prog 107 [.bool true, .int .i64 c].toArray w (Ret w (.int .i64 0)) := by
  have L : Exm [] w w := Exm.rfl'
  refine enter (n := 7) Try.func107 rfl rfl rfl ?_
  refine wp_seq ?_
  refine c_reg ?_
  refine s0 (x_assign (v := .int _ _) rfl) ?_
  refine c_end ?_
  refine n_then ?_
  refine wp_seq ?_
  refine wp_seq ?_
  refine c_reg ?_
  refine s0 (x_move (v := .bool _) rfl) ?_
  refine c_end ?_
  refine n_then ?_
  refine c_true rfl ?_
  refine wp_seq ?_
  refine c_reg ?_
  refine s0 (x_assign (v := .int _ _) rfl) ?_
  refine c_end ?_
  refine n_then ?_
  refine wp_ret (r_then ?_)
  refine f_ret rfl rfl ?_
  exact ⟨rfl, L⟩

/-- impl.unless -/
theorem i_unless_f (c : Int) (w : World) :
    Calls Try.prog 107 [.bool false, .int .i64 c].toArray w (Ret w (.int .i64 c)) := by
  have L : Exm [] w w := Exm.rfl'
  refine enter (n := 7) Try.func107 rfl rfl rfl ?_
  refine wp_seq ?_
  refine c_reg ?_
  refine s0 (x_assign (v := .int _ _) rfl) ?_
  refine c_end ?_
  refine n_then ?_
  refine wp_seq ?_
  refine wp_seq ?_
  refine c_reg ?_
  refine s0 (x_move (v := .bool _) rfl) ?_
  refine c_end ?_
  refine n_then ?_
  refine c_false rfl ?_
  refine c_skipn ?_
  refine n_then ?_
  refine wp_seq ?_
  refine c_reg ?_
  refine s0 (x_move (v := .int _ _) rfl) ?_
  refine s0 (x_assign (v := .int _ _) rfl) ?_
  refine c_end ?_
  refine n_then ?_
  refine wp_ret ?_
  refine f_ret rfl rfl ?_
  exact ⟨rfl, L⟩

theorem i_unless (p : Prop) [Decidable p] (c : Int) (w : World) : Calls Try.prog 107 [.bool (decide p), .int .i64 c].toArray w (Ret w (.int .i64 (unl p c))) := by
  by_cases h : p
  · rw [decide_eq_true h, show unl p c = 0 from if_pos h]; exact i_unless_t c w
  · rw [decide_eq_false h, show unl p c = c from if_neg h]; exact i_unless_f c w

/-- (*impl.fields).bits -/
theorem i_fbits (b : Nat) (s : ByteArray) (f : Fs) (n : Int) (fk : FuncId) (caps : List Value) (chk : Int → Int) (w : World) (hB : Bx w b [.string s, .int .i64 f.a, .int .i64 f.code] 145) (hc : Callable Try.prog fk) (hk : ∀ x w', 0 ≤ x ∧ x < 4294967296 → Exm [b] w w' → Calls Try.prog fk ([Value.int .i64 x] ++ caps).toArray w' (Ret w' (.int .i64 (chk x)))) (hs : s.size ≤ 1048576) :
    Calls Try.prog 109 [pt b 0, .int .i64 n, .func (.func fk) #[] caps.toArray].toArray w (RetM [b] w fun v w' => ∃ (x : Int) (f' : Fs), v = .int .i64 x ∧ x = fbV s f n chk ∧ f' = fbS s f n chk ∧ Bx w' b [.string s, .int .i64 f'.a, .int .i64 f'.code] 145) := by
  have hbz : b < w.heap.size := (Array.getElem?_eq_some_iff.1 hB).1
  have L : Exm [b] w w := Exm.rfl'
  refine enter (n := 47) Try.func109 rfl rfl rfl ?_
  refine wp_seq ?_
  refine c_reg ?_
  refine s0 (x_assign (v := .int _ _) rfl) ?_
  refine c_end ?_
  refine n_then ?_
  refine wp_seq ?_
  refine wp_seq ?_
  refine c_reg ?_
  refine s0 (x_move (v := .pointer _) rfl) ?_
  refine s0 (x_nilCheck rfl) ?_
  refine s0 (x_fieldAddr fa145_1FL rfl) ?_
  refine st (x_loadB sc3FL rfl hB rfl) ?_
  refine sb (x_neq rfl rfl) (fun h14 => ?_) (fun h14 => ?_)
  · refine c_end ?_
    refine n_then ?_
    refine c_true rfl ?_
    refine wp_seq ?_
    refine c_reg ?_
    refine s0 (x_assign (v := .int _ _) rfl) ?_
    refine c_end ?_
    refine n_then ?_
    refine wp_ret (r_then ?_)
    refine f_ret rfl rfl ?_
    exact ⟨_, rfl, L, 0, f, rfl, (fb_err h14).2.symm, (fb_err h14).1.symm, hB⟩
  · refine c_end ?_
    refine n_then ?_
    refine c_false rfl ?_
    refine c_skipn ?_
    refine n_then ?_
    refine wp_seq ?_
    refine c_reg ?_
    refine s0 (x_move (v := .pointer _) rfl) ?_
    refine s0 (x_nilCheck rfl) ?_
    refine s0 (x_fieldAddr fa145_0FL rfl) ?_
    refine st (x_loadIn ag35FL rfl hB [.string _, .int _ _] rfl rfl) ?_
    refine s0 (x_move (v := .int _ _) rfl) ?_
    refine sr (zcall cl121FL rfl) (i_readBits _ _ _ _ (by omega)) ?_
    intro w1 l2
    have z_l2 := l2.size
    have L := L.tr l2.up
    have hB := hB.ext l2
    refine s0 (x_move (v := .tuple _) rfl) ?_
    refine s0 (x_extract rfl rfl) ?_
    refine s0 (x_extract rfl rfl) ?_
    refine sb (x_extract rfl rfl) (fun h24 => ?_) (fun h24 => ?_)
    · refine s_alloc zr35FL ?_
      intro b3 w4 lob3 hib3 l5 B3
      have z_l5 := l5.size
      have L := L.tr l5.up
      have hB := hB.ext l5
      refine s_storeAg rfl sz35FL rfl rfl B3 rfl rfl rfl ?_
      intro w6 l7 el7 B3
      have z_l7 := l7.size
      have L := L.fresh l7 (by omega)
      have hB := hB.ne l7 (by omega)
      refine s0 (x_assign (v := .int _ _) rfl) ?_
      refine s0 (x_assign (v := .bool _) rfl) ?_
      refine c_end ?_
      refine n_then ?_
      refine wp_seq ?_
      refine wp_block ?_
      refine wp_seq ?_
      refine c_reg ?_
      refine s0 (x_move (v := .bool _) rfl) ?_
      refine s0 (x_not rfl) ?_
      refine s0 (x_assign (v := .bool _) rfl) ?_
      refine c_end ?_
      refine n_then ?_
      refine c_false rfl ?_
      refine c_reg ?_
      refine s0 (x_move (v := .pointer _) rfl) ?_
      refine s0 (x_move (v := .func _ _ _) rfl) ?_
      refine s0 (x_move (v := .int _ _) rfl) ?_
      refine sr (zcallv (caps := caps) hc rfl rfl) (hk _ _ (rbV_range s f.a n) L) ?_
      intro w8 l9
      have z_l9 := l9.size
      have L := L.tr l9.up
      have hB := hB.ext l9
      have B3 := B3.ext l9
      refine s0 (x_nilCheck rfl) ?_
      refine s0 (x_fieldAddr fa145_1FL rfl) ?_
      refine s_store (v := .int _ _) (cs' := [_, _, _]) rfl sz3FL rfl rfl rfl rfl hB rfl rfl ?_
      intro w10 l11 el11 hB
      have z_l11 := l11.size
      have L := L.within l11 (by simp)
      have B3 := B3.ne l11 (by omega)
      refine c_end ?_
      refine n_block ?_
      refine n_then ?_
      refine wp_seq ?_
      refine wp_seq ?_
      refine c_reg ?_
      refine s0 (x_move (v := .pointer _) rfl) ?_
      refine s0 (x_nilCheck rfl) ?_
      refine s0 (x_fieldAddr fa145_1FL rfl) ?_
      refine st (x_loadB sc3FL rfl hB rfl) ?_
      refine sb (x_neq rfl rfl) (fun h41 => ?_) (fun h41 => ?_)
      · refine c_end ?_
        refine n_then ?_
        refine c_true rfl ?_
        refine wp_seq ?_
        refine c_reg ?_
        refine s0 (x_assign (v := .int _ _) rfl) ?_
        refine c_end ?_
        refine n_then ?_
        refine wp_ret (r_then ?_)
        refine f_ret rfl rfl ?_
        have e := fb_bad (f := f) (chk := chk) (Classical.not_not.1 h14) h24 h41
        exact ⟨_, rfl, L, 0, _, rfl, e.2.symm, e.1.symm, hB⟩
      · refine c_end ?_
        refine n_then ?_
        refine c_false rfl ?_
        refine c_skipn ?_
        refine n_then ?_
        refine wp_seq ?_
        refine c_reg ?_
        refine s0 (x_move (v := .pointer _) rfl) ?_
        refine st (x_loadAgB ag35FL rfl B3 rfl) ?_
        refine s0 (x_nilCheck rfl) ?_
        refine s0 (x_fieldAddr fa145_0FL rfl) ?_
        refine s_storeIn (cs' := [_, _, _]) (vs := [.string _, .int _ _]) rfl sz35FL rfl rfl hB rfl (Nat.le_of_ble_eq_true rfl) rfl rfl ?_
        intro w12 l13 el13 hB
        have z_l13 := l13.size
        have L := L.within l13 (by simp)
        have B3 := B3.ne l13 (by omega)
        refine c_end ?_
        refine n_then ?_
        refine wp_seq ?_
        refine c_reg ?_
        refine s0 (x_move (v := .int _ _) rfl) ?_
        refine s0 (x_assign (v := .int _ _) rfl) ?_
        refine c_end ?_
        refine n_then ?_
        refine wp_ret ?_
        refine f_ret rfl rfl ?_
        have e := fb_ok (f := f) (chk := chk) (Classical.not_not.1 h14) h24 (Classical.not_not.1 h41)
        exact ⟨_, rfl, L, _, _, rfl, e.2.symm, e.1.symm, bx_eq (by rw [rbAt_ok h24, Classical.not_not.1 h41]) hB⟩
    · refine s_alloc zr35FL ?_
      intro b14 w15 lob14 hib14 l16 B14
      have z_l16 := l16.size
      have L := L.tr l16.up
      have hB := hB.ext l16
      refine s_storeAg rfl sz35FL rfl rfl B14 rfl rfl rfl ?_
      intro w17 l18 el18 B14
      have z_l18 := l18.size
      have L := L.fresh l18 (by omega)
      have hB := hB.ne l18 (by omega)
      refine s0 (x_assign (v := .int _ _) rfl) ?_
      refine s0 (x_assign (v := .bool _) rfl) ?_
      refine c_end ?_
      refine n_then ?_
      refine wp_seq ?_
      refine wp_block ?_
      refine wp_seq ?_
      refine c_reg ?_
      refine s0 (x_move (v := .bool _) rfl) ?_
      refine s0 (x_not rfl) ?_
      refine s0 (x_assign (v := .bool _) rfl) ?_
      refine c_end ?_
      refine n_then ?_
      refine c_true rfl ?_
      refine c_reg ?_
      refine s0 (x_move (v := .pointer _) rfl) ?_
      refine s0 (x_nilCheck rfl) ?_
      refine s0 (x_fieldAddr fa145_1FL rfl) ?_
      refine s_store (v := .int _ _) (cs' := [_, _, _]) rfl sz3FL rfl rfl rfl rfl hB rfl rfl ?_
      intro w19 l20 el20 hB
      have z_l20 := l20.size
      have L := L.within l20 (by simp)
      have B14 := B14.ne l20 (by omega)
      refine c_end ?_
      refine n_block ?_
      refine n_then ?_
      refine wp_seq ?_
      refine wp_seq ?_
      refine c_reg ?_
      refine s0 (x_move (v := .pointer _) rfl) ?_
      refine s0 (x_nilCheck rfl) ?_
      refine s0 (x_fieldAddr fa145_1FL rfl) ?_
      refine st (x_loadB sc3FL rfl hB rfl) ?_
      refine sb (x_neq rfl rfl) (fun h41 => ?_) (fun h41 => ?_)
      · refine c_end ?_
        refine n_then ?_
        refine c_true rfl ?_
        refine wp_seq ?_
        refine c_reg ?_
        refine s0 (x_assign (v := .int _ _) rfl) ?_
        refine c_end ?_
        refine n_then ?_
        refine wp_ret (r_then ?_)
        refine f_ret rfl rfl ?_
        have e := fb_short (f := f) (chk := chk) (Classical.not_not.1 h14) h24
        exact ⟨_, rfl, L, 0, _, rfl, e.2.symm, e.1.symm, hB⟩
      · exact absurd (by decide) h41

/-- (*impl.fields).ue -/
theorem i_fue (b : Nat) (s : ByteArray) (f : Fs) (fk : FuncId) (caps : List Value) (chk : Int → Int) (w : World) (hB : Bx w b [.string s, .int .i64 f.a, .int .i64 f.code] 145) (hc : Callable Try.prog fk) (hk : ∀ x w', 0 ≤ x ∧ x < 4294967296 → Exm [b] w w' → Calls Try.prog fk ([Value.int .i64 x] ++ caps).toArray w' (Ret w' (.int .i64 (chk x)))) (hs : s.size ≤ 1048576) :
    Calls Try.prog 111 [pt b 0, .func (.func fk) #[] caps.toArray].toArray w (RetM [b] w fun v w' => ∃ (x : Int) (f' : Fs), v = .int .i64 x ∧ x = fnV s f chk ∧ f' = fnS s f chk ∧ Bx w' b [.string s, .int .i64 f'.a, .int .i64 f'.code] 145) := by
  have hbz : b < w.heap.size := (Array.getElem?_eq_some_iff.1 hB).1
  have L : Exm [b] w w := Exm.rfl'
  refine enter (n := 38) Try.func111 rfl rfl rfl ?_
  refine wp_seq ?_
  refine c_reg ?_
  refine s0 (x_assign (v := .int _ _) rfl) ?_
  refine c_end ?_
  refine n_then ?_
  refine wp_seq ?_
  refine wp_seq ?_
  refine c_reg ?_
  refine s0 (x_move (v := .pointer _) rfl) ?_
  refine s0 (x_nilCheck rfl) ?_
  refine s0 (x_fieldAddr fa145_1FL rfl) ?_
  refine st (x_loadB sc3FL rfl hB rfl) ?_
  refine sb (x_neq rfl rfl) (fun h12 => ?_) (fun h12 => ?_)
  · refine c_end ?_
    refine n_then ?_
    refine c_true rfl ?_
    refine wp_seq ?_
    refine c_reg ?_
    refine s0 (x_assign (v := .int _ _) rfl) ?_
    refine c_end ?_
    refine n_then ?_
    refine wp_ret (r_then ?_)
    refine f_ret rfl rfl ?_
    exact ⟨_, rfl, L, 0, f, rfl, (fn_err h12).2.symm, (fn_err h12).1.symm, hB⟩
  · refine c_end ?_
    refine n_then ?_
    refine c_false rfl ?_
    refine c_skipn ?_
    refine n_then ?_
    refine wp_seq ?_
    refine c_reg ?_
    refine s0 (x_move (v := .pointer _) rfl) ?_
    refine s0 (x_nilCheck rfl) ?_
    refine s0 (x_fieldAddr fa145_0FL rfl) ?_
    refine st (x_loadIn ag35FL rfl hB [.string _, .int _ _] rfl rfl) ?_
    refine sr (zcall cl90FL rfl) (i_ue _ _ _ (by omega)) ?_
    intro w1 l2
    have z_l2 := l2.size
    have L := L.tr l2.up
    have hB := hB.ext l2
    refine s0 (x_move (v := .tuple _) rfl) ?_
    refine s0 (x_extract rfl rfl) ?_
    refine s0 (x_extract rfl rfl) ?_
    refine s0 (x_extract rfl rfl) ?_
    refine s_alloc zr35FL ?_
    intro b3 w4 lob3 hib3 l5 B3
    have z_l5 := l5.size
    have L := L.tr l5.up
    have hB := hB.ext l5
    refine s_storeAg rfl sz35FL rfl rfl B3 rfl rfl rfl ?_
    intro w6 l7 el7 B3
    have z_l7 := l7.size
    have L := L.fresh l7 (by omega)
    have hB := hB.ne l7 (by omega)
    refine s0 (x_assign (v := .int _ _) rfl) ?_
    refine s0 (x_assign (v := .int _ _) rfl) ?_
    refine c_end ?_
    refine n_then ?_
    refine wp_seq ?_
    refine wp_seq ?_
    refine c_reg ?_
    refine s0 (x_move (v := .int _ _) rfl) ?_
    refine sb (x_eql rfl rfl) (fun h23 => ?_) (fun h23 => ?_)
    · refine c_end ?_
      refine n_then ?_
      refine c_true rfl ?_
      refine c_reg ?_
      refine s0 (x_move (v := .func _ _ _) rfl) ?_
      refine s0 (x_move (v := .int _ _) rfl) ?_
      refine sr (zcallv (caps := caps) hc rfl rfl) (hk _ _ (by have := ueV_range h23; omega) L) ?_
      intro w8 l9
      have z_l9 := l9.size
      have L := L.tr l9.up
      have hB := hB.ext l9
      have B3 := B3.ext l9
      refine s0 (x_assign (v := .int _ _) rfl) ?_
      refine c_end ?_
      refine n_then ?_
      refine wp_seq ?_
      refine wp_seq ?_
      refine c_reg ?_
      refine s0 (x_move (v := .pointer _) rfl) ?_
      refine s0 (x_move (v := .int _ _) rfl) ?_
      refine s0 (x_nilCheck rfl) ?_
      refine s0 (x_fieldAddr fa145_1FL rfl) ?_
      refine s_store (v := .int _ _) (cs' := [_, _, _]) rfl sz3FL rfl rfl rfl rfl hB rfl rfl ?_
      intro w10 l11 el11 hB
      have z_l11 := l11.size
      have L := L.within l11 (by simp)
      have B3 := B3.ne l11 (by omega)
      refine c_end ?_
      refine n_then ?_
      refine wp_seq ?_
      refine c_reg ?_
      refine s0 (x_move (v := .int _ _) rfl) ?_
      refine sb (x_neq rfl rfl) (fun h32 => ?_) (fun h32 => ?_)
      · refine c_end ?_
        refine n_then ?_
        refine c_true rfl ?_
        refine wp_seq ?_
        refine c_reg ?_
        refine s0 (x_assign (v := .int _ _) rfl) ?_
        refine c_end ?_
        refine n_then ?_
        refine wp_ret (r_then ?_)
        refine f_ret rfl rfl ?_
        have e := fn_bad (f := f) (chk := chk) (Classical.not_not.1 h12) h23 h32
        exact ⟨_, rfl, L, 0, _, rfl, e.2.symm, e.1.symm, hB⟩
      · refine c_end ?_
        refine n_then ?_
        refine c_false rfl ?_
        refine c_skipn ?_
        refine n_then ?_
        refine wp_seq ?_
        refine c_reg ?_
        refine s0 (x_move (v := .pointer _) rfl) ?_
        refine st (x_loadAgB ag35FL rfl B3 rfl) ?_
        refine s0 (x_nilCheck rfl) ?_
        refine s0 (x_fieldAddr fa145_0FL rfl) ?_
        refine s_storeIn (cs' := [_, _, _]) (vs := [.string _, .int _ _]) rfl sz35FL rfl rfl hB rfl (Nat.le_of_ble_eq_true rfl) rfl rfl ?_
        intro w12 l13 el13 hB
        have z_l13 := l13.size
        have L := L.within l13 (by simp)
        have B3 := B3.ne l13 (by omega)
        refine c_end ?_
        refine n_then ?_
        refine wp_seq ?_
        refine c_reg ?_
        refine s0 (x_move (v := .int _ _) rfl) ?_
        refine s0 (x_assign (v := .int _ _) rfl) ?_
        refine c_end ?_
        refine n_then ?_
        refine wp_ret ?_
        refine f_ret rfl rfl ?_
        have e := fn_ok (f := f) (chk := chk) (Classical.not_not.1 h12) h23 (Classical.not_not.1 h32)
        exact ⟨_, rfl, L, _, _, rfl, e.2.symm, e.1.symm, bx_eq (by rw [Classical.not_not.1 h32]) hB⟩
    · refine c_end ?_
      refine n_then ?_
      refine c_false rfl ?_
      refine c_skipn ?_
      refine n_then ?_
      refine wp_seq ?_
      refine wp_seq ?_
      refine c_reg ?_
      refine s0 (x_move (v := .pointer _) rfl) ?_
      refine s0 (x_move (v := .int _ _) rfl) ?_
      refine s0 (x_nilCheck rfl) ?_
      refine s0 (x_fieldAddr fa145_1FL rfl) ?_
      refine s_store (v := .int _ _) (cs' := [_, _, _]) rfl sz3FL rfl rfl rfl rfl hB rfl rfl ?_
      intro w14 l15 el15 hB
      have z_l15 := l15.size
      have L := L.within l15 (by simp)
      have B3 := B3.ne l15 (by omega)
      refine c_end ?_
      refine n_then ?_
      refine wp_seq ?_
      refine c_reg ?_
      refine s0 (x_move (v := .int _ _) rfl) ?_
      refine sb (x_neq rfl rfl) (fun h32 => ?_) (fun h32 => ?_)
      · refine c_end ?_
        refine n_then ?_
        refine c_true rfl ?_
        refine wp_seq ?_
        refine c_reg ?_
        refine s0 (x_assign (v := .int _ _) rfl) ?_
        refine c_end ?_
        refine n_then ?_
        refine wp_ret (r_then ?_)
        refine f_ret rfl rfl ?_
        have e := fn_short (f := f) (chk := chk) (Classical.not_not.1 h12) h23
        exact ⟨_, rfl, L, 0, _, rfl, e.2.symm, e.1.symm, hB⟩
      · exact (h32 h23).elim

end Go.Proofs.Ytnehdmcilmlchaa
