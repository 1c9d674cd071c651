/- What each function of this part returns, for every argument that meets its premises. -/
import Derived.Test.YtdnckakaoageoaaProg
import Derived.Test.YtdnckakaoageoaaVSxF
import Derived.Test.YtdnckakaoageoaaVPlV
import Derived.Test.YtdnckakaoageoaaVF1
import Derived.Test.YtdnckakaoageoaaVF5
import Derived.Test.YtdnckakaoageoaaVF8
import Derived.Test.YtdnckakaoageoaaVF9
import Derived.Test.YtdnckakaoageoaaVFC
import Derived.Test.YtdnckakaoageoaaVFN
namespace Go.Proofs.Ytdnckakaoageoaa
open Go.Sx Go.Pl Go.RowKit
theorem ag42FS : Ag Try.prog 42 2 := ⟨⟨_, Try.underlying42⟩, by kernel_rfl⟩
theorem bd42FS : Built Try.prog 42 [.string .empty, .int .i64 0] #[(0, 1), (1, 1)] := ⟨_, Try.underlying42, by unfold ZeroV; kernel_rfl, fun w => by kernel_rfl⟩
theorem cl100FS : Callable Try.prog 100 := callable Try.func100 (by kernel_rfl) rfl
theorem cl101FS : Callable Try.prog 101 := callable Try.func101 (by kernel_rfl) rfl
theorem cl102FS : Callable Try.prog 102 := callable Try.func102 (by kernel_rfl) rfl
theorem cl103FS : Callable Try.prog 103 := callable Try.func103 (by kernel_rfl) rfl
theorem cl104FS : Callable Try.prog 104 := callable Try.func104 (by kernel_rfl) rfl
theorem cl110FS : Callable Try.prog 110 := callable Try.func110 (by kernel_rfl) rfl
theorem cl111FS : Callable Try.prog 111 := callable Try.func111 (by kernel_rfl) rfl
theorem cl189FS : Callable Try.prog 189 := callable Try.func189 (by kernel_rfl) rfl
theorem cl190FS : Callable Try.prog 190 := callable Try.func190 (by kernel_rfl) rfl
theorem cl30FS : Callable Try.prog 30 := callable Try.func30 (by kernel_rfl) rfl
theorem cl91FS : Callable Try.prog 91 := callable Try.func91 (by kernel_rfl) rfl
theorem cl96FS : Callable Try.prog 96 := callable Try.func96 (by kernel_rfl) rfl
theorem cl99FS : Callable Try.prog 99 := callable Try.func99 (by kernel_rfl) rfl
theorem fa42_0FS : FieldAt Try.prog 42 0 0 := ⟨_, _, Try.underlying42, rfl, rfl, ⟨0, by unfold Sz; kernel_rfl⟩⟩
theorem fa42_1FS : FieldAt Try.prog 42 1 1 := ⟨_, _, Try.underlying42, rfl, rfl, ⟨0, by unfold Sz; kernel_rfl⟩⟩
theorem sc3FS : Sc Try.prog 3 := ⟨(.int .i64), by kernel_rfl, trivial⟩
theorem sc9FS : Sc Try.prog 9 := ⟨.string, by kernel_rfl, trivial⟩
theorem so22FS : SliceOf Try.prog 22 3 1 8 := ⟨by kernel_rfl, by kernel_rfl⟩
theorem sz3FS : Sz Try.prog 3 1 := by unfold Sz; kernel_rfl
theorem sz42FS : Sz Try.prog 42 2 := by unfold Sz; kernel_rfl
theorem sz9FS : Sz Try.prog 9 1 := by unfold Sz; kernel_rfl
theorem un22FS : Try.prog.underlying 22 = some (.slice 3) := by kernel_rfl
theorem zr3FS : ZeroV Try.prog 3 [.int .i64 0] := by unfold ZeroV; kernel_rfl
theorem zr42FS : ZeroV Try.prog 42 [.string .empty, .int .i64 0] := by unfold ZeroV; kernel_rfl
/-- impl.PutBits -/
theorem i_putBits (p : Option Addr) (xs : List Int) (c : Nat) (n m : Int) (w : World) (hp : Sl w p xs.length c 1 (ic xs)) (hl : xs.length ≤ 1099511627000) (hn : -9223372036854775808 ≤ n ∧ n ≤ 9223372036854775807) :
    Calls Try.prog 26 [.slice p xs.length c, .int .i64 n, .int .i64 m].toArray w (RetP w fun v w' => ∃ p c F, v = .tuple [.slice p (putB xs n m).length c, .bool (decide (putOk xs n m))].toArray ∧ Own w' p (putB xs n m).length c 3 1 (ic (putB xs n m)) F ∧ Fr w.heap.size F) := by
  have L : Exm [] w w := Exm.rfl'
  refine enter (n := 37) Try.func26 rfl rfl rfl ?_
  refine wp_seq ?_
  refine c_reg ?_
  refine s0 (x_assign (v := .slice _ _ _) rfl) ?_
  refine s0 (x_assign (v := .bool _) rfl) ?_
  refine c_end ?_
  refine n_then ?_
  refine wp_seq ?_
  refine c_reg ?_
  refine s0 (x_move (v := .slice _ _ _) rfl) ?_
  refine sp (zcall cl102FS rfl) (g_clone _ _ _ _ (hp.ext L) (by omega)) ?_
  rintro v10 w1 l2 ⟨p10, c10, F10, rfl, o10, f10⟩
  have z_l2 := l2.size
  have L := L.tr l2.up
  have g10 := o10.lt
  refine s0 (x_assign (v := .slice _ _ _) rfl) ?_
  refine c_end ?_
  refine n_then ?_
  refine wp_seq ?_
  refine wp_seq ?_
  refine c_reg ?_
  refine s0 (x_move (v := .int _ _) rfl) ?_
  refine srb (zcall cl103FS rfl) (i_within _ _ _ _) (fun h12 w3 l4 => ?_) (fun h12 w3 l4 => ?_)
  · have z_l4 := l4.size
    have L := L.tr l4.up
    have o10 := o10.ext l4
    refine s0 (x_not rfl) ?_
    refine s0 (x_move (v := .bool _) rfl) ?_
    refine gt rfl rfl rfl rfl ?_
    refine s0 (x_move (v := .int _ _) rfl) ?_
    refine gt rfl rfl rfl rfl ?_
    refine sb (x_lss rfl rfl) (fun h16 => ?_) (fun h16 => ?_)
    · refine s0 (x_pickf (v := .bool _) rfl rfl) ?_
      refine s0 (x_move (v := .bool _) rfl) ?_
      refine gf rfl rfl rfl rfl ?_
      refine gf rfl rfl rfl rfl ?_
      refine gf rfl rfl rfl rfl ?_
      refine gf rfl rfl rfl rfl ?_
      refine s0 (x_pickt (v := .bool _) rfl rfl) ?_
      refine s0 (x_move (v := .bool _) rfl) ?_
      refine gf rfl rfl rfl rfl ?_
      refine gf rfl rfl rfl rfl ?_
      refine gf rfl rfl rfl rfl ?_
      refine gf rfl rfl rfl rfl ?_
      refine gf rfl rfl rfl rfl ?_
      refine s0 (x_pickt (v := .bool _) rfl rfl) ?_
      refine c_end ?_
      refine n_then ?_
      refine c_true rfl ?_
      refine wp_seq ?_
      refine c_reg ?_
      refine s0 (x_move (v := .slice _ _ _) rfl) ?_
      refine s0 (x_assign (v := .slice _ _ _) rfl) ?_
      refine s0 (x_assign (v := .bool _) rfl) ?_
      refine c_end ?_
      refine n_then ?_
      refine wp_ret (r_then ?_)
      refine f_rets2 rfl (ro_tmp rfl) (ro_tmp rfl) ?_
      have hno : ¬ putOk xs n m := fun h => by have := h.2.1; omega
      rw [show putB xs n m = xs from if_neg hno, decide_eq_false hno]
      exact ⟨_, rfl, L, _, _, _, rfl, o10, f10.mono (by omega)⟩
    · refine s0 (x_pickf (v := .bool _) rfl rfl) ?_
      refine s0 (x_move (v := .bool _) rfl) ?_
      refine gt rfl rfl rfl rfl ?_
      refine s0 (x_move (v := .int _ _) rfl) ?_
      refine gt rfl rfl rfl rfl ?_
      refine s0 (x_move (v := .int _ _) rfl) ?_
      refine gt rfl rfl rfl rfl ?_
      refine s0 (x_shr rfl rfl (by simp only [IntKind.bits]; omega)) ?_
      refine gt rfl rfl rfl rfl ?_
      refine sb (x_neq rfl rfl) (fun h22 => ?_) (fun h22 => ?_)
      · refine s0 (x_pickf (v := .bool _) rfl rfl) ?_
        refine s0 (x_move (v := .bool _) rfl) ?_
        refine gf rfl rfl rfl rfl ?_
        refine gf rfl rfl rfl rfl ?_
        refine gf rfl rfl rfl rfl ?_
        refine gf rfl rfl rfl rfl ?_
        refine gf rfl rfl rfl rfl ?_
        refine s0 (x_pickt (v := .bool _) rfl rfl) ?_
        refine c_end ?_
        refine n_then ?_
        refine c_true rfl ?_
        refine wp_seq ?_
        refine c_reg ?_
        refine s0 (x_move (v := .slice _ _ _) rfl) ?_
        refine s0 (x_assign (v := .slice _ _ _) rfl) ?_
        refine s0 (x_assign (v := .bool _) rfl) ?_
        refine c_end ?_
        refine n_then ?_
        refine wp_ret (r_then ?_)
        refine f_rets2 rfl (ro_tmp rfl) (ro_tmp rfl) ?_
        have hno : ¬ putOk xs n m := fun h => h22 h.2.2.1
        rw [show putB xs n m = xs from if_neg hno, decide_eq_false hno]
        exact ⟨_, rfl, L, _, _, _, rfl, o10, f10.mono (by omega)⟩
      · refine s0 (x_pickf (v := .bool _) rfl rfl) ?_
        refine s0 (x_move (v := .bool _) rfl) ?_
        refine gt rfl rfl rfl rfl ?_
        refine s0 (x_move (v := .slice _ _ _) rfl) ?_
        refine gt rfl rfl rfl rfl ?_
        refine s0 (x_lensl un22FS rfl) ?_
        refine gt rfl rfl rfl rfl ?_
        refine s0 (x_move (v := .int _ _) rfl) ?_
        refine gt rfl rfl rfl rfl ?_
        refine s0 (x_add rfl rfl (by omega)) ?_
        refine gt rfl rfl rfl rfl ?_
        refine sb (x_gtr rfl rfl) (fun h29 => ?_) (fun h29 => ?_)
        · refine s0 (x_pickf (v := .bool _) rfl rfl) ?_
          refine c_end ?_
          refine n_then ?_
          refine c_true rfl ?_
          refine wp_seq ?_
          refine c_reg ?_
          refine s0 (x_move (v := .slice _ _ _) rfl) ?_
          refine s0 (x_assign (v := .slice _ _ _) rfl) ?_
          refine s0 (x_assign (v := .bool _) rfl) ?_
          refine c_end ?_
          refine n_then ?_
          refine wp_ret (r_then ?_)
          refine f_rets2 rfl (ro_tmp rfl) (ro_tmp rfl) ?_
          have hno : ¬ putOk xs n m := fun h => by have := h.2.2.2; omega
          rw [show putB xs n m = xs from if_neg hno, decide_eq_false hno]
          exact ⟨_, rfl, L, _, _, _, rfl, o10, f10.mono (by omega)⟩
        · refine s0 (x_pickf (v := .bool _) rfl rfl) ?_
          refine c_end ?_
          refine n_then ?_
          refine c_false rfl ?_
          refine c_skipn ?_
          refine n_then ?_
          refine wp_seq ?_
          refine c_reg ?_
          refine s0 (x_move (v := .slice _ _ _) rfl) ?_
          refine s0 (x_move (v := .int _ _) rfl) ?_
          refine s0 (x_move (v := .int _ _) rfl) ?_
          refine sp (zcall cl96FS rfl) (i_bitsIn _ _ _ (by omega) (by omega)) ?_
          rintro v35 w5 l6 ⟨p35, c35, F35, rfl, o35, f35⟩
          have z_l6 := l6.size
          have L := L.tr l6.up
          have o10 := o10.ext l6
          have g35 := o35.lt
          refine s_appi (B := w.heap.size) so22FS zr3FS rfl rfl (xs := _) o10 o35.sl f10 (by have hbl := (bitsIn_len n m).1; omega) (by have hbl := (bitsIn_len n m).1; omega) (by have hbl := (bitsIn_len n m).1; omega) ?_
          intro p36 c36 F36 w7 l8 o36 hn36 k36 f36 g36
          have z_l8 := l8.size
          have L := L.freshL l8 f10 (by omega)
          have d35_36 : Dj F35 F36 := k36.dj (by first | assumption | exact Dj.symm (by assumption) | exact dj_of f35 g35 f10 g10 (by omega)) g35 (by omega)
          have o35 := o35.exm l8 (by first | assumption | exact Dj.symm (by assumption) | exact dj_of f10 g10 f35 g35 (by omega))
          refine s0 (x_assign (v := .slice _ _ _) rfl) ?_
          refine s0 (x_assign (v := .bool _) rfl) ?_
          refine c_end ?_
          refine n_then ?_
          refine wp_ret ?_
          refine f_rets2 rfl (ro_tmp rfl) (ro_tmp rfl) ?_
          have hok : putOk xs n m := ⟨h12, by omega, Classical.not_not.1 h22, by omega⟩
          rw [show putB xs n m = xs ++ bitsIn n m from if_pos hok, decide_eq_true hok]
          exact ⟨_, rfl, L, _, _, _, rfl, o36, f36.mono (by omega)⟩
  · have z_l4 := l4.size
    have L := L.tr l4.up
    have o10 := o10.ext l4
    refine s0 (x_not rfl) ?_
    refine s0 (x_move (v := .bool _) rfl) ?_
    refine gf rfl rfl rfl rfl ?_
    refine gf rfl rfl rfl rfl ?_
    refine s0 (x_pickt (v := .bool _) rfl rfl) ?_
    refine s0 (x_move (v := .bool _) rfl) ?_
    refine gf rfl rfl rfl rfl ?_
    refine gf rfl rfl rfl rfl ?_
    refine gf rfl rfl rfl rfl ?_
    refine gf rfl rfl rfl rfl ?_
    refine s0 (x_pickt (v := .bool _) rfl rfl) ?_
    refine s0 (x_move (v := .bool _) rfl) ?_
    refine gf rfl rfl rfl rfl ?_
    refine gf rfl rfl rfl rfl ?_
    refine gf rfl rfl rfl rfl ?_
    refine gf rfl rfl rfl rfl ?_
    refine gf rfl rfl rfl rfl ?_
    refine s0 (x_pickt (v := .bool _) rfl rfl) ?_
    refine c_end ?_
    refine n_then ?_
    refine c_true rfl ?_
    refine wp_seq ?_
    refine c_reg ?_
    refine s0 (x_move (v := .slice _ _ _) rfl) ?_
    refine s0 (x_assign (v := .slice _ _ _) rfl) ?_
    refine s0 (x_assign (v := .bool _) rfl) ?_
    refine c_end ?_
    refine n_then ?_
    refine wp_ret (r_then ?_)
    refine f_rets2 rfl (ro_tmp rfl) (ro_tmp rfl) ?_
    have hno : ¬ putOk xs n m := fun h => h12 h.1
    rw [show putB xs n m = xs from if_neg hno, decide_eq_false hno]
    exact ⟨_, rfl, L, _, _, _, rfl, o10, f10.mono (by omega)⟩

/-- spec.PutBits -/
theorem s_putBits (p : Option Addr) (xs : List Int) (c : Nat) (n m : Int) (w : World) (hp : Sl w p xs.length c 1 (ic xs)) (hl : xs.length ≤ 1099511627000) (hn : -9223372036854775808 ≤ n ∧ n ≤ 9223372036854775807) :
    Calls Try.prog 27 [.slice p xs.length c, .int .i64 n, .int .i64 m].toArray w (RetP w fun v w' => ∃ p c F, v = .tuple [.slice p (putB xs n m).length c, .bool (decide (putOk xs n m))].toArray ∧ Own w' p (putB xs n m).length c 3 1 (ic (putB xs n m)) F ∧ Fr w.heap.size F) := by
  have L : Exm [] w w := Exm.rfl'
  refine enter (n := 38) Try.func27 rfl rfl rfl ?_
  refine wp_seq ?_
  refine c_reg ?_
  refine s0 (x_assign (v := .slice _ _ _) rfl) ?_
  refine s0 (x_assign (v := .bool _) rfl) ?_
  refine c_end ?_
  refine n_then ?_
  refine wp_seq ?_
  refine c_reg ?_
  refine s_bs0 so22FS ?_
  intro p9 F9 w1 l2 o9 f9 g9
  have o9 : Own w1 p9 0 0 3 1 (ic []) F9 := o9
  have z_l2 := l2.size
  have L := L.tr l2.up
  refine s0 (x_move (v := .slice _ _ _) rfl) ?_
  refine s_appi (B := w.heap.size) so22FS zr3FS rfl rfl (xs := _) o9 (hp.ext L) f9 (by omega) (by omega) (by omega) ?_
  intro p11 c11 F11 w3 l4 o11 hn11 k11 f11 g11
  have z_l4 := l4.size
  have L := L.freshL l4 f9 (by omega)
  refine s0 (x_assign (v := .slice _ _ _) rfl) ?_
  refine c_end ?_
  refine n_then ?_
  refine wp_seq ?_
  refine wp_seq ?_
  refine c_reg ?_
  refine s0 (x_move (v := .int _ _) rfl) ?_
  refine srb (zcall cl104FS rfl) (s_l1In _ _ _ _) (fun h13 w5 l6 => ?_) (fun h13 w5 l6 => ?_)
  · have z_l6 := l6.size
    have L := L.tr l6.up
    have o11 := o11.ext l6
    refine s0 (x_not rfl) ?_
    refine s0 (x_move (v := .bool _) rfl) ?_
    refine gt rfl rfl rfl rfl ?_
    refine s0 (x_move (v := .int _ _) rfl) ?_
    refine gt rfl rfl rfl rfl ?_
    refine sb (x_lss rfl rfl) (fun h17 => ?_) (fun h17 => ?_)
    · refine s0 (x_pickf (v := .bool _) rfl rfl) ?_
      refine s0 (x_move (v := .bool _) rfl) ?_
      refine gf rfl rfl rfl rfl ?_
      refine gf rfl rfl rfl rfl ?_
      refine gf rfl rfl rfl rfl ?_
      refine gf rfl rfl rfl rfl ?_
      refine s0 (x_pickt (v := .bool _) rfl rfl) ?_
      refine s0 (x_move (v := .bool _) rfl) ?_
      refine gf rfl rfl rfl rfl ?_
      refine gf rfl rfl rfl rfl ?_
      refine gf rfl rfl rfl rfl ?_
      refine gf rfl rfl rfl rfl ?_
      refine gf rfl rfl rfl rfl ?_
      refine s0 (x_pickt (v := .bool _) rfl rfl) ?_
      refine c_end ?_
      refine n_then ?_
      refine c_true rfl ?_
      refine wp_seq ?_
      refine c_reg ?_
      refine s0 (x_move (v := .slice _ _ _) rfl) ?_
      refine s0 (x_assign (v := .slice _ _ _) rfl) ?_
      refine s0 (x_assign (v := .bool _) rfl) ?_
      refine c_end ?_
      refine n_then ?_
      refine wp_ret (r_then ?_)
      refine f_rets2 rfl (ro_tmp rfl) (ro_tmp rfl) ?_
      have hno : ¬ putOk xs n m := fun h => by have := h.2.1; omega
      rw [show putB xs n m = xs from if_neg hno, decide_eq_false hno]
      exact ⟨_, rfl, L, _, _, _, rfl, o11, f11.mono (by omega)⟩
    · refine s0 (x_pickf (v := .bool _) rfl rfl) ?_
      refine s0 (x_move (v := .bool _) rfl) ?_
      refine gt rfl rfl rfl rfl ?_
      refine s0 (x_move (v := .int _ _) rfl) ?_
      refine gt rfl rfl rfl rfl ?_
      refine s0 (x_move (v := .int _ _) rfl) ?_
      refine gt rfl rfl rfl rfl ?_
      refine s0 (x_shr rfl rfl (by simp only [IntKind.bits]; omega)) ?_
      refine gt rfl rfl rfl rfl ?_
      refine sb (x_neq rfl rfl) (fun h23 => ?_) (fun h23 => ?_)
      · refine s0 (x_pickf (v := .bool _) rfl rfl) ?_
        refine s0 (x_move (v := .bool _) rfl) ?_
        refine gf rfl rfl rfl rfl ?_
        refine gf rfl rfl rfl rfl ?_
        refine gf rfl rfl rfl rfl ?_
        refine gf rfl rfl rfl rfl ?_
        refine gf rfl rfl rfl rfl ?_
        refine s0 (x_pickt (v := .bool _) rfl rfl) ?_
        refine c_end ?_
        refine n_then ?_
        refine c_true rfl ?_
        refine wp_seq ?_
        refine c_reg ?_
        refine s0 (x_move (v := .slice _ _ _) rfl) ?_
        refine s0 (x_assign (v := .slice _ _ _) rfl) ?_
        refine s0 (x_assign (v := .bool _) rfl) ?_
        refine c_end ?_
        refine n_then ?_
        refine wp_ret (r_then ?_)
        refine f_rets2 rfl (ro_tmp rfl) (ro_tmp rfl) ?_
        have hno : ¬ putOk xs n m := fun h => h23 h.2.2.1
        rw [show putB xs n m = xs from if_neg hno, decide_eq_false hno]
        exact ⟨_, rfl, L, _, _, _, rfl, o11, f11.mono (by omega)⟩
      · refine s0 (x_pickf (v := .bool _) rfl rfl) ?_
        refine s0 (x_move (v := .bool _) rfl) ?_
        refine gt rfl rfl rfl rfl ?_
        refine s0 (x_move (v := .slice _ _ _) rfl) ?_
        refine gt rfl rfl rfl rfl ?_
        refine s0 (x_lensl un22FS rfl) ?_
        refine gt rfl rfl rfl rfl ?_
        refine s0 (x_move (v := .int _ _) rfl) ?_
        refine gt rfl rfl rfl rfl ?_
        refine s0 (x_add rfl rfl (by omega)) ?_
        refine gt rfl rfl rfl rfl ?_
        refine sb (x_gtr rfl rfl) (fun h30 => ?_) (fun h30 => ?_)
        · refine s0 (x_pickf (v := .bool _) rfl rfl) ?_
          refine c_end ?_
          refine n_then ?_
          refine c_true rfl ?_
          refine wp_seq ?_
          refine c_reg ?_
          refine s0 (x_move (v := .slice _ _ _) rfl) ?_
          refine s0 (x_assign (v := .slice _ _ _) rfl) ?_
          refine s0 (x_assign (v := .bool _) rfl) ?_
          refine c_end ?_
          refine n_then ?_
          refine wp_ret (r_then ?_)
          refine f_rets2 rfl (ro_tmp rfl) (ro_tmp rfl) ?_
          have hno : ¬ putOk xs n m := fun h => by have := h.2.2.2; omega
          rw [show putB xs n m = xs from if_neg hno, decide_eq_false hno]
          exact ⟨_, rfl, L, _, _, _, rfl, o11, f11.mono (by omega)⟩
        · refine s0 (x_pickf (v := .bool _) rfl rfl) ?_
          refine c_end ?_
          refine n_then ?_
          refine c_false rfl ?_
          refine c_skipn ?_
          refine n_then ?_
          refine wp_seq ?_
          refine c_reg ?_
          refine s0 (x_move (v := .slice _ _ _) rfl) ?_
          refine s0 (x_move (v := .int _ _) rfl) ?_
          refine s0 (x_move (v := .int _ _) rfl) ?_
          refine sp (zcall cl91FS rfl) (s_bitsIn _ _ _ (by omega) (by omega)) ?_
          rintro v36 w7 l8 ⟨p36, c36, F36, rfl, o36, f36⟩
          have z_l8 := l8.size
          have L := L.tr l8.up
          have o11 := o11.ext l8
          have g36 := o36.lt
          refine s_appi (B := w.heap.size) so22FS zr3FS rfl rfl (xs := _) o11 o36.sl f11 (by have hbl := (bitsIn_len n m).1; omega) (by have hbl := (bitsIn_len n m).1; omega) (by have hbl := (bitsIn_len n m).1; omega) ?_
          intro p37 c37 F37 w9 l10 o37 hn37 k37 f37 g37
          have z_l10 := l10.size
          have L := L.freshL l10 f11 (by omega)
          have d36_37 : Dj F36 F37 := k37.dj (by first | assumption | exact Dj.symm (by assumption) | exact dj_of f36 g36 f11 g11 (by omega)) g36 (by omega)
          have o36 := o36.exm l10 (by first | assumption | exact Dj.symm (by assumption) | exact dj_of f11 g11 f36 g36 (by omega))
          refine s0 (x_assign (v := .slice _ _ _) rfl) ?_
          refine s0 (x_assign (v := .bool _) rfl) ?_
          refine c_end ?_
          refine n_then ?_
          refine wp_ret ?_
          refine f_rets2 rfl (ro_tmp rfl) (ro_tmp rfl) ?_
          have hok : putOk xs n m := ⟨h13, by omega, Classical.not_not.1 h23, by omega⟩
          rw [show putB xs n m = xs ++ bitsIn n m from if_pos hok, decide_eq_true hok]
          exact ⟨_, rfl, L, _, _, _, rfl, o37, f37.mono (by omega)⟩
  · have z_l6 := l6.size
    have L := L.tr l6.up
    have o11 := o11.ext l6
    refine s0 (x_not rfl) ?_
    refine s0 (x_move (v := .bool _) rfl) ?_
    refine gf rfl rfl rfl rfl ?_
    refine gf rfl rfl rfl rfl ?_
    refine s0 (x_pickt (v := .bool _) rfl rfl) ?_
    refine s0 (x_move (v := .bool _) rfl) ?_
    refine gf rfl rfl rfl rfl ?_
    refine gf rfl rfl rfl rfl ?_
    refine gf rfl rfl rfl rfl ?_
    refine gf rfl rfl rfl rfl ?_
    refine s0 (x_pickt (v := .bool _) rfl rfl) ?_
    refine s0 (x_move (v := .bool _) rfl) ?_
    refine gf rfl rfl rfl rfl ?_
    refine gf rfl rfl rfl rfl ?_
    refine gf rfl rfl rfl rfl ?_
    refine gf rfl rfl rfl rfl ?_
    refine gf rfl rfl rfl rfl ?_
    refine s0 (x_pickt (v := .bool _) rfl rfl) ?_
    refine c_end ?_
    refine n_then ?_
    refine c_true rfl ?_
    refine wp_seq ?_
    refine c_reg ?_
    refine s0 (x_move (v := .slice _ _ _) rfl) ?_
    refine s0 (x_assign (v := .slice _ _ _) rfl) ?_
    refine s0 (x_assign (v := .bool _) rfl) ?_
    refine c_end ?_
    refine n_then ?_
    refine wp_ret (r_then ?_)
    refine f_rets2 rfl (ro_tmp rfl) (ro_tmp rfl) ?_
    have hno : ¬ putOk xs n m := fun h => h13 h.1
    rw [show putB xs n m = xs from if_neg hno, decide_eq_false hno]
    exact ⟨_, rfl, L, _, _, _, rfl, o11, f11.mono (by omega)⟩

/-- spec.l2Bits -/
theorem s_l2Bits (b B : Nat) (m : Int) (w : World) (hcu : Cu w b B 185) (hm : 0 ≤ m ∧ m ≤ 1000) :
    Calls Try.prog 100 [pt b 0, .int .i64 m].toArray w (RetM [b] w fun v w' => (∃ p n xs c F, v = .slice p n c ∧ Own w' p n c 3 1 (ic xs) F ∧ Fr w.heap.size F ∧ n = xs.length ∧ (n : Int) ≤ m) ∧ Cu w' b B 185) := by
  have hcb := hcu.lt
  have L : Exm [b] w w := Exm.rfl'
  refine enter (n := 38) Try.func100 rfl rfl rfl ?_
  refine wp_seq ?_
  refine c_reg ?_
  refine s0 (x_assign (v := .slice _ _ _) rfl) ?_
  refine c_end ?_
  refine n_then ?_
  refine wp_seq ?_
  refine c_reg ?_
  refine s_bs0 so22FS ?_
  intro p7 F7 w1 l2 o7 f7 g7
  have o7 : Own w1 p7 0 0 3 1 (ic []) F7 := o7
  have z_l2 := l2.size
  have L := L.tr l2.up
  have hcu := hcu.ext l2
  refine s0 (x_assign (v := .slice _ _ _) rfl) ?_
  refine c_end ?_
  refine n_then ?_
  refine wp_seq ?_
  refine wp_seq ?_
  refine c_reg ?_
  refine s0 (x_move (v := .pointer _) rfl) ?_
  refine s0 (x_move (v := .int _ _) rfl) ?_
  refine s0 (x_add rfl rfl (by omega)) ?_
  refine spm (zcall cl189FS rfl) (s_below b _ _ _ hcu) ?_
  rintro v11 w3 l4 ⟨⟨x11, rfl, hx11⟩, hcu⟩
  have z_l4 := l4.size
  have L := L.within l4 (by simp)
  have o7 := o7.ne l4 (by first | assumption | exact nin_of f7 g7 (by omega))
  refine s0 (x_assign (v := .int _ _) rfl) ?_
  refine c_end ?_
  refine n_then ?_
  refine wp_block ?_
  refine c_loop (γ := List Int × Int) (fun g => g.2.toNat) (fun (g : List Int × Int) E wl => ∃ E0 pz5 cz5 Fz5, E = upd (upd (upd E0 0 (pt b 0)) 5 (.slice pz5 ((g.1).length) cz5)) 6 (.int .i64 g.2) ∧ (Exm [b] w wl) ∧ (w3.heap.size ≤ wl.heap.size) ∧ (Cu wl b B 185) ∧ (Own wl pz5 ((g.1).length) cz5 3 1 (ic (g.1)) Fz5) ∧ (Fr (w.heap.size) Fz5) ∧ (Lt Fz5 wl.heap.size) ∧ (b ∉ Fz5) ∧ (0 ≤ g.2 ∧ (g.1.length : Int) + g.2 ≤ m)) ([], x11) ⟨_, _, _, _, upd_self3 rfl (slice_len rfl) rfl, L, (by omega), hcu, o7, (f7.mono (by omega)), (g7.mono (by omega)), (by first | assumption | exact nin_of f7 g7 (by omega)), (by show 0 ≤ x11 ∧ (0 : Int) + x11 ≤ m; omega)⟩ ?_
  rintro g E wl5 ⟨E0, pz5, cz5, Fz5, rfl, L, Lz, hcu, oz5, fz5, gz5, ab_z5, hg⟩
  have Lz0 := L.size
  refine wp_seq ?_
  refine wp_seq ?_
  refine c_reg ?_
  refine s0 (x_move (v := .int _ _) rfl) ?_
  refine sb (x_gtr rfl rfl) (fun h13 => ?_) (fun h13 => ?_)
  · refine c_end ?_
    refine n_then ?_
    refine c_true rfl ?_
    refine c_skipn ?_
    refine n_then ?_
    refine wp_seq ?_
    refine wp_block ?_
    refine c_reg ?_
    refine s0 (x_move (v := .slice _ _ _) rfl) ?_
    refine s0 (x_move (v := .pointer _) rfl) ?_
    refine spm (zcall cl189FS rfl) (s_below b _ _ _ hcu) ?_
    rintro v18 w6 l7 ⟨⟨x18, rfl, hx18⟩, hcu⟩
    have z_l7 := l7.size
    have L := L.within l7 (by simp)
    have oz5 := oz5.ne l7 (by first | assumption | exact nin_of fz5 gz5 (by omega))
    refine s_bsi (xs := [_]) so22FS zr3FS (pts_cons rfl pts_nil) rfl rfl rfl ?_
    intro p19 F19 w8 l9 o19 f19 g19
    have z_l9 := l9.size
    have L := L.tr l9.up
    have hcu := hcu.ext l9
    have oz5 := oz5.ext l9
    have hn19 := o19.n1
    refine s_appi (B := w.heap.size) so22FS zr3FS rfl rfl (xs := _) oz5 o19.sl fz5 (by omega) (by omega) (by omega) ?_
    intro p20 c20 F20 w10 l11 o20 hn20 k20 f20 g20
    have Bb_20 := hcu.exm l11 (by first | assumption | exact nin_of fz5 gz5 (by omega)) (fz5.mono (by omega))
    have ab_20 : b ∉ F20 := k20.nin (by first | assumption | exact nin_of fz5 gz5 (by omega)) (by omega)
    have hcu := Bb_20
    have z_l11 := l11.size
    have L := L.freshL l11 fz5 (by omega)
    have d19_20 : Dj F19 F20 := k20.dj (by first | assumption | exact Dj.symm (by assumption) | exact dj_of f19 g19 fz5 gz5 (by omega)) g19 (by omega)
    have o19 := o19.exm l11 (by first | assumption | exact Dj.symm (by assumption) | exact dj_of fz5 gz5 f19 g19 (by omega))
    refine s0 (x_assign (v := .slice _ _ _) rfl) ?_
    refine c_end ?_
    refine n_block ?_
    refine n_then ?_
    refine c_reg ?_
    refine s0 (x_move (v := .int _ _) rfl) ?_
    refine s0 (x_sub rfl rfl (by omega)) ?_
    refine s0 (x_assign (v := .int _ _) rfl) ?_
    refine c_end ?_
    exact c_round (g' := (g.1 ++ [x18], g.2 - 1)) (by show (g.2 - 1).toNat < g.2.toNat; omega) ⟨_, _, _, _, upd_self3 rfl (slice_len (by simp only [List.length_append, List.length_cons, List.length_nil])) rfl, L, (by omega), hcu, o20, (f20.mono (by omega)), (g20.mono (by omega)), (by first | assumption | exact nin_of f20 g20 (by omega)), (by show 0 ≤ g.2 - 1 ∧ ((g.1 ++ [x18]).length : Int) + (g.2 - 1) ≤ m; rw [List.length_append]; simp only [List.length_cons, List.length_nil]; omega)⟩
  · refine c_end ?_
    refine n_then ?_
    refine c_false rfl ?_
    refine wp_exit (e_then (e_then (e_here ?_)))
    refine n_then ?_
    refine wp_seq ?_
    refine wp_seq ?_
    refine c_reg ?_
    refine s0 (x_move (v := .slice _ _ _) rfl) ?_
    refine s0 (x_lensl un22FS rfl) ?_
    refine sb (x_gtr rfl rfl) (fun h23 => ?_) (fun h23 => ?_)
    · refine s0 (x_move (v := .bool _) rfl) ?_
      refine gt rfl rfl rfl rfl ?_
      refine s0 (x_move (v := .pointer _) rfl) ?_
      refine gt rfl rfl rfl rfl ?_
      refine spm (zcall cl110FS rfl) (s_once b _ _ _ hcu) ?_
      rintro v26 w12 l13 ⟨⟨x26, rfl⟩, hcu⟩
      have z_l13 := l13.size
      have L := L.within l13 (by simp)
      have oz5 := oz5.ne l13 (by first | assumption | exact nin_of fz5 gz5 (by omega))
      by_cases h26 : x26 = true
      · subst h26
        refine s0 (x_pickt (v := .bool _) rfl rfl) ?_
        refine c_end ?_
        refine n_then ?_
        refine c_true rfl ?_
        refine c_reg ?_
        refine s0 (x_move (v := .slice _ _ _) rfl) ?_
        refine s0 (x_move (v := .pointer _) rfl) ?_
        refine s0 (x_move (v := .slice _ _ _) rfl) ?_
        refine s0 (x_lensl un22FS rfl) ?_
        refine spm (zcall cl189FS rfl) (s_below b _ _ _ hcu) ?_
        rintro v32 w14 l15 ⟨⟨x32, rfl, hx32⟩, hcu⟩
        have z_l15 := l15.size
        have L := L.within l15 (by simp)
        have oz5 := oz5.ne l15 (by first | assumption | exact nin_of fz5 gz5 (by omega))
        refine s0 (x_move (v := .pointer _) rfl) ?_
        refine s_bsi (xs := [_, _]) so22FS zr3FS (pts_cons rfl (pts_cons rfl pts_nil)) rfl rfl rfl ?_
        intro p34 F34 w16 l17 o34 f34 g34
        have z_l17 := l17.size
        have L := L.tr l17.up
        have hcu := hcu.ext l17
        have oz5 := oz5.ext l17
        have hn34 := o34.n1
        refine spm (zcall cl190FS rfl) (s_pick b _ _ _ _ _ _ hcu _ o34 (by first | assumption | exact nin_of f34 g34 (by omega)) (by omega)) ?_
        rintro v35 w18 l19 ⟨⟨x35, rfl, hx35⟩, hcu⟩
        have z_l19 := l19.size
        have L := L.within l19 (by simp)
        have oz5 := oz5.ne l19 (by first | assumption | exact nin_of fz5 gz5 (by omega))
        have o34 := o34.ne l19 (by first | assumption | exact nin_of f34 g34 (by omega))
        refine s0 (x_idx so22FS rfl rfl oz5.sl (by decide) (by omega) (by omega)) ?_
        refine s_stoi rfl sz3FS rfl rfl oz5 (by omega) (by omega) ?_
        intro w20 l21 el21 oz5
        have z_l21 := l21.size
        have L := L.freshL l21 fz5 (by omega)
        have hcu := hcu.exm l21 (by first | assumption | exact nin_of fz5 gz5 (by omega)) (fz5.mono (by omega))
        have o34 := o34.exm l21 (by first | assumption | exact Dj.symm (by assumption) | exact dj_of fz5 gz5 f34 g34 (by omega))
        have hnl21 := oz5.n1
        refine c_end ?_
        refine n_then ?_
        refine wp_seq ?_
        refine c_reg ?_
        refine s0 (x_move (v := .slice _ _ _) rfl) ?_
        refine s0 (x_assign (v := .slice _ _ _) rfl) ?_
        refine c_end ?_
        refine n_then ?_
        refine wp_ret ?_
        refine f_ret rfl rfl ?_
        exact ⟨_, rfl, L, ⟨_, _, _, _, _, rfl, oz5, fz5.mono (by omega), oz5.n1, by omega⟩, hcu⟩
      · obtain rfl := Bool.eq_false_iff.2 h26
        refine s0 (x_pickt (v := .bool _) rfl rfl) ?_
        refine c_end ?_
        refine n_then ?_
        refine c_false rfl ?_
        refine c_skipn ?_
        refine n_then ?_
        refine wp_seq ?_
        refine c_reg ?_
        refine s0 (x_move (v := .slice _ _ _) rfl) ?_
        refine s0 (x_assign (v := .slice _ _ _) rfl) ?_
        refine c_end ?_
        refine n_then ?_
        refine wp_ret ?_
        refine f_ret rfl rfl ?_
        exact ⟨_, rfl, L, ⟨_, _, _, _, _, rfl, oz5, fz5.mono (by omega), oz5.n1, by omega⟩, hcu⟩
    · refine s0 (x_move (v := .bool _) rfl) ?_
      refine gf rfl rfl rfl rfl ?_
      refine gf rfl rfl rfl rfl ?_
      refine s0 (x_pickf (v := .bool _) rfl rfl) ?_
      refine c_end ?_
      refine n_then ?_
      refine c_false rfl ?_
      refine c_skipn ?_
      refine n_then ?_
      refine wp_seq ?_
      refine c_reg ?_
      refine s0 (x_move (v := .slice _ _ _) rfl) ?_
      refine s0 (x_assign (v := .slice _ _ _) rfl) ?_
      refine c_end ?_
      refine n_then ?_
      refine wp_ret ?_
      refine f_ret rfl rfl ?_
      exact ⟨_, rfl, L, ⟨_, _, _, _, _, rfl, oz5, fz5.mono (by omega), oz5.n1, by omega⟩, hcu⟩

/-- spec.DrawBitsIn -/
theorem s_drawBitsIn (p : Option Addr) (xs : List Int) (c : Nat) (B : Nat) (w : World) (hp : Sl w p xs.length c 1 (bc xs)) (hr : ∀ x ∈ xs, 0 ≤ x ∧ x ≤ 255) (hpB : Bl p xs.length B) (hB : B ≤ w.heap.size) (hl : xs.length ≤ 1048576) :
    Calls Try.prog 101 [.slice p xs.length c].toArray w (RetP w fun v w' => ∃ n m : Int, v = .tuple [.int .i64 n, .int .i64 m].toArray ∧ -1 ≤ n ∧ n ≤ 281474976710655) := by
  have L : Exm [] w w := Exm.rfl'
  refine enter (n := 28) Try.func101 rfl rfl rfl ?_
  refine wp_seq ?_
  refine c_reg ?_
  refine s0 (x_assign (v := .int _ _) rfl) ?_
  refine s0 (x_assign (v := .int _ _) rfl) ?_
  refine c_end ?_
  refine n_then ?_
  refine wp_seq ?_
  refine c_reg ?_
  refine s0 (x_move (v := .slice _ _ _) rfl) ?_
  refine sp (zcall cl99FS rfl) (s_new _ _ _ B _ (hp.ext L) hr hpB (by omega) hl) ?_
  rintro v8 w1 l2 ⟨b8, rfl, ⟨lob8, hib8⟩, K8⟩
  have z_l2 := l2.size
  have L := L.tr l2.up
  refine s0 (x_assign (v := .pointer _) rfl) ?_
  refine c_end ?_
  refine n_then ?_
  refine wp_seq ?_
  refine c_reg ?_
  refine s0 (x_move (v := .pointer _) rfl) ?_
  refine spm (zcall cl189FS rfl) (s_below b8 _ _ _ K8) ?_
  rintro v10 w3 l4 ⟨⟨x10, rfl, hx10⟩, K8⟩
  have z_l4 := l4.size
  have L := L.fresh l4 (by omega)
  refine s0 (x_assign (v := .int _ _) rfl) ?_
  refine c_end ?_
  refine n_then ?_
  refine wp_seq ?_
  have h2p := two_pow_le (n := x10.toNat) (m := 15) (by omega)
  have h2q := two_pow_pos x10.toNat
  rw [show (2 : Int) ^ 15 = 32768 from rfl] at h2p
  refine c_reg ?_
  refine s0 (x_move (v := .pointer _) rfl) ?_
  refine s0 (x_move (v := .int _ _) rfl) ?_
  refine s0 (x_shl rfl rfl (by omega) (by omega)) ?_
  refine spm (zcall cl189FS rfl) (s_below b8 _ _ _ K8) ?_
  rintro v14 w5 l6 ⟨⟨x14, rfl, hx14⟩, K8⟩
  have z_l6 := l6.size
  have L := L.fresh l6 (by omega)
  refine s0 (x_assign (v := .int _ _) rfl) ?_
  refine c_end ?_
  refine n_then ?_
  refine wp_seq ?_
  refine wp_seq ?_
  refine c_reg ?_
  refine s0 (x_move (v := .pointer _) rfl) ?_
  refine spm (zcall cl110FS rfl) (s_once b8 _ _ _ K8) ?_
  rintro v16 w7 l8 ⟨⟨x16, rfl⟩, K8⟩
  have z_l8 := l8.size
  have L := L.fresh l8 (by omega)
  by_cases h16 : x16 = true
  · subst h16
    refine c_end ?_
    refine n_then ?_
    refine c_true rfl ?_
    refine wp_seq ?_
    refine c_reg ?_
    refine s0 (x_move (v := .pointer _) rfl) ?_
    refine s0 (x_move (v := .int _ _) rfl) ?_
    refine s0 (x_shl rfl rfl (by omega) (by omega)) ?_
    refine s_bsi (xs := [_, _, _, _]) so22FS zr3FS (pts_cons rfl (pts_cons rfl (pts_cons rfl (pts_cons rfl pts_nil)))) rfl rfl rfl ?_
    intro p20 F20 w9 l10 o20 f20 g20
    have z_l10 := l10.size
    have L := L.tr l10.up
    have K8 := K8.ext l10
    have hn20 := o20.n1
    refine spm (zcall cl190FS rfl) (s_pick b8 _ _ _ _ _ _ K8 _ o20 (by first | assumption | exact nin_of f20 g20 (by omega)) (by omega)) ?_
    rintro v21 w11 l12 ⟨⟨x21, rfl, hx21⟩, K8⟩
    have z_l12 := l12.size
    have L := L.fresh l12 (by omega)
    have o20 := o20.ne l12 (by first | assumption | exact nin_of f20 g20 (by omega))
    refine s0 (x_move (v := .pointer _) rfl) ?_
    refine s0 (x_move (v := .int _ _) rfl) ?_
    refine s_bsi (xs := [_, _, _, _]) so22FS zr3FS (pts_cons rfl (pts_cons rfl (pts_cons rfl (pts_cons rfl pts_nil)))) rfl rfl rfl ?_
    intro p24 F24 w13 l14 o24 f24 g24
    have z_l14 := l14.size
    have L := L.tr l14.up
    have K8 := K8.ext l14
    have o20 := o20.ext l14
    have hn24 := o24.n1
    refine spm (zcall cl190FS rfl) (s_pick b8 _ _ _ _ _ _ K8 _ o24 (by first | assumption | exact nin_of f24 g24 (by omega)) (by omega)) ?_
    rintro v25 w15 l16 ⟨⟨x25, rfl, hx25⟩, K8⟩
    have z_l16 := l16.size
    have L := L.fresh l16 (by omega)
    have o20 := o20.ne l16 (by first | assumption | exact nin_of f20 g20 (by omega))
    have o24 := o24.ne l16 (by first | assumption | exact nin_of f24 g24 (by omega))
    refine s0 (x_assign (v := .int _ _) rfl) ?_
    refine s0 (x_assign (v := .int _ _) rfl) ?_
    refine c_end ?_
    refine n_then ?_
    refine wp_ret (r_then ?_)
    refine f_rets2 rfl (ro_tmp rfl) (ro_tmp rfl) ?_
    have hr21 : -1 ≤ x21 ∧ x21 ≤ 281474976710655 := by obtain ⟨j, hj, he⟩ := hx21; simp only [List.length_cons, List.length_nil] at hj; obtain rfl | rfl | rfl | rfl : j = 0 ∨ j = 1 ∨ j = 2 ∨ j = 3 := (by omega) <;> (simp only [List.getD_cons_zero, List.getD_cons_succ] at he; omega)
    exact ⟨_, rfl, L, _, _, rfl, hr21⟩
  · obtain rfl := Bool.eq_false_iff.2 h16
    refine c_end ?_
    refine n_then ?_
    refine c_false rfl ?_
    refine c_skipn ?_
    refine n_then ?_
    refine wp_seq ?_
    refine c_reg ?_
    refine s0 (x_move (v := .int _ _) rfl) ?_
    refine s0 (x_move (v := .int _ _) rfl) ?_
    refine s0 (x_assign (v := .int _ _) rfl) ?_
    refine s0 (x_assign (v := .int _ _) rfl) ?_
    refine c_end ?_
    refine n_then ?_
    refine wp_ret ?_
    refine f_rets2 rfl (ro_tmp rfl) (ro_tmp rfl) ?_
    exact ⟨_, rfl, L, _, _, rfl, by omega, by omega⟩

/-- spec.DrawPutBits -/
theorem s_drawPutBits (p : Option Addr) (xs : List Int) (c : Nat) (B : Nat) (w : World) (hp : Sl w p xs.length c 1 (bc xs)) (hr : ∀ x ∈ xs, 0 ≤ x ∧ x ≤ 255) (hpB : Bl p xs.length B) (hB : B ≤ w.heap.size) (hl : xs.length ≤ 1048576) :
    Calls Try.prog 25 [.slice p xs.length c].toArray w (RetP w fun v w' => ∃ (p : Option Addr) (n : Nat) (xs : List Int) (c : Nat) (F : List Nat) (a m : Int), v = .tuple [.slice p n c, .int .i64 a, .int .i64 m].toArray ∧ Own w' p n c 3 1 (ic xs) F ∧ Fr w.heap.size F ∧ n = xs.length ∧ n ≤ 12 ∧ -1 ≤ a ∧ a ≤ 281474976710655) := by
  have L : Exm [] w w := Exm.rfl'
  refine enter (n := 21) Try.func25 rfl rfl rfl ?_
  refine wp_seq ?_
  refine c_reg ?_
  refine s0 (x_assign (v := .slice _ _ _) rfl) ?_
  refine s0 (x_assign (v := .int _ _) rfl) ?_
  refine s0 (x_assign (v := .int _ _) rfl) ?_
  refine c_end ?_
  refine n_then ?_
  refine wp_seq ?_
  refine c_reg ?_
  refine s0 (x_move (v := .slice _ _ _) rfl) ?_
  refine sp (zcall cl99FS rfl) (s_new _ _ _ B _ (hp.ext L) hr hpB (by omega) hl) ?_
  rintro v10 w1 l2 ⟨b10, rfl, ⟨lob10, hib10⟩, K10⟩
  have z_l2 := l2.size
  have L := L.tr l2.up
  refine s0 (x_assign (v := .pointer _) rfl) ?_
  refine c_end ?_
  refine n_then ?_
  refine wp_seq ?_
  refine c_reg ?_
  refine s0 (x_move (v := .pointer _) rfl) ?_
  refine spm (zcall cl100FS rfl) (s_l2Bits b10 _ _ _ K10 (by omega)) ?_
  rintro v12 w3 l4 ⟨⟨p12, n12, xs12, c12, F12, rfl, o12, f12, rfl, hx12⟩, K10⟩
  have z_l4 := l4.size
  have L := L.fresh l4 (by omega)
  have g12 := o12.lt
  refine s0 (x_assign (v := .slice _ _ _) rfl) ?_
  refine c_end ?_
  refine n_then ?_
  refine wp_seq ?_
  refine c_reg ?_
  refine s0 (x_move (v := .slice _ _ _) rfl) ?_
  refine sp (zcall cl101FS rfl) (s_drawBitsIn _ _ _ _ _ (hp.ext L) hr hpB (by omega) (by omega)) ?_
  rintro v15 w5 l6 ⟨n15, m15, rfl, hn15⟩
  have z_l6 := l6.size
  have L := L.tr l6.up
  have K10 := K10.ext l6
  have o12 := o12.ext l6
  refine s0 (x_move (v := .tuple _) rfl) ?_
  refine s0 (x_extract rfl rfl) ?_
  refine s0 (x_extract rfl rfl) ?_
  refine s0 (x_assign (v := .int _ _) rfl) ?_
  refine s0 (x_assign (v := .int _ _) rfl) ?_
  refine c_end ?_
  refine n_then ?_
  refine wp_seq ?_
  refine c_reg ?_
  refine s0 (x_move (v := .slice _ _ _) rfl) ?_
  refine s0 (x_move (v := .int _ _) rfl) ?_
  refine s0 (x_move (v := .int _ _) rfl) ?_
  refine s0 (x_assign (v := .slice _ _ _) rfl) ?_
  refine s0 (x_assign (v := .int _ _) rfl) ?_
  refine s0 (x_assign (v := .int _ _) rfl) ?_
  refine c_end ?_
  refine n_then ?_
  refine wp_ret ?_
  refine f_rets3 rfl (ro_tmp rfl) (ro_tmp rfl) (ro_tmp rfl) ?_
  exact ⟨_, rfl, L, _, _, _, _, _, _, _, rfl, o12, f12.mono (by omega), rfl, by omega, hn15⟩

/-- spec.DrawStopOk -/
theorem s_drawStopOk (p : Option Addr) (xs : List Int) (c : Nat) (B : Nat) (w : World) (hp : Sl w p xs.length c 1 (bc xs)) (hr : ∀ x ∈ xs, 0 ≤ x ∧ x ≤ 255) (hpB : Bl p xs.length B) (hB : B ≤ w.heap.size) (hl : xs.length ≤ 1048576) :
    Calls Try.prog 32 [.slice p xs.length c].toArray w (RetP w fun v w' => ∃ (s : ByteArray) (a : Int), v = .agg [.string s, .int .i64 a].toArray ∧ s.size ≤ 1048576) := by
  have L : Exm [] w w := Exm.rfl'
  refine enter (n := 32) Try.func32 rfl rfl rfl ?_
  refine wp_seq ?_
  refine c_reg ?_
  refine s_alloc zr42FS ?_
  intro b1 w2 lob1 hib1 l3 B1
  have z_l3 := l3.size
  have L := L.tr l3.up
  refine c_end ?_
  refine n_then ?_
  refine wp_seq ?_
  refine c_reg ?_
  refine s0 (x_move (v := .slice _ _ _) rfl) ?_
  refine sp (zcall cl99FS rfl) (s_new _ _ _ B _ (hp.ext L) hr hpB (by omega) hl) ?_
  rintro v7 w4 l5 ⟨b7, rfl, ⟨lob7, hib7⟩, K7⟩
  have z_l5 := l5.size
  have L := L.tr l5.up
  have B1 := B1.ext l5
  refine s0 (x_assign (v := .pointer _) rfl) ?_
  refine c_end ?_
  refine n_then ?_
  refine wp_seq ?_
  refine wp_seq ?_
  refine c_reg ?_
  refine s0 (x_move (v := .pointer _) rfl) ?_
  refine spm (zcall cl110FS rfl) (s_once b7 _ _ _ K7) ?_
  rintro v9 w6 l7 ⟨⟨x9, rfl⟩, K7⟩
  have z_l7 := l7.size
  have L := L.fresh l7 (by omega)
  have B1 := B1.ne l7 (by omega)
  by_cases h9 : x9 = true
  · subst h9
    refine c_end ?_
    refine n_then ?_
    refine c_true rfl ?_
    refine wp_seq ?_
    refine c_reg ?_
    refine s0 (x_move (v := .pointer _) rfl) ?_
    refine spm (zcall cl100FS rfl) (s_l2Bits b7 _ _ _ K7 (by omega)) ?_
    rintro v11 w8 l9 ⟨⟨p11, n11, xs11, c11, F11, rfl, o11, f11, rfl, hx11⟩, K7⟩
    have z_l9 := l9.size
    have L := L.fresh l9 (by omega)
    have B1 := B1.ne l9 (by omega)
    have g11 := o11.lt
    refine s0 (x_assign (v := .slice _ _ _) rfl) ?_
    refine c_end ?_
    refine n_then ?_
    refine wp_seq ?_
    refine c_reg ?_
    refine s0 (x_move (v := .slice _ _ _) rfl) ?_
    refine sr (zcall cl30FS rfl) (s_stopped _ _ _ _ o11.sl (by omega)) ?_
    intro w10 l11
    have z_l11 := l11.size
    have L := L.tr l11.up
    have B1 := B1.ext l11
    have K7 := K7.ext l11
    have o11 := o11.ext l11
    refine s0 (x_move (v := .slice _ _ _) rfl) ?_
    refine s0 (x_lensl un22FS rfl) ?_
    refine s0 (x_build (cs := [.string _, .int _ _]) bd42FS (pts_cons (v := .string _) rfl (pts_cons (v := .int _ _) rfl pts_nil)) rfl) ?_
    refine s_alloc zr42FS ?_
    intro b12 w13 lob12 hib12 l14 B12
    have z_l14 := l14.size
    have L := L.tr l14.up
    have B1 := B1.ext l14
    have K7 := K7.ext l14
    have o11 := o11.ext l14
    refine s_storeAg rfl sz42FS rfl rfl B12 rfl rfl rfl ?_
    intro w15 l16 el16 B12
    have z_l16 := l16.size
    have L := L.fresh l16 (by omega)
    have B1 := B1.ne l16 (by omega)
    have K7 := K7.ne l16 (by omega)
    have o11 := o11.ne l16 (by first | assumption | exact nin_of f11 g11 (by omega))
    refine c_end ?_
    refine n_then ?_
    refine wp_seq ?_
    refine wp_seq ?_
    have hss := stopped_size xs11
    refine c_reg ?_
    refine s0 (x_move (v := .pointer _) rfl) ?_
    refine spm (zcall cl110FS rfl) (s_once b7 _ _ _ K7) ?_
    rintro v18 w17 l18 ⟨⟨x18, rfl⟩, K7⟩
    have z_l18 := l18.size
    have L := L.fresh l18 (by omega)
    have B1 := B1.ne l18 (by omega)
    have B12 := B12.ne l18 (by omega)
    have o11 := o11.ne l18 (by first | assumption | exact nin_of f11 g11 (by omega))
    by_cases h18 : x18 = true
    · subst h18
      refine c_end ?_
      refine n_then ?_
      refine c_true rfl ?_
      refine c_reg ?_
      refine s0 (x_fieldAddr fa42_0FS rfl) ?_
      refine st (x_loadB sc9FS rfl B12 rfl) ?_
      refine s0 (x_adds rfl rfl (by show (stopped xs11).size + 1 ≤ _; omega)) ?_
      refine s0 (x_fieldAddr fa42_0FS rfl) ?_
      refine s_store (v := .string _) (cs' := [_, _]) rfl sz9FS rfl rfl rfl rfl B12 rfl rfl ?_
      intro w19 l20 el20 B12
      have z_l20 := l20.size
      have L := L.fresh l20 (by omega)
      have B1 := B1.ne l20 (by omega)
      have K7 := K7.ne l20 (by omega)
      have o11 := o11.ne l20 (by first | assumption | exact nin_of f11 g11 (by omega))
      refine c_end ?_
      refine n_then ?_
      refine wp_seq ?_
      refine wp_seq ?_
      refine c_reg ?_
      refine s0 (x_move (v := .pointer _) rfl) ?_
      refine spm (zcall cl110FS rfl) (s_once b7 _ _ _ K7) ?_
      rintro v24 w21 l22 ⟨⟨x24, rfl⟩, K7⟩
      have z_l22 := l22.size
      have L := L.fresh l22 (by omega)
      have B1 := B1.ne l22 (by omega)
      have B12 := B12.ne l22 (by omega)
      have o11 := o11.ne l22 (by first | assumption | exact nin_of f11 g11 (by omega))
      by_cases h24 : x24 = true
      · subst h24
        refine c_end ?_
        refine n_then ?_
        refine c_true rfl ?_
        refine c_reg ?_
        refine s0 (x_fieldAddr fa42_1FS rfl) ?_
        refine st (x_loadB sc3FS rfl B12 rfl) ?_
        refine s0 (x_add rfl rfl (by omega)) ?_
        refine s0 (x_fieldAddr fa42_1FS rfl) ?_
        refine s_store (v := .int _ _) (cs' := [_, _]) rfl sz3FS rfl rfl rfl rfl B12 rfl rfl ?_
        intro w23 l24 el24 B12
        have z_l24 := l24.size
        have L := L.fresh l24 (by omega)
        have B1 := B1.ne l24 (by omega)
        have K7 := K7.ne l24 (by omega)
        have o11 := o11.ne l24 (by first | assumption | exact nin_of f11 g11 (by omega))
        refine c_end ?_
        refine n_then ?_
        refine wp_seq ?_
        refine c_reg ?_
        refine st (x_loadAgB ag42FS rfl B12 rfl) ?_
        refine s_storeAg rfl sz42FS rfl rfl B1 rfl rfl rfl ?_
        intro w25 l26 el26 B1
        have z_l26 := l26.size
        have L := L.fresh l26 (by omega)
        have K7 := K7.ne l26 (by omega)
        have B12 := B12.ne l26 (by omega)
        have o11 := o11.ne l26 (by first | assumption | exact nin_of f11 g11 (by omega))
        refine c_end ?_
        refine n_then ?_
        refine wp_ret (r_then ?_)
        refine f_retc rfl rfl ag42FS B1 rfl ?_
        exact ⟨_, rfl, L, _, _, rfl, by rw [ByteArray.size_append]; show (stopped xs11).size + 1 ≤ _; omega⟩
      · obtain rfl := Bool.eq_false_iff.2 h24
        refine c_end ?_
        refine n_then ?_
        refine c_false rfl ?_
        refine c_skipn ?_
        refine n_then ?_
        refine wp_seq ?_
        refine c_reg ?_
        refine st (x_loadAgB ag42FS rfl B12 rfl) ?_
        refine s_storeAg rfl sz42FS rfl rfl B1 rfl rfl rfl ?_
        intro w27 l28 el28 B1
        have z_l28 := l28.size
        have L := L.fresh l28 (by omega)
        have K7 := K7.ne l28 (by omega)
        have B12 := B12.ne l28 (by omega)
        have o11 := o11.ne l28 (by first | assumption | exact nin_of f11 g11 (by omega))
        refine c_end ?_
        refine n_then ?_
        refine wp_ret (r_then ?_)
        refine f_retc rfl rfl ag42FS B1 rfl ?_
        exact ⟨_, rfl, L, _, _, rfl, by rw [ByteArray.size_append]; show (stopped xs11).size + 1 ≤ _; omega⟩
    · obtain rfl := Bool.eq_false_iff.2 h18
      refine c_end ?_
      refine n_then ?_
      refine c_false rfl ?_
      refine c_skipn ?_
      refine n_then ?_
      refine wp_seq ?_
      refine wp_seq ?_
      refine c_reg ?_
      refine s0 (x_move (v := .pointer _) rfl) ?_
      refine spm (zcall cl110FS rfl) (s_once b7 _ _ _ K7) ?_
      rintro v24 w29 l30 ⟨⟨x24, rfl⟩, K7⟩
      have z_l30 := l30.size
      have L := L.fresh l30 (by omega)
      have B1 := B1.ne l30 (by omega)
      have B12 := B12.ne l30 (by omega)
      have o11 := o11.ne l30 (by first | assumption | exact nin_of f11 g11 (by omega))
      by_cases h24 : x24 = true
      · subst h24
        refine c_end ?_
        refine n_then ?_
        refine c_true rfl ?_
        refine c_reg ?_
        refine s0 (x_fieldAddr fa42_1FS rfl) ?_
        refine st (x_loadB sc3FS rfl B12 rfl) ?_
        refine s0 (x_add rfl rfl (by omega)) ?_
        refine s0 (x_fieldAddr fa42_1FS rfl) ?_
        refine s_store (v := .int _ _) (cs' := [_, _]) rfl sz3FS rfl rfl rfl rfl B12 rfl rfl ?_
        intro w31 l32 el32 B12
        have z_l32 := l32.size
        have L := L.fresh l32 (by omega)
        have B1 := B1.ne l32 (by omega)
        have K7 := K7.ne l32 (by omega)
        have o11 := o11.ne l32 (by first | assumption | exact nin_of f11 g11 (by omega))
        refine c_end ?_
        refine n_then ?_
        refine wp_seq ?_
        refine c_reg ?_
        refine st (x_loadAgB ag42FS rfl B12 rfl) ?_
        refine s_storeAg rfl sz42FS rfl rfl B1 rfl rfl rfl ?_
        intro w33 l34 el34 B1
        have z_l34 := l34.size
        have L := L.fresh l34 (by omega)
        have K7 := K7.ne l34 (by omega)
        have B12 := B12.ne l34 (by omega)
        have o11 := o11.ne l34 (by first | assumption | exact nin_of f11 g11 (by omega))
        refine c_end ?_
        refine n_then ?_
        refine wp_ret (r_then ?_)
        refine f_retc rfl rfl ag42FS B1 rfl ?_
        exact ⟨_, rfl, L, _, _, rfl, by omega⟩
      · obtain rfl := Bool.eq_false_iff.2 h24
        refine c_end ?_
        refine n_then ?_
        refine c_false rfl ?_
        refine c_skipn ?_
        refine n_then ?_
        refine wp_seq ?_
        refine c_reg ?_
        refine st (x_loadAgB ag42FS rfl B12 rfl) ?_
        refine s_storeAg rfl sz42FS rfl rfl B1 rfl rfl rfl ?_
        intro w35 l36 el36 B1
        have z_l36 := l36.size
        have L := L.fresh l36 (by omega)
        have K7 := K7.ne l36 (by omega)
        have B12 := B12.ne l36 (by omega)
        have o11 := o11.ne l36 (by first | assumption | exact nin_of f11 g11 (by omega))
        refine c_end ?_
        refine n_then ?_
        refine wp_ret (r_then ?_)
        refine f_retc rfl rfl ag42FS B1 rfl ?_
        exact ⟨_, rfl, L, _, _, rfl, by omega⟩
  · obtain rfl := Bool.eq_false_iff.2 h9
    refine c_end ?_
    refine n_then ?_
    refine c_false rfl ?_
    refine c_skipn ?_
    refine n_then ?_
    refine wp_seq ?_
    refine c_reg ?_
    refine s0 (x_move (v := .pointer _) rfl) ?_
    refine spm (zcall cl111FS rfl) (s_l3Reader b7 _ _ K7) ?_
    rintro v31 w37 l38 ⟨⟨s31, a31, rfl, hx31⟩, K7⟩
    have z_l38 := l38.size
    have L := L.fresh l38 (by omega)
    have B1 := B1.ne l38 (by omega)
    refine s_storeAg rfl sz42FS rfl rfl B1 rfl rfl rfl ?_
    intro w39 l40 el40 B1
    have z_l40 := l40.size
    have L := L.fresh l40 (by omega)
    have K7 := K7.ne l40 (by omega)
    refine c_end ?_
    refine n_then ?_
    refine wp_ret ?_
    refine f_retc rfl rfl ag42FS B1 rfl ?_
    exact ⟨_, rfl, L, _, _, rfl, by omega⟩

end Go.Proofs.Ytdnckakaoageoaa
