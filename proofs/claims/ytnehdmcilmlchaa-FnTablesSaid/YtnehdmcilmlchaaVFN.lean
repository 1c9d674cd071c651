/- What each function of this part returns, for every argument that meets its premises. -/
import Derived.Test.YtnehdmcilmlchaaProg
import Derived.Test.YtnehdmcilmlchaaVSxF
import Derived.Test.YtnehdmcilmlchaaVPlY
import Derived.Test.YtnehdmcilmlchaaVF1
import Derived.Test.YtnehdmcilmlchaaVF7
import Derived.Test.YtnehdmcilmlchaaVF8
import Derived.Test.YtnehdmcilmlchaaVF9
import Derived.Test.YtnehdmcilmlchaaVFC
import Derived.Test.YtnehdmcilmlchaaVFJ
import Derived.Test.YtnehdmcilmlchaaVFK
namespace Go.Proofs.Ytnehdmcilmlchaa
open Go.Sx Go.Pl Go.RowKit
theorem cl205FN : Callable Try.prog 205 := callable Try.func205 (by kernel_rfl) rfl
theorem cl249FN : Callable Try.prog 249 := callable Try.func249 (by kernel_rfl) rfl
theorem cl95FN : Callable Try.prog 95 := callable Try.func95 (by kernel_rfl) rfl
theorem sc3FN : Sc Try.prog 3 := ⟨(.int .i64), by kernel_rfl, trivial⟩
theorem so22FN : SliceOf Try.prog 22 5 1 1 := ⟨by kernel_rfl, by kernel_rfl⟩
theorem so40FN : SliceOf Try.prog 40 3 1 8 := ⟨by kernel_rfl, by kernel_rfl⟩
theorem un22FN : Try.prog.underlying 22 = some (.slice 5) := by kernel_rfl
theorem un40FN : Try.prog.underlying 40 = some (.slice 3) := by kernel_rfl
theorem un5FN : Try.prog.underlying 5 = some (.int .u8) := by kernel_rfl
theorem un9FN : Try.prog.underlying 9 = some .string := by kernel_rfl
theorem us3FN : (Try.prog.underlying 3).isSome = true := by kernel_rfl
theorem zr3FN : ZeroV Try.prog 3 [.int .i64 0] := by unfold ZeroV; kernel_rfl
theorem zr5FN : ZeroV Try.prog 5 [.int .u8 0] := by unfold ZeroV; kernel_rfl
/-- spec.NumOf -/
theorem s_numOf (p : Option Addr) (n c : Nat) (xs : List Int) (w : World) (hp : Sl w p n c 1 (ic xs)) (hl : n ≤ 1099511627776) :
    Calls Try.prog 249 [.slice p n c].toArray w (RetP w fun v w' => ∃ x : Int, v = .tuple [.int .i64 x, .bool (decide (numOk xs))].toArray ∧ (numOk xs → x = numl xs)) := by
  have hn := hp.n
  have L : Exm [] w w := Exm.rfl'
  refine enter (n := 30) Try.func249 rfl rfl rfl ?_
  refine wp_seq ?_
  refine c_reg ?_
  refine s0 (x_assign (v := .int _ _) rfl) ?_
  refine s0 (x_assign (v := .bool _) rfl) ?_
  refine c_end ?_
  refine n_then ?_
  refine wp_seq ?_
  refine c_reg ?_
  refine s0 (x_assign (v := .int _ _) rfl) ?_
  refine c_end ?_
  refine n_then ?_
  refine wp_seq ?_
  refine wp_seq ?_
  refine c_reg ?_
  refine s0 (x_assign (v := .int _ _) rfl) ?_
  refine c_end ?_
  refine n_then ?_
  refine wp_block ?_
  refine c_loop (γ := Nat) (fun k => n - k) (fun (k : Nat) E wl => ∃ E0, E = upd (upd (upd E0 0 (.slice p n c)) 4 (.int .i64 (numl (xs.take k)))) 5 (.int .i64 (k : Int)) ∧ (Exm [] w wl) ∧ ((k : Int) ≤ n) ∧ (k ≤ 48) ∧ (∀ j : Nat, j < k → xs.getD j 0 = 0 ∨ xs.getD j 0 = 1)) 0 ⟨_, upd_self3 rfl rfl rfl, L, (by omega), (by omega), (by intro j hj; omega)⟩ ?_
  rintro k E wl1 ⟨E0, rfl, L, hk, hk8, hall⟩
  have Lz0 := L.size
  have hnr := numl_take_range hk8 hall (by omega)
  refine wp_seq ?_
  refine wp_seq ?_
  refine c_reg ?_
  refine s0 (x_move (v := .int _ _) rfl) ?_
  refine s0 (x_move (v := .slice _ _ _) rfl) ?_
  refine s0 (x_lensl un40FN rfl) ?_
  refine sb (x_lss rfl rfl) (fun h9 => ?_) (fun h9 => ?_)
  · refine c_end ?_
    refine n_then ?_
    refine c_true rfl ?_
    refine c_skipn ?_
    refine n_then ?_
    refine wp_seq ?_
    refine wp_block ?_
    refine wp_seq ?_
    refine wp_seq ?_
    refine c_reg ?_
    refine s0 (x_move (v := .slice _ _ _) rfl) ?_
    refine s0 (x_move (v := .int _ _) rfl) ?_
    refine s0 (x_idx so40FN rfl rfl hp (by decide) (by omega) (by omega)) ?_
    refine st (x_ldi sc3FN rfl (hp.ext L) (by omega) (by omega)) ?_
    refine srb (zcall cl95FN rfl) (s_l1In _ _ _ _) (fun h16 w2 l3 => ?_) (fun h16 w2 l3 => ?_)
    · have z_l3 := l3.size
      have L := L.tr l3.up
      refine s0 (x_not rfl) ?_
      refine s0 (x_move (v := .bool _) rfl) ?_
      refine gt rfl rfl rfl rfl ?_
      refine s0 (x_move (v := .int _ _) rfl) ?_
      refine gt rfl rfl rfl rfl ?_
      refine sb (x_geq rfl rfl) (fun h20 => ?_) (fun h20 => ?_)
      · refine s0 (x_pickf (v := .bool _) rfl rfl) ?_
        refine c_end ?_
        refine n_then ?_
        refine c_true rfl ?_
        refine wp_seq ?_
        refine c_reg ?_
        refine s0 (x_assign (v := .int _ _) rfl) ?_
        refine s0 (x_assign (v := .bool _) rfl) ?_
        refine c_end ?_
        refine n_then ?_
        refine wp_ret (r_then (r_block (r_then (r_then (r_block (r_then ?_))))))
        refine f_rets2 rfl (ro_tmp rfl) (ro_tmp rfl) ?_
        have hno : ¬ numOk xs := fun h => by have := h.2; omega
        rw [decide_eq_false hno]
        exact ⟨_, rfl, L, _, rfl, fun h => absurd h hno⟩
      · refine s0 (x_pickf (v := .bool _) rfl rfl) ?_
        refine c_end ?_
        refine n_then ?_
        refine c_false rfl ?_
        refine c_skipn ?_
        refine n_then ?_
        refine c_reg ?_
        refine s0 (x_move (v := .int _ _) rfl) ?_
        refine s0 (x_mul rfl rfl (by omega)) ?_
        refine s0 (x_move (v := .slice _ _ _) rfl) ?_
        refine s0 (x_move (v := .int _ _) rfl) ?_
        refine s0 (x_idx so40FN rfl rfl hp (by decide) (by omega) (by omega)) ?_
        refine st (x_ldi sc3FN rfl (hp.ext L) (by omega) (by omega)) ?_
        refine s0 (x_add rfl rfl (by omega)) ?_
        refine s0 (x_assign (v := .int _ _) rfl) ?_
        refine c_end ?_
        refine n_block ?_
        refine n_then ?_
        refine c_reg ?_
        refine s0 (x_move (v := .int _ _) rfl) ?_
        refine s0 (x_add rfl rfl (by omega)) ?_
        refine s0 (x_assign (v := .int _ _) rfl) ?_
        refine c_end ?_
        rw [Int.toNat_natCast] at h16
        have hnt := numl_take (b := xs) (k := k) (by omega)
        exact c_round (g' := k + 1) (by omega) ⟨_, upd_self3 rfl (vint (by rw [hnt, Int.toNat_natCast])) (vint (by omega)), L, (by omega), (by omega), (upto_succ' hall (by omega))⟩
    · have z_l3 := l3.size
      have L := L.tr l3.up
      refine s0 (x_not rfl) ?_
      refine s0 (x_move (v := .bool _) rfl) ?_
      refine gf rfl rfl rfl rfl ?_
      refine gf rfl rfl rfl rfl ?_
      refine s0 (x_pickt (v := .bool _) rfl rfl) ?_
      refine c_end ?_
      refine n_then ?_
      refine c_true rfl ?_
      refine wp_seq ?_
      refine c_reg ?_
      refine s0 (x_assign (v := .int _ _) rfl) ?_
      refine s0 (x_assign (v := .bool _) rfl) ?_
      refine c_end ?_
      refine n_then ?_
      refine wp_ret (r_then (r_block (r_then (r_then (r_block (r_then ?_))))))
      refine f_rets2 rfl (ro_tmp rfl) (ro_tmp rfl) ?_
      have hno : ¬ numOk xs := fun h => h16 (by have := isBits_get h.1 ((k : Int)).toNat; omega)
      rw [decide_eq_false hno]
      exact ⟨_, rfl, L, _, rfl, fun h => absurd h hno⟩
  · refine c_end ?_
    refine n_then ?_
    refine c_false rfl ?_
    refine wp_exit (e_then (e_then (e_here ?_)))
    refine n_then ?_
    refine wp_seq ?_
    refine c_reg ?_
    refine s0 (x_move (v := .int _ _) rfl) ?_
    refine s0 (x_assign (v := .int _ _) rfl) ?_
    refine s0 (x_assign (v := .bool _) rfl) ?_
    refine c_end ?_
    refine n_then ?_
    refine wp_ret ?_
    refine f_rets2 rfl (ro_tmp rfl) (ro_tmp rfl) ?_
    have hy : numOk xs := ⟨isBits_upto fun j hj => hall j (by omega), by omega⟩
    rw [decide_eq_true hy]
    exact ⟨_, rfl, L, _, rfl, fun _ => by rw [List.take_of_length_le (by omega)]⟩

/-- spec.BytesOf -/
theorem s_bytesOf (p : Option Addr) (xs : List Int) (c : Nat) (w : World) (hp : Sl w p xs.length c 1 (ic xs)) (hl : xs.length ≤ 1099511627776) :
    Calls Try.prog 205 [.slice p xs.length c].toArray w (Ret w (.tuple [.string (bytesStr xs), .bool (decide (byOk xs))].toArray)) := by
  have L : Exm [] w w := Exm.rfl'
  refine enter (n := 37) Try.func205 rfl rfl rfl ?_
  refine wp_seq ?_
  refine c_reg ?_
  refine s0 (x_assign (v := .string _) rfl) ?_
  refine s0 (x_assign (v := .bool _) rfl) ?_
  refine c_end ?_
  refine n_then ?_
  refine wp_seq ?_
  refine c_reg ?_
  refine s_bs0 so22FN ?_
  intro p8 F8 w1 l2 o8 f8 g8
  have o8 : Own w1 p8 0 0 5 1 (bc []) F8 := o8
  have z_l2 := l2.size
  have L := L.tr l2.up
  refine s0 (x_assign (v := .slice _ _ _) rfl) ?_
  refine c_end ?_
  refine n_then ?_
  refine wp_seq ?_
  refine wp_seq ?_
  refine c_reg ?_
  refine s0 (x_move (v := .slice _ _ _) rfl) ?_
  refine s0 (x_lensl un40FN rfl) ?_
  refine s0 (x_rem rfl rfl (by omega) (by omega)) ?_
  refine sb (x_neq rfl rfl) (fun h12 => ?_) (fun h12 => ?_)
  · refine c_end ?_
    refine n_then ?_
    refine c_true rfl ?_
    refine wp_seq ?_
    refine c_reg ?_
    refine s0 (x_assign (v := .string _) rfl) ?_
    refine s0 (x_assign (v := .bool _) rfl) ?_
    refine c_end ?_
    refine n_then ?_
    refine wp_ret (r_then ?_)
    refine f_rets2 rfl (ro_tmp rfl) (ro_tmp rfl) ?_
    exact ⟨by_no (fun h => by have := h.2; omega), L⟩
  · refine c_end ?_
    refine n_then ?_
    refine c_false rfl ?_
    refine c_skipn ?_
    refine n_then ?_
    refine wp_seq ?_
    refine wp_seq ?_
    refine c_reg ?_
    refine s0 (x_assign (v := .int _ _) rfl) ?_
    refine c_end ?_
    refine n_then ?_
    refine wp_block ?_
    refine c_loop (γ := Nat) (fun k => xs.length - k) (fun (k : Nat) E wl => ∃ E0 pz4 cz4 Fz4, E = upd (upd (upd E0 0 (.slice p xs.length c)) 4 (.slice pz4 (((bytesl xs).take k).length) cz4)) 5 (.int .i64 (8 * (k : Int))) ∧ (Exm [] w wl) ∧ (w1.heap.size ≤ wl.heap.size) ∧ (Own wl pz4 (((bytesl xs).take k).length) cz4 5 1 (bc ((bytesl xs).take k)) Fz4) ∧ (Fr (w.heap.size) Fz4) ∧ (Lt Fz4 wl.heap.size) ∧ (8 * (k : Int) ≤ xs.length) ∧ (isBits (xs.take (8 * k)))) 0 ⟨_, _, _, _, upd_self3 rfl (slice_len rfl) rfl, L, (by omega), o8, (f8.mono (by omega)), (g8.mono (by omega)), (by omega), (by intro x hx; simp at hx)⟩ ?_
    rintro k E wl3 ⟨E0, pz4, cz4, Fz4, rfl, L, Lz, oz4, fz4, gz4, hk, hall⟩
    have Lz0 := L.size
    have hlt : ((bytesl xs).take k).length ≤ k := List.length_take_le _ _
    have hl8 := bytesl_length xs
    refine wp_seq ?_
    refine wp_seq ?_
    refine c_reg ?_
    refine s0 (x_move (v := .int _ _) rfl) ?_
    refine s0 (x_move (v := .slice _ _ _) rfl) ?_
    refine s0 (x_lensl un40FN rfl) ?_
    refine sb (x_lss rfl rfl) (fun h16 => ?_) (fun h16 => ?_)
    · refine c_end ?_
      refine n_then ?_
      refine c_true rfl ?_
      refine c_skipn ?_
      refine n_then ?_
      refine wp_seq ?_
      refine wp_block ?_
      refine wp_seq ?_
      refine c_reg ?_
      refine s0 (x_move (v := .slice _ _ _) rfl) ?_
      refine s0 (x_move (v := .int _ _) rfl) ?_
      refine s0 (x_move (v := .int _ _) rfl) ?_
      refine s0 (x_add rfl rfl (by omega)) ?_
      refine s0 (x_cutr so40FN (hp.ext L).r (by omega) rfl rfl rfl (by omega) (by omega) (by omega)) ?_
      refine sp (zcall cl249FN rfl) (s_numOf _ _ _ _ _ ((hp.ext L).cuti (by omega) (by omega)) (by rw [List.length_take]; omega)) ?_
      rintro v25 w4 l5 ⟨x25, rfl, hx25⟩
      have z_l5 := l5.size
      have L := L.tr l5.up
      have oz4 := oz4.ext l5
      refine s0 (x_move (v := .tuple _) rfl) ?_
      refine s0 (x_extract rfl rfl) ?_
      refine sb (x_extract rfl rfl) (fun h27 => ?_) (fun h27 => ?_)
      · refine s0 (x_assign (v := .int _ _) rfl) ?_
        refine s0 (x_assign (v := .bool _) rfl) ?_
        refine c_end ?_
        refine n_then ?_
        refine wp_seq ?_
        refine wp_seq ?_
        refine c_reg ?_
        refine s0 (x_move (v := .bool _) rfl) ?_
        refine s0 (x_not rfl) ?_
        refine c_end ?_
        refine n_then ?_
        refine c_false rfl ?_
        refine c_skipn ?_
        refine n_then ?_
        refine c_reg ?_
        refine s0 (x_move (v := .slice _ _ _) rfl) ?_
        refine s0 (x_move (v := .int _ _) rfl) ?_
        refine s0 (x_convk us3FN un5FN rfl) ?_
        refine s_bsb (xs := [_]) so22FN zr5FN (pts_cons rfl pts_nil) rfl rfl rfl ?_
        intro p33 F33 w6 l7 o33 f33 g33
        have z_l7 := l7.size
        have L := L.tr l7.up
        have oz4 := oz4.ext l7
        have hn33 := o33.nb
        refine s_appb (B := w.heap.size) so22FN zr5FN rfl rfl (xs := _) oz4 o33.sl fz4 (by omega) (by omega) (by omega) ?_
        intro p34 c34 F34 w8 l9 o34 hn34 k34 f34 g34
        have z_l9 := l9.size
        have L := L.freshL l9 fz4 (by omega)
        have d33_34 : Dj F33 F34 := k34.dj (by first | assumption | exact Dj.symm (by assumption) | exact dj_of f33 g33 fz4 gz4 (by omega)) g33 (by omega)
        have o33 := o33.exm l9 (by first | assumption | exact Dj.symm (by assumption) | exact dj_of fz4 gz4 f33 g33 (by omega))
        refine s0 (x_assign (v := .slice _ _ _) rfl) ?_
        refine c_end ?_
        refine n_block ?_
        refine n_then ?_
        refine c_reg ?_
        refine s0 (x_move (v := .int _ _) rfl) ?_
        refine s0 (x_add rfl rfl (by omega)) ?_
        refine s0 (x_assign (v := .int _ _) rfl) ?_
        refine c_end ?_
        have hn8 : 8 * (k : Int) + 8 = ((8 * k + 8 : Nat) : Int) := by omega
        have h8k : (8 * (k : Int)).toNat = 8 * k := by omega
        have h8k8 : (8 * (k : Int) + 8).toNat - (8 * (k : Int)).toNat = 8 := by omega
        rw [h8k8, h8k] at h27 hx25
        have hnr := numl_range h27.1
        have h2l : ((xs.drop (8 * k)).take 8).length = 8 := by rw [List.length_take, List.length_drop]; omega
        rw [h2l] at hnr
        have hbt := bytesl_take (b := xs) (k := k) (by omega)
        have hw8 : IntKind.u8.wrap x25 = numl ((xs.drop (8 * k)).take 8) := by rw [hx25 h27, wrap_u8]; omega
        exact c_round (g' := k + 1) (by omega) ⟨_, _, _, _, upd_self3 rfl (slice_len (by rw [hbt, hw8])) (vint (by omega)), L, (by omega), (by rw [hbt, ← hw8]; exact o34), (f34.mono (by omega)), (g34.mono (by omega)), (by omega), (isBits_parts hall h27.1)⟩
      · refine s0 (x_assign (v := .int _ _) rfl) ?_
        refine s0 (x_assign (v := .bool _) rfl) ?_
        refine c_end ?_
        refine n_then ?_
        refine wp_seq ?_
        refine wp_seq ?_
        refine c_reg ?_
        refine s0 (x_move (v := .bool _) rfl) ?_
        refine s0 (x_not rfl) ?_
        refine c_end ?_
        refine n_then ?_
        refine c_true rfl ?_
        refine wp_seq ?_
        refine c_reg ?_
        refine s0 (x_assign (v := .string _) rfl) ?_
        refine s0 (x_assign (v := .bool _) rfl) ?_
        refine c_end ?_
        refine n_then ?_
        refine wp_ret (r_then (r_block (r_then (r_then (r_block (r_then ?_))))))
        refine f_rets2 rfl (ro_tmp rfl) (ro_tmp rfl) ?_
        exact ⟨by_no (fun h => h27 ⟨isBits_take (isBits_drop h.1 _) _, by rw [List.length_take]; omega⟩), L⟩
    · refine c_end ?_
      refine n_then ?_
      refine c_false rfl ?_
      refine wp_exit (e_then (e_then (e_here ?_)))
      refine n_then ?_
      refine wp_seq ?_
      refine c_reg ?_
      refine s0 (x_move (v := .slice _ _ _) rfl) ?_
      refine st (x_tostr un22FN un5FN un9FN rfl oz4.sl (fun x hx => bytesl_range (by rw [List.take_of_length_le (by omega)] at hall; exact hall) x (List.mem_of_mem_take hx))) ?_
      refine s0 (x_assign (v := .string _) rfl) ?_
      refine s0 (x_assign (v := .bool _) rfl) ?_
      refine c_end ?_
      refine n_then ?_
      refine wp_ret ?_
      refine f_rets2 rfl (ro_tmp rfl) (ro_tmp rfl) ?_
      have hall2 : isBits xs := by rw [List.take_of_length_le (by omega)] at hall; exact hall
      exact ⟨by_yes ⟨hall2, by omega⟩ (List.take_of_length_le (by rw [bytesl_length]; omega)), L⟩

/-- spec.Stopped -/
theorem s_stopped (p : Option Addr) (xs : List Int) (c : Nat) (w : World) (hp : Sl w p xs.length c 1 (ic xs)) (hl : xs.length ≤ 1099511627000) :
    Calls Try.prog 147 [.slice p xs.length c].toArray w (Ret w (.string (stopped xs))) := by
  have L : Exm [] w w := Exm.rfl'
  refine enter (n := 26) Try.func147 rfl rfl rfl ?_
  refine wp_seq ?_
  refine c_reg ?_
  refine s0 (x_assign (v := .string _) rfl) ?_
  refine c_end ?_
  refine n_then ?_
  refine wp_seq ?_
  refine c_reg ?_
  refine s_bs0 so40FN ?_
  intro p6 F6 w1 l2 o6 f6 g6
  have o6 : Own w1 p6 0 0 3 1 (ic []) F6 := o6
  have z_l2 := l2.size
  have L := L.tr l2.up
  refine s0 (x_move (v := .slice _ _ _) rfl) ?_
  refine s_appi (B := w.heap.size) so40FN zr3FN rfl rfl (xs := _) o6 (hp.ext L) f6 (by omega) (by omega) (by omega) ?_
  intro p8 c8 F8 w3 l4 o8 hn8 k8 f8 g8
  have z_l4 := l4.size
  have L := L.freshL l4 f6 (by omega)
  refine s_bsi (xs := [_]) so40FN zr3FN (pts_cons rfl pts_nil) rfl rfl rfl ?_
  intro p9 F9 w5 l6 o9 f9 g9
  have z_l6 := l6.size
  have L := L.tr l6.up
  have o8 := o8.ext l6
  have hn9 := o9.n1
  refine s_appi (B := w.heap.size) so40FN zr3FN rfl rfl (xs := _) o8 o9.sl f8 (by omega) (by omega) (by omega) ?_
  intro p10 c10 F10 w7 l8 o10 hn10 k10 f10 g10
  have z_l8 := l8.size
  have L := L.freshL l8 f8 (by omega)
  have d9_10 : Dj F9 F10 := k10.dj (by first | assumption | exact Dj.symm (by assumption) | exact dj_of f9 g9 f8 g8 (by omega)) g9 (by omega)
  have o9 := o9.exm l8 (by first | assumption | exact Dj.symm (by assumption) | exact dj_of f8 g8 f9 g9 (by omega))
  refine s0 (x_assign (v := .slice _ _ _) rfl) ?_
  refine c_end ?_
  refine n_then ?_
  refine wp_seq ?_
  refine wp_block ?_
  refine c_loop (γ := Nat) (fun k => 8 - k) (fun (k : Nat) E wl => ∃ E0 pz3 cz3 Fz3, E = upd E0 3 (.slice pz3 ((xs ++ [1] ++ List.replicate k 0).length) cz3) ∧ (Exm [] w wl) ∧ (w7.heap.size ≤ wl.heap.size) ∧ (Own wl pz3 ((xs ++ [1] ++ List.replicate k 0).length) cz3 3 1 (ic (xs ++ [1] ++ List.replicate k 0)) Fz3) ∧ (Fr (w.heap.size) Fz3) ∧ (Lt Fz3 wl.heap.size) ∧ (k ≤ (8 - (xs.length + 1) % 8) % 8)) 0 ⟨_, _, _, _, upd_self1 (slice_len (by rw [List.replicate_zero, List.append_nil]; rfl)), L, (by omega), (by rw [List.replicate_zero, List.append_nil]; exact o10), (f10.mono (by omega)), (g10.mono (by omega)), (Nat.zero_le _)⟩ ?_
  rintro k E wl9 ⟨E0, pz3, cz3, Fz3, rfl, L, Lz, oz3, fz3, gz3, hk⟩
  have Lz0 := L.size
  have hlen : (xs ++ [1] ++ List.replicate k 0).length = xs.length + 1 + k := by rw [List.length_append, List.length_append, List.length_replicate]; rfl
  refine wp_seq ?_
  refine wp_seq ?_
  refine c_reg ?_
  refine s0 (x_move (v := .slice _ _ _) rfl) ?_
  refine s0 (x_lensl un40FN rfl) ?_
  refine s0 (x_rem rfl rfl (by omega) (by omega)) ?_
  refine sb (x_neq rfl rfl) (fun h14 => ?_) (fun h14 => ?_)
  · refine c_end ?_
    refine n_then ?_
    refine c_true rfl ?_
    refine c_skipn ?_
    refine n_then ?_
    refine wp_block ?_
    refine c_reg ?_
    refine s0 (x_move (v := .slice _ _ _) rfl) ?_
    refine s_bsi (xs := [_]) so40FN zr3FN (pts_cons rfl pts_nil) rfl rfl rfl ?_
    intro p16 F16 w10 l11 o16 f16 g16
    have z_l11 := l11.size
    have L := L.tr l11.up
    have oz3 := oz3.ext l11
    have hn16 := o16.n1
    refine s_appi (B := w.heap.size) so40FN zr3FN rfl rfl (xs := _) oz3 o16.sl fz3 (by omega) (by omega) (by omega) ?_
    intro p17 c17 F17 w12 l13 o17 hn17 k17 f17 g17
    have z_l13 := l13.size
    have L := L.freshL l13 fz3 (by omega)
    have d16_17 : Dj F16 F17 := k17.dj (by first | assumption | exact Dj.symm (by assumption) | exact dj_of f16 g16 fz3 gz3 (by omega)) g16 (by omega)
    have o16 := o16.exm l13 (by first | assumption | exact Dj.symm (by assumption) | exact dj_of fz3 gz3 f16 g16 (by omega))
    refine s0 (x_assign (v := .slice _ _ _) rfl) ?_
    refine c_end ?_
    refine n_block ?_
    exact c_round (g' := k + 1) (by omega) ⟨_, _, _, _, upd_self1 (by (rw [List.replicate_succ', ← List.append_assoc]); rfl), L, (by omega), (by (rw [List.replicate_succ', ← List.append_assoc]); exact o17), (f17.mono (by omega)), (g17.mono (by omega)), (by omega)⟩
  · refine c_end ?_
    refine n_then ?_
    refine c_false rfl ?_
    refine wp_exit (e_then (e_then (e_here ?_)))
    refine n_then ?_
    refine wp_seq ?_
    refine c_reg ?_
    refine s0 (x_move (v := .slice _ _ _) rfl) ?_
    refine sr (zcall cl205FN rfl) (s_bytesOf _ _ _ _ oz3.sl (by omega)) ?_
    intro w14 l15
    have z_l15 := l15.size
    have L := L.tr l15.up
    have oz3 := oz3.ext l15
    refine s0 (x_move (v := .tuple _) rfl) ?_
    refine s0 (x_extract rfl rfl) ?_
    refine sb (x_extract rfl rfl) (fun h22 => ?_) (fun h22 => ?_)
    · refine s0 (x_assign (v := .string _) rfl) ?_
      refine s0 (x_assign (v := .bool _) rfl) ?_
      refine c_end ?_
      refine n_then ?_
      refine wp_seq ?_
      refine wp_seq ?_
      refine c_reg ?_
      refine s0 (x_move (v := .bool _) rfl) ?_
      refine s0 (x_not rfl) ?_
      refine c_end ?_
      refine n_then ?_
      refine c_false rfl ?_
      refine c_skipn ?_
      refine n_then ?_
      refine wp_seq ?_
      refine c_reg ?_
      refine s0 (x_move (v := .string _) rfl) ?_
      refine s0 (x_assign (v := .string _) rfl) ?_
      refine c_end ?_
      refine n_then ?_
      refine wp_ret ?_
      refine f_ret rfl rfl ?_
      have hke : k = (8 - (xs ++ [1]).length % 8) % 8 := by rw [List.length_append]; show k = (8 - (xs.length + 1) % 8) % 8; omega
      exact ⟨ret_val (show Value.string (bytesStr (xs ++ [1] ++ List.replicate k 0)) = .string (stopped xs) by unfold stopped pad8; rw [← hke]), L⟩
    · refine s0 (x_assign (v := .string _) rfl) ?_
      refine s0 (x_assign (v := .bool _) rfl) ?_
      refine c_end ?_
      refine n_then ?_
      refine wp_seq ?_
      refine wp_seq ?_
      refine c_reg ?_
      refine s0 (x_move (v := .bool _) rfl) ?_
      refine s0 (x_not rfl) ?_
      refine c_end ?_
      refine n_then ?_
      refine c_true rfl ?_
      refine wp_seq ?_
      refine c_reg ?_
      refine s0 (x_assign (v := .string _) rfl) ?_
      refine c_end ?_
      refine n_then ?_
      refine wp_ret (r_then ?_)
      refine f_ret rfl rfl ?_
      have hke : k = (8 - (xs ++ [1]).length % 8) % 8 := by rw [List.length_append]; show k = (8 - (xs.length + 1) % 8) % 8; omega
      exact ⟨ret_val (show Value.string ⟨#[]⟩ = .string (stopped xs) by unfold stopped pad8 bytesStr; rw [← hke, if_neg h22]), L⟩

end Go.Proofs.Ytnehdmcilmlchaa
