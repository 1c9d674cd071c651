/- What each function of this part returns, for every argument that meets its premises. -/
import Derived.Test.YtdnckakaoageoaaProg
import Derived.Test.YtdnckakaoageoaaVSxF
import Derived.Test.YtdnckakaoageoaaVPlX
import Derived.Test.YtdnckakaoageoaaVF1
import Derived.Test.YtdnckakaoageoaaVF8
import Derived.Test.YtdnckakaoageoaaVF9
namespace Go.Proofs.Ytdnckakaoageoaa
open Go.Sx Go.Pl Go.RowKit
theorem cl102FC : Callable Try.prog 102 := callable Try.func102 (by kernel_rfl) rfl
theorem cl105FC : Callable Try.prog 105 := callable Try.func105 (by kernel_rfl) rfl
theorem so22FC : SliceOf Try.prog 22 3 1 8 := ⟨by kernel_rfl, by kernel_rfl⟩
theorem un22FC : Try.prog.underlying 22 = some (.slice 3) := by kernel_rfl
theorem zr3FC : ZeroV Try.prog 3 [.int .i64 0] := by unfold ZeroV; kernel_rfl
/-- slices.Clone[[]int,int] -/
theorem g_clone (p : Option Addr) (xs : List Int) (c : Nat) (w : World) (hp : Sl w p xs.length c 1 (ic xs)) (hl : xs.length ≤ 1099511627776) :
    Calls Try.prog 102 [.slice p xs.length c].toArray w (RetP w fun v w' => ∃ p c F, v = .slice p (xs).length c ∧ Own w' p (xs).length c 3 1 (ic (xs)) F ∧ Fr w.heap.size F) := by
  have L : Exm [] w w := Exm.rfl'
  refine enter (n := 8) Try.func102 rfl rfl rfl ?_
  refine wp_seq ?_
  refine c_reg ?_
  refine s0 (x_assign (v := .slice _ _ _) rfl) ?_
  refine c_end ?_
  refine n_then ?_
  refine wp_seq ?_
  refine wp_seq ?_
  refine c_reg ?_
  refine s0 (x_move (v := .slice _ _ _) rfl) ?_
  refine sb (x_eqnil un22FC rfl rfl) (fun h4 => ?_) (fun h4 => ?_)
  · refine c_end ?_
    refine n_then ?_
    refine c_true rfl ?_
    refine wp_seq ?_
    refine c_reg ?_
    refine s0 (x_assign (v := .slice _ _ _) rfl) ?_
    refine c_end ?_
    refine n_then ?_
    refine wp_ret (r_then ?_)
    refine f_ret rfl rfl ?_
    obtain ⟨hn0, hc0⟩ := hp.nil h4
    have hx0 : xs = [] := List.eq_nil_of_length_eq_zero hn0
    subst hx0
    exact ⟨_, rfl, L, none, 0, [], rfl, Own.nil, Fr.no⟩
  · refine c_end ?_
    refine n_then ?_
    refine c_false rfl ?_
    refine c_skipn ?_
    refine n_then ?_
    refine wp_seq ?_
    refine c_reg ?_
    refine s_bs0 so22FC ?_
    intro p5 F5 w1 l2 o5 f5 g5
    have o5 : Own w1 p5 0 0 3 1 (ic []) F5 := o5
    have z_l2 := l2.size
    have L := L.tr l2.up
    refine s0 (x_move (v := .slice _ _ _) rfl) ?_
    refine s_appi (B := w.heap.size) so22FC zr3FC rfl rfl (xs := _) o5 (hp.ext L) f5 (by omega) (by omega) (by omega) ?_
    intro p7 c7 F7 w3 l4 o7 hn7 k7 f7 g7
    have z_l4 := l4.size
    have L := L.freshL l4 f5 (by omega)
    refine s0 (x_assign (v := .slice _ _ _) rfl) ?_
    refine c_end ?_
    refine n_then ?_
    refine wp_ret ?_
    refine f_ret rfl rfl ?_
    exact ⟨_, rfl, L, _, _, _, rfl, o7, f7.mono (by omega)⟩

/-- impl.Stopped -/
theorem i_stopped (p : Option Addr) (xs : List Int) (c : Nat) (w : World) (hp : Sl w p xs.length c 1 (ic xs)) (hl : xs.length ≤ 1099511627000) :
    Calls Try.prog 29 [.slice p xs.length c].toArray w (Ret w (.string (stopped xs))) := by
  have L : Exm [] w w := Exm.rfl'
  refine enter (n := 23) Try.func29 rfl rfl rfl ?_
  refine wp_seq ?_
  refine c_reg ?_
  refine s0 (x_assign (v := .string _) rfl) ?_
  refine c_end ?_
  refine n_then ?_
  refine wp_seq ?_
  refine c_reg ?_
  refine s0 (x_move (v := .slice _ _ _) rfl) ?_
  refine sp (zcall cl102FC rfl) (g_clone _ _ _ _ (hp.ext L) (by omega)) ?_
  rintro v7 w1 l2 ⟨p7, c7, F7, rfl, o7, f7⟩
  have z_l2 := l2.size
  have L := L.tr l2.up
  have g7 := o7.lt
  refine s_bsi (xs := [_]) so22FC zr3FC (pts_cons rfl pts_nil) rfl rfl rfl ?_
  intro p8 F8 w3 l4 o8 f8 g8
  have z_l4 := l4.size
  have L := L.tr l4.up
  have o7 := o7.ext l4
  have hn8 := o8.n1
  refine s_appi (B := w.heap.size) so22FC zr3FC rfl rfl (xs := _) o7 o8.sl f7 (by omega) (by omega) (by omega) ?_
  intro p9 c9 F9 w5 l6 o9 hn9 k9 f9 g9
  have z_l6 := l6.size
  have L := L.freshL l6 f7 (by omega)
  have d8_9 : Dj F8 F9 := k9.dj (by first | assumption | exact Dj.symm (by assumption) | exact dj_of f8 g8 f7 g7 (by omega)) g8 (by omega)
  have o8 := o8.exm l6 (by first | assumption | exact Dj.symm (by assumption) | exact dj_of f7 g7 f8 g8 (by omega))
  refine s0 (x_assign (v := .slice _ _ _) rfl) ?_
  refine c_end ?_
  refine n_then ?_
  refine wp_seq ?_
  refine wp_block ?_
  refine c_loop (γ := Nat) (fun k => 8 - k) (fun (k : Nat) E wl => ∃ E0 pz3 cz3 Fz3, E = upd E0 3 (.slice pz3 ((xs ++ [1] ++ List.replicate k 0).length) cz3) ∧ (Exm [] w wl) ∧ (w5.heap.size ≤ wl.heap.size) ∧ (Own wl pz3 ((xs ++ [1] ++ List.replicate k 0).length) cz3 3 1 (ic (xs ++ [1] ++ List.replicate k 0)) Fz3) ∧ (Fr (w.heap.size) Fz3) ∧ (Lt Fz3 wl.heap.size) ∧ (k ≤ (8 - (xs.length + 1) % 8) % 8)) 0 ⟨_, _, _, _, upd_self1 (slice_len (by rw [List.replicate_zero, List.append_nil])), L, (by omega), (by rw [List.replicate_zero, List.append_nil]; exact o9), (f9.mono (by omega)), (g9.mono (by omega)), (Nat.zero_le _)⟩ ?_
  rintro k E wl7 ⟨E0, pz3, cz3, Fz3, rfl, L, Lz, oz3, fz3, gz3, hk⟩
  have Lz0 := L.size
  have hlen : (xs ++ [1] ++ List.replicate k 0).length = xs.length + 1 + k := by rw [List.length_append, List.length_append, List.length_replicate]; rfl
  refine wp_seq ?_
  refine wp_seq ?_
  refine c_reg ?_
  refine s0 (x_move (v := .slice _ _ _) rfl) ?_
  refine s0 (x_lensl un22FC rfl) ?_
  refine s0 (x_rem rfl rfl (by omega) (by omega)) ?_
  refine sb (x_neq rfl rfl) (fun h13 => ?_) (fun h13 => ?_)
  · refine c_end ?_
    refine n_then ?_
    refine c_true rfl ?_
    refine c_skipn ?_
    refine n_then ?_
    refine wp_block ?_
    refine c_reg ?_
    refine s0 (x_move (v := .slice _ _ _) rfl) ?_
    refine s_bsi (xs := [_]) so22FC zr3FC (pts_cons rfl pts_nil) rfl rfl rfl ?_
    intro p15 F15 w8 l9 o15 f15 g15
    have z_l9 := l9.size
    have L := L.tr l9.up
    have oz3 := oz3.ext l9
    have hn15 := o15.n1
    refine s_appi (B := w.heap.size) so22FC zr3FC rfl rfl (xs := _) oz3 o15.sl fz3 (by omega) (by omega) (by omega) ?_
    intro p16 c16 F16 w10 l11 o16 hn16 k16 f16 g16
    have z_l11 := l11.size
    have L := L.freshL l11 fz3 (by omega)
    have d15_16 : Dj F15 F16 := k16.dj (by first | assumption | exact Dj.symm (by assumption) | exact dj_of f15 g15 fz3 gz3 (by omega)) g15 (by omega)
    have o15 := o15.exm l11 (by first | assumption | exact Dj.symm (by assumption) | exact dj_of fz3 gz3 f15 g15 (by omega))
    refine s0 (x_assign (v := .slice _ _ _) rfl) ?_
    refine c_end ?_
    refine n_block ?_
    exact c_round (g' := k + 1) (by omega) ⟨_, _, _, _, upd_self1 (by (rw [List.replicate_succ', ← List.append_assoc]); rfl), L, (by omega), (by (rw [List.replicate_succ', ← List.append_assoc]); exact o16), (f16.mono (by omega)), (g16.mono (by omega)), (by omega)⟩
  · refine c_end ?_
    refine n_then ?_
    refine c_false rfl ?_
    refine wp_exit (e_then (e_then (e_here ?_)))
    refine n_then ?_
    refine wp_seq ?_
    refine c_reg ?_
    refine s0 (x_move (v := .slice _ _ _) rfl) ?_
    refine sr (zcall cl105FC rfl) (i_bytesOf _ _ _ _ oz3.sl (by omega)) ?_
    intro w12 l13
    have z_l13 := l13.size
    have L := L.tr l13.up
    have oz3 := oz3.ext l13
    refine s0 (x_move (v := .tuple _) rfl) ?_
    refine s0 (x_extract rfl rfl) ?_
    refine s0 (x_extract rfl rfl) ?_
    refine s0 (x_assign (v := .string _) rfl) ?_
    refine s0 (x_assign (v := .bool _) rfl) ?_
    refine c_end ?_
    refine n_then ?_
    refine wp_seq ?_
    refine c_reg ?_
    refine s0 (x_move (v := .string _) rfl) ?_
    refine s0 (x_assign (v := .string _) rfl) ?_
    refine c_end ?_
    refine n_then ?_
    refine wp_ret ?_
    refine f_ret rfl rfl ?_
    have hke : k = (8 - (xs ++ [1]).length % 8) % 8 := by rw [List.length_append]; show k = (8 - (xs.length + 1) % 8) % 8; omega
    exact ⟨by unfold stopped pad8; rw [← hke]; rfl, L⟩

end Go.Proofs.Ytdnckakaoageoaa
