/- What each function of this part returns, for every argument that meets its premises. -/
import Derived.Test.YtdnckakaoageoaaProg
import Derived.Test.YtdnckakaoageoaaVSxF
import Derived.Test.YtdnckakaoageoaaVPlY
import Derived.Test.YtdnckakaoageoaaVF1
import Derived.Test.YtdnckakaoageoaaVF4
import Derived.Test.YtdnckakaoageoaaVF7
import Derived.Test.YtdnckakaoageoaaVF8
import Derived.Test.YtdnckakaoageoaaVF9
import Derived.Test.YtdnckakaoageoaaVFB
import Derived.Test.YtdnckakaoageoaaVFC
namespace Go.Proofs.Ytdnckakaoageoaa
open Go.Sx Go.Pl Go.RowKit
theorem bd90FJ : Built Try.prog 90 [.int .i64 0, .int .i64 0] #[(0, 1), (1, 1)] := ⟨_, Try.underlying90, by unfold ZeroV; kernel_rfl, fun w => by kernel_rfl⟩
theorem cl152FJ : Callable Try.prog 152 := callable Try.func152 (by kernel_rfl) rfl
theorem cl188FJ : Callable Try.prog 188 := callable Try.func188 (by kernel_rfl) rfl
theorem sc22FJ : Sc Try.prog 22 := ⟨(.slice 3), by kernel_rfl, trivial⟩
theorem sc3FJ : Sc Try.prog 3 := ⟨(.int .i64), by kernel_rfl, trivial⟩
theorem so183FJ : SliceOf Try.prog 183 22 1 24 := ⟨by kernel_rfl, by kernel_rfl⟩
theorem so22FJ : SliceOf Try.prog 22 3 1 8 := ⟨by kernel_rfl, by kernel_rfl⟩
theorem so86FJ : SliceOf Try.prog 86 90 2 16 := ⟨by kernel_rfl, by kernel_rfl⟩
theorem un183FJ : Try.prog.underlying 183 = some (.slice 22) := by kernel_rfl
theorem un22FJ : Try.prog.underlying 22 = some (.slice 3) := by kernel_rfl
theorem un3FJ : Try.prog.underlying 3 = some (.int .i64) := by kernel_rfl
theorem zr3FJ : ZeroV Try.prog 3 [.int .i64 0] := by unfold ZeroV; kernel_rfl
theorem zr90FJ : ZeroV Try.prog 90 [.int .i64 0, .int .i64 0] := by unfold ZeroV; kernel_rfl
/-- spec.l23Side -/
theorem s_side_t (w : World) :
    Calls Try.prog 116 [.bool true].toArray w (Ret w (.int .i64 (side true))) := by
  have L : Exm [] w w := Exm.rfl'
  refine enter (n := 4) Try.func116 rfl rfl rfl ?_
  refine wp_seq ?_
  refine c_reg ?_
  refine s0 (x_assign (v := .int _ _) rfl) ?_
  refine c_end ?_
  refine n_then ?_
  refine wp_seq ?_
  refine wp_seq ?_
  refine c_reg ?_
  refine s0 (x_move (v := .bool _) rfl) ?_
  refine c_end ?_
  refine n_then ?_
  refine c_true rfl ?_
  refine wp_seq ?_
  refine c_reg ?_
  refine s0 (x_assign (v := .int _ _) rfl) ?_
  refine c_end ?_
  refine n_then ?_
  refine wp_ret (r_then ?_)
  refine f_ret rfl rfl ?_
  exact ⟨rfl, L⟩

/-- spec.l23Side -/
theorem s_side_f (w : World) :
    Calls Try.prog 116 [.bool false].toArray w (Ret w (.int .i64 (side false))) := by
  have L : Exm [] w w := Exm.rfl'
  refine enter (n := 4) Try.func116 rfl rfl rfl ?_
  refine wp_seq ?_
  refine c_reg ?_
  refine s0 (x_assign (v := .int _ _) rfl) ?_
  refine c_end ?_
  refine n_then ?_
  refine wp_seq ?_
  refine wp_seq ?_
  refine c_reg ?_
  refine s0 (x_move (v := .bool _) rfl) ?_
  refine c_end ?_
  refine n_then ?_
  refine c_false rfl ?_
  refine c_skipn ?_
  refine n_then ?_
  refine wp_seq ?_
  refine c_reg ?_
  refine s0 (x_assign (v := .int _ _) rfl) ?_
  refine c_end ?_
  refine n_then ?_
  refine wp_ret ?_
  refine f_ret rfl rfl ?_
  exact ⟨rfl, L⟩

theorem s_side (e : Bool) (w : World) : Calls Try.prog 116 [.bool e].toArray w (Ret w (.int .i64 (side e))) := by
  cases e
  · exact s_side_f w
  · exact s_side_t w

/-- slices.Grow[[]int,int] -/
theorem g_grow (n : Int) (w : World) (hn : 0 ≤ n ∧ n ≤ 1099511627776) :
    Calls Try.prog 188 [.slice none 0 0, .int .i64 n].toArray w (RetP w fun v w' => ∃ p c F, v = .slice p 0 c ∧ Own w' p 0 c 3 1 (ic []) F ∧ Fr w.heap.size F) := by
  have L : Exm [] w w := Exm.rfl'
  refine enter (n := 27) Try.func188 rfl rfl rfl ?_
  refine wp_seq ?_
  refine c_reg ?_
  refine s0 (x_assign (v := .slice _ _ _) rfl) ?_
  refine c_end ?_
  refine n_then ?_
  refine wp_seq ?_
  refine wp_seq ?_
  refine c_reg ?_
  refine s0 (x_move (v := .int _ _) rfl) ?_
  refine sb (x_lss rfl rfl) (fun h6 => ?_) (fun h6 => ?_)
  · omega
  · refine c_end ?_
    refine n_then ?_
    refine c_false rfl ?_
    refine c_skipn ?_
    refine n_then ?_
    refine wp_seq ?_
    refine wp_seq ?_
    refine c_reg ?_
    refine s0 (x_move (v := .int _ _) rfl) ?_
    refine s0 (x_move (v := .slice _ _ _) rfl) ?_
    refine s0 (x_capsl un22FJ rfl) ?_
    refine s0 (x_move (v := .slice _ _ _) rfl) ?_
    refine s0 (x_lensl un22FJ rfl) ?_
    refine s0 (x_sub rfl rfl (by omega)) ?_
    refine s0 (x_sub rfl rfl (by omega)) ?_
    refine s0 (x_assign (v := .int _ _) rfl) ?_
    refine c_end ?_
    refine n_then ?_
    refine wp_seq ?_
    refine c_reg ?_
    refine s0 (x_move (v := .int _ _) rfl) ?_
    refine sb (x_gtr rfl rfl) (fun h16 => ?_) (fun h16 => ?_)
    · refine c_end ?_
      refine n_then ?_
      refine c_true rfl ?_
      refine c_reg ?_
      refine s0 (x_move (v := .slice _ _ _) rfl) ?_
      refine s0 (x_move (v := .slice _ _ _) rfl) ?_
      refine s0 (x_capsl un22FJ rfl) ?_
      refine s0 (x_nilcut so22FJ rfl rfl) ?_
      refine s0 (x_move (v := .int _ _) rfl) ?_
      refine s_appz (B := w.heap.size) so22FJ zr3FJ un3FJ rfl rfl (xs := []) Own.nil Fr.no (by omega) (by omega) (by omega) (by omega) ?_
      intro p22 c22 F22 w1 l2 o22 hn22 k22 f22 g22
      have z_l2 := l2.size
      have L := L.freshL l2 Fr.no (by omega)
      refine s0 (x_move (v := .slice _ _ _) rfl) ?_
      refine s0 (x_lensl un22FJ rfl) ?_
      refine s0 (x_cuthr so22FJ o22.sl.r (by omega) rfl rfl (by omega) (by omega)) ?_
      refine s0 (x_assign (v := .slice _ _ _) rfl) ?_
      refine c_end ?_
      refine n_then ?_
      refine wp_seq ?_
      refine c_reg ?_
      refine s0 (x_move (v := .slice _ _ _) rfl) ?_
      refine s0 (x_assign (v := .slice _ _ _) rfl) ?_
      refine c_end ?_
      refine n_then ?_
      refine wp_ret ?_
      refine f_ret rfl rfl ?_
      exact ⟨_, rfl, L, _, _, _, slice_len (by simp), o22.cut0, f22.mono (by omega)⟩
    · refine c_end ?_
      refine n_then ?_
      refine c_false rfl ?_
      refine c_skipn ?_
      refine n_then ?_
      refine wp_seq ?_
      refine c_reg ?_
      refine s0 (x_move (v := .slice _ _ _) rfl) ?_
      refine s0 (x_assign (v := .slice _ _ _) rfl) ?_
      refine c_end ?_
      refine n_then ?_
      refine wp_ret ?_
      refine f_ret rfl rfl ?_
      exact ⟨_, rfl, L, none, 0, [], rfl, Own.nil, Fr.no⟩

/-- slices.Concat[[]int,int] -/
theorem g_concat (p : Option Addr) (n c : Nat) (ls : List Li) (w : World) (hp : RdL w p n c ls) (hl : n ≤ 65536) (hb : ∀ x ∈ ls, x.xs.length ≤ 65536) :
    Calls Try.prog 95 [.slice p n c].toArray w (RetP w fun v w' => ∃ p c F, v = .slice p (ls.flatMap Li.xs).length c ∧ Own w' p (ls.flatMap Li.xs).length c 3 1 (ic (ls.flatMap Li.xs)) F ∧ Fr w.heap.size F) := by
  have hn : n = ls.length := by have := hp.1.len; rw [rows_length lrow_len] at this; omega
  have L : Exm [] w w := Exm.rfl'
  refine enter (n := 36) Try.func95 rfl rfl rfl ?_
  refine wp_seq ?_
  refine c_reg ?_
  refine s0 (x_assign (v := .slice _ _ _) rfl) ?_
  refine c_end ?_
  refine n_then ?_
  refine wp_seq ?_
  refine c_reg ?_
  refine s0 (x_assign (v := .int _ _) rfl) ?_
  refine c_end ?_
  refine n_then ?_
  refine wp_seq ?_
  refine wp_seq ?_
  refine c_reg ?_
  refine s0 (x_move (v := .slice _ _ _) rfl) ?_
  refine s0 (x_lensl un183FJ rfl) ?_
  refine s0 (x_move (v := .int _ _) rfl) ?_
  refine c_end ?_
  refine n_then ?_
  refine wp_block ?_
  refine c_loop (γ := Nat × Int) (fun g => n - g.1) (fun (g : Nat × Int) E wl => ∃ E0, E = upd (upd (upd (upd (upd E0 0 (.slice p n c)) 3 (.int .i64 g.2)) 9 (.slice p n c)) 10 (.int .i64 n)) 11 (.int .i64 (g.1 : Int)) ∧ (Exm [] w wl) ∧ ((g.1 : Int) ≤ n) ∧ (0 ≤ g.2 ∧ g.2 ≤ 65536 * (g.1 : Int))) (0, 0) ⟨_, upd_self5 rfl rfl rfl rfl rfl, L, (by simp), (by simp)⟩ ?_
  rintro g E wl1 ⟨E0, rfl, L, hk, hs⟩
  have Lz0 := L.size
  refine wp_seq ?_
  refine c_reg ?_
  refine sb (x_lss rfl rfl) (fun h12 => ?_) (fun h12 => ?_)
  · refine c_end ?_
    refine n_then ?_
    refine wp_seq ?_
    refine c_true rfl ?_
    refine c_skipn ?_
    refine n_then ?_
    refine wp_seq ?_
    refine wp_block ?_
    refine wp_seq ?_
    refine c_reg ?_
    refine s0 (x_idx so183FJ rfl rfl hp.1 (by decide) (by omega) (by omega)) ?_
    refine st (x_ldf (k := 0) lrow_len sc22FJ rfl (hp.1.ext L) (by omega) (by omega) (by decide) rfl) ?_
    refine s0 (x_assign (v := .slice _ _ _) rfl) ?_
    refine c_end ?_
    refine n_then ?_
    refine wp_seq ?_
    have hbk := hb _ (getD_mem (xs := ls) (i := (g.1 : Int)) (by omega) (by omega))
    refine c_reg ?_
    refine s0 (x_move (v := .int _ _) rfl) ?_
    refine s0 (x_move (v := .slice _ _ _) rfl) ?_
    refine s0 (x_lensl un22FJ rfl) ?_
    refine s0 (x_add rfl rfl (by omega)) ?_
    refine s0 (x_assign (v := .int _ _) rfl) ?_
    refine c_end ?_
    refine n_then ?_
    refine wp_seq ?_
    refine c_reg ?_
    refine s0 (x_move (v := .int _ _) rfl) ?_
    refine sb (x_lss rfl rfl) (fun h20 => ?_) (fun h20 => ?_)
    · omega
    · refine c_end ?_
      refine n_then ?_
      refine c_false rfl ?_
      refine c_skipn ?_
      refine n_block ?_
      refine n_then ?_
      refine c_reg ?_
      refine s0 (x_add rfl rfl (by omega)) ?_
      refine s0 (x_move (v := .int _ _) rfl) ?_
      refine c_end ?_
      exact c_round (g' := (g.1 + 1, _)) (by show n - (g.1 + 1) < n - g.1; omega) ⟨_, upd_self5 rfl rfl rfl rfl (vint (by show (g.1 : Int) + 1 = ((g.1 + 1 : Nat) : Int); omega)), L, (by show ((g.1 + 1 : Nat) : Int) ≤ _; omega), (⟨by show 0 ≤ g.2 + _; omega, by show g.2 + _ ≤ 65536 * ((g.1 + 1 : Nat) : Int); omega⟩)⟩
  · refine c_end ?_
    refine n_then ?_
    refine wp_seq ?_
    refine c_false rfl ?_
    refine wp_exit (e_then (e_then (e_here ?_)))
    refine n_then ?_
    refine wp_seq ?_
    refine c_reg ?_
    refine s0 (x_move (v := .int _ _) rfl) ?_
    refine sp (zcall cl188FJ rfl) (g_grow _ _ (by omega)) ?_
    rintro v24 w2 l3 ⟨p24, c24, F24, rfl, o24, f24⟩
    have z_l3 := l3.size
    have L := L.tr l3.up
    have g24 := o24.lt
    refine s0 (x_assign (v := .slice _ _ _) rfl) ?_
    refine c_end ?_
    refine n_then ?_
    refine wp_seq ?_
    refine wp_seq ?_
    refine c_reg ?_
    refine s0 (x_move (v := .slice _ _ _) rfl) ?_
    refine s0 (x_lensl un183FJ rfl) ?_
    refine s0 (x_move (v := .int _ _) rfl) ?_
    refine c_end ?_
    refine n_then ?_
    refine wp_block ?_
    refine c_loop (γ := Nat) (fun k => n - k) (fun (k : Nat) E wl => ∃ E0 pz6 cz6 Fz6, E = upd (upd (upd (upd E0 6 (.slice pz6 (((ls.take k).flatMap Li.xs).length) cz6)) 25 (.slice p n c)) 26 (.int .i64 n)) 27 (.int .i64 (k : Int)) ∧ (Exm [] w wl) ∧ (w2.heap.size ≤ wl.heap.size) ∧ (Own wl pz6 (((ls.take k).flatMap Li.xs).length) cz6 3 1 (ic ((ls.take k).flatMap Li.xs)) Fz6) ∧ (Fr (wl1.heap.size) Fz6) ∧ (Lt Fz6 wl.heap.size) ∧ ((k : Int) ≤ n) ∧ (((ls.take k).flatMap Li.xs).length ≤ 65536 * k)) 0 ⟨_, _, _, _, upd_self4 rfl rfl rfl rfl, L, (by omega), o24, (f24.mono (by omega)), (g24.mono (by omega)), (by omega), (by simp)⟩ ?_
    rintro k E wl4 ⟨E0, pz6, cz6, Fz6, rfl, L, Lz, oz6, fz6, gz6, hk, hlen⟩
    have Lz0 := L.size
    refine wp_seq ?_
    refine c_reg ?_
    refine sb (x_lss rfl rfl) (fun h28 => ?_) (fun h28 => ?_)
    · refine c_end ?_
      refine n_then ?_
      refine wp_seq ?_
      refine c_true rfl ?_
      refine c_skipn ?_
      refine n_then ?_
      refine wp_seq ?_
      refine wp_block ?_
      refine wp_seq ?_
      refine c_reg ?_
      refine s0 (x_idx so183FJ rfl rfl hp.1 (by decide) (by omega) (by omega)) ?_
      refine st (x_ldf (k := 0) lrow_len sc22FJ rfl (hp.1.ext L) (by omega) (by omega) (by decide) rfl) ?_
      refine s0 (x_assign (v := .slice _ _ _) rfl) ?_
      refine c_end ?_
      refine n_then ?_
      have hbk := hb _ (getD_mem (xs := ls) (i := (k : Int)) (by omega) (by omega))
      refine c_reg ?_
      refine s0 (x_move (v := .slice _ _ _) rfl) ?_
      refine s0 (x_move (v := .slice _ _ _) rfl) ?_
      refine s_appi (B := wl1.heap.size) so22FJ zr3FJ rfl rfl (xs := _) oz6 ((hp.2 _ (getD_mem (by omega) (by omega))).ext L) fz6 (by omega) (by omega) (by omega) ?_
      intro p33 c33 F33 w5 l6 o33 hn33 k33 f33 g33
      have z_l6 := l6.size
      have L := L.freshL l6 fz6 (by omega)
      refine s0 (x_assign (v := .slice _ _ _) rfl) ?_
      refine c_end ?_
      refine n_block ?_
      refine n_then ?_
      refine c_reg ?_
      refine s0 (x_add rfl rfl (by omega)) ?_
      refine s0 (x_move (v := .int _ _) rfl) ?_
      refine c_end ?_
      rw [Int.toNat_natCast] at o33 hbk
      have hfs := flat_take_succ Li.xs ls (k := k) (by omega)
      exact c_round (g' := k + 1) (by omega) ⟨_, _, _, _, upd_self4 (slice_len (by rw [hfs, Int.toNat_natCast])) rfl rfl (vint (by omega)), L, (by omega), (own_eq hfs.symm o33), (f33.mono (by omega)), (g33.mono (by omega)), (by omega), (by rw [hfs, List.length_append]; omega)⟩
    · refine c_end ?_
      refine n_then ?_
      refine wp_seq ?_
      refine c_false rfl ?_
      refine wp_exit (e_then (e_then (e_here ?_)))
      refine n_then ?_
      refine wp_seq ?_
      refine c_reg ?_
      refine s0 (x_move (v := .slice _ _ _) rfl) ?_
      refine s0 (x_assign (v := .slice _ _ _) rfl) ?_
      refine c_end ?_
      refine n_then ?_
      refine wp_ret ?_
      refine f_ret rfl rfl ?_
      obtain hke : k = ls.length := by omega
      have hall : (ls.take k).flatMap Li.xs = ls.flatMap Li.xs := by rw [hke, List.take_length]
      exact ⟨_, rfl, L, _, _, _, slice_len (by rw [hall]), own_eq hall oz6, fz6.mono (by omega)⟩

/-- impl.PairsOf -/
theorem i_pairsOf (p : Option Addr) (xs : List Int) (c : Nat) (w : World) (hp : Sl w p xs.length c 1 (ic xs)) (hl : xs.length ≤ 1099511627776) :
    Calls Try.prog 58 [.slice p xs.length c].toArray w (RetP w fun v w' => ∃ p c F, v = .slice p (pairsOf xs).length c ∧ Own w' p (pairsOf xs).length c 90 2 ((pairsOf xs).flatMap erow) F ∧ Fr w.heap.size F) := by
  have L : Exm [] w w := Exm.rfl'
  refine enter (n := 29) Try.func58 rfl rfl rfl ?_
  refine wp_seq ?_
  refine c_reg ?_
  refine s0 (x_assign (v := .slice _ _ _) rfl) ?_
  refine c_end ?_
  refine n_then ?_
  refine wp_seq ?_
  refine wp_seq ?_
  refine c_reg ?_
  refine s0 (x_move (v := .slice _ _ _) rfl) ?_
  refine srb (zcall cl152FJ rfl) (i_levelsOk _ _ _ _ (hp.ext L) (by omega)) (fun h8 w1 l2 => ?_) (fun h8 w1 l2 => ?_)
  · have z_l2 := l2.size
    have L := L.tr l2.up
    refine s0 (x_not rfl) ?_
    refine c_end ?_
    refine n_then ?_
    refine c_false rfl ?_
    refine c_skipn ?_
    refine n_then ?_
    refine wp_seq ?_
    refine c_reg ?_
    refine s_bs0 so86FJ ?_
    intro p10 F10 w3 l4 o10 f10 g10
    have o10 : Own w3 p10 0 0 90 2 (([] : List _).flatMap erow) F10 := o10
    have z_l4 := l4.size
    have L := L.tr l4.up
    refine s0 (x_assign (v := .slice _ _ _) rfl) ?_
    refine s0 (x_assign (v := .int _ _) rfl) ?_
    refine c_end ?_
    refine n_then ?_
    refine wp_seq ?_
    refine wp_seq ?_
    refine c_reg ?_
    refine s0 (x_move (v := .slice _ _ _) rfl) ?_
    refine s0 (x_lensl un22FJ rfl) ?_
    refine s0 (x_move (v := .int _ _) rfl) ?_
    refine c_end ?_
    refine n_then ?_
    refine wp_block ?_
    refine c_loop (γ := Nat) (fun k => xs.length - k) (fun (k : Nat) E wl => ∃ E0 pz3 cz3 Fz3, E = upd (upd (upd (upd (upd E0 3 (.slice pz3 (((prS xs k).1).length) cz3)) 4 (.int .i64 (prS xs k).2)) 11 (.slice p xs.length c)) 12 (.int .i64 xs.length)) 13 (.int .i64 (k : Int)) ∧ (Exm [] w wl) ∧ (w3.heap.size ≤ wl.heap.size) ∧ (Own wl pz3 (((prS xs k).1).length) cz3 90 2 (((prS xs k).1).flatMap erow) Fz3) ∧ (Fr (w1.heap.size) Fz3) ∧ (Lt Fz3 wl.heap.size) ∧ ((k : Int) ≤ xs.length)) 0 ⟨_, _, _, _, upd_self5 rfl rfl rfl rfl rfl, L, (by omega), o10, (f10.mono (by omega)), (g10.mono (by omega)), (by omega)⟩ ?_
    rintro k E wl5 ⟨E0, pz3, cz3, Fz3, rfl, L, Lz, oz3, fz3, gz3, hk⟩
    have Lz0 := L.size
    have hpr := prS_range xs k
    refine wp_seq ?_
    refine c_reg ?_
    refine sb (x_lss rfl rfl) (fun h14 => ?_) (fun h14 => ?_)
    · refine c_end ?_
      refine n_then ?_
      refine wp_seq ?_
      refine c_true rfl ?_
      refine c_skipn ?_
      refine n_then ?_
      refine wp_seq ?_
      refine wp_block ?_
      refine wp_seq ?_
      refine c_reg ?_
      refine s0 (x_idx so22FJ rfl rfl hp (by decide) (by omega) (by omega)) ?_
      refine st (x_ldi sc3FJ rfl (hp.ext L) (by omega) (by omega)) ?_
      refine s0 (x_assign (v := .int _ _) rfl) ?_
      refine c_end ?_
      refine n_then ?_
      refine wp_seq ?_
      refine wp_seq ?_
      refine c_reg ?_
      refine s0 (x_move (v := .int _ _) rfl) ?_
      refine sb (x_eql rfl rfl) (fun h18 => ?_) (fun h18 => ?_)
      · refine c_end ?_
        refine n_then ?_
        refine c_true rfl ?_
        refine wp_seq ?_
        refine c_reg ?_
        refine s0 (x_move (v := .int _ _) rfl) ?_
        refine s0 (x_add rfl rfl (by omega)) ?_
        refine s0 (x_assign (v := .int _ _) rfl) ?_
        refine c_end ?_
        refine n_then ?_
        refine wp_exit (e_then (e_here ?_))
        refine n_then ?_
        refine c_reg ?_
        refine s0 (x_add rfl rfl (by omega)) ?_
        refine s0 (x_move (v := .int _ _) rfl) ?_
        refine c_end ?_
        rw [Int.toNat_natCast] at h18
        try rw [Int.toNat_natCast] at o26
        exact c_round (g' := k + 1) (by omega) ⟨_, _, _, _, upd_self5 (by first | (rw [← (prS_zero h18).1]; rfl) | (rw [← (prS_more h18).1]; exact slice_len (by simp only [List.length_append, List.length_cons, List.length_nil]))) (by first | exact vint (prS_zero h18).2 | exact vint (prS_more h18).2) rfl rfl (vint (by omega)), L, (by omega), (by first | (rw [← (prS_zero h18).1]; exact oz3) | (rw [← (prS_more h18).1]; exact o26)), (fz3.mono (by omega)), (gz3.mono (by omega)), (by omega)⟩
      · refine c_end ?_
        refine n_then ?_
        refine c_false rfl ?_
        refine c_skipn ?_
        refine n_then ?_
        refine wp_seq ?_
        refine c_reg ?_
        refine s0 (x_move (v := .slice _ _ _) rfl) ?_
        refine s0 (x_move (v := .int _ _) rfl) ?_
        refine s0 (x_move (v := .int _ _) rfl) ?_
        refine s0 (x_build (cs := [.int _ _, .int _ _]) bd90FJ (pts_cons (v := .int _ _) rfl (pts_cons (v := .int _ _) rfl pts_nil)) rfl) ?_
        refine s_bsr (g := fun x => .agg (erow x).toArray) (xs := [(_, _)]) (fun _ => rfl) erow_len so86FJ zr90FJ (pts_cons rfl pts_nil) rfl rfl rfl ?_
        intro p25 F25 w6 l7 o25 f25 g25
        have z_l7 := l7.size
        have L := L.tr l7.up
        have oz3 := oz3.ext l7
        have hn25 := o25.nr erow_len (by decide)
        refine s_appr (B := w1.heap.size) (f := erow) erow_len erow_one (by decide) so86FJ zr90FJ rfl rfl rfl oz3 o25.sl fz3 (by omega) (by omega) (by omega) ?_
        intro p26 c26 F26 w8 l9 o26 hn26 k26 f26 g26
        have z_l9 := l9.size
        have L := L.freshL l9 fz3 (by omega)
        have d25_26 : Dj F25 F26 := k26.dj (by first | assumption | exact Dj.symm (by assumption) | exact dj_of f25 g25 fz3 gz3 (by omega)) g25 (by omega)
        have o25 := o25.exm l9 (by first | assumption | exact Dj.symm (by assumption) | exact dj_of fz3 gz3 f25 g25 (by omega))
        refine s0 (x_assign (v := .slice _ _ _) rfl) ?_
        refine c_end ?_
        refine n_then ?_
        refine c_reg ?_
        refine s0 (x_assign (v := .int _ _) rfl) ?_
        refine c_end ?_
        refine n_block ?_
        refine n_then ?_
        refine c_reg ?_
        refine s0 (x_add rfl rfl (by omega)) ?_
        refine s0 (x_move (v := .int _ _) rfl) ?_
        refine c_end ?_
        rw [Int.toNat_natCast] at h18
        try rw [Int.toNat_natCast] at o26
        exact c_round (g' := k + 1) (by omega) ⟨_, _, _, _, upd_self5 (by first | (rw [← (prS_zero h18).1]; rfl) | (rw [← (prS_more h18).1]; exact slice_len (by simp only [List.length_append, List.length_cons, List.length_nil]))) (by first | exact vint (prS_zero h18).2 | exact vint (prS_more h18).2) rfl rfl (vint (by omega)), L, (by omega), (by first | (rw [← (prS_zero h18).1]; exact oz3) | (rw [← (prS_more h18).1]; exact o26)), (f26.mono (by omega)), (g26.mono (by omega)), (by omega)⟩
    · refine c_end ?_
      refine n_then ?_
      refine wp_seq ?_
      refine c_false rfl ?_
      refine wp_exit (e_then (e_then (e_here ?_)))
      refine n_then ?_
      refine wp_seq ?_
      refine c_reg ?_
      refine s0 (x_move (v := .slice _ _ _) rfl) ?_
      refine s0 (x_assign (v := .slice _ _ _) rfl) ?_
      refine c_end ?_
      refine n_then ?_
      refine wp_ret ?_
      refine f_ret rfl rfl ?_
      rw [pairs_yes h8 (k := k) (by omega)]
      exact ⟨_, rfl, L, _, _, _, rfl, oz3, fz3.mono (by omega)⟩
  · have z_l2 := l2.size
    have L := L.tr l2.up
    refine s0 (x_not rfl) ?_
    refine c_end ?_
    refine n_then ?_
    refine c_true rfl ?_
    refine wp_seq ?_
    refine c_reg ?_
    refine s0 (x_assign (v := .slice _ _ _) rfl) ?_
    refine c_end ?_
    refine n_then ?_
    refine wp_ret (r_then ?_)
    refine f_ret rfl rfl ?_
    rw [pairs_no h8]
    exact ⟨_, rfl, L, none, 0, [], rfl, Own.nil, Fr.no⟩

end Go.Proofs.Ytdnckakaoageoaa
