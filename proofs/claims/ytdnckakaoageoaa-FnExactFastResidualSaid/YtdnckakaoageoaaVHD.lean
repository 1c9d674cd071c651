/- What each function of this part returns, for every argument that meets its premises. -/
import Derived.Test.YtdnckakaoageoaaProg
import Derived.Test.YtdnckakaoageoaaVSxF
import Derived.Test.YtdnckakaoageoaaVPlU
import Derived.Test.YtdnckakaoageoaaVF4
import Derived.Test.YtdnckakaoageoaaVF9
import Derived.Test.YtdnckakaoageoaaVFB
import Derived.Test.YtdnckakaoageoaaVFY
import Derived.Test.YtdnckakaoageoaaVFZ
import Derived.Test.YtdnckakaoageoaaVHA
import Derived.Test.YtdnckakaoageoaaVHC
import Derived.Test.YtdnckakaoageoaaVHE
namespace Go.Proofs.Ytdnckakaoageoaa
open Go.Sx Go.Pl Go.RowKit
theorem ag27HD : Ag Try.prog 27 6 := ⟨⟨_, Try.underlying27⟩, by kernel_rfl⟩
theorem cl151HD : Callable Try.prog 151 := callable Try.func151 (by kernel_rfl) rfl
theorem cl171HD : Callable Try.prog 171 := callable Try.func171 (by kernel_rfl) rfl
theorem cl172HD : Callable Try.prog 172 := callable Try.func172 (by kernel_rfl) rfl
theorem cl173HD : Callable Try.prog 173 := callable Try.func173 (by kernel_rfl) rfl
theorem cl175HD : Callable Try.prog 175 := callable Try.func175 (by kernel_rfl) rfl
theorem cl183HD : Callable Try.prog 183 := callable Try.func183 (by kernel_rfl) rfl
theorem cl184HD : Callable Try.prog 184 := callable Try.func184 (by kernel_rfl) rfl
theorem cl197HD : Callable Try.prog 197 := callable Try.func197 (by kernel_rfl) rfl
theorem cl221HD : Callable Try.prog 221 := callable Try.func221 (by kernel_rfl) rfl
theorem cl225HD : Callable Try.prog 225 := callable Try.func225 (by kernel_rfl) rfl
theorem cl229HD : Callable Try.prog 229 := callable Try.func229 (by kernel_rfl) rfl
theorem cl230HD : Callable Try.prog 230 := callable Try.func230 (by kernel_rfl) rfl
theorem cl235HD : Callable Try.prog 235 := callable Try.func235 (by kernel_rfl) rfl
theorem cl236HD : Callable Try.prog 236 := callable Try.func236 (by kernel_rfl) rfl
theorem cl86HD : Callable Try.prog 86 := callable Try.func86 (by kernel_rfl) rfl
theorem fa27_2HD : FieldAt Try.prog 27 2 2 := ⟨_, _, Try.underlying27, rfl, rfl, ⟨0, by unfold Sz; kernel_rfl⟩⟩
theorem fa27_3HD : FieldAt Try.prog 27 3 3 := ⟨_, _, Try.underlying27, rfl, rfl, ⟨0, by unfold Sz; kernel_rfl⟩⟩
theorem sc3HD : Sc Try.prog 3 := ⟨(.int .i64), by kernel_rfl, trivial⟩
theorem sc4HD : Sc Try.prog 4 := ⟨.bool, by kernel_rfl, trivial⟩
theorem so22HD : SliceOf Try.prog 22 3 1 8 := ⟨by kernel_rfl, by kernel_rfl⟩
theorem sz3HD : Sz Try.prog 3 1 := by unfold Sz; kernel_rfl
theorem un22HD : Try.prog.underlying 22 = some (.slice 3) := by kernel_rfl
theorem zr3HD : ZeroV Try.prog 3 [.int .i64 0] := by unfold ZeroV; kernel_rfl
/-- spec.Lift4 -/
theorem s_lift4 (p : Option Addr) (xs : List Int) (c : Nat) (w : World) (hp : Sl w p xs.length c 1 (ic xs)) (hl : xs.length ≤ 1099511627776) (hin : inW xs 16000000000) :
    Calls Try.prog 235 [.slice p xs.length c].toArray w (RetP w fun v w' => ∃ p c F, v = .slice p (lift4 xs).length c ∧ Own w' p (lift4 xs).length c 3 1 (ic (lift4 xs)) F ∧ Fr w.heap.size F) := by
  have g0 := hin (0 : Int).toNat
  have g1 := hin (1 : Int).toNat
  have g2 := hin (2 : Int).toNat
  have g3 := hin (3 : Int).toNat
  have L : Exm [] w w := Exm.rfl'
  refine enter (n := 54) Try.func235 rfl rfl rfl ?_
  refine wp_seq ?_
  refine c_reg ?_
  refine s0 (x_assign (v := .slice _ _ _) rfl) ?_
  refine c_end ?_
  refine n_then ?_
  refine wp_seq ?_
  refine wp_seq ?_
  refine c_reg ?_
  refine s0 (x_move (v := .slice _ _ _) rfl) ?_
  refine s0 (x_lensl un22HD rfl) ?_
  refine sb (x_neq rfl rfl) (fun h9 => ?_) (fun h9 => ?_)
  · refine c_end ?_
    refine n_then ?_
    refine c_true rfl ?_
    refine wp_seq ?_
    refine c_reg ?_
    refine s_bs0 so22HD ?_
    intro p10 F10 w1 l2 o10 f10 g10
    have o10 : Own w1 p10 0 0 3 1 (ic []) F10 := o10
    have z_l2 := l2.size
    have L := L.tr l2.up
    refine s0 (x_assign (v := .slice _ _ _) rfl) ?_
    refine c_end ?_
    refine n_then ?_
    refine wp_ret (r_then ?_)
    refine f_ret rfl rfl ?_
    rw [show lift4 xs = [] from if_neg (by omega)]
    exact ⟨_, rfl, L, _, _, _, rfl, o10, f10.mono (by omega)⟩
  · refine c_end ?_
    refine n_then ?_
    refine c_false rfl ?_
    refine c_skipn ?_
    refine n_then ?_
    refine wp_seq ?_
    refine c_plan (fun wq => Exm [] w wq) 8 (.cons (0, 2) (.cons (1, 2) (.cons (2, 1) (.cons (3, 2) (.cons (4, 2) (.cons (5, 1) (.cons (6, 2) (.cons (7, 2) .nil)))))))) (by kernel_rfl) (by kernel_rfl) (Exm.drew _) ?_
    obtain ⟨w3, hwd⟩ : ∃ x, x = w.drew := ⟨_, rfl⟩
    have l4 : Ext w w3 := by rw [hwd]; exact Exm.drew _
    rw [← hwd]; clear hwd
    have Lq : Exm [] w w3 := l4.up
    have qL := L
    have z_l4 := l4.size
    have L := L.tr l4.up
    refine p0 rfl (x_move (v := .slice _ _ _) rfl) ?_
    refine p0 rfl (x_idx so22HD rfl rfl hp (by decide) (by omega) (by omega)) ?_
    refine ps rfl (fun wq hwq => x_ldi sc3HD rfl ((hp.ext qL).ext hwq) (by omega) (by omega)) ?_
    refine p0 rfl (x_move (v := .slice _ _ _) rfl) ?_
    refine p0 rfl (x_idx so22HD rfl rfl hp (by decide) (by omega) (by omega)) ?_
    refine ps rfl (fun wq hwq => x_ldi sc3HD rfl ((hp.ext qL).ext hwq) (by omega) (by omega)) ?_
    refine p0 rfl (x_add rfl rfl (by omega)) ?_
    refine p0 rfl (x_assign (v := .int _ _) rfl) ?_
    refine p_nil (np_normal ?_)
    refine n_then ?_
    refine wp_seq ?_
    refine c_plan (fun wq => Exm [] w3 wq) 8 (.cons (0, 2) (.cons (1, 2) (.cons (2, 1) (.cons (3, 2) (.cons (4, 2) (.cons (5, 1) (.cons (6, 2) (.cons (7, 2) .nil)))))))) (by kernel_rfl) (by kernel_rfl) (Exm.drew _) ?_
    obtain ⟨w5, hwd⟩ : ∃ x, x = w3.drew := ⟨_, rfl⟩
    have l6 : Ext w3 w5 := by rw [hwd]; exact Exm.drew _
    rw [← hwd]; clear hwd
    have Lq : Exm [] w3 w5 := l6.up
    have qL := L
    have z_l6 := l6.size
    have L := L.tr l6.up
    refine p0 rfl (x_move (v := .slice _ _ _) rfl) ?_
    refine p0 rfl (x_idx so22HD rfl rfl hp (by decide) (by omega) (by omega)) ?_
    refine ps rfl (fun wq hwq => x_ldi sc3HD rfl ((hp.ext qL).ext hwq) (by omega) (by omega)) ?_
    refine p0 rfl (x_move (v := .slice _ _ _) rfl) ?_
    refine p0 rfl (x_idx so22HD rfl rfl hp (by decide) (by omega) (by omega)) ?_
    refine ps rfl (fun wq hwq => x_ldi sc3HD rfl ((hp.ext qL).ext hwq) (by omega) (by omega)) ?_
    refine p0 rfl (x_sub rfl rfl (by omega)) ?_
    refine p0 rfl (x_assign (v := .int _ _) rfl) ?_
    refine p_nil (np_normal ?_)
    refine n_then ?_
    refine wp_seq ?_
    refine c_plan (fun wq => Exm [] w5 wq) 9 (.cons (0, 2) (.cons (1, 2) (.cons (2, 1) (.cons (3, 2) (.cons (4, 2) (.cons (5, 2) (.cons (6, 1) (.cons (7, 2) (.cons (8, 2) .nil))))))))) (by kernel_rfl) (by kernel_rfl) (Exm.drew _) ?_
    obtain ⟨w7, hwd⟩ : ∃ x, x = w5.drew := ⟨_, rfl⟩
    have l8 : Ext w5 w7 := by rw [hwd]; exact Exm.drew _
    rw [← hwd]; clear hwd
    have Lq : Exm [] w5 w7 := l8.up
    have qL := L
    have z_l8 := l8.size
    have L := L.tr l8.up
    refine p0 rfl (x_move (v := .slice _ _ _) rfl) ?_
    refine p0 rfl (x_idx so22HD rfl rfl hp (by decide) (by omega) (by omega)) ?_
    refine ps rfl (fun wq hwq => x_ldi sc3HD rfl ((hp.ext qL).ext hwq) (by omega) (by omega)) ?_
    refine p0 rfl (x_mul rfl rfl (by omega)) ?_
    refine p0 rfl (x_move (v := .slice _ _ _) rfl) ?_
    refine p0 rfl (x_idx so22HD rfl rfl hp (by decide) (by omega) (by omega)) ?_
    refine ps rfl (fun wq hwq => x_ldi sc3HD rfl ((hp.ext qL).ext hwq) (by omega) (by omega)) ?_
    refine p0 rfl (x_add rfl rfl (by omega)) ?_
    refine p0 rfl (x_assign (v := .int _ _) rfl) ?_
    refine p_nil (np_normal ?_)
    refine n_then ?_
    refine wp_seq ?_
    refine c_plan (fun wq => Exm [] w7 wq) 9 (.cons (0, 2) (.cons (1, 2) (.cons (2, 1) (.cons (3, 2) (.cons (4, 2) (.cons (5, 1) (.cons (6, 2) (.cons (7, 2) (.cons (8, 2) .nil))))))))) (by kernel_rfl) (by kernel_rfl) (Exm.drew _) ?_
    obtain ⟨w9, hwd⟩ : ∃ x, x = w7.drew := ⟨_, rfl⟩
    have l10 : Ext w7 w9 := by rw [hwd]; exact Exm.drew _
    rw [← hwd]; clear hwd
    have Lq : Exm [] w7 w9 := l10.up
    have qL := L
    have z_l10 := l10.size
    have L := L.tr l10.up
    refine p0 rfl (x_move (v := .slice _ _ _) rfl) ?_
    refine p0 rfl (x_idx so22HD rfl rfl hp (by decide) (by omega) (by omega)) ?_
    refine ps rfl (fun wq hwq => x_ldi sc3HD rfl ((hp.ext qL).ext hwq) (by omega) (by omega)) ?_
    refine p0 rfl (x_move (v := .slice _ _ _) rfl) ?_
    refine p0 rfl (x_idx so22HD rfl rfl hp (by decide) (by omega) (by omega)) ?_
    refine ps rfl (fun wq hwq => x_ldi sc3HD rfl ((hp.ext qL).ext hwq) (by omega) (by omega)) ?_
    refine p0 rfl (x_mul rfl rfl (by omega)) ?_
    refine p0 rfl (x_sub rfl rfl (by omega)) ?_
    refine p0 rfl (x_assign (v := .int _ _) rfl) ?_
    refine p_nil (np_normal ?_)
    refine n_then ?_
    refine wp_seq ?_
    refine c_reg ?_
    refine s0 (x_move (v := .int _ _) rfl) ?_
    refine s0 (x_move (v := .int _ _) rfl) ?_
    refine s0 (x_add rfl rfl (by omega)) ?_
    refine s0 (x_move (v := .int _ _) rfl) ?_
    refine s0 (x_move (v := .int _ _) rfl) ?_
    refine s0 (x_add rfl rfl (by omega)) ?_
    refine s0 (x_move (v := .int _ _) rfl) ?_
    refine s0 (x_move (v := .int _ _) rfl) ?_
    refine s0 (x_sub rfl rfl (by omega)) ?_
    refine s0 (x_move (v := .int _ _) rfl) ?_
    refine s0 (x_move (v := .int _ _) rfl) ?_
    refine s0 (x_sub rfl rfl (by omega)) ?_
    refine s_bsi (xs := [_, _, _, _]) so22HD zr3HD (pts_cons rfl (pts_cons rfl (pts_cons rfl (pts_cons rfl pts_nil)))) rfl rfl rfl ?_
    intro p53 F53 w11 l12 o53 f53 g53
    have z_l12 := l12.size
    have L := L.tr l12.up
    have hn53 := o53.n1
    refine s0 (x_assign (v := .slice _ _ _) rfl) ?_
    refine c_end ?_
    refine n_then ?_
    refine wp_ret ?_
    refine f_ret rfl rfl ?_
    rw [show lift4 xs = _ from if_pos (by omega)]
    exact ⟨_, rfl, L, _, _, _, rfl, o53, f53.mono (by omega)⟩

/-- spec.Lift8 -/
theorem s_lift8 (p : Option Addr) (xs : List Int) (c : Nat) (w : World) (hp : Sl w p xs.length c 1 (ic xs)) (hl : xs.length ≤ 1099511627776) (hin : inW xs 16000000000) :
    Calls Try.prog 236 [.slice p xs.length c].toArray w (RetP w fun v w' => ∃ p c F, v = .slice p (lift8 xs).length c ∧ Own w' p (lift8 xs).length c 3 1 (ic (lift8 xs)) F ∧ Fr w.heap.size F) := by
  have L : Exm [] w w := Exm.rfl'
  refine enter (n := 52) Try.func236 rfl rfl rfl ?_
  refine wp_seq ?_
  refine c_reg ?_
  refine s0 (x_assign (v := .slice _ _ _) rfl) ?_
  refine c_end ?_
  refine n_then ?_
  refine wp_seq ?_
  refine wp_seq ?_
  refine c_reg ?_
  refine s0 (x_move (v := .slice _ _ _) rfl) ?_
  refine s0 (x_lensl un22HD rfl) ?_
  refine sb (x_neq rfl rfl) (fun h10 => ?_) (fun h10 => ?_)
  · refine c_end ?_
    refine n_then ?_
    refine c_true rfl ?_
    refine wp_seq ?_
    refine c_reg ?_
    refine s_bs0 so22HD ?_
    intro p11 F11 w1 l2 o11 f11 g11
    have o11 : Own w1 p11 0 0 3 1 (ic []) F11 := o11
    have z_l2 := l2.size
    have L := L.tr l2.up
    refine s0 (x_assign (v := .slice _ _ _) rfl) ?_
    refine c_end ?_
    refine n_then ?_
    refine wp_ret (r_then ?_)
    refine f_ret rfl rfl ?_
    rw [show lift8 xs = [] from if_neg (by omega)]
    exact ⟨_, rfl, L, _, _, _, rfl, o11, f11.mono (by omega)⟩
  · refine c_end ?_
    refine n_then ?_
    refine c_false rfl ?_
    refine c_skipn ?_
    refine n_then ?_
    refine wp_seq ?_
    refine c_reg ?_
    refine s_bs0 so22HD ?_
    intro p12 F12 w3 l4 o12 f12 g12
    have o12 : Own w3 p12 0 0 3 1 (ic []) F12 := o12
    have z_l4 := l4.size
    have L := L.tr l4.up
    refine s0 (x_move (v := .slice _ _ _) rfl) ?_
    refine s_appi (B := w.heap.size) so22HD zr3HD rfl rfl (xs := _) o12 (hp.ext L) f12 (by omega) (by omega) (by omega) ?_
    intro p14 c14 F14 w5 l6 o14 hn14 k14 f14 g14
    have z_l6 := l6.size
    have L := L.freshL l6 f12 (by omega)
    refine s0 (x_assign (v := .slice _ _ _) rfl) ?_
    refine c_end ?_
    refine n_then ?_
    refine wp_seq ?_
    refine wp_seq ?_
    refine c_reg ?_
    refine s0 (x_assign (v := .int _ _) rfl) ?_
    refine c_end ?_
    refine n_then ?_
    refine wp_block ?_
    refine c_loop (γ := Nat) (fun j => 3 - j) (fun (j : Nat) E wl => ∃ E0, E = upd (upd E0 3 (.slice p14 xs.length c14)) 4 (.int .i64 ((2 ^ j : Nat) : Int)) ∧ (Exm [] w wl) ∧ (w5.heap.size ≤ wl.heap.size) ∧ (Own wl p14 xs.length c14 3 1 (ic (lfR xs j)) F14) ∧ (j ≤ 3) ∧ (inW (lfR xs j) (bnd (8 * j)))) 0 ⟨_, upd_self2 rfl rfl, L, (by omega), o14, (by omega), (inW_up hin (by decide))⟩ ?_
    rintro j E wl7 ⟨E0, rfl, L, Lz, o14, hj, hB⟩
    have Lz0 := L.size
    have hp := pow_lt3 hj
    have hxl := lfR_length xs j
    refine wp_seq ?_
    refine wp_seq ?_
    refine c_reg ?_
    refine s0 (x_move (v := .int _ _) rfl) ?_
    refine sb (x_lss rfl rfl) (fun h16 => ?_) (fun h16 => ?_)
    · refine c_end ?_
      refine n_then ?_
      refine c_true rfl ?_
      refine c_skipn ?_
      refine n_then ?_
      refine wp_seq ?_
      refine wp_block ?_
      refine wp_seq ?_
      have hj3 := hp.2.1 (by omega)
      have hp4 := hp.1 hj3
      refine c_reg ?_
      refine s0 (x_assign (v := .int _ _) rfl) ?_
      refine c_end ?_
      refine n_then ?_
      refine wp_block ?_
      refine c_loop (γ := Nat) (fun i => 8 - i) (fun (i : Nat) E wl => ∃ E0, E = upd (upd (upd E0 3 (.slice p14 xs.length c14)) 4 (.int .i64 ((2 ^ j : Nat) : Int))) 5 (.int .i64 (i : Int)) ∧ (Exm [] w wl) ∧ (wl7.heap.size ≤ wl.heap.size) ∧ (Own wl p14 xs.length c14 3 1 (ic (lf8 (lfR xs j) (2 ^ j) i)) F14) ∧ ((i : Int) ≤ 8) ∧ (inW (lf8 (lfR xs j) (2 ^ j) i) (bnd (8 * j + i)))) 0 ⟨_, upd_self3 rfl rfl rfl, L, (by omega), o14, (by omega), hB⟩ ?_
      rintro i E wl8 ⟨E0, rfl, L, Lz, o14, hi, hB2⟩
      have Lz0 := L.size
      have hyl := lf8_length (lfR xs j) (2 ^ j) i
      refine wp_seq ?_
      refine wp_seq ?_
      refine c_reg ?_
      refine s0 (x_move (v := .int _ _) rfl) ?_
      refine sb (x_lss rfl rfl) (fun h20 => ?_) (fun h20 => ?_)
      · refine c_end ?_
        refine n_then ?_
        refine c_true rfl ?_
        refine c_skipn ?_
        refine n_then ?_
        refine wp_seq ?_
        refine wp_block ?_
        refine wp_seq ?_
        have hbk := bnd_le (k := 8 * j + i) (by omega)
        have hand := fun h => and_pow' (i := i) (j := j) (by omega) hj3 h
        have e12 : ((i : Int) + ((2 ^ j : Nat) : Int)).toNat = i + 2 ^ j := by omega
        refine c_reg ?_
        refine s0 (x_move (v := .int _ _) rfl) ?_
        refine s0 (x_move (v := .int _ _) rfl) ?_
        refine s0 (x_and8 rfl rfl (by omega) (by omega)) ?_
        refine sb (x_eql rfl rfl) (fun h26 => ?_) (fun h26 => ?_)
        · refine c_end ?_
          refine n_then ?_
          refine c_true rfl ?_
          refine wp_seq ?_
          have hz : i &&& 2 ^ j = 0 := by omega
          have hlt := hand hz
          refine c_reg ?_
          refine s0 (x_move (v := .slice _ _ _) rfl) ?_
          refine s0 (x_move (v := .int _ _) rfl) ?_
          refine s0 (x_idx so22HD rfl rfl o14.sl (by decide) (by omega) (by omega)) ?_
          refine st (x_ldi sc3HD rfl o14.sl (by omega) (by omega)) ?_
          refine s0 (x_assign (v := .int _ _) rfl) ?_
          refine c_end ?_
          refine n_then ?_
          refine wp_seq ?_
          refine c_reg ?_
          refine s0 (x_move (v := .slice _ _ _) rfl) ?_
          refine s0 (x_move (v := .int _ _) rfl) ?_
          refine s0 (x_move (v := .int _ _) rfl) ?_
          refine s0 (x_add rfl rfl (by omega)) ?_
          refine s0 (x_idx so22HD rfl rfl o14.sl (by decide) (by omega) (by omega)) ?_
          refine st (x_ldi sc3HD rfl o14.sl (by omega) (by omega)) ?_
          refine s0 (x_assign (v := .int _ _) rfl) ?_
          refine c_end ?_
          refine n_then ?_
          refine wp_seq ?_
          have hv1 := hB2 (i : Int).toNat
          have hv2 := hB2 ((i : Int) + ((2 ^ j : Nat) : Int)).toNat
          refine c_reg ?_
          refine s0 (x_move (v := .slice _ _ _) rfl) ?_
          refine s0 (x_move (v := .int _ _) rfl) ?_
          refine s0 (x_move (v := .int _ _) rfl) ?_
          refine s0 (x_move (v := .int _ _) rfl) ?_
          refine s0 (x_add rfl rfl (by omega)) ?_
          refine s0 (x_idx so22HD rfl rfl o14.sl (by decide) (by omega) (by omega)) ?_
          refine s_stoi rfl sz3HD rfl rfl o14 (by omega) (by omega) ?_
          intro w9 l10 el10 o14
          have z_l10 := l10.size
          have L := L.freshL l10 f14 (by omega)
          have hnl10 := o14.n1
          refine c_end ?_
          refine n_then ?_
          refine c_reg ?_
          refine s0 (x_move (v := .slice _ _ _) rfl) ?_
          refine s0 (x_move (v := .int _ _) rfl) ?_
          refine s0 (x_move (v := .int _ _) rfl) ?_
          refine s0 (x_add rfl rfl (by omega)) ?_
          refine s0 (x_move (v := .int _ _) rfl) ?_
          refine s0 (x_move (v := .int _ _) rfl) ?_
          refine s0 (x_sub rfl rfl (by omega)) ?_
          refine s0 (x_idx so22HD rfl rfl o14.sl (by decide) (by omega) (by omega)) ?_
          refine s_stoi rfl sz3HD rfl rfl o14 (by omega) (by omega) ?_
          intro w11 l12 el12 o14
          have z_l12 := l12.size
          have L := L.freshL l12 f14 (by omega)
          have hnl12 := o14.n1
          refine c_end ?_
          refine n_block ?_
          refine n_then ?_
          refine c_reg ?_
          refine s0 (x_move (v := .int _ _) rfl) ?_
          refine s0 (x_add rfl rfl (by omega)) ?_
          refine s0 (x_assign (v := .int _ _) rfl) ?_
          refine c_end ?_
          have o14 := ownI o14 (ys := lf8 (lfR xs j) (2 ^ j) (i + 1)) (by show _ = st8 (2 ^ j) i _; unfold st8; first | (rw [if_pos hz, e12]; rfl) | (rw [if_pos hz, e12]; done) | (rw [if_neg (by omega)]; done))
          exact c_round (g' := i + 1) (by omega) ⟨_, upd_self3 rfl rfl (vint (by omega)), L, (by omega), o14, (by omega), (by show inW (st8 (2 ^ j) i _) (bnd (8 * j + i + 1)); rw [bnd_succ]; exact st8_in hB2)⟩
        · refine c_end ?_
          refine n_then ?_
          refine c_false rfl ?_
          refine c_skipn ?_
          refine n_block ?_
          refine n_then ?_
          refine c_reg ?_
          refine s0 (x_move (v := .int _ _) rfl) ?_
          refine s0 (x_add rfl rfl (by omega)) ?_
          refine s0 (x_assign (v := .int _ _) rfl) ?_
          refine c_end ?_
          have o14 := ownI o14 (ys := lf8 (lfR xs j) (2 ^ j) (i + 1)) (by show _ = st8 (2 ^ j) i _; unfold st8; first | (rw [if_pos hz, e12]; rfl) | (rw [if_pos hz, e12]; done) | (rw [if_neg (by omega)]; done))
          exact c_round (g' := i + 1) (by omega) ⟨_, upd_self3 rfl rfl (vint (by omega)), L, (by omega), o14, (by omega), (by show inW (st8 (2 ^ j) i _) (bnd (8 * j + i + 1)); rw [bnd_succ]; exact st8_in hB2)⟩
      · refine c_end ?_
        refine n_then ?_
        refine c_false rfl ?_
        refine wp_exit (e_then (e_then (e_here ?_)))
        refine n_block ?_
        refine n_then ?_
        refine c_reg ?_
        refine s0 (x_move (v := .int _ _) rfl) ?_
        refine s0 (x_mul rfl rfl (by omega)) ?_
        refine s0 (x_assign (v := .int _ _) rfl) ?_
        refine c_end ?_
        have hi8 : i = 8 := by omega
        rw [hi8] at hB2 o14
        exact c_round (g' := j + 1) (by omega) ⟨_, upd_self2 rfl (vint (by rw [Nat.pow_succ]; omega)), L, (by omega), o14, (by omega), (by show inW (lfR xs (j + 1)) (bnd (8 * j + 8)); exact hB2)⟩
    · refine c_end ?_
      refine n_then ?_
      refine c_false rfl ?_
      refine wp_exit (e_then (e_then (e_here ?_)))
      refine n_then ?_
      refine wp_seq ?_
      refine c_reg ?_
      refine s0 (x_move (v := .slice _ _ _) rfl) ?_
      refine s0 (x_assign (v := .slice _ _ _) rfl) ?_
      refine c_end ?_
      refine n_then ?_
      refine wp_ret ?_
      refine f_ret rfl rfl ?_
      have hj3 : j = 3 := by have := hp.1; omega
      rw [show lift8 xs = lfR xs j from by rw [hj3]; exact if_pos (by omega)]
      exact ⟨_, rfl, L, _, _, _, slice_len hxl, (by rw [hxl]; exact o14), f14.mono (by omega)⟩

/-- spec.Columns -/
theorem s_columns (p : Option Addr) (xs : List Int) (c : Nat) (w : World) (hp : Sl w p xs.length c 1 (ic xs)) (hl : xs.length ≤ 1099511627776) :
    Calls Try.prog 229 [.slice p xs.length c].toArray w (RetP w fun v w' => ∃ p c F, v = .slice p (columnsOf xs).length c ∧ Own w' p (columnsOf xs).length c 3 1 (ic (columnsOf xs)) F ∧ Fr w.heap.size F) := by
  obtain ⟨n, hns, hn3⟩ : ∃ n : Nat, (n : Int) = sideOf xs.length ∧ (n = 0 ∨ (n = 4 ∧ xs.length = 16) ∨ (n = 8 ∧ xs.length = 64)) := ⟨(sideOf xs.length).toNat, by unfold sideOf; split <;> (try split) <;> omega, by unfold sideOf; split <;> (try split) <;> omega⟩
  have L : Exm [] w w := Exm.rfl'
  refine enter (n := 32) Try.func229 rfl rfl rfl ?_
  refine wp_seq ?_
  refine c_reg ?_
  refine s0 (x_assign (v := .slice _ _ _) rfl) ?_
  refine c_end ?_
  refine n_then ?_
  refine wp_seq ?_
  refine c_reg ?_
  refine s0 (x_move (v := .slice _ _ _) rfl) ?_
  refine sr (zcall cl197HD rfl) (s_l9Side _ _ _ _) ?_
  intro w1 l2
  have z_l2 := l2.size
  have L := L.tr l2.up
  refine s0 (x_assign (v := .int _ _) rfl) ?_
  refine c_end ?_
  refine n_then ?_
  refine wp_seq ?_
  refine c_reg ?_
  refine s_bs0 so22HD ?_
  intro p9 F9 w3 l4 o9 f9 g9
  have o9 : Own w3 p9 0 0 3 1 (ic []) F9 := o9
  have z_l4 := l4.size
  have L := L.tr l4.up
  refine s0 (x_assign (v := .slice _ _ _) rfl) ?_
  refine c_end ?_
  refine n_then ?_
  refine wp_seq ?_
  refine wp_seq ?_
  refine c_reg ?_
  refine s0 (x_assign (v := .int _ _) rfl) ?_
  refine c_end ?_
  refine n_then ?_
  refine wp_block ?_
  refine c_loop (γ := Nat) (fun x => n - x) (fun (x : Nat) E wl => ∃ E0 pz4 cz4 Fz4, E = upd (upd (upd (upd E0 0 (.slice p xs.length c)) 3 (.int .i64 (n : Int))) 4 (.slice pz4 ((colsK xs n (x * n)).length) cz4)) 5 (.int .i64 (x : Int)) ∧ (Exm [] w wl) ∧ (w3.heap.size ≤ wl.heap.size) ∧ (Own wl pz4 ((colsK xs n (x * n)).length) cz4 3 1 (ic (colsK xs n (x * n))) Fz4) ∧ (Fr (w1.heap.size) Fz4) ∧ (Lt Fz4 wl.heap.size) ∧ ((x : Int) ≤ n)) 0 ⟨_, _, _, _, upd_self4 rfl (vint (by omega)) (slice_len (by rw [Nat.zero_mul]; rfl)) rfl, L, (by omega), (by rw [Nat.zero_mul]; exact o9), (f9.mono (by omega)), (g9.mono (by omega)), (by omega)⟩ ?_
  rintro x E wl5 ⟨E0, pz4, cz4, Fz4, rfl, L, Lz, oz4, fz4, gz4, hx⟩
  have Lz0 := L.size
  refine wp_seq ?_
  refine wp_seq ?_
  refine c_reg ?_
  refine s0 (x_move (v := .int _ _) rfl) ?_
  refine s0 (x_move (v := .int _ _) rfl) ?_
  refine sb (x_lss rfl rfl) (fun h12 => ?_) (fun h12 => ?_)
  · refine c_end ?_
    refine n_then ?_
    refine c_true rfl ?_
    refine c_skipn ?_
    refine n_then ?_
    refine wp_seq ?_
    refine wp_block ?_
    refine wp_seq ?_
    refine c_reg ?_
    refine s0 (x_assign (v := .int _ _) rfl) ?_
    refine c_end ?_
    refine n_then ?_
    refine wp_block ?_
    refine c_loop (γ := Nat) (fun y => n - y) (fun (y : Nat) E wl => ∃ E0 pz4 cz4 Fz4, E = upd (upd (upd (upd (upd E0 0 (.slice p xs.length c)) 3 (.int .i64 (n : Int))) 4 (.slice pz4 ((colsK xs n (x * n + y)).length) cz4)) 5 (.int .i64 (x : Int))) 6 (.int .i64 (y : Int)) ∧ (Exm [] w wl) ∧ (wl5.heap.size ≤ wl.heap.size) ∧ (Own wl pz4 ((colsK xs n (x * n + y)).length) cz4 3 1 (ic (colsK xs n (x * n + y))) Fz4) ∧ (Fr (w1.heap.size) Fz4) ∧ (Lt Fz4 wl.heap.size) ∧ ((y : Int) ≤ n)) 0 ⟨_, _, _, _, upd_self5 rfl rfl (slice_len rfl) rfl rfl, L, (by omega), oz4, (fz4.mono (by omega)), (gz4.mono (by omega)), (by omega)⟩ ?_
    rintro y E wl6 ⟨E0, pz4, cz4, Fz4, rfl, L, Lz, oz4, fz4, gz4, hy⟩
    have Lz0 := L.size
    refine wp_seq ?_
    refine wp_seq ?_
    refine c_reg ?_
    refine s0 (x_move (v := .int _ _) rfl) ?_
    refine s0 (x_move (v := .int _ _) rfl) ?_
    refine sb (x_lss rfl rfl) (fun h17 => ?_) (fun h17 => ?_)
    · refine c_end ?_
      refine n_then ?_
      refine c_true rfl ?_
      refine c_skipn ?_
      refine n_then ?_
      refine wp_seq ?_
      refine wp_block ?_
      have hnn : n * n = xs.length := by rcases hn3 with h | ⟨h, h2⟩ | ⟨h, h2⟩ <;> first | omega | (rw [h, h2])
      have hq := q_lt (n := n) (r := y) (k := x) (by omega) (by omega)
      have hq2 := q_lt (n := n) (r := x) (k := y) (by omega) (by omega)
      have e1 : (((y * n : Nat) : Int) + (x : Int)).toNat = y * n + x := by omega
      have hkl := colsK_length xs n (x * n + y)
      refine c_reg ?_
      refine s0 (x_move (v := .slice _ _ _) rfl) ?_
      refine s0 (x_move (v := .slice _ _ _) rfl) ?_
      refine s0 (x_move (v := .int _ _) rfl) ?_
      refine s0 (x_move (v := .int _ _) rfl) ?_
      refine s0 (x_mule ((y * n : Nat) : Int) rfl rfl (Int.natCast_mul _ _).symm (by omega)) ?_
      refine s0 (x_move (v := .int _ _) rfl) ?_
      refine s0 (x_add rfl rfl (by omega)) ?_
      refine s0 (x_idx so22HD rfl rfl hp (by decide) (by omega) (by omega)) ?_
      refine st (x_ldi sc3HD rfl (hp.ext L) (by omega) (by omega)) ?_
      refine s_bsi (xs := [_]) so22HD zr3HD (pts_cons rfl pts_nil) rfl rfl rfl ?_
      intro p29 F29 w7 l8 o29 f29 g29
      have z_l8 := l8.size
      have L := L.tr l8.up
      have oz4 := oz4.ext l8
      have hn29 := o29.n1
      refine s_appi (B := w1.heap.size) so22HD zr3HD rfl rfl (xs := _) oz4 o29.sl fz4 (by omega) (by omega) (by omega) ?_
      intro p30 c30 F30 w9 l10 o30 hn30 k30 f30 g30
      have z_l10 := l10.size
      have L := L.freshL l10 fz4 (by omega)
      have d29_30 : Dj F29 F30 := k30.dj (by first | assumption | exact Dj.symm (by assumption) | exact dj_of f29 g29 fz4 gz4 (by omega)) g29 (by omega)
      have o29 := o29.exm l10 (by first | assumption | exact Dj.symm (by assumption) | exact dj_of fz4 gz4 f29 g29 (by omega))
      refine s0 (x_assign (v := .slice _ _ _) rfl) ?_
      refine c_end ?_
      refine n_block ?_
      refine n_then ?_
      refine c_reg ?_
      refine s0 (x_move (v := .int _ _) rfl) ?_
      refine s0 (x_add rfl rfl (by omega)) ?_
      refine s0 (x_assign (v := .int _ _) rfl) ?_
      refine c_end ?_
      exact c_round (g' := y + 1) (by omega) ⟨_, _, _, _, upd_self5 rfl rfl (slice_len (by rw [colsK_succ (by omega), e1])) rfl (vint (by omega)), L, (by omega), (by rw [colsK_succ (by omega)]; rw [e1] at o30; exact o30), (f30.mono (by omega)), (g30.mono (by omega)), (by omega)⟩
    · refine c_end ?_
      refine n_then ?_
      refine c_false rfl ?_
      refine wp_exit (e_then (e_then (e_here ?_)))
      refine n_block ?_
      refine n_then ?_
      refine c_reg ?_
      refine s0 (x_move (v := .int _ _) rfl) ?_
      refine s0 (x_add rfl rfl (by omega)) ?_
      refine s0 (x_assign (v := .int _ _) rfl) ?_
      refine c_end ?_
      have hye : y = n := by omega
      exact c_round (g' := x + 1) (by omega) ⟨_, _, _, _, upd_self4 rfl rfl (slice_len (by rw [hye, Nat.add_mul, Nat.one_mul])) (vint (by omega)), L, (by omega), (by rw [Nat.add_mul, Nat.one_mul]; rw [hye] at oz4; exact oz4), (fz4.mono (by omega)), (gz4.mono (by omega)), (by omega)⟩
  · refine c_end ?_
    refine n_then ?_
    refine c_false rfl ?_
    refine wp_exit (e_then (e_then (e_here ?_)))
    refine n_then ?_
    refine wp_seq ?_
    refine c_reg ?_
    refine s0 (x_move (v := .slice _ _ _) rfl) ?_
    refine s0 (x_assign (v := .slice _ _ _) rfl) ?_
    refine c_end ?_
    refine n_then ?_
    refine wp_ret ?_
    refine f_ret rfl rfl ?_
    have hxe : x = n := by omega
    rw [hxe] at oz4
    rw [show columnsOf xs = colsK xs n (n * n) from by unfold columnsOf colsL; rw [← hns]; rfl]
    exact ⟨_, rfl, L, _, _, _, slice_len (by rw [hxe]), oz4, fz4.mono (by omega)⟩

/-- spec.l13Rows -/
theorem s_l13Rows (p : Option Addr) (xs : List Int) (c : Nat) (n : Nat) (w : World) (hp : Sl w p xs.length c 1 (ic xs)) (hl : xs.length ≤ 1099511627776) (hn4 : n = 4 ∨ n = 8) (hxl : xs.length = n * n) (hin : inW xs 16000000000) :
    Calls Try.prog 230 [.slice p xs.length c, .int .i64 (n : Int)].toArray w (RetP w fun v w' => ∃ p c F, v = .slice p (rowsL n xs).length c ∧ Own w' p (rowsL n xs).length c 3 1 (ic (rowsL n xs)) F ∧ Fr w.heap.size F) := by
  have L : Exm [] w w := Exm.rfl'
  refine enter (n := 42) Try.func230 rfl rfl rfl ?_
  refine wp_seq ?_
  refine c_reg ?_
  refine s0 (x_assign (v := .slice _ _ _) rfl) ?_
  refine c_end ?_
  refine n_then ?_
  refine wp_seq ?_
  refine c_reg ?_
  refine s_bs0 so22HD ?_
  intro p7 F7 w1 l2 o7 f7 g7
  have o7 : Own w1 p7 0 0 3 1 (ic []) F7 := o7
  have z_l2 := l2.size
  have L := L.tr l2.up
  refine s0 (x_assign (v := .slice _ _ _) rfl) ?_
  refine c_end ?_
  refine n_then ?_
  refine wp_seq ?_
  refine wp_seq ?_
  refine c_reg ?_
  refine s0 (x_assign (v := .int _ _) rfl) ?_
  refine c_end ?_
  refine n_then ?_
  refine wp_block ?_
  refine c_loop (γ := Nat) (fun y => n - y) (fun (y : Nat) E wl => ∃ E0 pz5 cz5 Fz5, E = upd (upd (upd (upd E0 0 (.slice p xs.length c)) 1 (.int .i64 (n : Int))) 5 (.slice pz5 ((rowsK n xs y).length) cz5)) 6 (.int .i64 (y : Int)) ∧ (Exm [] w wl) ∧ (w1.heap.size ≤ wl.heap.size) ∧ (Own wl pz5 ((rowsK n xs y).length) cz5 3 1 (ic (rowsK n xs y)) Fz5) ∧ (Fr (w.heap.size) Fz5) ∧ (Lt Fz5 wl.heap.size) ∧ ((y : Int) ≤ n)) 0 ⟨_, _, _, _, upd_self4 rfl rfl (slice_len rfl) rfl, L, (by omega), o7, (f7.mono (by omega)), (g7.mono (by omega)), (by omega)⟩ ?_
  rintro y E wl3 ⟨E0, pz5, cz5, Fz5, rfl, L, Lz, oz5, fz5, gz5, hy⟩
  have Lz0 := L.size
  have hkl := rowsK_len hn4 hxl (k := y) (by omega)
  refine wp_seq ?_
  refine wp_seq ?_
  refine c_reg ?_
  refine s0 (x_move (v := .int _ _) rfl) ?_
  refine s0 (x_move (v := .int _ _) rfl) ?_
  refine sb (x_lss rfl rfl) (fun h10 => ?_) (fun h10 => ?_)
  · refine c_end ?_
    refine n_then ?_
    refine c_true rfl ?_
    refine c_skipn ?_
    refine n_then ?_
    refine wp_seq ?_
    refine wp_block ?_
    refine wp_seq ?_
    have hn64 : n * n ≤ 64 := by rcases hn4 with h | h <;> rw [h] <;> decide
    have hyn : y * n + n ≤ n * n := by have := Nat.mul_le_mul_right n (show y + 1 ≤ n by omega); rw [Nat.add_mul, Nat.one_mul] at this; exact this
    have hrw : ((xs.drop (((y * n : Nat) : Int)).toNat).take ((((y * n : Nat) : Int) + (n : Int)).toNat - (((y * n : Nat) : Int)).toNat)) = cutRow xs n y := by unfold cutRow; rw [show (((y * n : Nat) : Int)).toNat = y * n from rfl, show ((((y * n : Nat) : Int) + (n : Int)).toNat - y * n) = n by omega]
    have hrl := cutRow_length (l := xs) (n := n) (y := y) (by omega)
    have hle := liftN_eq hn4 hrl
    have hlg := liftG_length (MW n) n (cutRow xs n y)
    refine c_reg ?_
    refine s0 (x_move (v := .int _ _) rfl) ?_
    refine sb (x_eql rfl rfl) (fun h14 => ?_) (fun h14 => ?_)
    · refine c_end ?_
      refine n_then ?_
      refine c_true rfl ?_
      have hl4 : liftN n (cutRow xs n y) = lift4 (cutRow xs n y) := if_pos (by omega)
      have hll : (lift4 ((xs.drop (((y * n : Nat) : Int)).toNat).take ((((y * n : Nat) : Int) + (n : Int)).toNat - (((y * n : Nat) : Int)).toNat))).length = n := by rw [hrw, ← hl4, hle, hlg]
      refine c_reg ?_
      refine s0 (x_move (v := .slice _ _ _) rfl) ?_
      refine s0 (x_move (v := .slice _ _ _) rfl) ?_
      refine s0 (x_move (v := .int _ _) rfl) ?_
      refine s0 (x_move (v := .int _ _) rfl) ?_
      refine s0 (x_mule ((y * n : Nat) : Int) rfl rfl (Int.natCast_mul _ _).symm (by omega)) ?_
      refine s0 (x_move (v := .int _ _) rfl) ?_
      refine s0 (x_move (v := .int _ _) rfl) ?_
      refine s0 (x_mule ((y * n : Nat) : Int) rfl rfl (Int.natCast_mul _ _).symm (by omega)) ?_
      refine s0 (x_move (v := .int _ _) rfl) ?_
      refine s0 (x_add rfl rfl (by omega)) ?_
      refine s0 (x_cutr so22HD (hp.ext L).r (by omega) rfl rfl rfl (by omega) (by omega) (by omega)) ?_
      refine sp (zcall cl235HD rfl) (s_lift4 _ _ _ _ ((hp.ext L).cuti (by omega) (by omega)) (by rw [hrw, hrl]; omega) (by rw [hrw]; exact row_in2 (by decide) hin)) ?_
      rintro v26 w4 l5 ⟨p26, c26, F26, rfl, o26, f26⟩
      have z_l5 := l5.size
      have L := L.tr l5.up
      have oz5 := oz5.ext l5
      have g26 := o26.lt
      refine s_appi (B := w.heap.size) so22HD zr3HD rfl rfl (xs := _) oz5 o26.sl fz5 (by omega) (by omega) (by omega) ?_
      intro p27 c27 F27 w6 l7 o27 hn27 k27 f27 g27
      have z_l7 := l7.size
      have L := L.freshL l7 fz5 (by omega)
      have d26_27 : Dj F26 F27 := k27.dj (by first | assumption | exact Dj.symm (by assumption) | exact dj_of f26 g26 fz5 gz5 (by omega)) g26 (by omega)
      have o26 := o26.exm l7 (by first | assumption | exact Dj.symm (by assumption) | exact dj_of fz5 gz5 f26 g26 (by omega))
      refine s0 (x_assign (v := .slice _ _ _) rfl) ?_
      refine c_end ?_
      refine n_block ?_
      refine n_then ?_
      refine c_reg ?_
      refine s0 (x_move (v := .int _ _) rfl) ?_
      refine s0 (x_add rfl rfl (by omega)) ?_
      refine s0 (x_assign (v := .int _ _) rfl) ?_
      refine c_end ?_
      exact c_round (g' := y + 1) (by omega) ⟨_, _, _, _, upd_self4 rfl rfl (slice_len (by rw [rowsK_succ]; first | rw [hl4, ← hrw] | rw [hl8, ← hrw])) (vint (by omega)), L, (by omega), (by rw [rowsK_succ]; first | (rw [hl4, ← hrw]; exact o27) | (rw [hl8, ← hrw]; exact o40)), (f27.mono (by omega)), (g27.mono (by omega)), (by omega)⟩
    · refine c_end ?_
      refine n_then ?_
      refine c_false rfl ?_
      have hl8 : liftN n (cutRow xs n y) = lift8 (cutRow xs n y) := if_neg (by omega)
      have hll : (lift8 ((xs.drop (((y * n : Nat) : Int)).toNat).take ((((y * n : Nat) : Int) + (n : Int)).toNat - (((y * n : Nat) : Int)).toNat))).length = n := by rw [hrw, ← hl8, hle, hlg]
      refine c_reg ?_
      refine s0 (x_move (v := .slice _ _ _) rfl) ?_
      refine s0 (x_move (v := .slice _ _ _) rfl) ?_
      refine s0 (x_move (v := .int _ _) rfl) ?_
      refine s0 (x_move (v := .int _ _) rfl) ?_
      refine s0 (x_mule ((y * n : Nat) : Int) rfl rfl (Int.natCast_mul _ _).symm (by omega)) ?_
      refine s0 (x_move (v := .int _ _) rfl) ?_
      refine s0 (x_move (v := .int _ _) rfl) ?_
      refine s0 (x_mule ((y * n : Nat) : Int) rfl rfl (Int.natCast_mul _ _).symm (by omega)) ?_
      refine s0 (x_move (v := .int _ _) rfl) ?_
      refine s0 (x_add rfl rfl (by omega)) ?_
      refine s0 (x_cutr so22HD (hp.ext L).r (by omega) rfl rfl rfl (by omega) (by omega) (by omega)) ?_
      refine sp (zcall cl236HD rfl) (s_lift8 _ _ _ _ ((hp.ext L).cuti (by omega) (by omega)) (by rw [hrw, hrl]; omega) (by rw [hrw]; exact row_in2 (by decide) hin)) ?_
      rintro v39 w8 l9 ⟨p39, c39, F39, rfl, o39, f39⟩
      have z_l9 := l9.size
      have L := L.tr l9.up
      have oz5 := oz5.ext l9
      have g39 := o39.lt
      refine s_appi (B := w.heap.size) so22HD zr3HD rfl rfl (xs := _) oz5 o39.sl fz5 (by omega) (by omega) (by omega) ?_
      intro p40 c40 F40 w10 l11 o40 hn40 k40 f40 g40
      have z_l11 := l11.size
      have L := L.freshL l11 fz5 (by omega)
      have d39_40 : Dj F39 F40 := k40.dj (by first | assumption | exact Dj.symm (by assumption) | exact dj_of f39 g39 fz5 gz5 (by omega)) g39 (by omega)
      have o39 := o39.exm l11 (by first | assumption | exact Dj.symm (by assumption) | exact dj_of fz5 gz5 f39 g39 (by omega))
      refine s0 (x_assign (v := .slice _ _ _) rfl) ?_
      refine c_end ?_
      refine n_block ?_
      refine n_then ?_
      refine c_reg ?_
      refine s0 (x_move (v := .int _ _) rfl) ?_
      refine s0 (x_add rfl rfl (by omega)) ?_
      refine s0 (x_assign (v := .int _ _) rfl) ?_
      refine c_end ?_
      exact c_round (g' := y + 1) (by omega) ⟨_, _, _, _, upd_self4 rfl rfl (slice_len (by rw [rowsK_succ]; first | rw [hl4, ← hrw] | rw [hl8, ← hrw])) (vint (by omega)), L, (by omega), (by rw [rowsK_succ]; first | (rw [hl4, ← hrw]; exact o27) | (rw [hl8, ← hrw]; exact o40)), (f40.mono (by omega)), (g40.mono (by omega)), (by omega)⟩
  · refine c_end ?_
    refine n_then ?_
    refine c_false rfl ?_
    refine wp_exit (e_then (e_then (e_here ?_)))
    refine n_then ?_
    refine wp_seq ?_
    refine c_reg ?_
    refine s0 (x_move (v := .slice _ _ _) rfl) ?_
    refine s0 (x_assign (v := .slice _ _ _) rfl) ?_
    refine c_end ?_
    refine n_then ?_
    refine wp_ret ?_
    refine f_ret rfl rfl ?_
    have hye : y = n := by omega
    rw [hye] at oz5
    exact ⟨_, rfl, L, _, _, _, slice_len (by rw [hye]; rfl), oz5, fz5.mono (by omega)⟩

theorem columns_eq {n : Nat} (hn : n = 4 ∨ n = 8) {l : List Int} (hl : l.length = n * n) : columnsOf l = colsL l n := by
  unfold columnsOf
  rcases hn with rfl | rfl <;> rw [hl] <;> rfl

/-- spec.l13Both -/
theorem s_l13Both (p : Option Addr) (xs : List Int) (c : Nat) (n : Nat) (w : World) (hp : Sl w p xs.length c 1 (ic xs)) (hl : xs.length ≤ 1099511627776) (hn4 : n = 4 ∨ n = 8) :
    Calls Try.prog 221 [.slice p xs.length c, .int .i64 (n : Int)].toArray w (RetP w fun v w' => ∃ p c F, v = .slice p (bothG n xs).length c ∧ Own w' p (bothG n xs).length c 3 1 (ic (bothG n xs)) F ∧ Fr w.heap.size F) := by
  have hn64 : n * n ≤ 64 := by rcases hn4 with h | h <;> rw [h] <;> decide
  have L : Exm [] w w := Exm.rfl'
  refine enter (n := 17) Try.func221 rfl rfl rfl ?_
  refine wp_seq ?_
  refine c_reg ?_
  refine s0 (x_assign (v := .slice _ _ _) rfl) ?_
  refine c_end ?_
  refine n_then ?_
  refine wp_seq ?_
  refine wp_seq ?_
  refine c_reg ?_
  refine s0 (x_move (v := .slice _ _ _) rfl) ?_
  refine s0 (x_move (v := .int _ _) rfl) ?_
  refine srb (zcall cl225HD rfl) (s_l12Fits _ _ _ _ _ (hp.ext L) (by omega) (by omega)) (fun h7 w1 l2 => ?_) (fun h7 w1 l2 => ?_)
  · have z_l2 := l2.size
    have L := L.tr l2.up
    refine s0 (x_not rfl) ?_
    refine c_end ?_
    refine n_then ?_
    refine c_false rfl ?_
    refine c_skipn ?_
    refine n_then ?_
    refine wp_seq ?_
    have hfit : fitsW xs (n * n) := h7
    have hx0 := hfit.1
    have hi0 := fits_inW hfit
    have hi1 := inW_up hi0 (show (1000000000 : Int) ≤ 16000000000 by decide)
    have hr1 := rowsB_in hn4 hx0 hi0
    have hlr := rowsL_length hn4 hx0
    have hce := columns_eq hn4 hlr
    have hl2 : (columnsOf (rowsL n xs)).length = n * n := by rw [hce]; exact colsL_length _ _
    have hi2 : inW (columnsOf (rowsL n xs)) 16000000000 := by rw [hce]; exact cols_in (by decide) hr1
    have hl3 := rowsL_length hn4 hl2
    have hl4 : (columnsOf (rowsL n (columnsOf (rowsL n xs)))).length = n * n := by rw [columns_eq hn4 hl3]; exact colsL_length _ _
    refine c_reg ?_
    refine s0 (x_move (v := .slice _ _ _) rfl) ?_
    refine s0 (x_move (v := .int _ _) rfl) ?_
    refine sp (zcall cl230HD rfl) (s_l13Rows _ _ _ _ _ (hp.ext L) (by omega) (by omega) (by assumption) (by assumption)) ?_
    rintro v12 w3 l4 ⟨p12, c12, F12, rfl, o12, f12⟩
    have z_l4 := l4.size
    have L := L.tr l4.up
    have g12 := o12.lt
    refine sp (zcall cl229HD rfl) (s_columns _ _ _ _ o12.sl (by omega)) ?_
    rintro v13 w5 l6 ⟨p13, c13, F13, rfl, o13, f13⟩
    have z_l6 := l6.size
    have L := L.tr l6.up
    have o12 := o12.ext l6
    have g13 := o13.lt
    refine s0 (x_move (v := .int _ _) rfl) ?_
    refine sp (zcall cl230HD rfl) (s_l13Rows _ _ _ _ _ o13.sl (by omega) (by omega) (by assumption) (by assumption)) ?_
    rintro v15 w7 l8 ⟨p15, c15, F15, rfl, o15, f15⟩
    have z_l8 := l8.size
    have L := L.tr l8.up
    have o12 := o12.ext l8
    have o13 := o13.ext l8
    have g15 := o15.lt
    refine sp (zcall cl229HD rfl) (s_columns _ _ _ _ o15.sl (by omega)) ?_
    rintro v16 w9 l10 ⟨p16, c16, F16, rfl, o16, f16⟩
    have z_l10 := l10.size
    have L := L.tr l10.up
    have o12 := o12.ext l10
    have o13 := o13.ext l10
    have o15 := o15.ext l10
    have g16 := o16.lt
    refine s0 (x_assign (v := .slice _ _ _) rfl) ?_
    refine c_end ?_
    refine n_then ?_
    refine wp_ret ?_
    refine f_ret rfl rfl ?_
    rw [show bothG n xs = columnsOf (rowsL n (columnsOf (rowsL n xs))) from by rw [columns_eq hn4 hl3, hce]; exact if_pos h7]
    exact ⟨_, rfl, L, _, _, _, rfl, o16, f16.mono (by omega)⟩
  · have z_l2 := l2.size
    have L := L.tr l2.up
    refine s0 (x_not rfl) ?_
    refine c_end ?_
    refine n_then ?_
    refine c_true rfl ?_
    refine wp_seq ?_
    refine c_reg ?_
    refine s_bs0 so22HD ?_
    intro p9 F9 w11 l12 o9 f9 g9
    have o9 : Own w11 p9 0 0 3 1 (ic []) F9 := o9
    have z_l12 := l12.size
    have L := L.tr l12.up
    refine s0 (x_assign (v := .slice _ _ _) rfl) ?_
    refine c_end ?_
    refine n_then ?_
    refine wp_ret (r_then ?_)
    refine f_ret rfl rfl ?_
    rw [show bothG n xs = [] from if_neg h7]
    exact ⟨_, rfl, L, _, _, _, rfl, o9, f9.mono (by omega)⟩

/-- spec.Fast4 -/
theorem s_fast4 (p : Option Addr) (xs : List Int) (c : Nat) (w : World) (hp : Sl w p xs.length c 1 (ic xs)) (hl : xs.length ≤ 1099511627776) :
    Calls Try.prog 183 [.slice p xs.length c].toArray w (RetP w fun v w' => ∃ p c F, v = .slice p (prodG mAt xs 4).length c ∧ Own w' p (prodG mAt xs 4).length c 3 1 (ic (prodG mAt xs 4)) F ∧ Fr w.heap.size F) := by
  have L : Exm [] w w := Exm.rfl'
  refine enter (n := 5) Try.func183 rfl rfl rfl ?_
  refine wp_seq ?_
  refine c_reg ?_
  refine s0 (x_assign (v := .slice _ _ _) rfl) ?_
  refine c_end ?_
  refine n_then ?_
  refine wp_seq ?_
  refine c_reg ?_
  refine s0 (x_move (v := .slice _ _ _) rfl) ?_
  refine sp (zcall cl221HD rfl) (s_l13Both _ _ _ 4 _ (hp.ext L) (by omega) (by omega)) ?_
  rintro v4 w1 l2 ⟨p4, c4, F4, rfl, o4, f4⟩
  have z_l2 := l2.size
  have L := L.tr l2.up
  have g4 := o4.lt
  refine s0 (x_assign (v := .slice _ _ _) rfl) ?_
  refine c_end ?_
  refine n_then ?_
  refine wp_ret ?_
  refine f_ret rfl rfl ?_
  rw [← MW_4, ← bothG_eq (.inl rfl)]
  exact ⟨_, rfl, L, _, _, _, rfl, o4, f4.mono (by omega)⟩

/-- spec.Fast8 -/
theorem s_fast8 (p : Option Addr) (xs : List Int) (c : Nat) (w : World) (hp : Sl w p xs.length c 1 (ic xs)) (hl : xs.length ≤ 1099511627776) :
    Calls Try.prog 184 [.slice p xs.length c].toArray w (RetP w fun v w' => ∃ p c F, v = .slice p (prodG hEnt xs 8).length c ∧ Own w' p (prodG hEnt xs 8).length c 3 1 (ic (prodG hEnt xs 8)) F ∧ Fr w.heap.size F) := by
  have L : Exm [] w w := Exm.rfl'
  refine enter (n := 5) Try.func184 rfl rfl rfl ?_
  refine wp_seq ?_
  refine c_reg ?_
  refine s0 (x_assign (v := .slice _ _ _) rfl) ?_
  refine c_end ?_
  refine n_then ?_
  refine wp_seq ?_
  refine c_reg ?_
  refine s0 (x_move (v := .slice _ _ _) rfl) ?_
  refine sp (zcall cl221HD rfl) (s_l13Both _ _ _ 8 _ (hp.ext L) (by omega) (by omega)) ?_
  rintro v4 w1 l2 ⟨p4, c4, F4, rfl, o4, f4⟩
  have z_l2 := l2.size
  have L := L.tr l2.up
  have g4 := o4.lt
  refine s0 (x_assign (v := .slice _ _ _) rfl) ?_
  refine c_end ?_
  refine n_then ?_
  refine wp_ret ?_
  refine f_ret rfl rfl ?_
  rw [← MW_8, ← bothG_eq (.inr rfl)]
  exact ⟨_, rfl, L, _, _, _, rfl, o4, f4.mono (by omega)⟩

/-- impl.FastResidual -/
theorem i_fastResidual (W H q : Int) (y z : Bool) (pA : Option Addr) (nA cA : Nat) (p : Option Addr) (xs : List Int) (c : Nat) (w : World) (hp : Sl w p xs.length c 1 (ic xs)) (hl : xs.length ≤ 1099511627776) :
    Calls Try.prog 88 [.agg [.int .i64 W, .int .i64 H, .int .i64 q, .bool y, .bool z, .slice pA nA cA].toArray, .slice p xs.length c].toArray w (RetP w fun v w' => ∃ p c F, v = .slice p (residual q y xs).length c ∧ Own w' p (residual q y xs).length c 3 1 (ic (residual q y xs)) F ∧ Fr w.heap.size F) := by
  have L : Exm [] w w := Exm.rfl'
  refine enter (n := 8) Try.func88 rfl rfl rfl ?_
  refine wp_seq ?_
  refine c_reg ?_
  refine s_box rfl rfl ?_
  intro b1 w2 lob1 hib1 l3 B1
  have z_l3 := l3.size
  have L := L.tr l3.up
  refine s0 (x_assign (v := .slice _ _ _) rfl) ?_
  refine c_end ?_
  refine n_then ?_
  refine wp_seq ?_
  refine c_reg ?_
  refine st (x_loadAgB ag27HD rfl B1 rfl) ?_
  refine s0 (x_move (v := .slice _ _ _) rfl) ?_
  refine sp (zcall cl86HD rfl) (i_residual _ _ _ _ _ _ _ _ _ _ _ _ (hp.ext L) (by omega)) ?_
  rintro v7 w4 l5 ⟨p7, c7, F7, rfl, o7, f7⟩
  have z_l5 := l5.size
  have L := L.tr l5.up
  have B1 := B1.ext l5
  have g7 := o7.lt
  refine s0 (x_assign (v := .slice _ _ _) rfl) ?_
  refine c_end ?_
  refine n_then ?_
  refine wp_ret ?_
  refine f_ret rfl rfl ?_
  exact ⟨_, rfl, L, _, _, _, rfl, o7, f7.mono (by omega)⟩

/-- spec.FastResidual -/
theorem s_fastResidual (W H q : Int) (y z : Bool) (pA : Option Addr) (nA cA : Nat) (p : Option Addr) (xs : List Int) (c : Nat) (w : World) (hp : Sl w p xs.length c 1 (ic xs)) (hl : xs.length ≤ 1099511627776) :
    Calls Try.prog 87 [.agg [.int .i64 W, .int .i64 H, .int .i64 q, .bool y, .bool z, .slice pA nA cA].toArray, .slice p xs.length c].toArray w (RetP w fun v w' => ∃ p c F, v = .slice p (residual q y xs).length c ∧ Own w' p (residual q y xs).length c 3 1 (ic (residual q y xs)) F ∧ Fr w.heap.size F) := by
  obtain ⟨Y, hY, rfl⟩ : ∃ (Y : Prop) (_ : Decidable Y), y = decide Y := ⟨y = true, inferInstance, by simp⟩
  have L : Exm [] w w := Exm.rfl'
  refine enter (n := 38) Try.func87 rfl rfl rfl ?_
  refine wp_seq ?_
  refine c_reg ?_
  refine s_box rfl rfl ?_
  intro b1 w2 lob1 hib1 l3 B1
  have z_l3 := l3.size
  have L := L.tr l3.up
  refine s0 (x_assign (v := .slice _ _ _) rfl) ?_
  refine c_end ?_
  refine n_then ?_
  refine wp_seq ?_
  refine wp_seq ?_
  refine c_reg ?_
  refine s0 (x_move (v := .slice _ _ _) rfl) ?_
  refine srb (zcall cl151HD rfl) (s_levelsOk _ _ _ _ (hp.ext L) (by omega)) (fun h7 w4 l5 => ?_) (fun h7 w4 l5 => ?_)
  · have z_l5 := l5.size
    have L := L.tr l5.up
    have B1 := B1.ext l5
    refine s0 (x_not rfl) ?_
    refine s0 (x_move (v := .bool _) rfl) ?_
    refine gt rfl rfl rfl rfl ?_
    refine s0 (x_fieldAddr fa27_2HD rfl) ?_
    refine gt rfl rfl rfl rfl ?_
    refine st (x_loadB sc3HD rfl B1 rfl) ?_
    refine gt rfl rfl rfl rfl ?_
    refine sr (zcall cl171HD rfl) (s_stepOf _ _) ?_
    intro w6 l7
    have z_l7 := l7.size
    have L := L.tr l7.up
    have B1 := B1.ext l7
    refine gt rfl rfl rfl rfl ?_
    refine sb (x_eql rfl rfl) (fun h13 => ?_) (fun h13 => ?_)
    · refine s0 (x_pickf (v := .bool _) rfl rfl) ?_
      refine c_end ?_
      refine n_then ?_
      refine c_true rfl ?_
      refine wp_seq ?_
      refine c_reg ?_
      refine s_bs0 so22HD ?_
      intro p15 F15 w8 l9 o15 f15 g15
      have o15 : Own w8 p15 0 0 3 1 (ic []) F15 := o15
      have z_l9 := l9.size
      have L := L.tr l9.up
      have B1 := B1.ext l9
      refine s0 (x_assign (v := .slice _ _ _) rfl) ?_
      refine c_end ?_
      refine n_then ?_
      refine wp_ret (r_then ?_)
      refine f_ret rfl rfl ?_
      rw [residual_no (fun h => by have := stepOf_le h.2; omega)]
      exact ⟨_, rfl, L, _, _, _, rfl, o15, f15.mono (by omega)⟩
    · refine s0 (x_pickf (v := .bool _) rfl rfl) ?_
      refine c_end ?_
      refine n_then ?_
      refine c_false rfl ?_
      refine c_skipn ?_
      refine n_then ?_
      refine wp_seq ?_
      have hq : 0 ≤ q ∧ q ≤ 51 := Classical.byContradiction fun h => h13 (stepOf_no h)
      have hlz := levels_size h7
      have hpl := placed_len h7
      have hsl := scaled_len (placed_ok h7) hq
      have hg4 := prodG_le mAt (scaled (placed xs) q) 4
      have hg8 := prodG_le hEnt (scaled (placed xs) q) 8
      refine c_reg ?_
      refine s0 (x_move (v := .slice _ _ _) rfl) ?_
      refine sp (zcall cl172HD rfl) (s_placed _ _ _ _ (hp.ext L) (by omega)) ?_
      rintro v17 w10 l11 ⟨p17, c17, F17, rfl, o17, f17⟩
      have z_l11 := l11.size
      have L := L.tr l11.up
      have B1 := B1.ext l11
      have g17 := o17.lt
      refine s0 (x_assign (v := .slice _ _ _) rfl) ?_
      refine c_end ?_
      refine n_then ?_
      refine wp_seq ?_
      refine wp_block ?_
      refine wp_seq ?_
      refine c_reg ?_
      refine s0 (x_fieldAddr fa27_3HD rfl) ?_
      refine sbl (x_loadB sc4HD rfl B1 rfl) (fun h20 => ?_) (fun h20 => ?_)
      · refine s0 (x_assign (v := .bool _) rfl) ?_
        refine c_end ?_
        refine n_then ?_
        refine c_true rfl ?_
        refine wp_seq ?_
        refine c_reg ?_
        refine s0 (x_move (v := .slice _ _ _) rfl) ?_
        refine s0 (x_assign (v := .slice _ _ _) rfl) ?_
        refine c_end ?_
        refine n_then ?_
        refine wp_ret (r_block (r_then ?_))
        refine f_ret rfl rfl ?_
        rw [show residual q (decide Y) xs = placed xs from by unfold residual; rw [if_pos ⟨h7, hq⟩, if_pos (decide_eq_true h20)]]
        exact ⟨_, rfl, L, _, _, _, rfl, o17, f17.mono (by omega)⟩
      · refine s0 (x_assign (v := .bool _) rfl) ?_
        refine c_end ?_
        refine n_then ?_
        refine c_false rfl ?_
        refine wp_seq ?_
        refine c_reg ?_
        refine s0 (x_move (v := .slice _ _ _) rfl) ?_
        refine s0 (x_lensl un22HD rfl) ?_
        refine sb (x_eql rfl rfl) (fun h25 => ?_) (fun h25 => ?_)
        · refine s0 (x_assign (v := .bool _) rfl) ?_
          refine c_end ?_
          refine n_then ?_
          refine c_true rfl ?_
          refine wp_seq ?_
          have hle : xs.length = 16 := by omega
          refine c_reg ?_
          refine s0 (x_move (v := .slice _ _ _) rfl) ?_
          refine s0 (x_fieldAddr fa27_2HD rfl) ?_
          refine st (x_loadB sc3HD rfl B1 rfl) ?_
          refine sp (zcall cl175HD rfl) (s_scaled _ _ _ _ _ o17.sl (by omega)) ?_
          rintro v29 w12 l13 ⟨p29, c29, F29, rfl, o29, f29⟩
          have z_l13 := l13.size
          have L := L.tr l13.up
          have B1 := B1.ext l13
          have o17 := o17.ext l13
          have g29 := o29.lt
          refine sp (zcall cl183HD rfl) (s_fast4 _ _ _ _ o29.sl (by omega)) ?_
          rintro v30 w14 l15 ⟨p30, c30, F30, rfl, o30, f30⟩
          have z_l15 := l15.size
          have L := L.tr l15.up
          have B1 := B1.ext l15
          have o17 := o17.ext l15
          have o29 := o29.ext l15
          have g30 := o30.lt
          refine sp (zcall cl173HD rfl) (s_rounded _ _ _ _ o30.sl (by omega)) ?_
          rintro v31 w16 l17 ⟨p31, c31, F31, rfl, o31, f31⟩
          have z_l17 := l17.size
          have L := L.tr l17.up
          have B1 := B1.ext l17
          have o17 := o17.ext l17
          have o29 := o29.ext l17
          have o30 := o30.ext l17
          have g31 := o31.lt
          refine s0 (x_assign (v := .slice _ _ _) rfl) ?_
          refine c_end ?_
          refine n_then ?_
          refine wp_ret (r_block (r_then ?_))
          refine f_ret rfl rfl ?_
          rw [show residual q (decide Y) xs = rounded (prodG mAt (scaled (placed xs) q) 4) from by unfold residual; rw [if_pos ⟨h7, hq⟩, if_neg (by simpa using h20), if_pos hle]]
          exact ⟨_, rfl, L, _, _, _, rfl, o31, f31.mono (by omega)⟩
        · refine s0 (x_assign (v := .bool _) rfl) ?_
          refine c_end ?_
          refine n_then ?_
          refine c_false rfl ?_
          refine c_skipn ?_
          refine n_block ?_
          refine n_then ?_
          refine wp_seq ?_
          have hle : ¬ xs.length = 16 := by omega
          refine c_reg ?_
          refine s0 (x_move (v := .slice _ _ _) rfl) ?_
          refine s0 (x_fieldAddr fa27_2HD rfl) ?_
          refine st (x_loadB sc3HD rfl B1 rfl) ?_
          refine sp (zcall cl175HD rfl) (s_scaled _ _ _ _ _ o17.sl (by omega)) ?_
          rintro v35 w18 l19 ⟨p35, c35, F35, rfl, o35, f35⟩
          have z_l19 := l19.size
          have L := L.tr l19.up
          have B1 := B1.ext l19
          have o17 := o17.ext l19
          have g35 := o35.lt
          refine sp (zcall cl184HD rfl) (s_fast8 _ _ _ _ o35.sl (by omega)) ?_
          rintro v36 w20 l21 ⟨p36, c36, F36, rfl, o36, f36⟩
          have z_l21 := l21.size
          have L := L.tr l21.up
          have B1 := B1.ext l21
          have o17 := o17.ext l21
          have o35 := o35.ext l21
          have g36 := o36.lt
          refine sp (zcall cl173HD rfl) (s_rounded _ _ _ _ o36.sl (by omega)) ?_
          rintro v37 w22 l23 ⟨p37, c37, F37, rfl, o37, f37⟩
          have z_l23 := l23.size
          have L := L.tr l23.up
          have B1 := B1.ext l23
          have o17 := o17.ext l23
          have o35 := o35.ext l23
          have o36 := o36.ext l23
          have g37 := o37.lt
          refine s0 (x_assign (v := .slice _ _ _) rfl) ?_
          refine c_end ?_
          refine n_then ?_
          refine wp_ret ?_
          refine f_ret rfl rfl ?_
          rw [show residual q (decide Y) xs = rounded (prodG hEnt (scaled (placed xs) q) 8) from by unfold residual; rw [if_pos ⟨h7, hq⟩, if_neg (by simpa using h20), if_neg hle]]
          exact ⟨_, rfl, L, _, _, _, rfl, o37, f37.mono (by omega)⟩
  · have z_l5 := l5.size
    have L := L.tr l5.up
    have B1 := B1.ext l5
    refine s0 (x_not rfl) ?_
    refine s0 (x_move (v := .bool _) rfl) ?_
    refine gf rfl rfl rfl rfl ?_
    refine gf rfl rfl rfl rfl ?_
    refine gf rfl rfl rfl rfl ?_
    refine gf rfl rfl rfl rfl ?_
    refine s0 (x_pickt (v := .bool _) rfl rfl) ?_
    refine c_end ?_
    refine n_then ?_
    refine c_true rfl ?_
    refine wp_seq ?_
    refine c_reg ?_
    refine s_bs0 so22HD ?_
    intro p15 F15 w24 l25 o15 f15 g15
    have o15 : Own w24 p15 0 0 3 1 (ic []) F15 := o15
    have z_l25 := l25.size
    have L := L.tr l25.up
    have B1 := B1.ext l25
    refine s0 (x_assign (v := .slice _ _ _) rfl) ?_
    refine c_end ?_
    refine n_then ?_
    refine wp_ret (r_then ?_)
    refine f_ret rfl rfl ?_
    rw [residual_no (fun h => h7 h.1)]
    exact ⟨_, rfl, L, _, _, _, rfl, o15, f15.mono (by omega)⟩

end Go.Proofs.Ytdnckakaoageoaa
