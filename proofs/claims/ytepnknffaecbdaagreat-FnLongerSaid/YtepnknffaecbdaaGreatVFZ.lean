/- What each function of this part returns, for every argument that meets its premises. -/
import Derived.Test.YtepnknffaecbdaaGreatProg
import Derived.Test.YtepnknffaecbdaaGreatVSxA
import Derived.Test.YtepnknffaecbdaaGreatVTy
import Derived.Test.YtepnknffaecbdaaGreatVPlA
import Derived.Test.YtepnknffaecbdaaGreatVF9
import Derived.Test.YtepnknffaecbdaaGreatVFB
import Derived.Test.YtepnknffaecbdaaGreatVFH
namespace Go.Proofs.YtepnknffaecbdaaGreat
open Go.Sx Go.Pl Go.RowKit
theorem i_rounded (p : Option Addr) (xs : List Int) (c : Nat) (w : World) (hp : Sl w p xs.length c 1 (ic xs)) (hl : xs.length ≤ 1099511627776) :
    Calls Tryz.prog 141 [.slice p xs.length c].toArray w (RetP w fun v w' => ∃ p c F, v = .slice p (rounded xs).length c ∧ Own w' p (rounded xs).length c 3 1 (ic (rounded xs)) F ∧ Fr w.heap.size F) := by
 have hsd : (sideOf xs.length = 0 ∧ ¬ (xs.length : Int) = 16) ∨ (sideOf xs.length = 4 ∧ (xs.length : Int) = 16) ∨ (sideOf xs.length = 8 ∧ ¬ (xs.length : Int) = 16) := by unfold sideOf; split <;> (try split) <;> omega
 obtain ⟨bq, hbr⟩ : ∃ bq : Int, ((xs.length : Int) = 16 ∧ bq = 1600) ∨ (¬ (xs.length : Int) = 16 ∧ bq = 64) := by by_cases h : (xs.length : Int) = 16; exact ⟨_, .inl ⟨h, rfl⟩⟩; exact ⟨_, .inr ⟨h, rfl⟩⟩
 have L : Exm [] w w := Exm.rfl'
 refine enter (n := 33) Tryz.func141 rfl rfl rfl ?_
 refine wp_seq (c_reg (s0 (xaS rfl) (c_end (n_then (wp_seq (c_reg (s0 (xaI rfl) (c_end (n_then (wp_seq (wp_seq (c_reg (s0 (xmS rfl) ?_)))))))))))))
 refine s0 (x_lensl un24 rfl) ?_
 refine sr (zcall cl76 rfl) (i_sizeOf _ _) ?_
 intro w1 l2
 have z_l2 := l2.size; have L := L.tr l2.up
 refine c_end (n_then (wp_block (wp_seq (c_reg ?_))))
 refine sb (x_eql rfl rfl) (fun h11 => ?_) (fun h11 => ?_)
 ·refine s0 (x_assign (v := .bool _) rfl) (c_end (n_then (c_true rfl (wp_seq (c_reg (s0 (xaS rfl) (c_end (n_then ?_))))))))
  refine wp_ret (r_block (r_then ?_))
  refine f_ret rfl rfl ?_
  have he : rounded xs = [] := if_pos h11
  rw [he]
  exact ⟨_, rfl, L, none, 0, [], rfl, Own.nil, Fr.no⟩
 ·refine s0 (x_assign (v := .bool _) rfl) (c_end (n_then (c_false rfl (wp_seq (c_reg ?_)))))
  refine sb (x_eql rfl rfl) (fun h13 => ?_) (fun h13 => ?_)
  ·refine s0 (x_assign (v := .bool _) rfl) (c_end (n_then (c_true rfl (c_reg (s0 (xaI rfl) (c_end (n_block (n_then (wp_seq (c_reg (s_bs0 so24 ?_)))))))))))
   intro p14 F14 w3 l4 o14 f14 g14
   have o14 : Own w3 p14 0 0 3 1 (ic []) F14 := o14; have z_l4 := l4.size; have L := L.tr l4.up
   refine s0 (xaS rfl) (c_end (n_then (wp_seq (wp_seq (c_reg (s0 (xmS rfl) (s0 (x_lensl un24 rfl) (s0 (xmI rfl) (c_end (n_then (wp_block ?_)))))))))))
   refine c_loop (γ := Nat) (fun k => xs.length - k) (fun (k : Nat) E wl => ∃ E0 pz4 cz4 Fz4, E = upd (upd (upd (upd (upd E0 3 (.int .i64 bq)) 4 (.slice pz4 ((rndK xs k).length) cz4)) 15 (.slice p xs.length c)) 16 (.int .i64 xs.length)) 17 (.int .i64 (k : Int)) ∧ (Exm [] w wl) ∧ (w3.heap.size ≤ wl.heap.size) ∧ (Own wl pz4 ((rndK xs k).length) cz4 3 1 (ic (rndK xs k)) Fz4) ∧ (Fr (w1.heap.size) Fz4) ∧ (Lt Fz4 wl.heap.size) ∧ ((k : Int) ≤ xs.length)) 0 ⟨_, _, _, _, upd_self5 (vint (by omega)) (slice_len rfl) rfl rfl rfl, L, (by omega), o14, (f14.mono (by omega)), (g14.mono (by omega)), (by omega)⟩ ?_
   rintro k E wl5 ⟨E0, pz4, cz4, Fz4, rfl, L, Lz, oz4, fz4, gz4, hk⟩
   have Lz0 := L.size; have hskl := rndK_length xs k
   refine wp_seq (c_reg ?_)
   refine sb (x_lss rfl rfl) (fun h18 => ?_) (fun h18 => ?_)
   ·refine c_end (n_then (wp_seq (c_true rfl (c_skipn (n_then (wp_seq (wp_block (wp_seq (c_reg (s0 (x_idx so24 rfl rfl hp (by decide) (by omega) (by omega)) (st (x_ldi sc3 rfl (hp.ext L) (by omega) (by omega)) (s0 (xaI rfl) (c_end ?_)))))))))))))
    refine n_then (c_reg (s0 (xmS rfl) (s0 (xmI rfl) ?_)))
    refine sr (zcall cl148 rfl) (i_limited _ _ _ _) ?_
    intro w6 l7
    have z_l7 := l7.size; have L := L.tr l7.up; have oz4 := oz4.ext l7
    refine s0 (xmI rfl) (s0 (x_quo rfl rfl (by omega) (by omega)) (s0 (x_add rfl rfl (by omega)) (s0 (xmI rfl) ?_)))
    refine sr (zcall cl193 rfl) (i_floorDiv _ _ _ (by omega) (by omega)) ?_
    intro w8 l9
    have z_l9 := l9.size; have L := L.tr l9.up; have oz4 := oz4.ext l9
    refine s_bsi (xs := [_]) so24 zr3 (pts_cons rfl pts_nil) rfl rfl rfl ?_
    intro p29 F29 w10 l11 o29 f29 g29
    have z_l11 := l11.size; have L := L.tr l11.up; have oz4 := oz4.ext l11; have hn29 := o29.n1
    refine s_appi (B := w1.heap.size) so24 zr3 rfl rfl (xs := _) oz4 o29.sl fz4 (by omega) (by omega) (by omega) ?_
    intro p30 c30 F30 w12 l13 o30 hn30 k30 f30 g30
    have z_l13 := l13.size; have L := L.freshL l13 fz4 (by omega); have d29_30 : Dj F29 F30 := k30.dj (by first|assumption|exact Dj.symm (by assumption)|exact dj_of f29 g29 fz4 gz4 (by omega)) g29 (by omega)
    have o29 := o29.exm l13 (by first|assumption|exact Dj.symm (by assumption)|exact dj_of fz4 gz4 f29 g29 (by omega))
    refine s0 (xaS rfl) (c_end (n_block (n_then (c_reg (s0 (x_add rfl rfl (by omega)) (s0 (xmI rfl) (c_end ?_)))))))
    exact c_round (g' := k + 1) (by omega) ⟨_, _, _, _, upd_self5 rfl (slice_len (by simp [rndK_length])) rfl rfl (vint (by omega)), L, (by omega), (by rw [rndK_succ, ← rnd_i hbr]; rw [Int.toNat_natCast] at o30; exact o30), (f30.mono (by omega)), (g30.mono (by omega)), (by omega)⟩
   ·refine c_end (n_then (wp_seq (c_false rfl ?_)))
    refine wp_exit (e_then (e_then (e_here ?_)))
    refine n_then (wp_seq (c_reg (s0 (xmS rfl) (s0 (xaS rfl) (c_end (n_then (wp_ret (f_ret rfl rfl ?_))))))))
    have he : rounded xs = rndK xs k := by unfold rounded; rw [if_neg h11, show k = xs.length by omega]
    rw [he]
    exact ⟨_, rfl, L, _, _, _, rfl, oz4, fz4.mono (by omega)⟩
  ·refine s0 (x_assign (v := .bool _) rfl) (c_end (n_then (c_false rfl (c_skipn (n_block (n_then (wp_seq (c_reg (s_bs0 so24 ?_)))))))))
   intro p14 F14 w14 l15 o14 f14 g14
   have o14 : Own w14 p14 0 0 3 1 (ic []) F14 := o14; have z_l15 := l15.size; have L := L.tr l15.up
   refine s0 (xaS rfl) (c_end (n_then (wp_seq (wp_seq (c_reg (s0 (xmS rfl) (s0 (x_lensl un24 rfl) (s0 (xmI rfl) (c_end (n_then (wp_block ?_)))))))))))
   refine c_loop (γ := Nat) (fun k => xs.length - k) (fun (k : Nat) E wl => ∃ E0 pz4 cz4 Fz4, E = upd (upd (upd (upd (upd E0 3 (.int .i64 bq)) 4 (.slice pz4 ((rndK xs k).length) cz4)) 15 (.slice p xs.length c)) 16 (.int .i64 xs.length)) 17 (.int .i64 (k : Int)) ∧ (Exm [] w wl) ∧ (w14.heap.size ≤ wl.heap.size) ∧ (Own wl pz4 ((rndK xs k).length) cz4 3 1 (ic (rndK xs k)) Fz4) ∧ (Fr (w1.heap.size) Fz4) ∧ (Lt Fz4 wl.heap.size) ∧ ((k : Int) ≤ xs.length)) 0 ⟨_, _, _, _, upd_self5 (vint (by omega)) (slice_len rfl) rfl rfl rfl, L, (by omega), o14, (f14.mono (by omega)), (g14.mono (by omega)), (by omega)⟩ ?_
   rintro k E wl16 ⟨E0, pz4, cz4, Fz4, rfl, L, Lz, oz4, fz4, gz4, hk⟩
   have Lz0 := L.size; have hskl := rndK_length xs k
   refine wp_seq (c_reg ?_)
   refine sb (x_lss rfl rfl) (fun h18 => ?_) (fun h18 => ?_)
   ·refine c_end (n_then (wp_seq (c_true rfl (c_skipn (n_then (wp_seq (wp_block (wp_seq (c_reg (s0 (x_idx so24 rfl rfl hp (by decide) (by omega) (by omega)) (st (x_ldi sc3 rfl (hp.ext L) (by omega) (by omega)) (s0 (xaI rfl) (c_end ?_)))))))))))))
    refine n_then (c_reg (s0 (xmS rfl) (s0 (xmI rfl) ?_)))
    refine sr (zcall cl148 rfl) (i_limited _ _ _ _) ?_
    intro w17 l18
    have z_l18 := l18.size; have L := L.tr l18.up; have oz4 := oz4.ext l18
    refine s0 (xmI rfl) (s0 (x_quo rfl rfl (by omega) (by omega)) (s0 (x_add rfl rfl (by omega)) (s0 (xmI rfl) ?_)))
    refine sr (zcall cl193 rfl) (i_floorDiv _ _ _ (by omega) (by omega)) ?_
    intro w19 l20
    have z_l20 := l20.size; have L := L.tr l20.up; have oz4 := oz4.ext l20
    refine s_bsi (xs := [_]) so24 zr3 (pts_cons rfl pts_nil) rfl rfl rfl ?_
    intro p29 F29 w21 l22 o29 f29 g29
    have z_l22 := l22.size; have L := L.tr l22.up; have oz4 := oz4.ext l22; have hn29 := o29.n1
    refine s_appi (B := w1.heap.size) so24 zr3 rfl rfl (xs := _) oz4 o29.sl fz4 (by omega) (by omega) (by omega) ?_
    intro p30 c30 F30 w23 l24 o30 hn30 k30 f30 g30
    have z_l24 := l24.size; have L := L.freshL l24 fz4 (by omega); have d29_30 : Dj F29 F30 := k30.dj (by first|assumption|exact Dj.symm (by assumption)|exact dj_of f29 g29 fz4 gz4 (by omega)) g29 (by omega)
    have o29 := o29.exm l24 (by first|assumption|exact Dj.symm (by assumption)|exact dj_of fz4 gz4 f29 g29 (by omega))
    refine s0 (xaS rfl) (c_end (n_block (n_then (c_reg (s0 (x_add rfl rfl (by omega)) (s0 (xmI rfl) (c_end ?_)))))))
    exact c_round (g' := k + 1) (by omega) ⟨_, _, _, _, upd_self5 rfl (slice_len (by simp [rndK_length])) rfl rfl (vint (by omega)), L, (by omega), (by rw [rndK_succ, ← rnd_i hbr]; rw [Int.toNat_natCast] at o30; exact o30), (f30.mono (by omega)), (g30.mono (by omega)), (by omega)⟩
   ·refine c_end (n_then (wp_seq (c_false rfl ?_)))
    refine wp_exit (e_then (e_then (e_here ?_)))
    refine n_then (wp_seq (c_reg (s0 (xmS rfl) (s0 (xaS rfl) (c_end (n_then (wp_ret (f_ret rfl rfl ?_))))))))
    have he : rounded xs = rndK xs k := by unfold rounded; rw [if_neg h11, show k = xs.length by omega]
    rw [he]
    exact ⟨_, rfl, L, _, _, _, rfl, oz4, fz4.mono (by omega)⟩

theorem g_ones64 (x : Nat) (w : World) (hx : x ≤ 7) :
    Calls Tryz.prog 233 [.int .u64 (x : Int)].toArray w (Ret w (.int .i64 ((pop3 x : Nat) : Int))) := by
 have L : Exm [] w w := Exm.rfl'
 refine enter (n := 35) Tryz.func233 rfl rfl rfl ?_
 refine wp_seq (c_reg (s0 (xaI rfl) (c_end (n_then (wp_seq (c_reg (s0 (xmI rfl) (s0 (x_shrc 1 2 rfl rfl (by decide) (by decide)) ?_))))))))
 refine s0 (x_bits (by simp) rfl rfl) ?_
 refine s0 (xmI rfl) ?_
 refine s0 (x_bits (by simp) rfl rfl) ?_
 refine s0 (x_addk rfl rfl) (s0 (xaI rfl) (c_end (n_then (wp_seq (c_reg (s0 (xmI rfl) (s0 (x_shrc 2 4 rfl rfl (by decide) (by decide)) ?_)))))))
 refine s0 (x_bits (by simp) rfl rfl) ?_
 refine s0 (xmI rfl) ?_
 refine s0 (x_bits (by simp) rfl rfl) ?_
 refine s0 (x_addk rfl rfl) (s0 (xaI rfl) (c_end (n_then (wp_seq (c_reg (s0 (xmI rfl) (s0 (x_shrc 4 16 rfl rfl (by decide) (by decide)) (s0 (xmI rfl) (s0 (x_addk rfl rfl) ?_)))))))))
 refine s0 (x_bits (by simp) rfl rfl) ?_
 refine s0 (xaI rfl) (c_end (n_then (wp_seq (c_reg (s0 (xmI rfl) (s0 (xmI rfl) (s0 (x_shrc 8 256 rfl rfl (by decide) (by decide)) (s0 (x_addk rfl rfl) (s0 (xaI rfl) (c_end (n_then (wp_seq (c_reg ?_)))))))))))))
 refine s0 (xmI rfl) (s0 (xmI rfl) (s0 (x_shrc 16 65536 rfl rfl (by decide) (by decide)) (s0 (x_addk rfl rfl) (s0 (xaI rfl) (c_end (n_then (wp_seq (c_reg (s0 (xmI rfl) (s0 (xmI rfl) (s0 (x_shrc 32 4294967296 rfl rfl (by decide) (by decide)) (s0 (x_addk rfl rfl) (s0 (xaI rfl) ?_)))))))))))))
 refine c_end (n_then (wp_seq (c_reg (s0 (xmI rfl) (s0 (x_convk us206 un3 rfl) ?_)))))
 refine s0 (x_bits (by simp) rfl rfl) ?_
 refine s0 (xaI rfl) (c_end (n_then (wp_ret (f_ret rfl rfl ?_))))
 obtain rfl | rfl | rfl | rfl | rfl | rfl | rfl | rfl : x = 0 ∨ x = 1 ∨ x = 2 ∨ x = 3 ∨ x = 4 ∨ x = 5 ∨ x = 6 ∨ x = 7 := by omega
 all_goals exact ⟨ret_int (by decide +kernel), L⟩

theorem g_ones (x : Nat) (w : World) (hx : x ≤ 7) :
    Calls Tryz.prog 225 [.int .u64 (x : Int)].toArray w (Ret w (.int .i64 ((pop3 x : Nat) : Int))) := by
 have L : Exm [] w w := Exm.rfl'
 refine enter (n := 8) Tryz.func225 rfl rfl rfl ?_
 refine wp_seq (c_reg (s0 (xaI rfl) (c_end (n_then (wp_seq (c_false rfl (c_skipn (n_then (wp_seq (c_reg (s0 (xmI rfl) ?_)))))))))))
 refine sr (zcall cl233 rfl) (g_ones64 _ _ (by omega)) ?_
 intro w1 l2
 have z_l2 := l2.size; have L := L.tr l2.up
 refine s0 (xaI rfl) (c_end (n_then (wp_ret (f_ret rfl rfl ?_))))
 exact ⟨rfl, L⟩

end Go.Proofs.YtepnknffaecbdaaGreat
