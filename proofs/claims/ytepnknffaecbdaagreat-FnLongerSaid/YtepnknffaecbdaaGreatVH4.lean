/- What each function of this part returns, for every argument that meets its premises. -/
import Derived.Test.YtepnknffaecbdaaGreatProg
import Derived.Test.YtepnknffaecbdaaGreatVSxA
import Derived.Test.YtepnknffaecbdaaGreatVTy
import Derived.Test.YtepnknffaecbdaaGreatVPlA
import Derived.Test.YtepnknffaecbdaaGreatVF1
import Derived.Test.YtepnknffaecbdaaGreatVF9
import Derived.Test.YtepnknffaecbdaaGreatVH2
import Derived.Test.YtepnknffaecbdaaGreatVH3
namespace Go.Proofs.YtepnknffaecbdaaGreat
open Go.Sx Go.Pl Go.RowKit
theorem i_pred (ts ls : List Int) (cr : Int) (u v : Bool) (n m : Int) (p1 : Option Addr) (c1 : Nat) (p2 : Option Addr) (c2 : Nat) (w : World) (h1 : Sl w p1 ts.length c1 1 (ic ts)) (h2 : Sl w p2 ls.length c2 1 (ic ls)) (hk : nbOk ts ls cr n) (hm : 0 ≤ m ∧ m ≤ 5) :
    Calls Tryz.prog 82 [.int .i64 m, .agg [.slice p1 ts.length c1, .slice p2 ls.length c2, .int .i64 cr, .bool u, .bool v].toArray, .int .i64 n].toArray w (RetP w fun v' w' => ∃ p c F, v' = .slice p ((predL m ts ls cr u v n)).length c ∧ Own w' p ((predL m ts ls cr u v n)).length c 3 1 (ic ((predL m ts ls cr u v n))) F ∧ Fr w.heap.size F) := by
 have hn4 := hk.1; have htl := hk.2.1; have hll := hk.2.2.1; have hpt := hk.2.2.2.1; have hpl := hk.2.2.2.2.1; have hcr := hk.2.2.2.2.2
 have hn64 : n * n ≤ 64 ∧ 0 ≤ n * n := by rcases hn4 with h | h <;> rw [h] <;> decide
 have L : Exm [] w w := Exm.rfl'
 refine enter (n := 40) Tryz.func82 rfl rfl rfl ?_
 refine wp_seq (c_reg (s_box rfl rfl ?_))
 intro b1 w2 lob1 hib1 l3 B1
 have z_l3 := l3.size; have L := L.tr l3.up
 refine s0 (xaS rfl) (c_end (n_then (wp_seq (wp_seq (c_reg (st (x_loadAgB ag118 rfl B1 rfl) (s0 (xmI rfl) ?_)))))))
 refine srb (zcall cl149 rfl) (i_nbOk _ _ _ _ _ _ _ _ _ _ _ (h1.ext L) (h2.ext L) hk) (fun h11 w4 l5 => ?_) (fun h11 w4 l5 => ?_)
 ·have z_l5 := l5.size
  have L := L.tr l5.up; have B1 := B1.ext l5
  refine s0 (x_not rfl) (s0 (x_move (v := .bool _) rfl) (gt rfl rfl rfl rfl (s0 (xmI rfl) (gt rfl rfl rfl rfl ?_))))
  refine srb (zcall cl77 rfl) (i_within _ _ _ _) (fun h15 w6 l7 => ?_) (fun h15 w6 l7 => ?_)
  ·have z_l7 := l7.size
   have L := L.tr l7.up; have B1 := B1.ext l7
   refine gt rfl rfl rfl rfl (s0 (x_not rfl) (s0 (x_pickf (v := .bool _) rfl rfl) (c_end (n_then (c_false rfl (c_skipn (n_then (wp_seq (c_reg (s_bs0 so24 ?_))))))))))
   intro p18 F18 w8 l9 o18 f18 g18
   have o18 : Own w8 p18 0 0 3 1 (ic []) F18 := o18; have z_l9 := l9.size; have L := L.tr l9.up; have B1 := B1.ext l9
   refine s0 (xaS rfl) (c_end (n_then (wp_seq (wp_seq (c_reg (s0 (xmI rfl) (s0 (xmI rfl) ?_)))))))
   refine s0 (x_mul rfl rfl (by rcases hn4 with h | h <;> rw [h] <;> decide)) ?_
   refine s0 (xmI rfl) (c_end (n_then (wp_block ?_)))
   refine c_loop (γ := Nat) (fun k => (n * n).toNat - k) (fun (k : Nat) E wl => ∃ E0 pz7 cz7 Fz7, E = upd (upd (upd (upd (upd (upd E0 0 (.int .i64 m)) 2 (.int .i64 n)) 4 (pt b1 0)) 7 (.slice pz7 ((predK m ts ls cr u v n k).length) cz7)) 21 (.int .i64 (n * n))) 22 (.int .i64 (k : Int)) ∧ (Exm [] w wl) ∧ (w8.heap.size ≤ wl.heap.size) ∧ (Bx wl b1 [.slice p1 ts.length c1, .slice p2 ls.length c2, .int .i64 cr, .bool u, .bool v] 118) ∧ (Own wl pz7 ((predK m ts ls cr u v n k).length) cz7 3 1 (ic (predK m ts ls cr u v n k)) Fz7) ∧ (Fr (w6.heap.size) Fz7) ∧ (Lt Fz7 wl.heap.size) ∧ (b1 ∉ Fz7) ∧ ((k : Int) ≤ n * n)) 0 ⟨_, _, _, _, upd_self6 rfl rfl rfl (slice_len rfl) rfl rfl, L, (by omega), B1, o18, (f18.mono (by omega)), (g18.mono (by omega)), (by first|assumption|exact nin_of f18 g18 (by omega)), (by omega)⟩ ?_
   rintro k E wl10 ⟨E0, pz7, cz7, Fz7, rfl, L, Lz, B1, oz7, fz7, gz7, ab1_z7, hk2⟩
   have Lz0 := L.size; have hpk := predK_length m ts ls cr u v n k
   refine wp_seq (c_reg ?_)
   refine sb (x_lss rfl rfl) (fun h23 => ?_) (fun h23 => ?_)
   ·refine c_end (n_then (wp_seq (c_true rfl (c_skipn (n_then (wp_seq (wp_block (wp_seq (c_reg (s0 (xmI rfl) (s0 (xaI rfl) (c_end (n_then ?_)))))))))))))
    have hc4 := cells4 (k := k) hn4 (by omega)
    refine c_plan (fun wq => Exm [] wl10 wq) 12 (.cons (0, 2) (.cons (1, 2) (.cons (2, 1) (.cons (3, 2) (.cons (4, 2) (.cons (5, 2) (.cons (6, 2) (.cons (7, 2) (.cons (8, 2) (.cons (9, 2) (.cons (10, 0) (.cons (11, 0) (.cons (12, 0) (.cons (13, 0) .nil)))))))))))))) (by kernel_rfl) (by kernel_rfl) (Exm.drew _) ?_
    obtain ⟨w11, hwd⟩ : ∃ x, x = wl10.drew := ⟨_, rfl⟩
    have l12 : Ext wl10 w11 := by rw [hwd]; exact Exm.drew _
    rw [← hwd]; clear hwd
    have Lq : Exm [] wl10 w11 := l12.up; have qB1 := B1; have z_l12 := l12.size; have L := L.tr l12.up; have B1 := B1.ext l12; have oz7 := oz7.ext l12
    refine p0 rfl (xmS rfl) (p0 rfl (xmI rfl) ?_)
    refine ps rfl (fun wq hwq => x_loadAgB ag118 rfl (qB1.ext hwq) rfl) ?_
    refine p0 rfl (xmI rfl) (p0 rfl (xmI rfl) (p0 rfl (xmI rfl) (p0 rfl (x_rem rfl rfl (by omega) (by omega)) (p0 rfl (xmI rfl) (p0 rfl (xmI rfl) (p0 rfl (x_quo rfl rfl (by omega) (by omega)) (pu rfl ?_)))))))
    refine sr (zcall cl150 rfl) (i_predAt _ _ _ _ _ _ _ _ _ _ _ _ _ _ (h1.ext L) (h2.ext L) hk (by omega) (by omega) (by omega)) ?_
    intro w13 l14
    have z_l14 := l14.size; have L := L.tr l14.up; have Lq := Lq.tr l14.up; have B1 := B1.ext l14; have oz7 := oz7.ext l14
    refine c_end ⟨rfl, fun h hS => Lq, ?_⟩
    refine pu rfl ?_
    refine s_bsi (xs := [_]) so24 zr3 (pts_cons rfl pts_nil) rfl rfl rfl ?_
    intro p36 F36 w15 l16 o36 f36 g36
    have z_l16 := l16.size; have L := L.tr l16.up; have Lq := Lq.tr l16.up; have B1 := B1.ext l16; have oz7 := oz7.ext l16; have hn36 := o36.n1
    refine c_end ⟨rfl, fun h hS => Lq, ?_⟩
    refine pu rfl (s_appi (B := w6.heap.size) so24 zr3 rfl rfl (xs := _) oz7 o36.sl fz7 (by omega) (by omega) (by omega) ?_)
    intro p37 c37 F37 w17 l18 o37 hn37 k37 f37 g37
    have ab1_37 : b1 ∉ F37 := k37.nin (by first|assumption|exact nin_of fz7 gz7 (by omega)) (by omega)
    have B1 := B1.exm l18 (by first|assumption|exact nin_of fz7 gz7 (by omega))
    have z_l18 := l18.size; have L := L.freshL l18 fz7 (by omega); have d36_37 : Dj F36 F37 := k37.dj (by first|assumption|exact Dj.symm (by assumption)|exact dj_of f36 g36 fz7 gz7 (by omega)) g36 (by omega)
    have o36 := o36.exm l18 (by first|assumption|exact Dj.symm (by assumption)|exact dj_of fz7 gz7 f36 g36 (by omega))
    refine c_end ⟨rfl, fun h hS => absurd h (by decide), ?_⟩
    refine pu rfl (s0 (xaS rfl) ?_)
    refine c_end ⟨rfl, fun h hS => absurd h (by decide), ?_⟩
    refine p_nil (np_normal ?_)
    refine n_block (n_then (c_reg (s0 (x_add rfl rfl (by omega)) (s0 (xmI rfl) (c_end ?_)))))
    exact c_round (g' := k + 1) (by omega) ⟨_, _, _, _, upd_self6 rfl rfl rfl (slice_len (by simp [predK_length])) rfl (vint (by omega)), L, (by omega), B1, (by rw [predK_succ]; exact o37), (f37.mono (by omega)), (g37.mono (by omega)), (by first|assumption|exact nin_of f37 g37 (by omega)), (by omega)⟩
   ·refine c_end (n_then (wp_seq (c_false rfl ?_)))
    refine wp_exit (e_then (e_then (e_here ?_)))
    refine n_then (wp_seq (c_reg (s0 (xmS rfl) (s0 (xaS rfl) (c_end (n_then (wp_ret (f_ret rfl rfl ?_))))))))
    have he : predL m ts ls cr u v n = predK m ts ls cr u v n k := by unfold predL; rw [show (n * n).toNat = k by omega]
    rw [he]
    exact ⟨_, rfl, L, _, _, _, rfl, oz7, fz7.mono (by omega)⟩
  ·exact absurd hm h15
 ·exact absurd trivial h11

end Go.Proofs.YtepnknffaecbdaaGreat
