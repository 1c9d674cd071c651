/- What each function of this part returns, for every argument that meets its premises. -/
import Derived.Test.YtepnknffaecbdaaGreatProg
import Derived.Test.YtepnknffaecbdaaGreatVSxA
import Derived.Test.YtepnknffaecbdaaGreatVTy
import Derived.Test.YtepnknffaecbdaaGreatVPlA
import Derived.Test.YtepnknffaecbdaaGreatVF9
import Derived.Test.YtepnknffaecbdaaGreatVFH
import Derived.Test.YtepnknffaecbdaaGreatVHA
namespace Go.Proofs.YtepnknffaecbdaaGreat
open Go.Sx Go.Pl Go.RowKit
theorem i_product (pm : Option Addr) (n cm : Nat) (ls : List Li) (M : Nat → Nat → Int) (p : Option Addr) (xs : List Int) (c : Nat) (w : World) (hM : RdM w pm n cm ls M) (hp : Sl w p xs.length c 1 (ic xs)) (hl : xs.length ≤ 1099511627776) (hn : n ≤ 8) (hs : smallMt M n) :
    Calls Tryz.prog 194 [.slice pm n cm, .slice p xs.length c].toArray w (RetP w fun v w' => ∃ p c F, v = .slice p (prodG M xs n).length c ∧ Own w' p (prodG M xs n).length c 3 1 (ic (prodG M xs n)) F ∧ Fr w.heap.size F) := by
 have hnl := hM.1
 obtain ⟨N, hN⟩ : ∃ N : Nat, N = n * n := ⟨_, rfl⟩
 have hNi : (n : Int) * n = N := by rw [hN, Int.natCast_mul]
 have hN64 : N ≤ 64 := by rw [hN]; exact Nat.mul_le_mul hn hn
 have L : Exm [] w w := Exm.rfl'
 refine enter (n := 118) Tryz.func194 rfl rfl rfl ?_
 refine wp_seq (c_reg (s0 (xaS rfl) (c_end (n_then (wp_seq (c_reg (s0 (xmS rfl) (s0 (x_lensl un187 rfl) (s0 (xaI rfl) (c_end (n_then (wp_seq (wp_seq ?_)))))))))))))
 refine c_reg (s0 (xmS rfl) (s0 (x_lensl un24 rfl) (s0 (xmI rfl) (s0 (xmI rfl) (s0 (x_mule (N : Int) rfl rfl hNi (by omega)) ?_)))))
 refine sb (x_neq rfl rfl) (fun h21 => ?_) (fun h21 => ?_)
 ·refine s0 (x_move (v := .bool _) rfl) (gf rfl rfl rfl rfl (gf rfl rfl rfl rfl (gf rfl rfl rfl rfl (s0 (x_pickt (v := .bool _) rfl rfl) (c_end (n_then (c_true rfl (wp_seq (c_reg (s0 (xaS rfl) (c_end (n_then ?_))))))))))))
  refine wp_ret (r_then ?_)
  refine f_ret rfl rfl ?_
  have hnf : ¬ fitsW xs (n * n) := fun h => h21 (by have := h.1; omega)
  rw [show prodG M xs n = [] from if_neg hnf]
  exact ⟨_, rfl, L, none, 0, [], rfl, Own.nil, Fr.no⟩
 ·refine s0 (x_move (v := .bool _) rfl) (gt rfl rfl rfl rfl (s0 (xmS rfl) (gt rfl rfl rfl rfl ?_)))
  refine srb (zcall cl147 rfl) (i_allWithin _ _ _ _ _ _ _ (hp.ext L) (by omega)) (fun h24 w1 l2 => ?_) (fun h24 w1 l2 => ?_)
  ·have z_l2 := l2.size
   have L := L.tr l2.up
   refine gt rfl rfl rfl rfl (s0 (x_not rfl) (s0 (x_pickf (v := .bool _) rfl rfl) (c_end (n_then (c_false rfl (c_skipn (n_then (wp_seq ?_))))))))
   refine c_plan (fun wq => Exm [] w1 wq) 10 (.cons (0, 2) (.cons (1, 2) (.cons (2, 2) (.cons (4, 2) (.cons (5, 2) (.cons (6, 2) (.fork 3 7 (.cons (8, 2) (.cons (7, 0) (.cons (9, 2) .nil))) (.cons (3, 0) (.cons (8, 2) (.cons (9, 2) .nil)))))))))) (by kernel_rfl) (by kernel_rfl) (Exm.drew _) ?_
   obtain ⟨w3, hwd⟩ : ∃ x, x = w1.drew := ⟨_, rfl⟩
   have l4 : Ext w1 w3 := by rw [hwd]; exact Exm.drew _
   rw [← hwd]; clear hwd
   have Lq : Exm [] w1 w3 := l4.up; have qL := L; have z_l4 := l4.size; have L := L.tr l4.up
   refine p0 rfl (xmI rfl) (p0 rfl (xmI rfl) (p0 rfl (x_mule (N : Int) rfl rfl hNi (by omega)) (p0 rfl (xmI rfl) (p0 rfl (xmI rfl) (p0 rfl (x_mule (N : Int) rfl rfl hNi (by omega)) ?_)))))
   refine pfork ?_ ?_
   ·refine pu rfl (s_makei so24 zr3 rfl rfl (by omega) (by omega) (by omega) ?_)
    intro p30 F30 w5 l6 o30 f30 g30
    have z_l6 := l6.size; have L := L.tr l6.up; have Lq := Lq.tr l6.up; have hn30 := o30.n1
    refine c_end ⟨rfl, fun h hS => Lq, ?_⟩
    refine p0 rfl (xaS rfl) (pu rfl (s_makei so24 zr3 rfl rfl (by omega) (by omega) (by omega) ?_))
    intro p34 F34 w7 l8 o34 f34 g34
    have z_l8 := l8.size; have L := L.tr l8.up; have Lq := Lq.tr l8.up; have o30 := o30.ext l8; have hn34 := o34.n1
    refine c_end ⟨rfl, fun h hS => Lq, ?_⟩
    refine p0 rfl (xaS rfl) ?_
    refine p_nil (np_normal ?_)
    refine n_then (wp_seq (wp_seq ?_))
    have hfit : fitsW xs (n * n) := ⟨by omega, h24⟩
    have hin := fits_inW hfit; have hhr := half_range hs hin hn
    have o30 := ownI o30 (ys := accS (T1 M xs n) N n (0 * n) 0) (by rw [Nat.zero_mul, accS_zero]; try rfl)
    refine c_reg (s0 (xmI rfl) (s0 (xmI rfl) (c_end (n_then (wp_block ?_)))))
    refine c_loop (γ := Nat) (fun r => n - r) (fun (r : Nat) E wl => ∃ E0, E = upd (upd (upd (upd (upd (upd (upd E0 0 (.slice pm n cm)) 1 (.slice p xs.length c)) 5 (.int .i64 n)) 6 (.slice p30 N N)) 7 (.slice p34 N N)) 35 (.int .i64 n)) 36 (.int .i64 (r : Int)) ∧ (Exm [] w wl) ∧ (w7.heap.size ≤ wl.heap.size) ∧ (Own wl p30 N N 3 1 (ic (accS (T1 M xs n) N n (r * n) 0)) F30) ∧ (Own wl p34 N N 3 1 (ic (List.replicate N 0)) F34) ∧ ((r : Int) ≤ n)) 0 ⟨_, upd_self7 rfl rfl rfl rfl rfl rfl rfl, L, (by omega), o30, o34, (by omega)⟩ ?_
    rintro r E wl9 ⟨E0, rfl, L, Lz, o30, o34, hler⟩
    have Lz0 := L.size
    refine wp_seq (c_reg ?_)
    refine sb (x_lss rfl rfl) (fun h37 => ?_) (fun h37 => ?_)
    ·refine c_end (n_then (wp_seq (c_true rfl (c_skipn (n_then (wp_seq (wp_block (wp_seq (c_reg (s0 (xmI rfl) (s0 (xaI rfl) (c_end (n_then ?_)))))))))))))
     refine wp_seq (c_reg (s0 (xmI rfl) (s0 (xmI rfl) (c_end (n_then (wp_block ?_))))))
     refine c_loop (γ := Nat) (fun k => n - k) (fun (k : Nat) E wl => ∃ E0, E = upd (upd (upd (upd (upd (upd (upd (upd (upd (upd E0 0 (.slice pm n cm)) 1 (.slice p xs.length c)) 5 (.int .i64 n)) 6 (.slice p30 N N)) 7 (.slice p34 N N)) 8 (.int .i64 (r : Int))) 35 (.int .i64 n)) 36 (.int .i64 (r : Int))) 39 (.int .i64 n)) 40 (.int .i64 (k : Int)) ∧ (Exm [] w wl) ∧ (wl9.heap.size ≤ wl.heap.size) ∧ (Own wl p30 N N 3 1 (ic (accS (T1 M xs n) N n (r * n + k) 0)) F30) ∧ (Own wl p34 N N 3 1 (ic (List.replicate N 0)) F34) ∧ ((k : Int) ≤ n)) 0 ⟨_, upd_self10 rfl rfl rfl rfl rfl rfl rfl rfl rfl rfl, L, (by omega), o30, o34, (by omega)⟩ ?_
     rintro k E wl10 ⟨E0, rfl, L, Lz, o30, o34, hlek⟩
     have Lz0 := L.size
     refine wp_seq (c_reg ?_)
     refine sb (x_lss rfl rfl) (fun h41 => ?_) (fun h41 => ?_)
     ·refine c_end (n_then (wp_seq (c_true rfl (c_skipn (n_then (wp_seq (wp_block (wp_seq (c_reg (s0 (xmI rfl) (s0 (xaI rfl) (c_end (n_then ?_)))))))))))))
      refine wp_seq (c_reg (s0 (xmI rfl) (s0 (xmI rfl) (c_end (n_then (wp_block ?_))))))
      refine c_loop (γ := Nat) (fun i => n - i) (fun (i : Nat) E wl => ∃ E0, E = upd (upd (upd (upd (upd (upd (upd (upd (upd (upd (upd (upd (upd E0 0 (.slice pm n cm)) 1 (.slice p xs.length c)) 5 (.int .i64 n)) 6 (.slice p30 N N)) 7 (.slice p34 N N)) 8 (.int .i64 (r : Int))) 9 (.int .i64 (k : Int))) 35 (.int .i64 n)) 36 (.int .i64 (r : Int))) 39 (.int .i64 n)) 40 (.int .i64 (k : Int))) 43 (.int .i64 n)) 44 (.int .i64 (i : Int)) ∧ (Exm [] w wl) ∧ (wl10.heap.size ≤ wl.heap.size) ∧ (Own wl p30 N N 3 1 (ic (accS (T1 M xs n) N n (r * n + k) i)) F30) ∧ (Own wl p34 N N 3 1 (ic (List.replicate N 0)) F34) ∧ ((i : Int) ≤ n)) 0 ⟨_, upd_self13 rfl rfl rfl rfl rfl rfl rfl rfl rfl rfl rfl rfl rfl, L, (by omega), o30, o34, (by omega)⟩ ?_
      rintro i E wl11 ⟨E0, rfl, L, Lz, o30, o34, hlei⟩
      have Lz0 := L.size
      refine wp_seq (c_reg ?_)
      refine sb (x_lss rfl rfl) (fun h45 => ?_) (fun h45 => ?_)
      ·refine c_end (n_then (wp_seq (c_true rfl (c_skipn (n_then (wp_seq (wp_block (wp_seq (c_reg (s0 (xmI rfl) (s0 (xaI rfl) (c_end (n_then ?_)))))))))))))
       have hal := accS_length (T1 M xs n) N n (r * n + k) i; have hhl : (halfL M xs n).length = n * n := accL_length _ _ _; have hfm := flatM_length M n; have hq := q_lt (n := n) (r := r) (k := k) (by omega) (by omega); have hq2 := q_lt (n := n) (r := i) (k := k) (by omega) (by omega); have hrm := hM.rlen (r := (r : Int)) (by omega) (by omega); have e2 : (((i * n : Nat) : Int) + (k : Int)).toNat = i * n + k := by omega
       have hTe : (T1 M xs n) (r * n + k) i = (ls.getD (r : Int).toNat default).xs.getD (i : Int).toNat 0 * xs.getD (((i * n : Nat) : Int) + (k : Int)).toNat 0 := by rw [T1_at (by omega), hM.ent (by omega) (by omega) (by omega) (by omega), e2]; rfl
       have e1 : (((r * n : Nat) : Int) + (k : Int)).toNat = r * n + k := by omega
       have hcur : (accS (T1 M xs n) N n (r * n + k) i).getD (((r * n : Nat) : Int) + (k : Int)).toNat 0 = accP (T1 M xs n) (r * n + k) i := by rw [e1]; exact accS_get _ (by omega)
       have hTr : -2000000000 ≤ (T1 M xs n) (r * n + k) i ∧ (T1 M xs n) (r * n + k) i ≤ 2000000000 := T1_range hs hin (by omega) (by omega : i < n)
       have hac := accP_range (T := T1 M xs n) (q := r * n + k) (B := 2000000000) (n := i) fun j hj => T1_range hs hin (by omega) (by omega : j < n)
       rw [hTe] at hTr
       refine c_plan (fun wq => Exm [] wl11 wq) 26 (.cons (0, 2) (.cons (1, 2) (.cons (2, 2) (.cons (3, 2) (.cons (4, 2) (.cons (5, 2) (.cons (6, 2) (.cons (7, 1) (.cons (8, 2) (.cons (9, 2) (.cons (10, 2) (.cons (11, 1) (.cons (12, 2) (.cons (13, 2) (.cons (14, 1) (.cons (15, 2) (.cons (16, 2) (.cons (17, 2) (.cons (18, 2) (.cons (19, 2) (.cons (20, 2) (.cons (21, 2) (.cons (22, 1) (.cons (23, 2) (.cons (24, 2) (.cons (25, 2) (.cons (26, 0) .nil))))))))))))))))))))))))))) (by kernel_rfl) (by kernel_rfl) (Exm.drew _) ?_
       obtain ⟨w12, hwd⟩ : ∃ x, x = wl11.drew := ⟨_, rfl⟩
       have l13 : Ext wl11 w12 := by rw [hwd]; exact Exm.drew _
       rw [← hwd]; clear hwd
       have Lq : Exm [] wl11 w12 := l13.up; have qo30 := o30; have qL := L; have z_l13 := l13.size; have L := L.tr l13.up; have o30 := o30.ext l13; have o34 := o34.ext l13
       refine p0 rfl (xmS rfl) (p0 rfl (xmI rfl) (p0 rfl (xmI rfl) (p0 rfl (x_mule ((r * n : Nat) : Int) rfl rfl (Int.natCast_mul _ _).symm (by omega)) (p0 rfl (xmI rfl) (p0 rfl (x_add rfl rfl (by omega)) (p0 rfl (x_idx so24 rfl rfl o30.sl (by decide) (by omega) (by omega)) ?_))))))
       refine ps rfl (fun wq hwq => x_ldi sc3 rfl (qo30.ext hwq).sl (by omega) (by omega)) ?_
       refine p0 rfl (xmS rfl) (p0 rfl (xmI rfl) (p0 rfl (x_idx so187 rfl rfl hM.2.1.1 (by decide) (by omega) (by omega)) ?_))
       refine ps rfl (fun wq hwq => x_ldf (k := 0) lrow_len sc24 rfl ((hM.2.1.1.ext qL).ext hwq) (by omega) (by omega) (by decide) rfl) ?_
       refine p0 rfl (xmI rfl) (p0 rfl (x_idx so24 rfl rfl ((hM.2.1.2 _ (getD_mem (by omega) (by omega))).ext L) (by decide) (by omega) (by omega)) ?_)
       refine ps rfl (fun wq hwq => x_ldi sc3 rfl (((hM.2.1.2 _ (getD_mem (by omega) (by omega))).ext qL).ext hwq) (by omega) (by omega)) ?_
       refine p0 rfl (xmS rfl) (p0 rfl (xmI rfl) (p0 rfl (xmI rfl) (p0 rfl (x_mule ((i * n : Nat) : Int) rfl rfl (Int.natCast_mul _ _).symm (by omega)) (p0 rfl (xmI rfl) (p0 rfl (x_add rfl rfl (by omega)) (p0 rfl (x_idx so24 rfl rfl hp (by decide) (by omega) (by omega)) ?_))))))
       refine ps rfl (fun wq hwq => x_ldi sc3 rfl ((hp.ext qL).ext hwq) (by omega) (by omega)) ?_
       refine p0 rfl (x_mul rfl rfl (by omega)) (p0 rfl (x_add rfl rfl (by omega)) (p0 rfl (x_idx so24 rfl rfl o30.sl (by decide) (by omega) (by omega)) (pu rfl (s_stoi rfl sz3 rfl rfl o30 (by omega) (by omega) ?_))))
       intro w14 l15 el15 o30
       have z_l15 := l15.size; have L := L.freshL l15 f30 (by omega); have o34 := o34.exm l15 (by first|assumption|exact Dj.symm (by assumption)|exact dj_of f30 g30 f34 g34 (by omega))
       have hnl15 := o30.n1
       refine c_end ⟨rfl, fun h hS => absurd h (by decide), ?_⟩
       refine p_nil (np_normal ?_)
       refine n_block (n_then (c_reg (s0 (x_add rfl rfl (by omega)) (s0 (xmI rfl) (c_end ?_)))))
       have o30 := ownI o30 (ys := accS (T1 M xs n) N n (r * n + k) (i + 1)) (by rw [e1]; exact accS_set _ (by omega) (by rw [accS_get _ (by omega), hTe]))
       exact c_round (g' := i + 1) (by omega) ⟨_, upd_self13 rfl rfl rfl rfl rfl rfl rfl rfl rfl rfl rfl rfl (vint (by omega)), L, (by omega), o30, o34, (by omega)⟩
      ·refine c_end (n_then (wp_seq (c_false rfl ?_)))
       refine wp_exit (e_then (e_then (e_here ?_)))
       refine n_block (n_then (c_reg (s0 (x_add rfl rfl (by omega)) (s0 (xmI rfl) (c_end ?_)))))
       have hie : i = n := by omega
       rw [hie] at o30
       have o30 := ownI o30 (ys := accS (T1 M xs n) N n (r * n + (k + 1)) 0) (accS_next _ _ _ _)
       exact c_round (g' := k + 1) (by omega) ⟨_, upd_self10 rfl rfl rfl rfl rfl rfl rfl rfl rfl (vint (by omega)), L, (by omega), o30, o34, (by omega)⟩
     ·refine c_end (n_then (wp_seq (c_false rfl ?_)))
      refine wp_exit (e_then (e_then (e_here ?_)))
      refine n_block (n_then (c_reg (s0 (x_add rfl rfl (by omega)) (s0 (xmI rfl) (c_end ?_)))))
      have hke : k = n := by omega
      rw [hke] at o30
      have o30 := ownI o30 (ys := accS (T1 M xs n) N n ((r + 1) * n) 0) (by rw [Nat.add_mul, Nat.one_mul])
      exact c_round (g' := r + 1) (by omega) ⟨_, upd_self7 rfl rfl rfl rfl rfl rfl (vint (by omega)), L, (by omega), o30, o34, (by omega)⟩
    ·refine c_end (n_then (wp_seq (c_false rfl ?_)))
     refine wp_exit (e_then (e_then (e_here ?_)))
     refine n_then (wp_seq (wp_seq ?_))
     have hre : r = n := by omega
     have o30 := ownI o30 (ys := halfL M xs n) (by rw [hre]; unfold halfL; rw [← hN]; exact accS_end _ (by omega))
     have o34 := ownI o34 (ys := accS (T2 M (halfL M xs n) n) N n (0 * n) 0) (by rw [Nat.zero_mul, accS_zero]; try rfl)
     refine c_reg (s0 (xmI rfl) (s0 (xmI rfl) (c_end (n_then (wp_block ?_)))))
     refine c_loop (γ := Nat) (fun y => n - y) (fun (y : Nat) E wl => ∃ E0, E = upd (upd (upd (upd (upd (upd E0 0 (.slice pm n cm)) 5 (.int .i64 n)) 6 (.slice p30 N N)) 7 (.slice p34 N N)) 76 (.int .i64 n)) 77 (.int .i64 (y : Int)) ∧ (Exm [] w wl) ∧ (wl9.heap.size ≤ wl.heap.size) ∧ (Own wl p34 N N 3 1 (ic (accS (T2 M (halfL M xs n) n) N n (y * n) 0)) F34) ∧ (Own wl p30 N N 3 1 (ic (halfL M xs n)) F30) ∧ ((y : Int) ≤ n)) 0 ⟨_, upd_self6 rfl rfl rfl rfl rfl rfl, L, (by omega), o34, o30, (by omega)⟩ ?_
     rintro y E wl16 ⟨E0, rfl, L, Lz, o34, o30, hley⟩
     have Lz0 := L.size
     refine wp_seq (c_reg ?_)
     refine sb (x_lss rfl rfl) (fun h78 => ?_) (fun h78 => ?_)
     ·refine c_end (n_then (wp_seq (c_true rfl (c_skipn (n_then (wp_seq (wp_block (wp_seq (c_reg (s0 (xmI rfl) (s0 (xaI rfl) (c_end (n_then ?_)))))))))))))
      refine wp_seq (c_reg (s0 (xmI rfl) (s0 (xmI rfl) (c_end (n_then (wp_block ?_))))))
      refine c_loop (γ := Nat) (fun x => n - x) (fun (x : Nat) E wl => ∃ E0, E = upd (upd (upd (upd (upd (upd (upd (upd (upd E0 0 (.slice pm n cm)) 5 (.int .i64 n)) 6 (.slice p30 N N)) 7 (.slice p34 N N)) 11 (.int .i64 (y : Int))) 76 (.int .i64 n)) 77 (.int .i64 (y : Int))) 80 (.int .i64 n)) 81 (.int .i64 (x : Int)) ∧ (Exm [] w wl) ∧ (wl16.heap.size ≤ wl.heap.size) ∧ (Own wl p34 N N 3 1 (ic (accS (T2 M (halfL M xs n) n) N n (y * n + x) 0)) F34) ∧ (Own wl p30 N N 3 1 (ic (halfL M xs n)) F30) ∧ ((x : Int) ≤ n)) 0 ⟨_, upd_self9 rfl rfl rfl rfl rfl rfl rfl rfl rfl, L, (by omega), o34, o30, (by omega)⟩ ?_
      rintro x E wl17 ⟨E0, rfl, L, Lz, o34, o30, hlex⟩
      have Lz0 := L.size
      refine wp_seq (c_reg ?_)
      refine sb (x_lss rfl rfl) (fun h82 => ?_) (fun h82 => ?_)
      ·refine c_end (n_then (wp_seq (c_true rfl (c_skipn (n_then (wp_seq (wp_block (wp_seq (c_reg (s0 (xmI rfl) (s0 (xaI rfl) (c_end (n_then ?_)))))))))))))
       refine wp_seq (c_reg (s0 (xmI rfl) (s0 (xmI rfl) (c_end (n_then (wp_block ?_))))))
       refine c_loop (γ := Nat) (fun j => n - j) (fun (j : Nat) E wl => ∃ E0, E = upd (upd (upd (upd (upd (upd (upd (upd (upd (upd (upd (upd E0 0 (.slice pm n cm)) 5 (.int .i64 n)) 6 (.slice p30 N N)) 7 (.slice p34 N N)) 11 (.int .i64 (y : Int))) 12 (.int .i64 (x : Int))) 76 (.int .i64 n)) 77 (.int .i64 (y : Int))) 80 (.int .i64 n)) 81 (.int .i64 (x : Int))) 84 (.int .i64 n)) 85 (.int .i64 (j : Int)) ∧ (Exm [] w wl) ∧ (wl17.heap.size ≤ wl.heap.size) ∧ (Own wl p34 N N 3 1 (ic (accS (T2 M (halfL M xs n) n) N n (y * n + x) j)) F34) ∧ (Own wl p30 N N 3 1 (ic (halfL M xs n)) F30) ∧ ((j : Int) ≤ n)) 0 ⟨_, upd_self12 rfl rfl rfl rfl rfl rfl rfl rfl rfl rfl rfl rfl, L, (by omega), o34, o30, (by omega)⟩ ?_
       rintro j E wl18 ⟨E0, rfl, L, Lz, o34, o30, hlej⟩
       have Lz0 := L.size
       refine wp_seq (c_reg ?_)
       refine sb (x_lss rfl rfl) (fun h86 => ?_) (fun h86 => ?_)
       ·refine c_end (n_then (wp_seq (c_true rfl (c_skipn (n_then (wp_seq (wp_block (wp_seq (c_reg (s0 (xmI rfl) (s0 (xaI rfl) (c_end (n_then ?_)))))))))))))
        have hal := accS_length (T2 M (halfL M xs n) n) N n (y * n + x) j; have hhl : (halfL M xs n).length = n * n := accL_length _ _ _; have hfm := flatM_length M n; have hq := q_lt (n := n) (r := y) (k := x) (by omega) (by omega); have hq2 := q_lt (n := n) (r := y) (k := j) (by omega) (by omega); have hrm := hM.rlen (r := (x : Int)) (by omega) (by omega); have e2 : (((y * n : Nat) : Int) + (j : Int)).toNat = y * n + j := by omega
        have hTe : (T2 M (halfL M xs n) n) (y * n + x) j = (halfL M xs n).getD (((y * n : Nat) : Int) + (j : Int)).toNat 0 * (ls.getD (x : Int).toNat default).xs.getD (j : Int).toNat 0 := by rw [T2_at (by omega), hM.ent (by omega) (by omega) (by omega) (by omega), e2]; rfl
        have e1 : (((y * n : Nat) : Int) + (x : Int)).toNat = y * n + x := by omega
        have hcur : (accS (T2 M (halfL M xs n) n) N n (y * n + x) j).getD (((y * n : Nat) : Int) + (x : Int)).toNat 0 = accP (T2 M (halfL M xs n) n) (y * n + x) j := by rw [e1]; exact accS_get _ (by omega)
        have hTr : -32000000000 ≤ (T2 M (halfL M xs n) n) (y * n + x) j ∧ (T2 M (halfL M xs n) n) (y * n + x) j ≤ 32000000000 := T2_range hs hhr (by omega : j < n)
        have hac := accP_range (T := T2 M (halfL M xs n) n) (q := y * n + x) (B := 32000000000) (n := j) fun j hj => T2_range hs hhr (by omega : j < n)
        rw [hTe] at hTr
        refine c_plan (fun wq => Exm [] wl18 wq) 26 (.cons (0, 2) (.cons (1, 2) (.cons (2, 2) (.cons (3, 2) (.cons (4, 2) (.cons (5, 2) (.cons (6, 2) (.cons (7, 1) (.cons (8, 2) (.cons (9, 2) (.cons (10, 2) (.cons (11, 2) (.cons (12, 2) (.cons (13, 2) (.cons (14, 2) (.cons (15, 1) (.cons (16, 2) (.cons (17, 2) (.cons (18, 2) (.cons (19, 1) (.cons (20, 2) (.cons (21, 2) (.cons (22, 1) (.cons (23, 2) (.cons (24, 2) (.cons (25, 2) (.cons (26, 0) .nil))))))))))))))))))))))))))) (by kernel_rfl) (by kernel_rfl) (Exm.drew _) ?_
        obtain ⟨w19, hwd⟩ : ∃ x, x = wl18.drew := ⟨_, rfl⟩
        have l20 : Ext wl18 w19 := by rw [hwd]; exact Exm.drew _
        rw [← hwd]; clear hwd
        have Lq : Exm [] wl18 w19 := l20.up; have qo34 := o34; have qo30 := o30; have qL := L; have z_l20 := l20.size; have L := L.tr l20.up; have o34 := o34.ext l20; have o30 := o30.ext l20
        refine p0 rfl (xmS rfl) (p0 rfl (xmI rfl) (p0 rfl (xmI rfl) (p0 rfl (x_mule ((y * n : Nat) : Int) rfl rfl (Int.natCast_mul _ _).symm (by omega)) (p0 rfl (xmI rfl) (p0 rfl (x_add rfl rfl (by omega)) (p0 rfl (x_idx so24 rfl rfl o34.sl (by decide) (by omega) (by omega)) ?_))))))
        refine ps rfl (fun wq hwq => x_ldi sc3 rfl (qo34.ext hwq).sl (by omega) (by omega)) ?_
        refine p0 rfl (xmS rfl) (p0 rfl (xmI rfl) (p0 rfl (xmI rfl) (p0 rfl (x_mule ((y * n : Nat) : Int) rfl rfl (Int.natCast_mul _ _).symm (by omega)) (p0 rfl (xmI rfl) (p0 rfl (x_add rfl rfl (by omega)) (p0 rfl (x_idx so24 rfl rfl o30.sl (by decide) (by omega) (by omega)) ?_))))))
        refine ps rfl (fun wq hwq => x_ldi sc3 rfl (qo30.ext hwq).sl (by omega) (by omega)) ?_
        refine p0 rfl (xmS rfl) (p0 rfl (xmI rfl) (p0 rfl (x_idx so187 rfl rfl hM.2.1.1 (by decide) (by omega) (by omega)) ?_))
        refine ps rfl (fun wq hwq => x_ldf (k := 0) lrow_len sc24 rfl ((hM.2.1.1.ext qL).ext hwq) (by omega) (by omega) (by decide) rfl) ?_
        refine p0 rfl (xmI rfl) (p0 rfl (x_idx so24 rfl rfl ((hM.2.1.2 _ (getD_mem (by omega) (by omega))).ext L) (by decide) (by omega) (by omega)) ?_)
        refine ps rfl (fun wq hwq => x_ldi sc3 rfl (((hM.2.1.2 _ (getD_mem (by omega) (by omega))).ext qL).ext hwq) (by omega) (by omega)) ?_
        refine p0 rfl (x_mul rfl rfl (by omega)) (p0 rfl (x_add rfl rfl (by omega)) (p0 rfl (x_idx so24 rfl rfl o34.sl (by decide) (by omega) (by omega)) (pu rfl (s_stoi rfl sz3 rfl rfl o34 (by omega) (by omega) ?_))))
        intro w21 l22 el22 o34
        have z_l22 := l22.size; have L := L.freshL l22 f34 (by omega); have o30 := o30.exm l22 (by first|assumption|exact Dj.symm (by assumption)|exact dj_of f34 g34 f30 g30 (by omega))
        have hnl22 := o34.n1
        refine c_end ⟨rfl, fun h hS => absurd h (by decide), ?_⟩
        refine p_nil (np_normal ?_)
        refine n_block (n_then (c_reg (s0 (x_add rfl rfl (by omega)) (s0 (xmI rfl) (c_end ?_)))))
        have o34 := ownI o34 (ys := accS (T2 M (halfL M xs n) n) N n (y * n + x) (j + 1)) (by rw [e1]; exact accS_set _ (by omega) (by rw [accS_get _ (by omega), hTe]))
        exact c_round (g' := j + 1) (by omega) ⟨_, upd_self12 rfl rfl rfl rfl rfl rfl rfl rfl rfl rfl rfl (vint (by omega)), L, (by omega), o34, o30, (by omega)⟩
       ·refine c_end (n_then (wp_seq (c_false rfl ?_)))
        refine wp_exit (e_then (e_then (e_here ?_)))
        refine n_block (n_then (c_reg (s0 (x_add rfl rfl (by omega)) (s0 (xmI rfl) (c_end ?_)))))
        have hie : j = n := by omega
        rw [hie] at o34
        have o34 := ownI o34 (ys := accS (T2 M (halfL M xs n) n) N n (y * n + (x + 1)) 0) (accS_next _ _ _ _)
        exact c_round (g' := x + 1) (by omega) ⟨_, upd_self9 rfl rfl rfl rfl rfl rfl rfl rfl (vint (by omega)), L, (by omega), o34, o30, (by omega)⟩
      ·refine c_end (n_then (wp_seq (c_false rfl ?_)))
       refine wp_exit (e_then (e_then (e_here ?_)))
       refine n_block (n_then (c_reg (s0 (x_add rfl rfl (by omega)) (s0 (xmI rfl) (c_end ?_)))))
       have hke : x = n := by omega
       rw [hke] at o34
       have o34 := ownI o34 (ys := accS (T2 M (halfL M xs n) n) N n ((y + 1) * n) 0) (by rw [Nat.add_mul, Nat.one_mul])
       exact c_round (g' := y + 1) (by omega) ⟨_, upd_self6 rfl rfl rfl rfl rfl (vint (by omega)), L, (by omega), o34, o30, (by omega)⟩
     ·refine c_end (n_then (wp_seq (c_false rfl ?_)))
      refine wp_exit (e_then (e_then (e_here ?_)))
      refine n_then (wp_seq (c_reg (s0 (xmS rfl) (s0 (xaS rfl) (c_end (n_then (wp_ret (f_ret rfl rfl ?_))))))))
      have hye : y = n := by omega
      have o34 := ownI o34 (ys := prodL M xs n) (by rw [hye]; unfold prodL; rw [← hN]; exact accS_end _ (by omega))
      rw [show prodG M xs n = prodL M xs n from if_pos hfit]
      have hpl : N = (prodL M xs n).length := by rw [prodL_length, hN]
      exact ⟨_, rfl, L, p34, N, F34, slice_len hpl.symm, (by rw [← hpl]; exact o34), f34.mono (by omega)⟩
   ·refine pu rfl (s_makei so24 zr3 rfl rfl (by omega) (by omega) (by omega) ?_)
    intro p34 F34 w23 l24 o34 f34 g34
    have z_l24 := l24.size; have L := L.tr l24.up; have Lq := Lq.tr l24.up; have hn34 := o34.n1
    refine c_end ⟨rfl, fun h hS => Lq, ?_⟩
    refine pu rfl (s_makei so24 zr3 rfl rfl (by omega) (by omega) (by omega) ?_)
    intro p30 F30 w25 l26 o30 f30 g30
    have z_l26 := l26.size; have L := L.tr l26.up; have Lq := Lq.tr l26.up; have o34 := o34.ext l26; have hn30 := o30.n1
    refine c_end ⟨rfl, fun h hS => Lq, ?_⟩
    refine p0 rfl (xaS rfl) (p0 rfl (xaS rfl) ?_)
    refine p_nil (np_normal ?_)
    refine n_then (wp_seq (wp_seq ?_))
    have hfit : fitsW xs (n * n) := ⟨by omega, h24⟩
    have hin := fits_inW hfit; have hhr := half_range hs hin hn
    have o30 := ownI o30 (ys := accS (T1 M xs n) N n (0 * n) 0) (by rw [Nat.zero_mul, accS_zero]; try rfl)
    refine c_reg (s0 (xmI rfl) (s0 (xmI rfl) (c_end (n_then (wp_block ?_)))))
    refine c_loop (γ := Nat) (fun r => n - r) (fun (r : Nat) E wl => ∃ E0, E = upd (upd (upd (upd (upd (upd (upd E0 0 (.slice pm n cm)) 1 (.slice p xs.length c)) 5 (.int .i64 n)) 6 (.slice p30 N N)) 7 (.slice p34 N N)) 35 (.int .i64 n)) 36 (.int .i64 (r : Int)) ∧ (Exm [] w wl) ∧ (w25.heap.size ≤ wl.heap.size) ∧ (Own wl p30 N N 3 1 (ic (accS (T1 M xs n) N n (r * n) 0)) F30) ∧ (Own wl p34 N N 3 1 (ic (List.replicate N 0)) F34) ∧ ((r : Int) ≤ n)) 0 ⟨_, upd_self7 rfl rfl rfl rfl rfl rfl rfl, L, (by omega), o30, o34, (by omega)⟩ ?_
    rintro r E wl27 ⟨E0, rfl, L, Lz, o30, o34, hler⟩
    have Lz0 := L.size
    refine wp_seq (c_reg ?_)
    refine sb (x_lss rfl rfl) (fun h37 => ?_) (fun h37 => ?_)
    ·refine c_end (n_then (wp_seq (c_true rfl (c_skipn (n_then (wp_seq (wp_block (wp_seq (c_reg (s0 (xmI rfl) (s0 (xaI rfl) (c_end (n_then ?_)))))))))))))
     refine wp_seq (c_reg (s0 (xmI rfl) (s0 (xmI rfl) (c_end (n_then (wp_block ?_))))))
     refine c_loop (γ := Nat) (fun k => n - k) (fun (k : Nat) E wl => ∃ E0, E = upd (upd (upd (upd (upd (upd (upd (upd (upd (upd E0 0 (.slice pm n cm)) 1 (.slice p xs.length c)) 5 (.int .i64 n)) 6 (.slice p30 N N)) 7 (.slice p34 N N)) 8 (.int .i64 (r : Int))) 35 (.int .i64 n)) 36 (.int .i64 (r : Int))) 39 (.int .i64 n)) 40 (.int .i64 (k : Int)) ∧ (Exm [] w wl) ∧ (wl27.heap.size ≤ wl.heap.size) ∧ (Own wl p30 N N 3 1 (ic (accS (T1 M xs n) N n (r * n + k) 0)) F30) ∧ (Own wl p34 N N 3 1 (ic (List.replicate N 0)) F34) ∧ ((k : Int) ≤ n)) 0 ⟨_, upd_self10 rfl rfl rfl rfl rfl rfl rfl rfl rfl rfl, L, (by omega), o30, o34, (by omega)⟩ ?_
     rintro k E wl28 ⟨E0, rfl, L, Lz, o30, o34, hlek⟩
     have Lz0 := L.size
     refine wp_seq (c_reg ?_)
     refine sb (x_lss rfl rfl) (fun h41 => ?_) (fun h41 => ?_)
     ·refine c_end (n_then (wp_seq (c_true rfl (c_skipn (n_then (wp_seq (wp_block (wp_seq (c_reg (s0 (xmI rfl) (s0 (xaI rfl) (c_end (n_then ?_)))))))))))))
      refine wp_seq (c_reg (s0 (xmI rfl) (s0 (xmI rfl) (c_end (n_then (wp_block ?_))))))
      refine c_loop (γ := Nat) (fun i => n - i) (fun (i : Nat) E wl => ∃ E0, E = upd (upd (upd (upd (upd (upd (upd (upd (upd (upd (upd (upd (upd E0 0 (.slice pm n cm)) 1 (.slice p xs.length c)) 5 (.int .i64 n)) 6 (.slice p30 N N)) 7 (.slice p34 N N)) 8 (.int .i64 (r : Int))) 9 (.int .i64 (k : Int))) 35 (.int .i64 n)) 36 (.int .i64 (r : Int))) 39 (.int .i64 n)) 40 (.int .i64 (k : Int))) 43 (.int .i64 n)) 44 (.int .i64 (i : Int)) ∧ (Exm [] w wl) ∧ (wl28.heap.size ≤ wl.heap.size) ∧ (Own wl p30 N N 3 1 (ic (accS (T1 M xs n) N n (r * n + k) i)) F30) ∧ (Own wl p34 N N 3 1 (ic (List.replicate N 0)) F34) ∧ ((i : Int) ≤ n)) 0 ⟨_, upd_self13 rfl rfl rfl rfl rfl rfl rfl rfl rfl rfl rfl rfl rfl, L, (by omega), o30, o34, (by omega)⟩ ?_
      rintro i E wl29 ⟨E0, rfl, L, Lz, o30, o34, hlei⟩
      have Lz0 := L.size
      refine wp_seq (c_reg ?_)
      refine sb (x_lss rfl rfl) (fun h45 => ?_) (fun h45 => ?_)
      ·refine c_end (n_then (wp_seq (c_true rfl (c_skipn (n_then (wp_seq (wp_block (wp_seq (c_reg (s0 (xmI rfl) (s0 (xaI rfl) (c_end (n_then ?_)))))))))))))
       have hal := accS_length (T1 M xs n) N n (r * n + k) i; have hhl : (halfL M xs n).length = n * n := accL_length _ _ _; have hfm := flatM_length M n; have hq := q_lt (n := n) (r := r) (k := k) (by omega) (by omega); have hq2 := q_lt (n := n) (r := i) (k := k) (by omega) (by omega); have hrm := hM.rlen (r := (r : Int)) (by omega) (by omega); have e2 : (((i * n : Nat) : Int) + (k : Int)).toNat = i * n + k := by omega
       have hTe : (T1 M xs n) (r * n + k) i = (ls.getD (r : Int).toNat default).xs.getD (i : Int).toNat 0 * xs.getD (((i * n : Nat) : Int) + (k : Int)).toNat 0 := by rw [T1_at (by omega), hM.ent (by omega) (by omega) (by omega) (by omega), e2]; rfl
       have e1 : (((r * n : Nat) : Int) + (k : Int)).toNat = r * n + k := by omega
       have hcur : (accS (T1 M xs n) N n (r * n + k) i).getD (((r * n : Nat) : Int) + (k : Int)).toNat 0 = accP (T1 M xs n) (r * n + k) i := by rw [e1]; exact accS_get _ (by omega)
       have hTr : -2000000000 ≤ (T1 M xs n) (r * n + k) i ∧ (T1 M xs n) (r * n + k) i ≤ 2000000000 := T1_range hs hin (by omega) (by omega : i < n)
       have hac := accP_range (T := T1 M xs n) (q := r * n + k) (B := 2000000000) (n := i) fun j hj => T1_range hs hin (by omega) (by omega : j < n)
       rw [hTe] at hTr
       refine c_plan (fun wq => Exm [] wl29 wq) 26 (.cons (0, 2) (.cons (1, 2) (.cons (2, 2) (.cons (3, 2) (.cons (4, 2) (.cons (5, 2) (.cons (6, 2) (.cons (7, 1) (.cons (8, 2) (.cons (9, 2) (.cons (10, 2) (.cons (11, 1) (.cons (12, 2) (.cons (13, 2) (.cons (14, 1) (.cons (15, 2) (.cons (16, 2) (.cons (17, 2) (.cons (18, 2) (.cons (19, 2) (.cons (20, 2) (.cons (21, 2) (.cons (22, 1) (.cons (23, 2) (.cons (24, 2) (.cons (25, 2) (.cons (26, 0) .nil))))))))))))))))))))))))))) (by kernel_rfl) (by kernel_rfl) (Exm.drew _) ?_
       obtain ⟨w30, hwd⟩ : ∃ x, x = wl29.drew := ⟨_, rfl⟩
       have l31 : Ext wl29 w30 := by rw [hwd]; exact Exm.drew _
       rw [← hwd]; clear hwd
       have Lq : Exm [] wl29 w30 := l31.up; have qo30 := o30; have qL := L; have z_l31 := l31.size; have L := L.tr l31.up; have o30 := o30.ext l31; have o34 := o34.ext l31
       refine p0 rfl (xmS rfl) (p0 rfl (xmI rfl) (p0 rfl (xmI rfl) (p0 rfl (x_mule ((r * n : Nat) : Int) rfl rfl (Int.natCast_mul _ _).symm (by omega)) (p0 rfl (xmI rfl) (p0 rfl (x_add rfl rfl (by omega)) (p0 rfl (x_idx so24 rfl rfl o30.sl (by decide) (by omega) (by omega)) ?_))))))
       refine ps rfl (fun wq hwq => x_ldi sc3 rfl (qo30.ext hwq).sl (by omega) (by omega)) ?_
       refine p0 rfl (xmS rfl) (p0 rfl (xmI rfl) (p0 rfl (x_idx so187 rfl rfl hM.2.1.1 (by decide) (by omega) (by omega)) ?_))
       refine ps rfl (fun wq hwq => x_ldf (k := 0) lrow_len sc24 rfl ((hM.2.1.1.ext qL).ext hwq) (by omega) (by omega) (by decide) rfl) ?_
       refine p0 rfl (xmI rfl) (p0 rfl (x_idx so24 rfl rfl ((hM.2.1.2 _ (getD_mem (by omega) (by omega))).ext L) (by decide) (by omega) (by omega)) ?_)
       refine ps rfl (fun wq hwq => x_ldi sc3 rfl (((hM.2.1.2 _ (getD_mem (by omega) (by omega))).ext qL).ext hwq) (by omega) (by omega)) ?_
       refine p0 rfl (xmS rfl) (p0 rfl (xmI rfl) (p0 rfl (xmI rfl) (p0 rfl (x_mule ((i * n : Nat) : Int) rfl rfl (Int.natCast_mul _ _).symm (by omega)) (p0 rfl (xmI rfl) (p0 rfl (x_add rfl rfl (by omega)) (p0 rfl (x_idx so24 rfl rfl hp (by decide) (by omega) (by omega)) ?_))))))
       refine ps rfl (fun wq hwq => x_ldi sc3 rfl ((hp.ext qL).ext hwq) (by omega) (by omega)) ?_
       refine p0 rfl (x_mul rfl rfl (by omega)) (p0 rfl (x_add rfl rfl (by omega)) (p0 rfl (x_idx so24 rfl rfl o30.sl (by decide) (by omega) (by omega)) (pu rfl (s_stoi rfl sz3 rfl rfl o30 (by omega) (by omega) ?_))))
       intro w32 l33 el33 o30
       have z_l33 := l33.size; have L := L.freshL l33 f30 (by omega); have o34 := o34.exm l33 (by first|assumption|exact Dj.symm (by assumption)|exact dj_of f30 g30 f34 g34 (by omega))
       have hnl33 := o30.n1
       refine c_end ⟨rfl, fun h hS => absurd h (by decide), ?_⟩
       refine p_nil (np_normal ?_)
       refine n_block (n_then (c_reg (s0 (x_add rfl rfl (by omega)) (s0 (xmI rfl) (c_end ?_)))))
       have o30 := ownI o30 (ys := accS (T1 M xs n) N n (r * n + k) (i + 1)) (by rw [e1]; exact accS_set _ (by omega) (by rw [accS_get _ (by omega), hTe]))
       exact c_round (g' := i + 1) (by omega) ⟨_, upd_self13 rfl rfl rfl rfl rfl rfl rfl rfl rfl rfl rfl rfl (vint (by omega)), L, (by omega), o30, o34, (by omega)⟩
      ·refine c_end (n_then (wp_seq (c_false rfl ?_)))
       refine wp_exit (e_then (e_then (e_here ?_)))
       refine n_block (n_then (c_reg (s0 (x_add rfl rfl (by omega)) (s0 (xmI rfl) (c_end ?_)))))
       have hie : i = n := by omega
       rw [hie] at o30
       have o30 := ownI o30 (ys := accS (T1 M xs n) N n (r * n + (k + 1)) 0) (accS_next _ _ _ _)
       exact c_round (g' := k + 1) (by omega) ⟨_, upd_self10 rfl rfl rfl rfl rfl rfl rfl rfl rfl (vint (by omega)), L, (by omega), o30, o34, (by omega)⟩
     ·refine c_end (n_then (wp_seq (c_false rfl ?_)))
      refine wp_exit (e_then (e_then (e_here ?_)))
      refine n_block (n_then (c_reg (s0 (x_add rfl rfl (by omega)) (s0 (xmI rfl) (c_end ?_)))))
      have hke : k = n := by omega
      rw [hke] at o30
      have o30 := ownI o30 (ys := accS (T1 M xs n) N n ((r + 1) * n) 0) (by rw [Nat.add_mul, Nat.one_mul])
      exact c_round (g' := r + 1) (by omega) ⟨_, upd_self7 rfl rfl rfl rfl rfl rfl (vint (by omega)), L, (by omega), o30, o34, (by omega)⟩
    ·refine c_end (n_then (wp_seq (c_false rfl ?_)))
     refine wp_exit (e_then (e_then (e_here ?_)))
     refine n_then (wp_seq (wp_seq ?_))
     have hre : r = n := by omega
     have o30 := ownI o30 (ys := halfL M xs n) (by rw [hre]; unfold halfL; rw [← hN]; exact accS_end _ (by omega))
     have o34 := ownI o34 (ys := accS (T2 M (halfL M xs n) n) N n (0 * n) 0) (by rw [Nat.zero_mul, accS_zero]; try rfl)
     refine c_reg (s0 (xmI rfl) (s0 (xmI rfl) (c_end (n_then (wp_block ?_)))))
     refine c_loop (γ := Nat) (fun y => n - y) (fun (y : Nat) E wl => ∃ E0, E = upd (upd (upd (upd (upd (upd E0 0 (.slice pm n cm)) 5 (.int .i64 n)) 6 (.slice p30 N N)) 7 (.slice p34 N N)) 76 (.int .i64 n)) 77 (.int .i64 (y : Int)) ∧ (Exm [] w wl) ∧ (wl27.heap.size ≤ wl.heap.size) ∧ (Own wl p34 N N 3 1 (ic (accS (T2 M (halfL M xs n) n) N n (y * n) 0)) F34) ∧ (Own wl p30 N N 3 1 (ic (halfL M xs n)) F30) ∧ ((y : Int) ≤ n)) 0 ⟨_, upd_self6 rfl rfl rfl rfl rfl rfl, L, (by omega), o34, o30, (by omega)⟩ ?_
     rintro y E wl34 ⟨E0, rfl, L, Lz, o34, o30, hley⟩
     have Lz0 := L.size
     refine wp_seq (c_reg ?_)
     refine sb (x_lss rfl rfl) (fun h78 => ?_) (fun h78 => ?_)
     ·refine c_end (n_then (wp_seq (c_true rfl (c_skipn (n_then (wp_seq (wp_block (wp_seq (c_reg (s0 (xmI rfl) (s0 (xaI rfl) (c_end (n_then ?_)))))))))))))
      refine wp_seq (c_reg (s0 (xmI rfl) (s0 (xmI rfl) (c_end (n_then (wp_block ?_))))))
      refine c_loop (γ := Nat) (fun x => n - x) (fun (x : Nat) E wl => ∃ E0, E = upd (upd (upd (upd (upd (upd (upd (upd (upd E0 0 (.slice pm n cm)) 5 (.int .i64 n)) 6 (.slice p30 N N)) 7 (.slice p34 N N)) 11 (.int .i64 (y : Int))) 76 (.int .i64 n)) 77 (.int .i64 (y : Int))) 80 (.int .i64 n)) 81 (.int .i64 (x : Int)) ∧ (Exm [] w wl) ∧ (wl34.heap.size ≤ wl.heap.size) ∧ (Own wl p34 N N 3 1 (ic (accS (T2 M (halfL M xs n) n) N n (y * n + x) 0)) F34) ∧ (Own wl p30 N N 3 1 (ic (halfL M xs n)) F30) ∧ ((x : Int) ≤ n)) 0 ⟨_, upd_self9 rfl rfl rfl rfl rfl rfl rfl rfl rfl, L, (by omega), o34, o30, (by omega)⟩ ?_
      rintro x E wl35 ⟨E0, rfl, L, Lz, o34, o30, hlex⟩
      have Lz0 := L.size
      refine wp_seq (c_reg ?_)
      refine sb (x_lss rfl rfl) (fun h82 => ?_) (fun h82 => ?_)
      ·refine c_end (n_then (wp_seq (c_true rfl (c_skipn (n_then (wp_seq (wp_block (wp_seq (c_reg (s0 (xmI rfl) (s0 (xaI rfl) (c_end (n_then ?_)))))))))))))
       refine wp_seq (c_reg (s0 (xmI rfl) (s0 (xmI rfl) (c_end (n_then (wp_block ?_))))))
       refine c_loop (γ := Nat) (fun j => n - j) (fun (j : Nat) E wl => ∃ E0, E = upd (upd (upd (upd (upd (upd (upd (upd (upd (upd (upd (upd E0 0 (.slice pm n cm)) 5 (.int .i64 n)) 6 (.slice p30 N N)) 7 (.slice p34 N N)) 11 (.int .i64 (y : Int))) 12 (.int .i64 (x : Int))) 76 (.int .i64 n)) 77 (.int .i64 (y : Int))) 80 (.int .i64 n)) 81 (.int .i64 (x : Int))) 84 (.int .i64 n)) 85 (.int .i64 (j : Int)) ∧ (Exm [] w wl) ∧ (wl35.heap.size ≤ wl.heap.size) ∧ (Own wl p34 N N 3 1 (ic (accS (T2 M (halfL M xs n) n) N n (y * n + x) j)) F34) ∧ (Own wl p30 N N 3 1 (ic (halfL M xs n)) F30) ∧ ((j : Int) ≤ n)) 0 ⟨_, upd_self12 rfl rfl rfl rfl rfl rfl rfl rfl rfl rfl rfl rfl, L, (by omega), o34, o30, (by omega)⟩ ?_
       rintro j E wl36 ⟨E0, rfl, L, Lz, o34, o30, hlej⟩
       have Lz0 := L.size
       refine wp_seq (c_reg ?_)
       refine sb (x_lss rfl rfl) (fun h86 => ?_) (fun h86 => ?_)
       ·refine c_end (n_then (wp_seq (c_true rfl (c_skipn (n_then (wp_seq (wp_block (wp_seq (c_reg (s0 (xmI rfl) (s0 (xaI rfl) (c_end (n_then ?_)))))))))))))
        have hal := accS_length (T2 M (halfL M xs n) n) N n (y * n + x) j; have hhl : (halfL M xs n).length = n * n := accL_length _ _ _; have hfm := flatM_length M n; have hq := q_lt (n := n) (r := y) (k := x) (by omega) (by omega); have hq2 := q_lt (n := n) (r := y) (k := j) (by omega) (by omega); have hrm := hM.rlen (r := (x : Int)) (by omega) (by omega); have e2 : (((y * n : Nat) : Int) + (j : Int)).toNat = y * n + j := by omega
        have hTe : (T2 M (halfL M xs n) n) (y * n + x) j = (halfL M xs n).getD (((y * n : Nat) : Int) + (j : Int)).toNat 0 * (ls.getD (x : Int).toNat default).xs.getD (j : Int).toNat 0 := by rw [T2_at (by omega), hM.ent (by omega) (by omega) (by omega) (by omega), e2]; rfl
        have e1 : (((y * n : Nat) : Int) + (x : Int)).toNat = y * n + x := by omega
        have hcur : (accS (T2 M (halfL M xs n) n) N n (y * n + x) j).getD (((y * n : Nat) : Int) + (x : Int)).toNat 0 = accP (T2 M (halfL M xs n) n) (y * n + x) j := by rw [e1]; exact accS_get _ (by omega)
        have hTr : -32000000000 ≤ (T2 M (halfL M xs n) n) (y * n + x) j ∧ (T2 M (halfL M xs n) n) (y * n + x) j ≤ 32000000000 := T2_range hs hhr (by omega : j < n)
        have hac := accP_range (T := T2 M (halfL M xs n) n) (q := y * n + x) (B := 32000000000) (n := j) fun j hj => T2_range hs hhr (by omega : j < n)
        rw [hTe] at hTr
        refine c_plan (fun wq => Exm [] wl36 wq) 26 (.cons (0, 2) (.cons (1, 2) (.cons (2, 2) (.cons (3, 2) (.cons (4, 2) (.cons (5, 2) (.cons (6, 2) (.cons (7, 1) (.cons (8, 2) (.cons (9, 2) (.cons (10, 2) (.cons (11, 2) (.cons (12, 2) (.cons (13, 2) (.cons (14, 2) (.cons (15, 1) (.cons (16, 2) (.cons (17, 2) (.cons (18, 2) (.cons (19, 1) (.cons (20, 2) (.cons (21, 2) (.cons (22, 1) (.cons (23, 2) (.cons (24, 2) (.cons (25, 2) (.cons (26, 0) .nil))))))))))))))))))))))))))) (by kernel_rfl) (by kernel_rfl) (Exm.drew _) ?_
        obtain ⟨w37, hwd⟩ : ∃ x, x = wl36.drew := ⟨_, rfl⟩
        have l38 : Ext wl36 w37 := by rw [hwd]; exact Exm.drew _
        rw [← hwd]; clear hwd
        have Lq : Exm [] wl36 w37 := l38.up; have qo34 := o34; have qo30 := o30; have qL := L; have z_l38 := l38.size; have L := L.tr l38.up; have o34 := o34.ext l38; have o30 := o30.ext l38
        refine p0 rfl (xmS rfl) (p0 rfl (xmI rfl) (p0 rfl (xmI rfl) (p0 rfl (x_mule ((y * n : Nat) : Int) rfl rfl (Int.natCast_mul _ _).symm (by omega)) (p0 rfl (xmI rfl) (p0 rfl (x_add rfl rfl (by omega)) (p0 rfl (x_idx so24 rfl rfl o34.sl (by decide) (by omega) (by omega)) ?_))))))
        refine ps rfl (fun wq hwq => x_ldi sc3 rfl (qo34.ext hwq).sl (by omega) (by omega)) ?_
        refine p0 rfl (xmS rfl) (p0 rfl (xmI rfl) (p0 rfl (xmI rfl) (p0 rfl (x_mule ((y * n : Nat) : Int) rfl rfl (Int.natCast_mul _ _).symm (by omega)) (p0 rfl (xmI rfl) (p0 rfl (x_add rfl rfl (by omega)) (p0 rfl (x_idx so24 rfl rfl o30.sl (by decide) (by omega) (by omega)) ?_))))))
        refine ps rfl (fun wq hwq => x_ldi sc3 rfl (qo30.ext hwq).sl (by omega) (by omega)) ?_
        refine p0 rfl (xmS rfl) (p0 rfl (xmI rfl) (p0 rfl (x_idx so187 rfl rfl hM.2.1.1 (by decide) (by omega) (by omega)) ?_))
        refine ps rfl (fun wq hwq => x_ldf (k := 0) lrow_len sc24 rfl ((hM.2.1.1.ext qL).ext hwq) (by omega) (by omega) (by decide) rfl) ?_
        refine p0 rfl (xmI rfl) (p0 rfl (x_idx so24 rfl rfl ((hM.2.1.2 _ (getD_mem (by omega) (by omega))).ext L) (by decide) (by omega) (by omega)) ?_)
        refine ps rfl (fun wq hwq => x_ldi sc3 rfl (((hM.2.1.2 _ (getD_mem (by omega) (by omega))).ext qL).ext hwq) (by omega) (by omega)) ?_
        refine p0 rfl (x_mul rfl rfl (by omega)) (p0 rfl (x_add rfl rfl (by omega)) (p0 rfl (x_idx so24 rfl rfl o34.sl (by decide) (by omega) (by omega)) (pu rfl (s_stoi rfl sz3 rfl rfl o34 (by omega) (by omega) ?_))))
        intro w39 l40 el40 o34
        have z_l40 := l40.size; have L := L.freshL l40 f34 (by omega); have o30 := o30.exm l40 (by first|assumption|exact Dj.symm (by assumption)|exact dj_of f34 g34 f30 g30 (by omega))
        have hnl40 := o34.n1
        refine c_end ⟨rfl, fun h hS => absurd h (by decide), ?_⟩
        refine p_nil (np_normal ?_)
        refine n_block (n_then (c_reg (s0 (x_add rfl rfl (by omega)) (s0 (xmI rfl) (c_end ?_)))))
        have o34 := ownI o34 (ys := accS (T2 M (halfL M xs n) n) N n (y * n + x) (j + 1)) (by rw [e1]; exact accS_set _ (by omega) (by rw [accS_get _ (by omega), hTe]))
        exact c_round (g' := j + 1) (by omega) ⟨_, upd_self12 rfl rfl rfl rfl rfl rfl rfl rfl rfl rfl rfl (vint (by omega)), L, (by omega), o34, o30, (by omega)⟩
       ·refine c_end (n_then (wp_seq (c_false rfl ?_)))
        refine wp_exit (e_then (e_then (e_here ?_)))
        refine n_block (n_then (c_reg (s0 (x_add rfl rfl (by omega)) (s0 (xmI rfl) (c_end ?_)))))
        have hie : j = n := by omega
        rw [hie] at o34
        have o34 := ownI o34 (ys := accS (T2 M (halfL M xs n) n) N n (y * n + (x + 1)) 0) (accS_next _ _ _ _)
        exact c_round (g' := x + 1) (by omega) ⟨_, upd_self9 rfl rfl rfl rfl rfl rfl rfl rfl (vint (by omega)), L, (by omega), o34, o30, (by omega)⟩
      ·refine c_end (n_then (wp_seq (c_false rfl ?_)))
       refine wp_exit (e_then (e_then (e_here ?_)))
       refine n_block (n_then (c_reg (s0 (x_add rfl rfl (by omega)) (s0 (xmI rfl) (c_end ?_)))))
       have hke : x = n := by omega
       rw [hke] at o34
       have o34 := ownI o34 (ys := accS (T2 M (halfL M xs n) n) N n ((y + 1) * n) 0) (by rw [Nat.add_mul, Nat.one_mul])
       exact c_round (g' := y + 1) (by omega) ⟨_, upd_self6 rfl rfl rfl rfl rfl (vint (by omega)), L, (by omega), o34, o30, (by omega)⟩
     ·refine c_end (n_then (wp_seq (c_false rfl ?_)))
      refine wp_exit (e_then (e_then (e_here ?_)))
      refine n_then (wp_seq (c_reg (s0 (xmS rfl) (s0 (xaS rfl) (c_end (n_then (wp_ret (f_ret rfl rfl ?_))))))))
      have hye : y = n := by omega
      have o34 := ownI o34 (ys := prodL M xs n) (by rw [hye]; unfold prodL; rw [← hN]; exact accS_end _ (by omega))
      rw [show prodG M xs n = prodL M xs n from if_pos hfit]
      have hpl : N = (prodL M xs n).length := by rw [prodL_length, hN]
      exact ⟨_, rfl, L, p34, N, F34, slice_len hpl.symm, (by rw [← hpl]; exact o34), f34.mono (by omega)⟩
  ·have z_l2 := l2.size
   have L := L.tr l2.up
   refine gt rfl rfl rfl rfl (s0 (x_not rfl) (s0 (x_pickf (v := .bool _) rfl rfl) (c_end (n_then (c_true rfl (wp_seq (c_reg (s0 (xaS rfl) (c_end (n_then ?_))))))))))
   refine wp_ret (r_then ?_)
   refine f_ret rfl rfl ?_
   have hnf : ¬ fitsW xs (n * n) := fun h => h24 h.2
   rw [show prodG M xs n = [] from if_neg hnf]
   exact ⟨_, rfl, L, none, 0, [], rfl, Own.nil, Fr.no⟩

end Go.Proofs.YtepnknffaecbdaaGreat
