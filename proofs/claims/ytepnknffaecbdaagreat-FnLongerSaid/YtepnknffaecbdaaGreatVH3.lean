/- What each function of this part returns, for every argument that meets its premises. -/
import Derived.Test.YtepnknffaecbdaaGreatProg
import Derived.Test.YtepnknffaecbdaaGreatVSxA
import Derived.Test.YtepnknffaecbdaaGreatVTy
import Derived.Test.YtepnknffaecbdaaGreatVPlA
import Derived.Test.YtepnknffaecbdaaGreatVF1
import Derived.Test.YtepnknffaecbdaaGreatVF9
import Derived.Test.YtepnknffaecbdaaGreatVFB
import Derived.Test.YtepnknffaecbdaaGreatVFC
import Derived.Test.YtepnknffaecbdaaGreatVFH
import Derived.Test.YtepnknffaecbdaaGreatVHA
namespace Go.Proofs.YtepnknffaecbdaaGreat
open Go.Sx Go.Pl Go.RowKit
theorem i_nbOk (ts ls : List Int) (cr : Int) (u v : Bool) (n : Int) (p1 : Option Addr) (c1 : Nat) (p2 : Option Addr) (c2 : Nat) (w : World) (h1 : Sl w p1 ts.length c1 1 (ic ts)) (h2 : Sl w p2 ls.length c2 1 (ic ls)) (hk : nbOk ts ls cr n) :
    Calls Tryz.prog 149 [.agg [.slice p1 ts.length c1, .slice p2 ls.length c2, .int .i64 cr, .bool u, .bool v].toArray, .int .i64 n].toArray w (Ret w (.bool (decide True))) := by
 have hn4 := hk.1; have htl := hk.2.1; have hll := hk.2.2.1; have hpt := hk.2.2.2.1; have hpl := hk.2.2.2.2.1; have hcr := hk.2.2.2.2.2; have L : Exm [] w w := Exm.rfl'
 refine enter (n := 37) Tryz.func149 rfl rfl rfl ?_
 refine wp_seq (c_reg (s_box rfl rfl ?_))
 intro b1 w2 lob1 hib1 l3 B1
 have z_l3 := l3.size; have L := L.tr l3.up
 refine s0 (x_assign (v := .bool _) rfl) (c_end (n_then (wp_seq (c_reg (s0 (xmI rfl) ?_)))))
 refine srb (zcall cl145 rfl) (i_sizeOk _ _) (fun h6 w4 l5 => ?_) (fun h6 w4 l5 => ?_)
 ·have z_l5 := l5.size
  have L := L.tr l5.up; have B1 := B1.ext l5
  refine s0 (x_move (v := .bool _) rfl) (gt rfl rfl rfl rfl (s0 (x_fieldAddr fa118_0 rfl) (gt rfl rfl rfl rfl (st (x_loadB sc24 rfl B1 rfl) (gt rfl rfl rfl rfl (s0 (x_lensl un24 rfl) (gt rfl rfl rfl rfl (s0 (xmI rfl) (gt rfl rfl rfl rfl (s0 (x_mul rfl rfl (by omega)) (gt rfl rfl rfl rfl ?_)))))))))))
  refine sb (x_eql rfl rfl) (fun h13 => ?_) (fun h13 => ?_)
  ·refine s0 (x_pickt (v := .bool _) rfl rfl) (s0 (x_move (v := .bool _) rfl) (gt rfl rfl rfl rfl (s0 (x_fieldAddr fa118_1 rfl) (gt rfl rfl rfl rfl (st (x_loadB sc24 rfl B1 rfl) (gt rfl rfl rfl rfl (s0 (x_lensl un24 rfl) (gt rfl rfl rfl rfl (s0 (xmI rfl) (gt rfl rfl rfl rfl ?_))))))))))
   refine sb (x_eql rfl rfl) (fun h20 => ?_) (fun h20 => ?_)
   ·refine s0 (x_pickt (v := .bool _) rfl rfl) (s0 (x_move (v := .bool _) rfl) (gt rfl rfl rfl rfl (s0 (x_fieldAddr fa118_0 rfl) (gt rfl rfl rfl rfl (st (x_loadB sc24 rfl B1 rfl) (gt rfl rfl rfl rfl ?_))))))
    refine srb (zcall cl147 rfl) (i_allWithin _ _ _ _ _ _ _ (h1.ext L) (by omega)) (fun h25 w6 l7 => ?_) (fun h25 w6 l7 => ?_)
    ·have z_l7 := l7.size
     have L := L.tr l7.up; have B1 := B1.ext l7
     refine s0 (x_pickt (v := .bool _) rfl rfl) (s0 (x_move (v := .bool _) rfl) (gt rfl rfl rfl rfl (s0 (x_fieldAddr fa118_1 rfl) (gt rfl rfl rfl rfl (st (x_loadB sc24 rfl B1 rfl) (gt rfl rfl rfl rfl ?_))))))
     refine srb (zcall cl147 rfl) (i_allWithin _ _ _ _ _ _ _ (h2.ext L) (by omega)) (fun h30 w8 l9 => ?_) (fun h30 w8 l9 => ?_)
     ·have z_l9 := l9.size
      have L := L.tr l9.up; have B1 := B1.ext l9
      refine s0 (x_pickt (v := .bool _) rfl rfl) (s0 (x_move (v := .bool _) rfl) (gt rfl rfl rfl rfl (s0 (x_fieldAddr fa118_2 rfl) (gt rfl rfl rfl rfl (st (x_loadB sc3 rfl B1 rfl) (gt rfl rfl rfl rfl ?_))))))
      refine sr (zcall cl77 rfl) (i_within _ _ _ _) ?_
      intro w10 l11
      have z_l11 := l11.size; have L := L.tr l11.up
      refine s0 (x_pickt (v := .bool _) rfl rfl) (s0 (x_assign (v := .bool _) rfl) (c_end (n_then (wp_ret (f_ret rfl rfl ?_)))))
      exact ⟨ret_dec2 ⟨fun _ => trivial, fun _ => hcr⟩, L⟩
     ·exact absurd hpl h30
    ·exact absurd hpt h25
   ·omega
  ·omega
 ·exact absurd hn4 h6

theorem i_mean_tt (ts ls : List Int) (cr : Int) (n : Int) (p1 : Option Addr) (c1 : Nat) (p2 : Option Addr) (c2 : Nat) (w : World) (h1 : Sl w p1 ts.length c1 1 (ic ts)) (h2 : Sl w p2 ls.length c2 1 (ic ls)) (hk : nbOk ts ls cr n) :
    Calls Tryz.prog 198 [.agg [.slice p1 ts.length c1, .slice p2 ls.length c2, .int .i64 cr, .bool true, .bool true].toArray, .int .i64 n].toArray w (Ret w (.int .i64 (meanV ts ls true true n))) := by
 have hn4 := hk.1; have htl := hk.2.1; have hll := hk.2.2.1; have hpt := hk.2.2.2.1; have hpl := hk.2.2.2.2.1; have hcr := hk.2.2.2.2.2
 have hcl : ((ts.drop 0).take (n.toNat - 0)).length = n.toNat := by rw [cut0, List.length_take]; omega
 have L : Exm [] w w := Exm.rfl'
 refine enter (n := 57) Tryz.func198 rfl rfl rfl ?_
 refine wp_seq (c_reg (s_box rfl rfl ?_))
 intro b1 w2 lob1 hib1 l3 B1
 have z_l3 := l3.size; have L := L.tr l3.up
 refine s0 (xaI rfl) (c_end (n_then (wp_seq (wp_seq (c_reg (st (x_loadAgB ag118 rfl B1 rfl) (s0 (xmI rfl) ?_)))))))
 refine srb (zcall cl149 rfl) (i_nbOk _ _ _ _ _ _ _ _ _ _ _ (h1.ext L) (h2.ext L) hk) (fun h13 w4 l5 => ?_) (fun h13 w4 l5 => ?_)
 ·have z_l5 := l5.size
  have L := L.tr l5.up; have B1 := B1.ext l5
  refine s0 (x_not rfl) (c_end (n_then (c_false rfl (c_skipn (n_then (wp_seq (c_reg (s0 (xaI rfl) (s0 (xaI rfl) (c_end (n_then (wp_seq (wp_seq ?_)))))))))))))
  refine c_reg (s0 (x_fieldAddr fa118_3 rfl) (st (x_loadB sc4 rfl B1 rfl) (c_end (n_then (c_true rfl (wp_seq (wp_seq (c_reg (s0 (x_fieldAddr fa118_0 rfl) (st (x_loadB sc24 rfl B1 rfl) (s0 (xmI rfl) (s0 (x_cuthr so24 (h1.ext L).r (by omega) rfl rfl (by omega) (by omega)) (s0 (x_lensl un24 rfl) ?_)))))))))))))
  refine s0 (xmI rfl) (c_end (n_then (wp_block ?_)))
  refine c_loop (γ := Nat) (fun k => n.toNat - k) (fun (k : Nat) E wl => ∃ E0, E = upd (upd (upd (upd (upd (upd (upd E0 1 (.int .i64 n)) 2 (pt b1 0)) 5 (.int .i64 (sumK ts k))) 6 (.int .i64 0)) 20 (.slice (cutp p1 c1 0 1) ((ts.drop 0).take (n.toNat - 0)).length (c1 - 0))) 21 (.int .i64 (((ts.drop 0).take (n.toNat - 0)).length : Int))) 22 (.int .i64 (k : Int)) ∧ (Exm [] w wl) ∧ (w4.heap.size ≤ wl.heap.size) ∧ (Bx wl b1 [.slice p1 ts.length c1, .slice p2 ls.length c2, .int .i64 cr, .bool true, .bool true] 118) ∧ ((k : Int) ≤ n)) 0 ⟨_, upd_self7 rfl rfl rfl rfl rfl rfl rfl, L, (by omega), B1, (by omega)⟩ ?_
  rintro k E wl6 ⟨E0, rfl, L, Lz, B1, hk2⟩
  have Lz0 := L.size
  refine wp_seq (c_reg ?_)
  refine sb (x_lss rfl rfl) (fun h23 => ?_) (fun h23 => ?_)
  ·refine c_end (n_then (wp_seq (c_true rfl (c_skipn (n_then (wp_seq (wp_block (wp_seq (c_reg (s0 (x_idx so24 rfl rfl (show Sl _ (cutp p1 c1 0 1) ((ts.drop 0).take (n.toNat - 0)).length (c1 - 0) 1 (ic ((ts.drop 0).take (n.toNat - 0))) from (h1.ext L).cuti (by omega) (by omega)) (by decide) (by omega) (by omega)) (st (x_ldi sc3 rfl (show Sl _ (cutp p1 c1 0 1) ((ts.drop 0).take (n.toNat - 0)).length (c1 - 0) 1 (ic ((ts.drop 0).take (n.toNat - 0))) from (h1.ext L).cuti (by omega) (by omega)) (by omega) (by omega)) (s0 (xaI rfl) (c_end ?_)))))))))))))
   refine n_then ?_
   have hge : ((ts.drop 0).take (n.toNat - 0)).getD (k : Int).toNat 0 = ts.getD k 0 := by rw [cut0, Int.toNat_natCast]; simp only [List.getD_eq_getElem?_getD, List.getElem?_take, if_pos (show k < n.toNat by omega)]
   have hsr := sumK_range hpt k; have hpg := pix_get hpt k
   refine c_reg (s0 (xmI rfl) (s0 (xmI rfl) (s0 (x_add rfl rfl (by omega)) (s0 (xaI rfl) (c_end (n_block (n_then (c_reg (s0 (x_add rfl rfl (by omega)) (s0 (xmI rfl) (c_end ?_)))))))))))
   exact c_round (g' := k + 1) (by omega) ⟨_, upd_self7 rfl rfl (vint (by rw [sumK_succ, ← hge])) rfl rfl rfl (vint (by omega)), L, (by omega), B1, (by omega)⟩
  ·refine c_end (n_then (wp_seq (c_false rfl ?_)))
   refine wp_exit (e_then (e_then (e_here ?_)))
   refine n_then ?_
   have hke : k = n.toNat := by omega
   refine c_reg (s0 (xmI rfl) (s0 (xmI rfl) (s0 (x_add rfl rfl (by omega)) (s0 (xaI rfl) (c_end (n_then (wp_seq (wp_seq (c_reg (s0 (x_fieldAddr fa118_4 rfl) (st (x_loadB sc4 rfl B1 rfl) (c_end (n_then ?_)))))))))))))
   refine c_true rfl (wp_seq (wp_seq (c_reg (s0 (x_fieldAddr fa118_1 rfl) (st (x_loadB sc24 rfl B1 rfl) (s0 (x_lensl un24 rfl) (s0 (xmI rfl) (c_end (n_then (wp_block ?_))))))))))
   refine c_loop (γ := Nat) (fun j => n.toNat - j) (fun (j : Nat) E wl => ∃ E0, E = upd (upd (upd (upd (upd (upd E0 1 (.int .i64 n)) 5 (.int .i64 (sumK ts n.toNat + sumK ls j))) 6 (.int .i64 (0 + n))) 36 (.slice p2 ls.length c2)) 37 (.int .i64 ls.length)) 38 (.int .i64 (j : Int)) ∧ (Exm [] w wl) ∧ (wl6.heap.size ≤ wl.heap.size) ∧ (Bx wl b1 [.slice p1 ts.length c1, .slice p2 ls.length c2, .int .i64 cr, .bool true, .bool true] 118) ∧ ((j : Int) ≤ n)) 0 ⟨_, upd_self6 rfl (vint (by rw [hke]; show _ = sumK ts n.toNat + 0; omega)) rfl rfl rfl rfl, L, (by omega), B1, (by omega)⟩ ?_
   rintro j E wl7 ⟨E0, rfl, L, Lz, B1, hj2⟩
   have Lz0 := L.size
   refine wp_seq (c_reg ?_)
   refine sb (x_lss rfl rfl) (fun h39 => ?_) (fun h39 => ?_)
   ·refine c_end (n_then (wp_seq (c_true rfl (c_skipn (n_then (wp_seq (wp_block (wp_seq (c_reg (s0 (x_idx so24 rfl rfl h2 (by decide) (by omega) (by omega)) (st (x_ldi sc3 rfl (h2.ext L) (by omega) (by omega)) (s0 (xaI rfl) (c_end ?_)))))))))))))
    refine n_then ?_
    have hsr2 := sumK_range hpl j; have hsr3 := sumK_range hpt n.toNat; have hpg := pix_get hpl (j : Int).toNat
    refine c_reg (s0 (xmI rfl) (s0 (xmI rfl) (s0 (x_add rfl rfl (by omega)) (s0 (xaI rfl) (c_end (n_block (n_then (c_reg (s0 (x_add rfl rfl (by omega)) (s0 (xmI rfl) (c_end ?_)))))))))))
    exact c_round (g' := j + 1) (by omega) ⟨_, upd_self6 rfl (vint (by rw [sumK_succ]; show _ + ls.getD j 0 = _; omega)) rfl rfl rfl (vint (by omega)), L, (by omega), B1, (by omega)⟩
   ·refine c_end (n_then (wp_seq (c_false rfl ?_)))
    refine wp_exit (e_then (e_then (e_here ?_)))
    refine n_then (c_reg (s0 (xmI rfl) (s0 (xmI rfl) (s0 (x_add rfl rfl (by omega)) (s0 (xaI rfl) (c_end (n_then (wp_seq (wp_seq ?_)))))))))
    have hsa := sumK_range hpt n.toNat; have hsb := sumK_range hpl n.toNat; have hje : j = n.toNat := by omega
    have hje2 : sumK ls j = sumK ls n.toNat := by rw [hje]
    refine c_reg (s0 (xmI rfl) ?_)
    refine sb (x_eql rfl rfl) (fun h50 => ?_) (fun h50 => ?_)
    ·refine c_end (n_then (c_true rfl (wp_seq (c_reg (s0 (xaI rfl) (c_end (n_then ?_)))))))
     refine wp_ret (r_then ?_)
     refine f_ret rfl rfl ?_
     omega
    ·refine c_end (n_then (c_false rfl (c_skipn (n_then (wp_seq (c_reg (s0 (xmI rfl) (s0 (xmI rfl) (s0 (x_quo rfl rfl (by omega) (by omega)) (s0 (x_add rfl rfl (by omega)) (s0 (xmI rfl) (s0 (x_quo rfl rfl (by omega) (by omega)) (s0 (xaI rfl) ?_)))))))))))))
     refine c_end (n_then (wp_ret (f_ret rfl rfl ?_)))
     exact ⟨ret_int (by rw [mean_tt _ _ hn4]; first | (congr 1 <;> omega) | omega), L⟩
 ·exact absurd trivial h13

theorem i_mean_tf (ts ls : List Int) (cr : Int) (n : Int) (p1 : Option Addr) (c1 : Nat) (p2 : Option Addr) (c2 : Nat) (w : World) (h1 : Sl w p1 ts.length c1 1 (ic ts)) (h2 : Sl w p2 ls.length c2 1 (ic ls)) (hk : nbOk ts ls cr n) :
    Calls Tryz.prog 198 [.agg [.slice p1 ts.length c1, .slice p2 ls.length c2, .int .i64 cr, .bool true, .bool false].toArray, .int .i64 n].toArray w (Ret w (.int .i64 (meanV ts ls true false n))) := by
 have hn4 := hk.1; have htl := hk.2.1; have hll := hk.2.2.1; have hpt := hk.2.2.2.1; have hpl := hk.2.2.2.2.1; have hcr := hk.2.2.2.2.2
 have hcl : ((ts.drop 0).take (n.toNat - 0)).length = n.toNat := by rw [cut0, List.length_take]; omega
 have L : Exm [] w w := Exm.rfl'
 refine enter (n := 57) Tryz.func198 rfl rfl rfl ?_
 refine wp_seq (c_reg (s_box rfl rfl ?_))
 intro b1 w2 lob1 hib1 l3 B1
 have z_l3 := l3.size; have L := L.tr l3.up
 refine s0 (xaI rfl) (c_end (n_then (wp_seq (wp_seq (c_reg (st (x_loadAgB ag118 rfl B1 rfl) (s0 (xmI rfl) ?_)))))))
 refine srb (zcall cl149 rfl) (i_nbOk _ _ _ _ _ _ _ _ _ _ _ (h1.ext L) (h2.ext L) hk) (fun h13 w4 l5 => ?_) (fun h13 w4 l5 => ?_)
 ·have z_l5 := l5.size
  have L := L.tr l5.up; have B1 := B1.ext l5
  refine s0 (x_not rfl) (c_end (n_then (c_false rfl (c_skipn (n_then (wp_seq (c_reg (s0 (xaI rfl) (s0 (xaI rfl) (c_end (n_then (wp_seq (wp_seq ?_)))))))))))))
  refine c_reg (s0 (x_fieldAddr fa118_3 rfl) (st (x_loadB sc4 rfl B1 rfl) (c_end (n_then (c_true rfl (wp_seq (wp_seq (c_reg (s0 (x_fieldAddr fa118_0 rfl) (st (x_loadB sc24 rfl B1 rfl) (s0 (xmI rfl) (s0 (x_cuthr so24 (h1.ext L).r (by omega) rfl rfl (by omega) (by omega)) (s0 (x_lensl un24 rfl) ?_)))))))))))))
  refine s0 (xmI rfl) (c_end (n_then (wp_block ?_)))
  refine c_loop (γ := Nat) (fun k => n.toNat - k) (fun (k : Nat) E wl => ∃ E0, E = upd (upd (upd (upd (upd (upd (upd E0 1 (.int .i64 n)) 2 (pt b1 0)) 5 (.int .i64 (sumK ts k))) 6 (.int .i64 0)) 20 (.slice (cutp p1 c1 0 1) ((ts.drop 0).take (n.toNat - 0)).length (c1 - 0))) 21 (.int .i64 (((ts.drop 0).take (n.toNat - 0)).length : Int))) 22 (.int .i64 (k : Int)) ∧ (Exm [] w wl) ∧ (w4.heap.size ≤ wl.heap.size) ∧ (Bx wl b1 [.slice p1 ts.length c1, .slice p2 ls.length c2, .int .i64 cr, .bool true, .bool false] 118) ∧ ((k : Int) ≤ n)) 0 ⟨_, upd_self7 rfl rfl rfl rfl rfl rfl rfl, L, (by omega), B1, (by omega)⟩ ?_
  rintro k E wl6 ⟨E0, rfl, L, Lz, B1, hk2⟩
  have Lz0 := L.size
  refine wp_seq (c_reg ?_)
  refine sb (x_lss rfl rfl) (fun h23 => ?_) (fun h23 => ?_)
  ·refine c_end (n_then (wp_seq (c_true rfl (c_skipn (n_then (wp_seq (wp_block (wp_seq (c_reg (s0 (x_idx so24 rfl rfl (show Sl _ (cutp p1 c1 0 1) ((ts.drop 0).take (n.toNat - 0)).length (c1 - 0) 1 (ic ((ts.drop 0).take (n.toNat - 0))) from (h1.ext L).cuti (by omega) (by omega)) (by decide) (by omega) (by omega)) (st (x_ldi sc3 rfl (show Sl _ (cutp p1 c1 0 1) ((ts.drop 0).take (n.toNat - 0)).length (c1 - 0) 1 (ic ((ts.drop 0).take (n.toNat - 0))) from (h1.ext L).cuti (by omega) (by omega)) (by omega) (by omega)) (s0 (xaI rfl) (c_end ?_)))))))))))))
   refine n_then ?_
   have hge : ((ts.drop 0).take (n.toNat - 0)).getD (k : Int).toNat 0 = ts.getD k 0 := by rw [cut0, Int.toNat_natCast]; simp only [List.getD_eq_getElem?_getD, List.getElem?_take, if_pos (show k < n.toNat by omega)]
   have hsr := sumK_range hpt k; have hpg := pix_get hpt k
   refine c_reg (s0 (xmI rfl) (s0 (xmI rfl) (s0 (x_add rfl rfl (by omega)) (s0 (xaI rfl) (c_end (n_block (n_then (c_reg (s0 (x_add rfl rfl (by omega)) (s0 (xmI rfl) (c_end ?_)))))))))))
   exact c_round (g' := k + 1) (by omega) ⟨_, upd_self7 rfl rfl (vint (by rw [sumK_succ, ← hge])) rfl rfl rfl (vint (by omega)), L, (by omega), B1, (by omega)⟩
  ·refine c_end (n_then (wp_seq (c_false rfl ?_)))
   refine wp_exit (e_then (e_then (e_here ?_)))
   refine n_then ?_
   have hke : k = n.toNat := by omega
   refine c_reg (s0 (xmI rfl) (s0 (xmI rfl) (s0 (x_add rfl rfl (by omega)) (s0 (xaI rfl) (c_end (n_then (wp_seq (wp_seq (c_reg (s0 (x_fieldAddr fa118_4 rfl) (st (x_loadB sc4 rfl B1 rfl) (c_end (n_then ?_)))))))))))))
   refine c_false rfl (c_skipn (n_then (wp_seq (wp_seq ?_))))
   have hsa := sumK_range hpt n.toNat; have hsb := sumK_range hpl n.toNat; have hke2 : sumK ts k = sumK ts n.toNat := by rw [hke]
   refine c_reg (s0 (xmI rfl) ?_)
   refine sb (x_eql rfl rfl) (fun h50 => ?_) (fun h50 => ?_)
   ·refine c_end (n_then (c_true rfl (wp_seq (c_reg (s0 (xaI rfl) (c_end (n_then ?_)))))))
    refine wp_ret (r_then ?_)
    refine f_ret rfl rfl ?_
    omega
   ·refine c_end (n_then (c_false rfl (c_skipn (n_then (wp_seq (c_reg (s0 (xmI rfl) (s0 (xmI rfl) (s0 (x_quo rfl rfl (by omega) (by omega)) (s0 (x_add rfl rfl (by omega)) (s0 (xmI rfl) (s0 (x_quo rfl rfl (by omega) (by omega)) (s0 (xaI rfl) ?_)))))))))))))
    refine c_end (n_then (wp_ret (f_ret rfl rfl ?_)))
    exact ⟨ret_int (by rw [mean_tf _ _ hn4]; first | (congr 1 <;> omega) | omega), L⟩
 ·exact absurd trivial h13

theorem i_mean_ft (ts ls : List Int) (cr : Int) (n : Int) (p1 : Option Addr) (c1 : Nat) (p2 : Option Addr) (c2 : Nat) (w : World) (h1 : Sl w p1 ts.length c1 1 (ic ts)) (h2 : Sl w p2 ls.length c2 1 (ic ls)) (hk : nbOk ts ls cr n) :
    Calls Tryz.prog 198 [.agg [.slice p1 ts.length c1, .slice p2 ls.length c2, .int .i64 cr, .bool false, .bool true].toArray, .int .i64 n].toArray w (Ret w (.int .i64 (meanV ts ls false true n))) := by
 have hn4 := hk.1; have htl := hk.2.1; have hll := hk.2.2.1; have hpt := hk.2.2.2.1; have hpl := hk.2.2.2.2.1; have hcr := hk.2.2.2.2.2
 have hcl : ((ts.drop 0).take (n.toNat - 0)).length = n.toNat := by rw [cut0, List.length_take]; omega
 have L : Exm [] w w := Exm.rfl'
 refine enter (n := 57) Tryz.func198 rfl rfl rfl ?_
 refine wp_seq (c_reg (s_box rfl rfl ?_))
 intro b1 w2 lob1 hib1 l3 B1
 have z_l3 := l3.size; have L := L.tr l3.up
 refine s0 (xaI rfl) (c_end (n_then (wp_seq (wp_seq (c_reg (st (x_loadAgB ag118 rfl B1 rfl) (s0 (xmI rfl) ?_)))))))
 refine srb (zcall cl149 rfl) (i_nbOk _ _ _ _ _ _ _ _ _ _ _ (h1.ext L) (h2.ext L) hk) (fun h13 w4 l5 => ?_) (fun h13 w4 l5 => ?_)
 ·have z_l5 := l5.size
  have L := L.tr l5.up; have B1 := B1.ext l5
  refine s0 (x_not rfl) (c_end (n_then (c_false rfl (c_skipn (n_then (wp_seq (c_reg (s0 (xaI rfl) (s0 (xaI rfl) (c_end (n_then (wp_seq (wp_seq ?_)))))))))))))
  refine c_reg (s0 (x_fieldAddr fa118_3 rfl) (st (x_loadB sc4 rfl B1 rfl) (c_end (n_then (c_false rfl (c_skipn (n_then (wp_seq (wp_seq (c_reg (s0 (x_fieldAddr fa118_4 rfl) (st (x_loadB sc4 rfl B1 rfl) (c_end ?_)))))))))))))
  refine n_then (c_true rfl (wp_seq (wp_seq (c_reg (s0 (x_fieldAddr fa118_1 rfl) (st (x_loadB sc24 rfl B1 rfl) (s0 (x_lensl un24 rfl) (s0 (xmI rfl) (c_end (n_then (wp_block ?_)))))))))))
  refine c_loop (γ := Nat) (fun j => n.toNat - j) (fun (j : Nat) E wl => ∃ E0, E = upd (upd (upd (upd (upd (upd E0 1 (.int .i64 n)) 5 (.int .i64 (sumK ls j))) 6 (.int .i64 (0))) 36 (.slice p2 ls.length c2)) 37 (.int .i64 ls.length)) 38 (.int .i64 (j : Int)) ∧ (Exm [] w wl) ∧ (w4.heap.size ≤ wl.heap.size) ∧ (Bx wl b1 [.slice p1 ts.length c1, .slice p2 ls.length c2, .int .i64 cr, .bool false, .bool true] 118) ∧ ((j : Int) ≤ n)) 0 ⟨_, upd_self6 rfl (vint (by rfl)) rfl rfl rfl rfl, L, (by omega), B1, (by omega)⟩ ?_
  rintro j E wl6 ⟨E0, rfl, L, Lz, B1, hj2⟩
  have Lz0 := L.size
  refine wp_seq (c_reg ?_)
  refine sb (x_lss rfl rfl) (fun h39 => ?_) (fun h39 => ?_)
  ·refine c_end (n_then (wp_seq (c_true rfl (c_skipn (n_then (wp_seq (wp_block (wp_seq (c_reg (s0 (x_idx so24 rfl rfl h2 (by decide) (by omega) (by omega)) (st (x_ldi sc3 rfl (h2.ext L) (by omega) (by omega)) (s0 (xaI rfl) (c_end ?_)))))))))))))
   refine n_then ?_
   have hsr2 := sumK_range hpl j; have hsr3 := sumK_range hpt n.toNat; have hpg := pix_get hpl (j : Int).toNat
   refine c_reg (s0 (xmI rfl) (s0 (xmI rfl) (s0 (x_add rfl rfl (by omega)) (s0 (xaI rfl) (c_end (n_block (n_then (c_reg (s0 (x_add rfl rfl (by omega)) (s0 (xmI rfl) (c_end ?_)))))))))))
   exact c_round (g' := j + 1) (by omega) ⟨_, upd_self6 rfl (vint (by rw [sumK_succ]; show _ + ls.getD j 0 = _; omega)) rfl rfl rfl (vint (by omega)), L, (by omega), B1, (by omega)⟩
  ·refine c_end (n_then (wp_seq (c_false rfl ?_)))
   refine wp_exit (e_then (e_then (e_here ?_)))
   refine n_then (c_reg (s0 (xmI rfl) (s0 (xmI rfl) (s0 (x_add rfl rfl (by omega)) (s0 (xaI rfl) (c_end (n_then (wp_seq (wp_seq ?_)))))))))
   have hsa := sumK_range hpt n.toNat; have hsb := sumK_range hpl n.toNat; have hje : j = n.toNat := by omega
   have hje2 : sumK ls j = sumK ls n.toNat := by rw [hje]
   refine c_reg (s0 (xmI rfl) ?_)
   refine sb (x_eql rfl rfl) (fun h50 => ?_) (fun h50 => ?_)
   ·refine c_end (n_then (c_true rfl (wp_seq (c_reg (s0 (xaI rfl) (c_end (n_then ?_)))))))
    refine wp_ret (r_then ?_)
    refine f_ret rfl rfl ?_
    omega
   ·refine c_end (n_then (c_false rfl (c_skipn (n_then (wp_seq (c_reg (s0 (xmI rfl) (s0 (xmI rfl) (s0 (x_quo rfl rfl (by omega) (by omega)) (s0 (x_add rfl rfl (by omega)) (s0 (xmI rfl) (s0 (x_quo rfl rfl (by omega) (by omega)) (s0 (xaI rfl) ?_)))))))))))))
    refine c_end (n_then (wp_ret (f_ret rfl rfl ?_)))
    exact ⟨ret_int (by rw [mean_ft _ _ hn4]; first | (congr 1 <;> omega) | omega), L⟩
 ·exact absurd trivial h13

theorem i_mean_ff (ts ls : List Int) (cr : Int) (n : Int) (p1 : Option Addr) (c1 : Nat) (p2 : Option Addr) (c2 : Nat) (w : World) (h1 : Sl w p1 ts.length c1 1 (ic ts)) (h2 : Sl w p2 ls.length c2 1 (ic ls)) (hk : nbOk ts ls cr n) :
    Calls Tryz.prog 198 [.agg [.slice p1 ts.length c1, .slice p2 ls.length c2, .int .i64 cr, .bool false, .bool false].toArray, .int .i64 n].toArray w (Ret w (.int .i64 (meanV ts ls false false n))) := by
 have hn4 := hk.1; have htl := hk.2.1; have hll := hk.2.2.1; have hpt := hk.2.2.2.1; have hpl := hk.2.2.2.2.1; have hcr := hk.2.2.2.2.2
 have hcl : ((ts.drop 0).take (n.toNat - 0)).length = n.toNat := by rw [cut0, List.length_take]; omega
 have L : Exm [] w w := Exm.rfl'
 refine enter (n := 57) Tryz.func198 rfl rfl rfl ?_
 refine wp_seq (c_reg (s_box rfl rfl ?_))
 intro b1 w2 lob1 hib1 l3 B1
 have z_l3 := l3.size; have L := L.tr l3.up
 refine s0 (xaI rfl) (c_end (n_then (wp_seq (wp_seq (c_reg (st (x_loadAgB ag118 rfl B1 rfl) (s0 (xmI rfl) ?_)))))))
 refine srb (zcall cl149 rfl) (i_nbOk _ _ _ _ _ _ _ _ _ _ _ (h1.ext L) (h2.ext L) hk) (fun h13 w4 l5 => ?_) (fun h13 w4 l5 => ?_)
 ·have z_l5 := l5.size
  have L := L.tr l5.up; have B1 := B1.ext l5
  refine s0 (x_not rfl) (c_end (n_then (c_false rfl (c_skipn (n_then (wp_seq (c_reg (s0 (xaI rfl) (s0 (xaI rfl) (c_end (n_then (wp_seq (wp_seq ?_)))))))))))))
  refine c_reg (s0 (x_fieldAddr fa118_3 rfl) (st (x_loadB sc4 rfl B1 rfl) (c_end (n_then (c_false rfl (c_skipn (n_then (wp_seq (wp_seq (c_reg (s0 (x_fieldAddr fa118_4 rfl) (st (x_loadB sc4 rfl B1 rfl) (c_end ?_)))))))))))))
  refine n_then (c_false rfl (c_skipn (n_then (wp_seq (wp_seq ?_)))))
  have hsa := sumK_range hpt n.toNat; have hsb := sumK_range hpl n.toNat
  refine c_reg (s0 (xmI rfl) ?_)
  refine sb (x_eql rfl rfl) (fun h50 => ?_) (fun h50 => ?_)
  ·refine c_end (n_then (c_true rfl (wp_seq (c_reg (s0 (xaI rfl) (c_end (n_then ?_)))))))
   refine wp_ret (r_then ?_)
   refine f_ret rfl rfl ?_
   exact ⟨ret_int (mean_ff ts ls).symm, L⟩
  ·refine c_end (n_then (c_false rfl (c_skipn (n_then (wp_seq (c_reg (s0 (xmI rfl) (s0 (xmI rfl) (s0 (x_quo rfl rfl (by omega) (by omega)) (s0 (x_add rfl rfl (by omega)) (s0 (xmI rfl) (s0 (x_quo rfl rfl (by omega) (by omega)) (s0 (xaI rfl) ?_)))))))))))))
   refine c_end (n_then (wp_ret (f_ret rfl rfl ?_)))
   omega
 ·exact absurd trivial h13

theorem i_mean (ts ls : List Int) (cr : Int) (u v : Bool) (n : Int) (p1 : Option Addr) (c1 : Nat) (p2 : Option Addr) (c2 : Nat) (w : World) (h1 : Sl w p1 ts.length c1 1 (ic ts)) (h2 : Sl w p2 ls.length c2 1 (ic ls)) (hk : nbOk ts ls cr n) : Calls Tryz.prog 198 [.agg [.slice p1 ts.length c1, .slice p2 ls.length c2, .int .i64 cr, .bool u, .bool v].toArray, .int .i64 n].toArray w (Ret w (.int .i64 (meanV ts ls u v n))) := by
  cases u <;> cases v
  · exact i_mean_ff ts ls cr n p1 c1 p2 c2 w h1 h2 hk
  · exact i_mean_ft ts ls cr n p1 c1 p2 c2 w h1 h2 hk
  · exact i_mean_tf ts ls cr n p1 c1 p2 c2 w h1 h2 hk
  · exact i_mean_tt ts ls cr n p1 c1 p2 c2 w h1 h2 hk

theorem g_reverse (pA : Option Addr) (n c : Nat) (xs : List Int) (FA : List Nat) (w : World) (oA : Own w pA n c 3 1 (ic xs) FA) (h48 : xs.length = 4 ∨ xs.length = 8) :
    Calls Tryz.prog 226 [.slice pA n c].toArray w (RetM FA w fun v w' => v = .tuple [].toArray ∧ Own w' pA n c 3 1 (ic xs.reverse) FA) := by
 obtain rfl : n = xs.length := oA.n1
 have fA : Fr 0 FA := fun _ _ => Nat.zero_le _
 have gA := oA.lt; have hnA := oA.n1; have L : Exm FA w w := Exm.rfl'
 refine enter (n := 28) Tryz.func226 rfl rfl rfl ?_
 refine wp_seq (c_reg (s0 (xmS rfl) (s0 (x_lensl un24 rfl) (s0 (x_sub rfl rfl (by omega)) (s0 (xaI rfl) (s0 (xaI rfl) (c_end (n_then (wp_block ?_)))))))))
 refine c_loop (γ := Nat) (fun i => xs.length - 2 * i) (fun (i : Nat) E wl => ∃ E0, E = upd (upd (upd E0 0 (.slice pA xs.length c)) 2 (.int .i64 (i : Int))) 3 (.int .i64 ((xs.length : Int) - 1 - i)) ∧ (Exm FA w wl) ∧ (Own wl pA xs.length c 3 1 (ic (rvK xs i)) FA) ∧ (2 * (i : Int) ≤ xs.length)) 0 ⟨_, upd_self3 rfl rfl (vint (by omega)), L, oA, (by omega)⟩ ?_
 rintro i E wl1 ⟨E0, rfl, L, oA, hi⟩
 have Lz0 := L.size
 refine wp_seq (wp_seq (c_reg (s0 (xmI rfl) (s0 (xmI rfl) ?_))))
 refine sb (x_lss rfl rfl) (fun h9 => ?_) (fun h9 => ?_)
 ·refine c_end (n_then (c_true rfl (c_skipn (n_then (wp_seq (wp_block ?_))))))
  have hrl := rvK_length xs i
  refine c_plan (fun wq => Exm [] wl1 wq) 13 (.cons (0, 2) (.cons (1, 2) (.cons (2, 2) (.cons (3, 2) (.cons (4, 2) (.cons (5, 2) (.cons (6, 2) (.cons (7, 1) (.cons (8, 2) (.cons (9, 2) (.cons (10, 2) (.cons (11, 1) (.cons (12, 2) (.cons (13, 0) (.cons (14, 0) (.cons (15, 0) .nil)))))))))))))))) (by kernel_rfl) (by kernel_rfl) (Exm.drew _) ?_
  obtain ⟨w2, hwd⟩ : ∃ x, x = wl1.drew := ⟨_, rfl⟩
  have l3 : Ext wl1 w2 := by rw [hwd]; exact Exm.drew _
  rw [← hwd]; clear hwd
  have Lq : Exm [] wl1 w2 := l3.up; have qoA := oA; have z_l3 := l3.size; have L := L.tr l3.up; have oA := oA.ext l3
  refine p0 rfl (xmS rfl) (p0 rfl (xmI rfl) (p0 rfl (xmS rfl) (p0 rfl (xmI rfl) (p0 rfl (xmS rfl) (p0 rfl (xmI rfl) (p0 rfl (x_idx so24 rfl rfl oA.sl (by decide) (by omega) (by omega)) ?_))))))
  refine ps rfl (fun wq hwq => x_ldi sc3 rfl (qoA.ext hwq).sl (by omega) (by omega)) ?_
  refine p0 rfl (xmS rfl) (p0 rfl (xmI rfl) (p0 rfl (x_idx so24 rfl rfl oA.sl (by decide) (by omega) (by omega)) ?_))
  refine ps rfl (fun wq hwq => x_ldi sc3 rfl (qoA.ext hwq).sl (by omega) (by omega)) ?_
  refine p0 rfl (x_idx so24 rfl rfl oA.sl (by decide) (by omega) (by omega)) (pu rfl (s_stoi rfl sz3 rfl rfl oA (by omega) (by omega) ?_))
  intro w4 l5 el5 oA
  have z_l5 := l5.size; have L := L.withinL l5 (by simp)
  have hnl5 := oA.n1
  refine c_end ⟨rfl, fun h hS => absurd h (by decide), ?_⟩
  refine pu rfl (s0 (x_idx so24 rfl rfl oA.sl (by decide) (by omega) (by omega)) ?_)
  refine c_end ⟨rfl, fun h hS => absurd h (by decide), ?_⟩
  refine pu rfl (s_stoi rfl sz3 rfl rfl oA (by omega) (by omega) ?_)
  intro w6 l7 el7 oA
  have z_l7 := l7.size; have L := L.withinL l7 (by simp)
  have hnl7 := oA.n1
  refine c_end ⟨rfl, fun h hS => absurd h (by decide), ?_⟩
  refine p_nil (np_normal ?_)
  refine n_block (n_then (c_reg (s0 (xmI rfl) (s0 (x_add rfl rfl (by omega)) (s0 (xmI rfl) (s0 (x_sub rfl rfl (by omega)) (s0 (xaI rfl) (s0 (xaI rfl) (c_end ?_)))))))))
  have e1 : ((xs.length : Int) - 1 - (i : Int)).toNat = xs.length - 1 - i := by omega
  have oA := ownI oA (ys := rvK xs (i + 1)) (by simp only [rvK]; rw [e1, Int.toNat_natCast] <;> first | rfl | (rw [List.set_comm _ _ (by omega)]))
  exact c_round (g' := i + 1) (by omega) ⟨_, upd_self3 rfl (vint (by omega)) (vint (by omega)), L, oA, (by omega)⟩
 ·refine c_end (n_then (c_false rfl ?_))
  refine wp_exit (e_then (e_then (e_here ?_)))
  refine f_end0 rfl ?_
  have hie : 2 * i = xs.length := by omega
  have oA := ownI oA (ys := xs.reverse) (rvK_all h48 hie)
  exact ⟨_, rfl, L, rfl, oA⟩

theorem i_border (ts ls : List Int) (cr : Int) (u v : Bool) (n : Int) (p1 : Option Addr) (c1 : Nat) (p2 : Option Addr) (c2 : Nat) (w : World) (h1 : Sl w p1 ts.length c1 1 (ic ts)) (h2 : Sl w p2 ls.length c2 1 (ic ls)) (hk : nbOk ts ls cr n) :
    Calls Tryz.prog 200 [.agg [.slice p1 ts.length c1, .slice p2 ls.length c2, .int .i64 cr, .bool u, .bool v].toArray, .int .i64 n].toArray w (RetP w fun v w' => ∃ p c F, v = .slice p ((borderL ts ls cr n)).length c ∧ Own w' p ((borderL ts ls cr n)).length c 3 1 (ic ((borderL ts ls cr n))) F ∧ Fr w.heap.size F) := by
 have hn4 := hk.1; have htl := hk.2.1; have hll := hk.2.2.1; have hpt := hk.2.2.2.1; have hpl := hk.2.2.2.2.1; have hcr := hk.2.2.2.2.2
 have hcl : ((ts.drop 0).take (n.toNat - 0)).length = n.toNat := by rw [cut0, List.length_take]; omega
 have hrv : ls.reverse.length = ls.length := List.length_reverse; have L : Exm [] w w := Exm.rfl'
 refine enter (n := 25) Tryz.func200 rfl rfl rfl ?_
 refine wp_seq (c_reg (s_box rfl rfl ?_))
 intro b1 w2 lob1 hib1 l3 B1
 have z_l3 := l3.size; have L := L.tr l3.up
 refine s0 (xaS rfl) (c_end (n_then (wp_seq (wp_seq (c_reg (st (x_loadAgB ag118 rfl B1 rfl) (s0 (xmI rfl) ?_)))))))
 refine srb (zcall cl149 rfl) (i_nbOk _ _ _ _ _ _ _ _ _ _ _ (h1.ext L) (h2.ext L) hk) (fun h8 w4 l5 => ?_) (fun h8 w4 l5 => ?_)
 ·have z_l5 := l5.size
  have L := L.tr l5.up; have B1 := B1.ext l5
  refine s0 (x_not rfl) (c_end (n_then (c_false rfl (c_skipn (n_then (wp_seq (c_reg (s0 (x_fieldAddr fa118_1 rfl) (st (x_loadB sc24 rfl B1 rfl) ?_)))))))))
  refine sp (zcall cl146 rfl) (g_clone _ _ _ _ (h2.ext L) (by omega)) ?_
  rintro v12 w6 l7 ⟨p12, c12, F12, rfl, o12, f12⟩
  have z_l7 := l7.size; have L := L.tr l7.up; have B1 := B1.ext l7; have g12 := o12.lt
  refine s0 (xaS rfl) (c_end (n_then (wp_seq (c_reg (s0 (xmS rfl) ?_)))))
  refine spm (zcall cl226 rfl) (g_reverse _ _ _ _ _ _ o12 (by omega)) ?_
  rintro v14 w8 l9 ⟨-, o12⟩
  have z_l9 := l9.size; have L := L.freshL l9 f12 (by omega); have B1 := B1.exm l9 (by first|assumption|exact nin_of f12 g12 (by omega))
  refine c_end (n_then (wp_seq ?_))
  refine c_plan (fun wq => Exm F12 w8 wq) 9 (.cons (0, 2) (.cons (1, 2) (.cons (2, 1) (.cons (5, 2) (.cons (6, 1) (.cons (7, 2) (.cons (8, 2) (.cons (3, 0) (.cons (4, 0) (.cons (9, 0) (.cons (10, 0) .nil))))))))))) (by kernel_rfl) (by kernel_rfl) (Exm.drew _) ?_
  obtain ⟨w10, hwd⟩ : ∃ x, x = w8.drew := ⟨_, rfl⟩
  have l11 : Ext w8 w10 := by rw [hwd]; exact Exm.drew _
  rw [← hwd]; clear hwd
  have Lq : Exm F12 w8 w10 := l11.up; have qB1 := B1; have z_l11 := l11.size; have L := L.tr l11.up; have B1 := B1.ext l11; have o12 := o12.ext l11
  refine p0 rfl (xmS rfl) (p0 rfl (x_fieldAddr fa118_2 rfl) ?_)
  refine ps rfl (fun wq hwq => x_loadB sc3 rfl (qB1.exm hwq (by first|assumption|exact nin_of f12 g12 (by omega))) rfl) ?_
  refine p0 rfl (x_fieldAddr fa118_0 rfl) ?_
  refine ps rfl (fun wq hwq => x_loadB sc24 rfl (qB1.exm hwq (by first|assumption|exact nin_of f12 g12 (by omega))) rfl) ?_
  refine p0 rfl (xmI rfl) (p0 rfl (x_cuthr so24 (h1.ext L).r (by omega) rfl rfl (by omega) (by omega)) (pu rfl ?_))
  refine s_bsi (xs := [_]) so24 zr3 (pts_cons rfl pts_nil) rfl rfl rfl ?_
  intro p18 F18 w12 l13 o18 f18 g18
  have z_l13 := l13.size; have L := L.tr l13.up; have Lq := Lq.tr l13.up; have B1 := B1.ext l13; have o12 := o12.ext l13; have hn18 := o18.n1
  refine c_end ⟨rfl, fun h hS => Lq, ?_⟩
  refine pu rfl (s_appi (B := w4.heap.size) so24 zr3 rfl rfl (xs := _) o12 o18.sl f12 (by omega) (by omega) (by omega) ?_)
  intro p19 c19 F19 w14 l15 o19 hn19 k19 f19 g19
  have ab1_19 : b1 ∉ F19 := k19.nin (by first|assumption|exact nin_of f12 g12 (by omega)) (by omega)
  have B1 := B1.exm l15 (by first|assumption|exact nin_of f12 g12 (by omega))
  have z_l15 := l15.size; have L := L.freshL l15 f12 (by omega); have Lq := Lq.withinL l15 (by simp)
  have d18_19 : Dj F18 F19 := k19.dj (by first|assumption|exact Dj.symm (by assumption)|exact dj_of f18 g18 f12 g12 (by omega)) g18 (by omega)
  have o18 := o18.exm l15 (by first|assumption|exact Dj.symm (by assumption)|exact dj_of f12 g12 f18 g18 (by omega))
  refine c_end ⟨rfl, fun h hS => Lq, ?_⟩
  refine pu rfl (s_appi (B := w4.heap.size) so24 zr3 rfl rfl (xs := _) o19 ((h1.ext L).cuti (by omega) (by omega)) f19 (by omega) (by omega) (by omega) ?_)
  intro p24 c24 F24 w16 l17 o24 hn24 k24 f24 g24
  have ab1_24 : b1 ∉ F24 := k24.nin (by first|assumption|exact nin_of f19 g19 (by omega)) (by omega)
  have B1 := B1.exm l17 (by first|assumption|exact nin_of f19 g19 (by omega))
  have z_l17 := l17.size; have L := L.freshL l17 f19 (by omega); have d18_24 : Dj F18 F24 := k24.dj (by first|assumption|exact Dj.symm (by assumption)|exact dj_of f18 g18 f19 g19 (by omega)) g18 (by omega)
  have o18 := o18.exm l17 (by first|assumption|exact Dj.symm (by assumption)|exact dj_of f19 g19 f18 g18 (by omega))
  refine c_end ⟨rfl, fun h hS => absurd h (by decide), ?_⟩
  refine pu rfl (s0 (xaS rfl) ?_)
  refine c_end ⟨rfl, fun h hS => absurd h (by decide), ?_⟩
  refine p_nil (np_normal ?_)
  refine n_then (wp_ret (f_ret rfl rfl ?_))
  have o24 := ownI o24 (ys := borderL ts ls cr n) (by rw [cut0]; rfl)
  exact ⟨_, rfl, L, _, _, _, slice_len (by rw [cut0]; rfl), o24, f24.mono (by omega)⟩
 ·exact absurd trivial h8

theorem i_smoothed (a b c : Int) (w : World) (ha : 0 ≤ a ∧ a ≤ 255) (hb : 0 ≤ b ∧ b ≤ 255) (hc : 0 ≤ c ∧ c ≤ 255) :
    Calls Tryz.prog 199 [.int .i64 a, .int .i64 b, .int .i64 c].toArray w (Ret w (.int .i64 (soft a b c))) := by
 have L : Exm [] w w := Exm.rfl'
 refine enter (n := 15) Tryz.func199 rfl rfl rfl ?_
 refine wp_seq (c_reg (s0 (xaI rfl) (c_end (n_then (wp_seq (c_reg (s0 (xmI rfl) (s0 (xmI rfl) (s0 (x_mul rfl rfl (by omega)) (s0 (x_add rfl rfl (by omega)) (s0 (xmI rfl) (s0 (x_add rfl rfl (by omega)) (s0 (x_add rfl rfl (by omega)) ?_)))))))))))))
 refine s0 (x_quo rfl rfl (by omega) (by omega)) (s0 (xaI rfl) (c_end (n_then (wp_ret (f_ret rfl rfl ?_)))))
 exact ⟨rfl, L⟩

theorem i_predAt (ts ls : List Int) (cr : Int) (u v : Bool) (n x y m : Int) (p1 : Option Addr) (c1 : Nat) (p2 : Option Addr) (c2 : Nat) (w : World) (h1 : Sl w p1 ts.length c1 1 (ic ts)) (h2 : Sl w p2 ls.length c2 1 (ic ls)) (hk : nbOk ts ls cr n) (hx : 0 ≤ x ∧ x ≤ n - 1) (hy : 0 ≤ y ∧ y ≤ n - 1) (hm : 0 ≤ m ∧ m ≤ 5) :
    Calls Tryz.prog 150 [.int .i64 m, .agg [.slice p1 ts.length c1, .slice p2 ls.length c2, .int .i64 cr, .bool u, .bool v].toArray, .int .i64 n, .int .i64 x, .int .i64 y].toArray w (Ret w (.int .i64 (predV m ts ls cr u v n x y))) := by
 have hn4 := hk.1; have htl := hk.2.1; have hll := hk.2.2.1; have hpt := hk.2.2.2.1; have hpl := hk.2.2.2.2.1; have hcr := hk.2.2.2.2.2; have L : Exm [] w w := Exm.rfl'
 refine enter (n := 127) Tryz.func150 rfl rfl rfl ?_
 refine wp_seq (c_reg (s_box rfl rfl ?_))
 intro b1 w2 lob1 hib1 l3 B1
 have z_l3 := l3.size; have L := L.tr l3.up
 refine s0 (xaI rfl) (c_end (n_then (wp_seq (wp_seq (c_reg (st (x_loadAgB ag118 rfl B1 rfl) (s0 (xmI rfl) ?_)))))))
 refine srb (zcall cl149 rfl) (i_nbOk _ _ _ _ _ _ _ _ _ _ _ (h1.ext L) (h2.ext L) hk) (fun h16 w4 l5 => ?_) (fun h16 w4 l5 => ?_)
 ·have z_l5 := l5.size
  have L := L.tr l5.up; have B1 := B1.ext l5
  refine s0 (x_not rfl) (s0 (x_move (v := .bool _) rfl) (gt rfl rfl rfl rfl (s0 (xmI rfl) (gt rfl rfl rfl rfl (s0 (xmI rfl) (gt rfl rfl rfl rfl (s0 (x_sub rfl rfl (by omega)) (gt rfl rfl rfl rfl ?_))))))))
  refine srb (zcall cl77 rfl) (i_within _ _ _ _) (fun h22 w6 l7 => ?_) (fun h22 w6 l7 => ?_)
  ·have z_l7 := l7.size
   have L := L.tr l7.up; have B1 := B1.ext l7
   refine gt rfl rfl rfl rfl (s0 (x_not rfl) (s0 (x_pickf (v := .bool _) rfl rfl) (s0 (x_move (v := .bool _) rfl) (gt rfl rfl rfl rfl (s0 (xmI rfl) (gt rfl rfl rfl rfl (s0 (xmI rfl) (gt rfl rfl rfl rfl (s0 (x_sub rfl rfl (by omega)) (gt rfl rfl rfl rfl ?_))))))))))
   refine srb (zcall cl77 rfl) (i_within _ _ _ _) (fun h29 w8 l9 => ?_) (fun h29 w8 l9 => ?_)
   ·have z_l9 := l9.size
    have L := L.tr l9.up; have B1 := B1.ext l9
    refine gt rfl rfl rfl rfl (s0 (x_not rfl) (s0 (x_pickf (v := .bool _) rfl rfl) (c_end (n_then (c_false rfl (c_skipn (n_then (wp_seq (wp_seq (c_reg (s0 (xmI rfl) (c_end (n_then ?_)))))))))))))
    refine wp_block (wp_seq (c_reg ?_))
    refine sb (x_eql rfl rfl) (fun h34 => ?_) (fun h34 => ?_)
    ·refine s0 (x_assign (v := .bool _) rfl) (c_end (n_then (c_true rfl (wp_seq (c_reg (st (x_loadAgB ag118 rfl B1 rfl) (s0 (xmI rfl) ?_)))))))
     refine sr (zcall cl198 rfl) (i_mean _ _ _ _ _ _ _ _ _ _ _ (h1.ext L) (h2.ext L) hk) ?_
     intro w10 l11
     have z_l11 := l11.size; have L := L.tr l11.up
     refine s0 (xaI rfl) (c_end (n_then ?_))
     refine wp_ret (r_block (r_then ?_))
     refine f_ret rfl rfl ?_
     exact ⟨ret_int (by unfold predV; rw [if_pos h34]), L⟩
    ·refine s0 (x_assign (v := .bool _) rfl) (c_end (n_then (c_false rfl (wp_seq (c_reg ?_)))))
     refine sb (x_eql rfl rfl) (fun h39 => ?_) (fun h39 => ?_)
     ·refine s0 (x_assign (v := .bool _) rfl) (c_end (n_then (c_true rfl (wp_seq (c_reg (s0 (x_fieldAddr fa118_0 rfl) (st (x_loadB sc24 rfl B1 rfl) (s0 (xmI rfl) (s0 (x_idx so24 rfl rfl h1 (by decide) (by omega) (by omega)) (st (x_ldi sc3 rfl (h1.ext L) (by omega) (by omega)) (s0 (xaI rfl) (c_end (n_then ?_)))))))))))))
      refine wp_ret (r_block (r_then ?_))
      refine f_ret rfl rfl ?_
      exact ⟨ret_int (by unfold predV; rw [if_neg h34, if_pos h39]), L⟩
     ·refine s0 (x_assign (v := .bool _) rfl) (c_end (n_then (c_false rfl (wp_seq (c_reg ?_)))))
      refine sb (x_eql rfl rfl) (fun h46 => ?_) (fun h46 => ?_)
      ·refine s0 (x_assign (v := .bool _) rfl) (c_end (n_then (c_true rfl (wp_seq (c_reg (s0 (x_fieldAddr fa118_1 rfl) (st (x_loadB sc24 rfl B1 rfl) (s0 (xmI rfl) (s0 (x_idx so24 rfl rfl h2 (by decide) (by omega) (by omega)) (st (x_ldi sc3 rfl (h2.ext L) (by omega) (by omega)) (s0 (xaI rfl) (c_end (n_then ?_)))))))))))))
       refine wp_ret (r_block (r_then ?_))
       refine f_ret rfl rfl ?_
       exact ⟨ret_int (by unfold predV; rw [if_neg h34, if_neg h39, if_pos h46]), L⟩
      ·refine s0 (x_assign (v := .bool _) rfl) (c_end (n_then (c_false rfl (wp_seq (c_reg ?_)))))
       refine sb (x_eql rfl rfl) (fun h53 => ?_) (fun h53 => ?_)
       ·refine s0 (x_assign (v := .bool _) rfl) (c_end (n_then (c_true rfl (wp_seq ?_))))
        have b1 := pix_get hpl y.toNat; have b2 := pix_get hpt x.toNat
        refine c_plan (fun wq => Exm [] w8 wq) 16 (.cons (0, 2) (.cons (1, 1) (.cons (2, 2) (.cons (3, 2) (.cons (4, 1) (.cons (5, 2) (.cons (6, 1) (.cons (7, 2) (.cons (8, 2) (.cons (9, 1) (.cons (10, 2) (.cons (11, 2) (.cons (12, 1) (.cons (13, 2) (.cons (14, 0) (.cons (15, 2) .nil)))))))))))))))) (by kernel_rfl) (by kernel_rfl) (Exm.drew _) ?_
        obtain ⟨w12, hwd⟩ : ∃ x, x = w8.drew := ⟨_, rfl⟩
        have l13 : Ext w8 w12 := by rw [hwd]; exact Exm.drew _
        rw [← hwd]; clear hwd
        have Lq : Exm [] w8 w12 := l13.up; have qB1 := B1; have qL := L; have z_l13 := l13.size; have L := L.tr l13.up
        refine p0 rfl (x_fieldAddr fa118_1 rfl) ?_
        refine ps rfl (fun wq hwq => x_loadB sc24 rfl (qB1.ext hwq) rfl) ?_
        refine p0 rfl (xmI rfl) (p0 rfl (x_idx so24 rfl rfl h2 (by decide) (by omega) (by omega)) ?_)
        refine ps rfl (fun wq hwq => x_ldi sc3 rfl ((h2.ext qL).ext hwq) (by omega) (by omega)) ?_
        refine p0 rfl (x_fieldAddr fa118_0 rfl) ?_
        refine ps rfl (fun wq hwq => x_loadB sc24 rfl (qB1.ext hwq) rfl) ?_
        refine p0 rfl (xmI rfl) (p0 rfl (x_idx so24 rfl rfl h1 (by decide) (by omega) (by omega)) ?_)
        refine ps rfl (fun wq hwq => x_ldi sc3 rfl ((h1.ext qL).ext hwq) (by omega) (by omega)) ?_
        refine p0 rfl (x_add rfl rfl (by omega)) (p0 rfl (x_fieldAddr fa118_2 rfl) ?_)
        refine ps rfl (fun wq hwq => x_loadB sc3 rfl (qB1.ext hwq) rfl) ?_
        refine p0 rfl (x_sub rfl rfl (by omega)) (pu rfl ?_)
        refine sr (zcall cl148 rfl) (i_limited _ _ _ _) ?_
        intro w14 l15
        have z_l15 := l15.size; have L := L.tr l15.up; have Lq := Lq.tr l15.up
        refine c_end ⟨rfl, fun h hS => Lq, ?_⟩
        refine p0 rfl (xaI rfl) ?_
        refine p_nil (np_normal ?_)
        refine n_then ?_
        refine wp_ret (r_block (r_then ?_))
        refine f_ret rfl rfl ?_
        exact ⟨ret_int (by unfold predV; rw [if_neg h34, if_neg h39, if_neg h46, if_pos h53] <;> rfl), L⟩
       ·refine s0 (x_assign (v := .bool _) rfl) (c_end (n_then (c_false rfl (wp_seq (c_reg ?_)))))
        refine sb (x_eql rfl rfl) (fun h70 => ?_) (fun h70 => ?_)
        ·refine s0 (x_assign (v := .bool _) rfl) (c_end (n_then (c_true rfl (wp_seq (c_reg (s0 (xmI rfl) (s0 (x_mul rfl rfl (by omega)) (s0 (x_sub rfl rfl (by omega)) (s0 (xaI rfl) (c_end (n_then (wp_seq ?_))))))))))))
         have a1 := pix_get hpt (x + y).toNat; have a2 := pix_get hpt (min (x + y + 1) (2 * n - 1)).toNat; have a3 := pix_get hpt (min (x + y + 2) (2 * n - 1)).toNat
         refine c_plan (fun wq => Exm [] w8 wq) 29 (.cons (0, 2) (.cons (1, 1) (.cons (2, 2) (.cons (3, 2) (.cons (4, 2) (.cons (5, 2) (.cons (6, 1) (.cons (7, 2) (.cons (8, 1) (.cons (9, 2) (.cons (10, 2) (.cons (11, 2) (.cons (12, 2) (.cons (13, 2) (.cons (14, 2) (.cons (15, 2) (.cons (16, 1) (.cons (17, 2) (.cons (18, 1) (.cons (19, 2) (.cons (20, 2) (.cons (21, 2) (.cons (22, 2) (.cons (23, 2) (.cons (24, 2) (.cons (25, 2) (.cons (26, 1) (.cons (27, 0) (.cons (28, 2) .nil))))))))))))))))))))))))))))) (by kernel_rfl) (by kernel_rfl) (Exm.drew _) ?_
         obtain ⟨w16, hwd⟩ : ∃ x, x = w8.drew := ⟨_, rfl⟩
         have l17 : Ext w8 w16 := by rw [hwd]; exact Exm.drew _
         rw [← hwd]; clear hwd
         have Lq : Exm [] w8 w16 := l17.up; have qB1 := B1; have qL := L; have z_l17 := l17.size; have L := L.tr l17.up
         refine p0 rfl (x_fieldAddr fa118_0 rfl) ?_
         refine ps rfl (fun wq hwq => x_loadB sc24 rfl (qB1.ext hwq) rfl) ?_
         refine p0 rfl (xmI rfl) (p0 rfl (xmI rfl) (p0 rfl (x_add rfl rfl (by omega)) (p0 rfl (x_idx so24 rfl rfl h1 (by decide) (by omega) (by omega)) ?_)))
         refine ps rfl (fun wq hwq => x_ldi sc3 rfl ((h1.ext qL).ext hwq) (by omega) (by omega)) ?_
         refine p0 rfl (x_fieldAddr fa118_0 rfl) ?_
         refine ps rfl (fun wq hwq => x_loadB sc24 rfl (qB1.ext hwq) rfl) ?_
         refine p0 rfl (xmI rfl) (p0 rfl (xmI rfl) (p0 rfl (x_add rfl rfl (by omega)) (p0 rfl (x_add rfl rfl (by omega)) (p0 rfl (xmI rfl) (p0 rfl (x_min rfl rfl) (p0 rfl (x_idx so24 rfl rfl h1 (by decide) (by omega) (by omega)) ?_))))))
         refine ps rfl (fun wq hwq => x_ldi sc3 rfl ((h1.ext qL).ext hwq) (by omega) (by omega)) ?_
         refine p0 rfl (x_fieldAddr fa118_0 rfl) ?_
         refine ps rfl (fun wq hwq => x_loadB sc24 rfl (qB1.ext hwq) rfl) ?_
         refine p0 rfl (xmI rfl) (p0 rfl (xmI rfl) (p0 rfl (x_add rfl rfl (by omega)) (p0 rfl (x_add rfl rfl (by omega)) (p0 rfl (xmI rfl) (p0 rfl (x_min rfl rfl) (p0 rfl (x_idx so24 rfl rfl h1 (by decide) (by omega) (by omega)) ?_))))))
         refine ps rfl (fun wq hwq => x_ldi sc3 rfl ((h1.ext qL).ext hwq) (by omega) (by omega)) ?_
         refine pu rfl ?_
         refine sr (zcall cl199 rfl) (i_smoothed _ _ _ _ (by omega) (by omega) (by omega)) ?_
         intro w18 l19
         have z_l19 := l19.size; have L := L.tr l19.up; have Lq := Lq.tr l19.up
         refine c_end ⟨rfl, fun h hS => Lq, ?_⟩
         refine p0 rfl (xaI rfl) ?_
         refine p_nil (np_normal ?_)
         refine n_then ?_
         refine wp_ret (r_block (r_then ?_))
         refine f_ret rfl rfl ?_
         exact ⟨ret_int (by unfold predV; rw [if_neg h34, if_neg h39, if_neg h46, if_neg h53, if_pos h70]), L⟩
        ·refine s0 (x_assign (v := .bool _) rfl) (c_end (n_then (c_false rfl (wp_seq (c_reg ?_)))))
         refine sb (x_eql rfl rfl) (fun h103 => ?_) (fun h103 => ?_)
         ·refine s0 (x_assign (v := .bool _) rfl) (c_end (n_then (c_true rfl (wp_seq (c_reg (st (x_loadAgB ag118 rfl B1 rfl) (s0 (xmI rfl) ?_)))))))
          refine sp (zcall cl200 rfl) (i_border _ _ _ _ _ _ _ _ _ _ _ (h1.ext L) (h2.ext L) hk) ?_
          rintro v106 w20 l21 ⟨p106, c106, F106, rfl, o106, f106⟩
          have z_l21 := l21.size; have L := L.tr l21.up; have g106 := o106.lt
          refine s0 (xmI rfl) (s0 (xmI rfl) (s0 (x_sub rfl rfl (by omega)) (s0 (xmI rfl) (s0 (x_add rfl rfl (by omega)) (s0 (xaS rfl) (s0 (xaI rfl) (c_end (n_then (wp_seq ?_)))))))))
          have hbp := border_pix hk; have hbl := border_length hk; have a1 := pix_get hbp (x - y + n - 1).toNat; have a2 := pix_get hbp (x - y + n).toNat; have a3 := pix_get hbp (x - y + n + 1).toNat
          refine c_plan (fun wq => Exm [] w20 wq) 16 (.cons (0, 2) (.cons (1, 2) (.cons (2, 2) (.cons (3, 2) (.cons (4, 1) (.cons (5, 2) (.cons (6, 2) (.cons (7, 2) (.cons (8, 1) (.cons (9, 2) (.cons (10, 2) (.cons (11, 2) (.cons (12, 2) (.cons (13, 1) (.cons (14, 0) (.cons (15, 2) .nil)))))))))))))))) (by kernel_rfl) (by kernel_rfl) (Exm.drew _) ?_
          obtain ⟨w22, hwd⟩ : ∃ x, x = w20.drew := ⟨_, rfl⟩
          have l23 : Ext w20 w22 := by rw [hwd]; exact Exm.drew _
          rw [← hwd]; clear hwd
          have Lq : Exm [] w20 w22 := l23.up; have qo106 := o106; have z_l23 := l23.size; have L := L.tr l23.up; have o106 := o106.ext l23
          refine p0 rfl (xmS rfl) (p0 rfl (xmI rfl) (p0 rfl (x_sub rfl rfl (by omega)) (p0 rfl (x_idx so24 rfl rfl o106.sl (by decide) (by omega) (by omega)) ?_)))
          refine ps rfl (fun wq hwq => x_ldi sc3 rfl (qo106.ext hwq).sl (by omega) (by omega)) ?_
          refine p0 rfl (xmS rfl) (p0 rfl (xmI rfl) (p0 rfl (x_idx so24 rfl rfl o106.sl (by decide) (by omega) (by omega)) ?_))
          refine ps rfl (fun wq hwq => x_ldi sc3 rfl (qo106.ext hwq).sl (by omega) (by omega)) ?_
          refine p0 rfl (xmS rfl) (p0 rfl (xmI rfl) (p0 rfl (x_add rfl rfl (by omega)) (p0 rfl (x_idx so24 rfl rfl o106.sl (by decide) (by omega) (by omega)) ?_)))
          refine ps rfl (fun wq hwq => x_ldi sc3 rfl (qo106.ext hwq).sl (by omega) (by omega)) ?_
          refine pu rfl ?_
          refine sr (zcall cl199 rfl) (i_smoothed _ _ _ _ (by omega) (by omega) (by omega)) ?_
          intro w24 l25
          have z_l25 := l25.size; have L := L.tr l25.up; have Lq := Lq.tr l25.up
          refine c_end ⟨rfl, fun h hS => Lq, ?_⟩
          refine p0 rfl (xaI rfl) ?_
          refine p_nil (np_normal ?_)
          refine n_then ?_
          refine wp_ret (r_block (r_then ?_))
          refine f_ret rfl rfl ?_
          exact ⟨ret_int (by unfold predV; rw [if_neg h34, if_neg h39, if_neg h46, if_neg h53, if_neg h70]), L⟩
         ·omega
   ·exact absurd hy h29
  ·exact absurd hx h22
 ·exact absurd trivial h16

end Go.Proofs.YtepnknffaecbdaaGreat
