/- What each function of this part returns, for every argument that meets its premises. -/
import Derived.Test.YtepnknffaecbdaaGreatProg
import Derived.Test.YtepnknffaecbdaaGreatVSxA
import Derived.Test.YtepnknffaecbdaaGreatVTy
import Derived.Test.YtepnknffaecbdaaGreatVPlA
import Derived.Test.YtepnknffaecbdaaGreatVF8
namespace Go.Proofs.YtepnknffaecbdaaGreat
open Go.Sx Go.Pl Go.RowKit
def mkI (k : Int) (n : Nat) : List Int := (List.range n).map fun i : Nat => k + (i : Int)
theorem mkI_length (k : Int) (n : Nat) : (mkI k n).length = n := by simp [mkI]
theorem mkI_get {k : Int} {n i : Nat} (h : i < n) : (mkI k n).getD i 0 = k + (i : Int) := by simp [mkI, List.getD, h]
theorem mkI_some {k : Int} {n i : Nat} (h : i < n) : (mkI k n)[i]? = some (k + (i : Int)) := by simp [mkI, h]

theorem l_markIntS (pA : Option Addr) (xs : List Int) (c : Nat) (k : Int) (FA : List Nat) (w : World) (oA : Own w pA xs.length c 3 1 (ic xs) FA) (hl : xs.length ≤ 1099511627776) (hk : 0 ≤ k ∧ k ≤ 4611686018427387904) :
    Calls Tryz.prog 59 [.slice pA xs.length c, .int .i64 k].toArray w (RetM FA w fun v w' => v = .int .i64 (k + xs.length) ∧ Own w' pA xs.length c 3 1 (ic (mkI k xs.length)) FA) := by
 have fA : Fr 0 FA := fun _ _ => Nat.zero_le _
 have gA := oA.lt; have hml := mkI_length k xs.length; have L : Exm FA w w := Exm.rfl'
 refine enter (n := 19) Tryz.func59 rfl rfl rfl ?_
 refine wp_seq (c_reg (s0 (xaI rfl) (c_end (n_then (wp_seq (wp_seq (c_reg (s0 (xaI rfl) (c_end (n_then (wp_block ?_)))))))))))
 refine c_loop (γ := Nat) (fun j => xs.length - j) (fun (j : Nat) E wl => ∃ E0, E = upd (upd (upd E0 0 (.slice pA xs.length c)) 1 (.int .i64 (k + j))) 5 (.int .i64 (j : Int)) ∧ (Exm FA w wl) ∧ (Own wl pA xs.length c 3 1 (ic (mkU (mkI k xs.length) xs j)) FA) ∧ ((j : Int) ≤ xs.length)) 0 ⟨_, upd_self3 rfl (vint (by omega)) rfl, L, (by rw [mkU_zero]; exact oA), (by omega)⟩ ?_
 rintro j E wl1 ⟨E0, rfl, L, oA, hj⟩
 have Lz0 := L.size; have hlen := mkU_length hml j
 refine wp_seq (wp_seq (c_reg (s0 (xmI rfl) (s0 (xmS rfl) (s0 (x_lensl un24 rfl) ?_)))))
 refine sb (x_lss rfl rfl) (fun h9 => ?_) (fun h9 => ?_)
 ·refine c_end (n_then (c_true rfl (c_skipn (n_then (wp_seq (wp_block (wp_seq (c_reg (s0 (xmS rfl) (s0 (xmI rfl) (s0 (xmI rfl) (s0 (x_idx so24 rfl rfl oA.sl (by decide) (by omega) (by omega)) (s_stoi rfl sz3 rfl rfl oA (by omega) (by omega) ?_)))))))))))))
  intro w2 l3 el3 oA
  have z_l3 := l3.size; have L := L.withinL l3 (by simp)
  have hnl3 := oA.n1
  refine c_end (n_then (c_reg (s0 (xmI rfl) (s0 (x_add rfl rfl (by omega)) (s0 (xaI rfl) (c_end (n_block (n_then (c_reg (s0 (xmI rfl) (s0 (x_add rfl rfl (by omega)) (s0 (xaI rfl) (c_end ?_)))))))))))))
  exact c_round (g' := j + 1) (by omega) ⟨_, upd_self3 rfl (vint (by omega)) (vint (by omega)), L, (by rw [← mkU_succ hml (j := j) (by omega) (mkI_some (by omega))]; exact oA), (by omega)⟩
 ·refine c_end (n_then (c_false rfl ?_))
  refine wp_exit (e_then (e_then (e_here ?_)))
  refine n_then (wp_seq (c_reg (s0 (xmI rfl) (s0 (xaI rfl) (c_end (n_then (wp_ret (f_ret rfl rfl ?_))))))))
  obtain rfl : j = xs.length := by omega
  rw [mkU_end hml] at oA
  exact ⟨_, rfl, L, rfl, oA⟩

theorem l_heldIntS (p : Option Addr) (n c : Nat) (k : Int) (w : World) (hp : Sl w p n c 1 (ic (mkI k n))) (hl : n ≤ 1099511627776) (hk : 0 ≤ k ∧ k ≤ 4611686018427387904) :
    Calls Tryz.prog 60 [.slice p n c, .int .i64 k].toArray w (Ret w (.int .i64 (k + n))) := by
 have hml := mkI_length k n; have L : Exm [] w w := Exm.rfl'
 refine enter (n := 21) Tryz.func60 rfl rfl rfl ?_
 refine wp_seq (c_reg (s0 (xaI rfl) (c_end (n_then (wp_seq (wp_seq (c_reg (s0 (xaI rfl) (c_end (n_then (wp_block ?_)))))))))))
 refine c_loop (γ := Nat) (fun j => n - j) (fun (j : Nat) E wl => ∃ E0, E = upd (upd (upd E0 0 (.slice p n c)) 1 (.int .i64 (k + j))) 5 (.int .i64 (j : Int)) ∧ (Exm [] w wl) ∧ ((j : Int) ≤ n)) 0 ⟨_, upd_self3 rfl (vint (by omega)) rfl, L, (by omega)⟩ ?_
 rintro j E wl1 ⟨E0, rfl, L, hj⟩
 have Lz0 := L.size
 have hg : j < n → (mkI k n).getD (j : Int).toNat 0 = k + (j : Int) := fun h => by rw [Int.toNat_natCast]; exact mkI_get h
 refine wp_seq (wp_seq (c_reg (s0 (xmI rfl) (s0 (xmS rfl) (s0 (x_lensl un24 rfl) ?_)))))
 refine sb (x_lss rfl rfl) (fun h9 => ?_) (fun h9 => ?_)
 ·refine c_end (n_then (c_true rfl (c_skipn (n_then (wp_seq (wp_block (wp_seq (wp_seq (c_reg (s0 (xmS rfl) (s0 (xmI rfl) (s0 (x_idx so24 rfl rfl hp (by decide) (by omega) (by omega)) (st (x_ldi sc3 rfl (hp.ext L) (by omega) (by omega)) ?_)))))))))))))
  refine s0 (xmI rfl) ?_
  refine sb (x_neq rfl rfl) (fun h17 => ?_) (fun h17 => ?_)
  ·exact absurd (hg (by omega)) h17
  ·refine c_end (n_then (c_false rfl (c_skipn (n_then (c_reg (s0 (xmI rfl) (s0 (x_add rfl rfl (by omega)) (s0 (xaI rfl) (c_end (n_block (n_then (c_reg (s0 (xmI rfl) ?_)))))))))))))
   refine s0 (x_add rfl rfl (by omega)) (s0 (xaI rfl) (c_end ?_))
   exact c_round (g' := j + 1) (by omega) ⟨_, upd_self3 rfl (vint (by omega)) (vint (by omega)), L, (by omega)⟩
 ·refine c_end (n_then (c_false rfl ?_))
  refine wp_exit (e_then (e_then (e_here ?_)))
  refine n_then (wp_seq (c_reg (s0 (xmI rfl) (s0 (xaI rfl) (c_end (n_then (wp_ret (f_ret rfl rfl ?_))))))))
  exact ⟨ret_int (by omega), L⟩

end Go.Proofs.YtepnknffaecbdaaGreat
