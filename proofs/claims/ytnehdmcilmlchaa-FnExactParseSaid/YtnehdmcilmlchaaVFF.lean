/- What each function of this part returns, for every argument that meets its premises. -/
import Derived.Test.YtnehdmcilmlchaaProg
import Derived.Test.YtnehdmcilmlchaaVSxF
import Derived.Test.YtnehdmcilmlchaaVPlX
import Derived.Test.YtnehdmcilmlchaaVF4
import Derived.Test.YtnehdmcilmlchaaVF7
namespace Go.Proofs.Ytnehdmcilmlchaa
open Go.Sx Go.Pl Go.RowKit
theorem ag42FF : Ag Try.prog 42 6 := ⟨⟨_, Try.underlying42⟩, by kernel_rfl⟩
theorem ag54FF : Ag Try.prog 54 2 := ⟨⟨_, Try.underlying54⟩, by kernel_rfl⟩
theorem cl141FF : Callable Try.prog 141 := callable Try.func141 (by kernel_rfl) rfl
theorem cl35FF : Callable Try.prog 35 := callable Try.func35 (by kernel_rfl) rfl
theorem cl51FF : Callable Try.prog 51 := callable Try.func51 (by kernel_rfl) rfl
theorem fa85_0FF : FieldAt Try.prog 85 0 0 := ⟨_, _, Try.underlying85, rfl, rfl, ⟨5, by unfold Sz; kernel_rfl⟩⟩
theorem fa85_1FF : FieldAt Try.prog 85 1 6 := ⟨_, _, Try.underlying85, rfl, rfl, ⟨0, by unfold Sz; kernel_rfl⟩⟩
theorem sc83FF : Sc Try.prog 83 := ⟨(.slice 54), by kernel_rfl, trivial⟩
theorem so83FF : SliceOf Try.prog 83 54 2 32 := ⟨by kernel_rfl, by kernel_rfl⟩
theorem un83FF : Try.prog.underlying 83 = some (.slice 54) := by kernel_rfl
/-- a macroblock no greater than a bound -/
def smallM (N : Nat) (m : Mk) : Prop := m.bs.length ≤ N ∧ ∀ b ∈ m.bs, b.lv.length ≤ N
theorem mpl_eq {k : Nat} {us ms : List Mk} (h : (us.getD (k : Int).toNat default).eight = (ms.getD (k : Int).toNat default).eight ∧ (us.getD (k : Int).toNat default).bs.map Bk.pl = (ms.getD (k : Int).toNat default).bs.map Bk.pl) : (us.getD k default).pl = (ms.getD k default).pl := by
  simp only [Int.toNat_natCast] at h; simp only [Mk.pl, h]
theorem mpl_and {k : Nat} {us ms : List Mk} (h : (us.getD k default).pl = (ms.getD k default).pl) : (us.getD (k : Int).toNat default).eight = (ms.getD (k : Int).toNat default).eight ∧ (us.getD (k : Int).toNat default).bs.map Bk.pl = (ms.getD (k : Int).toNat default).bs.map Bk.pl := by
  simp only [Int.toNat_natCast]; simp only [Mk.pl, Prod.mk.injEq] at h; exact h
/-- laws.eqMbS -/
theorem l_eqMbS (p q : Option Addr) (us ms : List Mk) (c d : Nat) (w : World) (hp : RdMs w p us c) (hq : RdMs w q ms d) (hl : us.length ≤ 1099511627776) (hb : ∀ m ∈ us, smallM 1099511627776 m) :
    Calls Try.prog 141 [.slice p us.length c, .slice q ms.length d].toArray w (Ret w (.bool (decide (us.map Mk.pl = ms.map Mk.pl)))) := by
  have L : Exm [] w w := Exm.rfl'
  refine enter (n := 27) Try.func141 rfl rfl rfl ?_
  refine wp_seq ?_
  refine c_reg ?_
  refine s0 (x_assign (v := .bool _) rfl) ?_
  refine c_end ?_
  refine n_then ?_
  refine wp_seq ?_
  refine wp_seq ?_
  refine c_reg ?_
  refine s0 (x_move (v := .slice _ _ _) rfl) ?_
  refine s0 (x_lensl un83FF rfl) ?_
  refine s0 (x_move (v := .slice _ _ _) rfl) ?_
  refine s0 (x_lensl un83FF rfl) ?_
  refine sb (x_neq rfl rfl) (fun h10 => ?_) (fun h10 => ?_)
  · refine c_end ?_
    refine n_then ?_
    refine c_true rfl ?_
    refine wp_seq ?_
    refine c_reg ?_
    refine s0 (x_assign (v := .bool _) rfl) ?_
    refine c_end ?_
    refine n_then ?_
    refine wp_ret (r_then ?_)
    refine f_ret rfl rfl ?_
    exact ⟨ret_f (fun h => h10 (by rw [map_len h])), L⟩
  · refine c_end ?_
    refine n_then ?_
    refine c_false rfl ?_
    refine c_skipn ?_
    refine n_then ?_
    refine wp_seq ?_
    refine wp_seq ?_
    refine c_reg ?_
    refine s0 (x_assign (v := .int _ _) rfl) ?_
    refine c_end ?_
    refine n_then ?_
    refine wp_block ?_
    refine c_loop (γ := Nat) (fun k => us.length - k) (fun (k : Nat) E wl => ∃ E0, E = upd (upd (upd E0 0 (.slice p us.length c)) 1 (.slice q ms.length d)) 5 (.int .i64 (k : Int)) ∧ (Exm [] w wl) ∧ ((k : Int) ≤ us.length) ∧ (∀ j : Nat, j < k → Mk.pl (us.getD j default) = Mk.pl (ms.getD j default))) 0 ⟨_, upd_self3 rfl rfl rfl, L, (by omega), (by intro j hj; omega)⟩ ?_
    rintro k E wl1 ⟨E0, rfl, L, hk, heq⟩
    have Lz0 := L.size
    refine wp_seq ?_
    refine wp_seq ?_
    refine c_reg ?_
    refine s0 (x_move (v := .int _ _) rfl) ?_
    refine s0 (x_move (v := .slice _ _ _) rfl) ?_
    refine s0 (x_lensl un83FF rfl) ?_
    refine sb (x_lss rfl rfl) (fun h14 => ?_) (fun h14 => ?_)
    · refine c_end ?_
      refine n_then ?_
      refine c_true rfl ?_
      refine c_skipn ?_
      refine n_then ?_
      refine wp_seq ?_
      refine wp_block ?_
      refine wp_seq ?_
      have hbm := hb _ (getD_mem (xs := us) (i := (k : Int)) (by omega) (by omega))
      have hbm1 := hbm.1
      have hbm2 := hbm.2
      refine c_plan (fun wq => Exm [] wl1 wq) 10 (.cons (0, 2) (.cons (1, 2) (.cons (2, 2) (.cons (3, 1) (.cons (4, 2) (.cons (5, 2) (.cons (6, 2) (.cons (7, 1) (.cons (8, 0) (.cons (9, 2) .nil)))))))))) (by kernel_rfl) (by kernel_rfl) (Exm.drew _) ?_
      obtain ⟨w2, hwd⟩ : ∃ x, x = wl1.drew := ⟨_, rfl⟩
      have l3 : Ext wl1 w2 := by rw [hwd]; exact Exm.drew _
      rw [← hwd]; clear hwd
      have Lq : Exm [] wl1 w2 := l3.up
      have qL := L
      have z_l3 := l3.size
      have L := L.tr l3.up
      refine p0 rfl (x_move (v := .slice _ _ _) rfl) ?_
      refine p0 rfl (x_move (v := .int _ _) rfl) ?_
      refine p0 rfl (x_idx so83FF rfl rfl hp.1 (by decide) (by omega) (by omega)) ?_
      refine ps rfl (fun wq hwq => x_ldr mrow_len ag54FF rfl ((hp.1.ext qL).ext hwq) (by omega) (by omega)) ?_
      refine p0 rfl (x_move (v := .slice _ _ _) rfl) ?_
      refine p0 rfl (x_move (v := .int _ _) rfl) ?_
      refine p0 rfl (x_idx so83FF rfl rfl hq.1 (by decide) (by omega) (by omega)) ?_
      refine ps rfl (fun wq hwq => x_ldr mrow_len ag54FF rfl ((hq.1.ext qL).ext hwq) (by omega) (by omega)) ?_
      refine pu rfl ?_ (by rintro ⟨_, _, h, _⟩; cases h)
      refine srb (zcall cl35FF rfl) (l_eqMb _ _ _ _ _ _ _ _ _ ((hp.2 _ (getD_mem (by omega) (by omega))).ext L) ((hq.2 _ (getD_mem (by omega) (by omega))).ext L) (by omega) hbm.2) (fun h25 w4 l5 => ?_) (fun h25 w4 l5 => ?_)
      · have z_l5 := l5.size
        have L := L.tr l5.up
        have Lq := Lq.tr l5.up
        refine c_end ⟨rfl, fun h hS => Lq, ?_⟩
        refine p0 rfl (x_not rfl) ?_
        refine p_nil (np_normal ?_)
        refine n_then ?_
        refine c_false rfl ?_
        refine c_skipn ?_
        refine n_block ?_
        refine n_then ?_
        refine c_reg ?_
        refine s0 (x_move (v := .int _ _) rfl) ?_
        refine s0 (x_add rfl rfl (by omega)) ?_
        refine s0 (x_assign (v := .int _ _) rfl) ?_
        refine c_end ?_
        exact c_round (g' := k + 1) (by omega) ⟨_, upd_self3 rfl rfl (vint (by omega)), L, (by omega), (upto_succ' heq (mpl_eq h25))⟩
      · have z_l5 := l5.size
        have L := L.tr l5.up
        have Lq := Lq.tr l5.up
        refine c_end ⟨rfl, fun h hS => Lq, ?_⟩
        refine p0 rfl (x_not rfl) ?_
        refine p_nil (np_normal ?_)
        refine n_then ?_
        refine c_true rfl ?_
        refine wp_seq ?_
        refine c_reg ?_
        refine s0 (x_assign (v := .bool _) rfl) ?_
        refine c_end ?_
        refine n_then ?_
        refine wp_ret (r_block (r_then (r_then (r_block (r_then ?_)))))
        refine f_ret rfl rfl ?_
        exact ⟨ret_f (fun h => h25 (mpl_and (map_get h k))), L⟩
    · refine c_end ?_
      refine n_then ?_
      refine c_false rfl ?_
      refine wp_exit (e_then (e_then (e_here ?_)))
      refine n_then ?_
      refine wp_seq ?_
      refine c_reg ?_
      refine s0 (x_assign (v := .bool _) rfl) ?_
      refine c_end ?_
      refine n_then ?_
      refine wp_ret ?_
      refine f_ret rfl rfl ?_
      exact ⟨ret_t (map_ext (by omega) fun j hj => heq j (by omega)), L⟩

/-- laws.eqStream -/
theorem l_eqStream (a b q : Int) (y z : Bool) (r : Option Addr) (xs : List Int) (e : Nat) (p : Option Addr) (ms : List Mk) (c : Nat) (a' b' q' : Int) (y' z' : Bool) (r' : Option Addr) (xs' : List Int) (e' : Nat) (p' : Option Addr) (us : List Mk) (c' : Nat) (w : World) (hx : Sl w r xs.length e 1 (ic xs)) (hp : RdMs w p ms c) (hx' : Sl w r' xs'.length e' 1 (ic xs')) (hp' : RdMs w p' us c') (hl0 : xs.length ≤ 1099511627776) (hl : ms.length ≤ 1099511627776) (hb : ∀ m ∈ ms, smallM 1099511627776 m) :
    Calls Try.prog 58 [.agg [.int .i64 a, .int .i64 b, .int .i64 q, .bool y, .bool z, .slice r xs.length e, .slice p ms.length c].toArray, .agg [.int .i64 a', .int .i64 b', .int .i64 q', .bool y', .bool z', .slice r' xs'.length e', .slice p' us.length c'].toArray].toArray w (Ret w (.bool (decide (a = a' ∧ b = b' ∧ q = q' ∧ y = y' ∧ z = z' ∧ xs = xs' ∧ ms.map Mk.pl = us.map Mk.pl)))) := by
  have L : Exm [] w w := Exm.rfl'
  refine enter (n := 17) Try.func58 rfl rfl rfl ?_
  refine wp_seq ?_
  refine c_reg ?_
  refine s_box rfl rfl ?_
  intro b1 w2 lob1 hib1 l3 B1
  have z_l3 := l3.size
  have L := L.tr l3.up
  refine s_box rfl rfl ?_
  intro b4 w5 lob4 hib4 l6 B4
  have z_l6 := l6.size
  have L := L.tr l6.up
  have B1 := B1.ext l6
  refine s0 (x_assign (v := .bool _) rfl) ?_
  refine c_end ?_
  refine n_then ?_
  refine wp_seq ?_
  refine wp_seq ?_
  refine c_reg ?_
  refine s0 (x_fieldAddr fa85_0FF rfl) ?_
  refine st (x_loadIn ag42FF rfl B1 [.int _ _, .int _ _, .int _ _, .bool _, .bool _, .slice _ _ _] rfl rfl) ?_
  refine s0 (x_fieldAddr fa85_0FF rfl) ?_
  refine st (x_loadIn ag42FF rfl B4 [.int _ _, .int _ _, .int _ _, .bool _, .bool _, .slice _ _ _] rfl rfl) ?_
  refine srb (zcall cl51FF rfl) (l_eqHeader _ _ _ _ _ _ _ _ _ _ _ _ _ _ _ _ _ (hx.ext L) (hx'.ext L) (by omega)) (fun h9 w7 l8 => ?_) (fun h9 w7 l8 => ?_)
  · have z_l8 := l8.size
    have L := L.tr l8.up
    have B1 := B1.ext l8
    have B4 := B4.ext l8
    refine s0 (x_not rfl) ?_
    refine c_end ?_
    refine n_then ?_
    refine c_false rfl ?_
    refine c_skipn ?_
    refine n_then ?_
    refine wp_seq ?_
    refine wp_seq ?_
    refine c_reg ?_
    refine s0 (x_fieldAddr fa85_1FF rfl) ?_
    refine st (x_loadB sc83FF rfl B1 rfl) ?_
    refine s0 (x_fieldAddr fa85_1FF rfl) ?_
    refine st (x_loadB sc83FF rfl B4 rfl) ?_
    refine srb (zcall cl141FF rfl) (l_eqMbS _ _ _ _ _ _ _ (hp.ext L) (hp'.ext L) (by omega) (by assumption)) (fun h15 w9 l10 => ?_) (fun h15 w9 l10 => ?_)
    · have z_l10 := l10.size
      have L := L.tr l10.up
      have B1 := B1.ext l10
      have B4 := B4.ext l10
      refine s0 (x_not rfl) ?_
      refine c_end ?_
      refine n_then ?_
      refine c_false rfl ?_
      refine c_skipn ?_
      refine n_then ?_
      refine wp_seq ?_
      refine c_reg ?_
      refine s0 (x_assign (v := .bool _) rfl) ?_
      refine c_end ?_
      refine n_then ?_
      refine wp_ret ?_
      refine f_ret rfl rfl ?_
      exact ⟨ret_t (by simp_all), L⟩
    · have z_l10 := l10.size
      have L := L.tr l10.up
      have B1 := B1.ext l10
      have B4 := B4.ext l10
      refine s0 (x_not rfl) ?_
      refine c_end ?_
      refine n_then ?_
      refine c_true rfl ?_
      refine wp_seq ?_
      refine c_reg ?_
      refine s0 (x_assign (v := .bool _) rfl) ?_
      refine c_end ?_
      refine n_then ?_
      refine wp_ret (r_then ?_)
      refine f_ret rfl rfl ?_
      exact ⟨ret_f (by simp_all), L⟩
  · have z_l8 := l8.size
    have L := L.tr l8.up
    have B1 := B1.ext l8
    have B4 := B4.ext l8
    refine s0 (x_not rfl) ?_
    refine c_end ?_
    refine n_then ?_
    refine c_true rfl ?_
    refine wp_seq ?_
    refine c_reg ?_
    refine s0 (x_assign (v := .bool _) rfl) ?_
    refine c_end ?_
    refine n_then ?_
    refine wp_ret (r_then ?_)
    refine f_ret rfl rfl ?_
    exact ⟨ret_f (by simp_all), L⟩

end Go.Proofs.Ytnehdmcilmlchaa
