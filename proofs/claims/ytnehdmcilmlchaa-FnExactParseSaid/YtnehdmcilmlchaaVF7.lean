/- What each function of this part returns, for every argument that meets its premises. -/
import Derived.Test.YtnehdmcilmlchaaProg
import Derived.Test.YtnehdmcilmlchaaVSxF
import Derived.Test.YtnehdmcilmlchaaVPlX
import Derived.Test.YtnehdmcilmlchaaVF4
namespace Go.Proofs.Ytnehdmcilmlchaa
open Go.Sx Go.Pl Go.RowKit
theorem ag111F7 : Ag Try.prog 111 2 := ⟨⟨_, Try.underlying111⟩, by kernel_rfl⟩
theorem cl124F7 : Callable Try.prog 124 := callable Try.func124 (by kernel_rfl) rfl
theorem cl36F7 : Callable Try.prog 36 := callable Try.func36 (by kernel_rfl) rfl
theorem cl74F7 : Callable Try.prog 74 := callable Try.func74 (by kernel_rfl) rfl
theorem fa111_0F7 : FieldAt Try.prog 111 0 0 := ⟨_, _, Try.underlying111, rfl, rfl, ⟨0, by unfold Sz; kernel_rfl⟩⟩
theorem fa111_1F7 : FieldAt Try.prog 111 1 1 := ⟨_, _, Try.underlying111, rfl, rfl, ⟨0, by unfold Sz; kernel_rfl⟩⟩
theorem fa54_0F7 : FieldAt Try.prog 54 0 0 := ⟨_, _, Try.underlying54, rfl, rfl, ⟨0, by unfold Sz; kernel_rfl⟩⟩
theorem fa54_1F7 : FieldAt Try.prog 54 1 1 := ⟨_, _, Try.underlying54, rfl, rfl, ⟨0, by unfold Sz; kernel_rfl⟩⟩
theorem sc3F7 : Sc Try.prog 3 := ⟨(.int .i64), by kernel_rfl, trivial⟩
theorem sc4F7 : Sc Try.prog 4 := ⟨.bool, by kernel_rfl, trivial⟩
theorem sc40F7 : Sc Try.prog 40 := ⟨(.slice 3), by kernel_rfl, trivial⟩
theorem sc52F7 : Sc Try.prog 52 := ⟨(.slice 111), by kernel_rfl, trivial⟩
theorem so52F7 : SliceOf Try.prog 52 111 2 32 := ⟨by kernel_rfl, by kernel_rfl⟩
theorem un4F7 : Try.prog.underlying 4 = some .bool := by kernel_rfl
theorem un52F7 : Try.prog.underlying 52 = some (.slice 111) := by kernel_rfl
/-- laws.eqBlock -/
theorem l_eqBlock (m m' : Int) (p q : Option Addr) (xs ys : List Int) (c d : Nat) (w : World) (hp : Sl w p xs.length c 1 (ic xs)) (hq : Sl w q ys.length d 1 (ic ys)) (hl : xs.length ≤ 1099511627776) :
    Calls Try.prog 74 [.agg [.int .i64 m, .slice p xs.length c].toArray, .agg [.int .i64 m', .slice q ys.length d].toArray].toArray w (Ret w (.bool (decide (m = m' ∧ xs = ys)))) := by
  have L : Exm [] w w := Exm.rfl'
  refine enter (n := 16) Try.func74 rfl rfl rfl ?_
  refine wp_seq ?_
  refine c_reg ?_
  refine s_box rfl rfl ?_
  intro b1 w2 lob1 hib1 l3 B1
  have z_l3 := l3.size
  have L := L.tr l3.up
  refine s_box rfl rfl ?_
  intro b4 w5 lob4 hib4 l6 B4
  have z_l6 := l6.size
  have L := L.tr l6.up
  have B1 := B1.ext l6
  refine s0 (x_assign (v := .bool _) rfl) ?_
  refine c_end ?_
  refine n_then ?_
  refine wp_seq ?_
  refine wp_seq ?_
  refine c_reg ?_
  refine s0 (x_fieldAddr fa111_0F7 rfl) ?_
  refine st (x_loadB sc3F7 rfl B1 rfl) ?_
  refine s0 (x_fieldAddr fa111_0F7 rfl) ?_
  refine st (x_loadB sc3F7 rfl B4 rfl) ?_
  refine sb (x_neq rfl rfl) (fun h9 => ?_) (fun h9 => ?_)
  · refine c_end ?_
    refine n_then ?_
    refine c_true rfl ?_
    refine wp_seq ?_
    refine c_reg ?_
    refine s0 (x_assign (v := .bool _) rfl) ?_
    refine c_end ?_
    refine n_then ?_
    refine wp_ret (r_then ?_)
    refine f_ret rfl rfl ?_
    exact ⟨ret_f (by simp_all), L⟩
  · refine c_end ?_
    refine n_then ?_
    refine c_false rfl ?_
    refine c_skipn ?_
    refine n_then ?_
    refine wp_seq ?_
    refine wp_seq ?_
    refine c_reg ?_
    refine s0 (x_fieldAddr fa111_1F7 rfl) ?_
    refine st (x_loadB sc40F7 rfl B1 rfl) ?_
    refine s0 (x_fieldAddr fa111_1F7 rfl) ?_
    refine st (x_loadB sc40F7 rfl B4 rfl) ?_
    refine srb (zcall cl36F7 rfl) (l_eqIntS _ _ _ _ _ _ _ (hp.ext L) (hq.ext L) (by omega)) (fun h14 w7 l8 => ?_) (fun h14 w7 l8 => ?_)
    · have z_l8 := l8.size
      have L := L.tr l8.up
      have B1 := B1.ext l8
      have B4 := B4.ext l8
      refine s0 (x_not rfl) ?_
      refine c_end ?_
      refine n_then ?_
      refine c_false rfl ?_
      refine c_skipn ?_
      refine n_then ?_
      refine wp_seq ?_
      refine c_reg ?_
      refine s0 (x_assign (v := .bool _) rfl) ?_
      refine c_end ?_
      refine n_then ?_
      refine wp_ret ?_
      refine f_ret rfl rfl ?_
      exact ⟨ret_t (by simp_all), L⟩
    · have z_l8 := l8.size
      have L := L.tr l8.up
      have B1 := B1.ext l8
      have B4 := B4.ext l8
      refine s0 (x_not rfl) ?_
      refine c_end ?_
      refine n_then ?_
      refine c_true rfl ?_
      refine wp_seq ?_
      refine c_reg ?_
      refine s0 (x_assign (v := .bool _) rfl) ?_
      refine c_end ?_
      refine n_then ?_
      refine wp_ret (r_then ?_)
      refine f_ret rfl rfl ?_
      exact ⟨ret_f (by simp_all), L⟩

theorem map_ext {α β : Type} [Inhabited α] {f : α → β} {xs ys : List α} (hl : xs.length = ys.length) (h : ∀ j : Nat, j < xs.length → f (xs.getD j default) = f (ys.getD j default)) : xs.map f = ys.map f := by
  apply List.ext_getElem
  · simp [hl]
  · intro j h1 h2
    have := h j (by simpa using h1)
    have h3 : j < xs.length := by simpa using h1
    have h4 : j < ys.length := by simpa using h2
    simpa [List.getD, h3, h4] using this
theorem map_get {α β : Type} [Inhabited α] {f : α → β} {xs ys : List α} (h : xs.map f = ys.map f) (j : Nat) : f (xs.getD j default) = f (ys.getD j default) := by
  have h1 : (xs.map f)[j]? = (ys.map f)[j]? := by rw [h]
  simp only [List.getElem?_map] at h1
  simp only [List.getD_eq_getElem?_getD]
  cases hx : xs[j]? with
  | none => rw [hx] at h1; cases hy : ys[j]? with
    | none => rfl
    | some y => rw [hy] at h1; cases h1
  | some x => rw [hx] at h1; cases hy : ys[j]? with
    | none => rw [hy] at h1; cases h1
    | some y => rw [hy] at h1; simpa using h1
theorem map_len {α β : Type} {f : α → β} {xs ys : List α} (h : xs.map f = ys.map f) : xs.length = ys.length := by
  have := congrArg List.length h; simpa using this
theorem upto_succ' {φ : Nat → Prop} {k : Nat} (h : ∀ j : Nat, j < k → φ j) (h1 : φ k) : ∀ j : Nat, j < k + 1 → φ j := fun j hj => by
  rcases Nat.lt_or_ge j k with h2 | h2
  · exact h j h2
  · obtain rfl : j = k := by omega
    exact h1

theorem pl_eq {k : Nat} {us bs : List Bk} (h : (us.getD (k : Int).toNat default).mode = (bs.getD (k : Int).toNat default).mode ∧ (us.getD (k : Int).toNat default).lv = (bs.getD (k : Int).toNat default).lv) : (us.getD k default).pl = (bs.getD k default).pl := by
  simp only [Int.toNat_natCast] at h; simp only [Bk.pl, h]
theorem pl_and {k : Nat} {us bs : List Bk} (h : (us.getD k default).pl = (bs.getD k default).pl) : (us.getD (k : Int).toNat default).mode = (bs.getD (k : Int).toNat default).mode ∧ (us.getD (k : Int).toNat default).lv = (bs.getD (k : Int).toNat default).lv := by
  simp only [Int.toNat_natCast]; simp only [Bk.pl, Prod.mk.injEq] at h; exact h

/-- laws.eqBlockS -/
theorem l_eqBlockS (p q : Option Addr) (us bs : List Bk) (c d : Nat) (w : World) (hp : RdBs w p us c) (hq : RdBs w q bs d) (hl : us.length ≤ 1099511627776) (hb : ∀ b ∈ us, b.lv.length ≤ 1099511627776) :
    Calls Try.prog 124 [.slice p us.length c, .slice q bs.length d].toArray w (Ret w (.bool (decide (us.map Bk.pl = bs.map Bk.pl)))) := by
  have L : Exm [] w w := Exm.rfl'
  refine enter (n := 27) Try.func124 rfl rfl rfl ?_
  refine wp_seq ?_
  refine c_reg ?_
  refine s0 (x_assign (v := .bool _) rfl) ?_
  refine c_end ?_
  refine n_then ?_
  refine wp_seq ?_
  refine wp_seq ?_
  refine c_reg ?_
  refine s0 (x_move (v := .slice _ _ _) rfl) ?_
  refine s0 (x_lensl un52F7 rfl) ?_
  refine s0 (x_move (v := .slice _ _ _) rfl) ?_
  refine s0 (x_lensl un52F7 rfl) ?_
  refine sb (x_neq rfl rfl) (fun h10 => ?_) (fun h10 => ?_)
  · refine c_end ?_
    refine n_then ?_
    refine c_true rfl ?_
    refine wp_seq ?_
    refine c_reg ?_
    refine s0 (x_assign (v := .bool _) rfl) ?_
    refine c_end ?_
    refine n_then ?_
    refine wp_ret (r_then ?_)
    refine f_ret rfl rfl ?_
    exact ⟨ret_f (fun h => h10 (by rw [map_len h])), L⟩
  · refine c_end ?_
    refine n_then ?_
    refine c_false rfl ?_
    refine c_skipn ?_
    refine n_then ?_
    refine wp_seq ?_
    refine wp_seq ?_
    refine c_reg ?_
    refine s0 (x_assign (v := .int _ _) rfl) ?_
    refine c_end ?_
    refine n_then ?_
    refine wp_block ?_
    refine c_loop (γ := Nat) (fun k => us.length - k) (fun (k : Nat) E wl => ∃ E0, E = upd (upd (upd E0 0 (.slice p us.length c)) 1 (.slice q bs.length d)) 5 (.int .i64 (k : Int)) ∧ (Exm [] w wl) ∧ ((k : Int) ≤ us.length) ∧ (∀ j : Nat, j < k → (us.getD j default).pl = (bs.getD j default).pl)) 0 ⟨_, upd_self3 rfl rfl rfl, L, (by omega), (by intro j hj; omega)⟩ ?_
    rintro k E wl1 ⟨E0, rfl, L, hk, heq⟩
    have Lz0 := L.size
    have hba : ∀ h : k < us.length, ((us.getD (k : Int).toNat default).lv.length : Int) ≤ 1099511627776 := fun h => by have := hb _ (getD_mem (xs := us) (i := (k : Int)) (by omega) (by omega)); omega
    refine wp_seq ?_
    refine wp_seq ?_
    refine c_reg ?_
    refine s0 (x_move (v := .int _ _) rfl) ?_
    refine s0 (x_move (v := .slice _ _ _) rfl) ?_
    refine s0 (x_lensl un52F7 rfl) ?_
    refine sb (x_lss rfl rfl) (fun h14 => ?_) (fun h14 => ?_)
    · refine c_end ?_
      refine n_then ?_
      refine c_true rfl ?_
      refine c_skipn ?_
      refine n_then ?_
      refine wp_seq ?_
      refine wp_block ?_
      refine wp_seq ?_
      refine c_plan (fun wq => Exm [] wl1 wq) 10 (.cons (0, 2) (.cons (1, 2) (.cons (2, 2) (.cons (3, 1) (.cons (4, 2) (.cons (5, 2) (.cons (6, 2) (.cons (7, 1) (.cons (8, 0) (.cons (9, 2) .nil)))))))))) (by kernel_rfl) (by kernel_rfl) (Exm.drew _) ?_
      obtain ⟨w2, hwd⟩ : ∃ x, x = wl1.drew := ⟨_, rfl⟩
      have l3 : Ext wl1 w2 := by rw [hwd]; exact Exm.drew _
      rw [← hwd]; clear hwd
      have Lq : Exm [] wl1 w2 := l3.up
      have qL := L
      have z_l3 := l3.size
      have L := L.tr l3.up
      refine p0 rfl (x_move (v := .slice _ _ _) rfl) ?_
      refine p0 rfl (x_move (v := .int _ _) rfl) ?_
      refine p0 rfl (x_idx so52F7 rfl rfl hp.1 (by decide) (by omega) (by omega)) ?_
      refine ps rfl (fun wq hwq => x_ldr brow_len ag111F7 rfl ((hp.1.ext qL).ext hwq) (by omega) (by omega)) ?_
      refine p0 rfl (x_move (v := .slice _ _ _) rfl) ?_
      refine p0 rfl (x_move (v := .int _ _) rfl) ?_
      refine p0 rfl (x_idx so52F7 rfl rfl hq.1 (by decide) (by omega) (by omega)) ?_
      refine ps rfl (fun wq hwq => x_ldr brow_len ag111F7 rfl ((hq.1.ext qL).ext hwq) (by omega) (by omega)) ?_
      refine pu rfl ?_ (by rintro ⟨_, _, h, _⟩; cases h)
      refine srb (zcall cl74F7 rfl) (l_eqBlock _ _ _ _ _ _ _ _ _ ((hp.2 _ (getD_mem (by omega) (by omega))).ext L) ((hq.2 _ (getD_mem (by omega) (by omega))).ext L) (by omega)) (fun h25 w4 l5 => ?_) (fun h25 w4 l5 => ?_)
      · have z_l5 := l5.size
        have L := L.tr l5.up
        have Lq := Lq.tr l5.up
        refine c_end ⟨rfl, fun h hS => Lq, ?_⟩
        refine p0 rfl (x_not rfl) ?_
        refine p_nil (np_normal ?_)
        refine n_then ?_
        refine c_false rfl ?_
        refine c_skipn ?_
        refine n_block ?_
        refine n_then ?_
        refine c_reg ?_
        refine s0 (x_move (v := .int _ _) rfl) ?_
        refine s0 (x_add rfl rfl (by omega)) ?_
        refine s0 (x_assign (v := .int _ _) rfl) ?_
        refine c_end ?_
        exact c_round (g' := k + 1) (by omega) ⟨_, upd_self3 rfl rfl (vint (by omega)), L, (by omega), (upto_succ' heq (pl_eq h25))⟩
      · have z_l5 := l5.size
        have L := L.tr l5.up
        have Lq := Lq.tr l5.up
        refine c_end ⟨rfl, fun h hS => Lq, ?_⟩
        refine p0 rfl (x_not rfl) ?_
        refine p_nil (np_normal ?_)
        refine n_then ?_
        refine c_true rfl ?_
        refine wp_seq ?_
        refine c_reg ?_
        refine s0 (x_assign (v := .bool _) rfl) ?_
        refine c_end ?_
        refine n_then ?_
        refine wp_ret (r_block (r_then (r_then (r_block (r_then ?_)))))
        refine f_ret rfl rfl ?_
        exact ⟨ret_f (fun h => h25 (pl_and (map_get h k))), L⟩
    · refine c_end ?_
      refine n_then ?_
      refine c_false rfl ?_
      refine wp_exit (e_then (e_then (e_here ?_)))
      refine n_then ?_
      refine wp_seq ?_
      refine c_reg ?_
      refine s0 (x_assign (v := .bool _) rfl) ?_
      refine c_end ?_
      refine n_then ?_
      refine wp_ret ?_
      refine f_ret rfl rfl ?_
      exact ⟨ret_t (map_ext (by omega) fun j hj => heq j (by omega)), L⟩

/-- laws.eqMb -/
theorem l_eqMb (e e' : Bool) (p q : Option Addr) (us bs : List Bk) (c d : Nat) (w : World) (hp : RdBs w p us c) (hq : RdBs w q bs d) (hl : us.length ≤ 1099511627776) (hb : ∀ b ∈ us, b.lv.length ≤ 1099511627776) :
    Calls Try.prog 35 [.agg [.bool e, .slice p us.length c].toArray, .agg [.bool e', .slice q bs.length d].toArray].toArray w (Ret w (.bool (decide (e = e' ∧ us.map Bk.pl = bs.map Bk.pl)))) := by
  have L : Exm [] w w := Exm.rfl'
  refine enter (n := 16) Try.func35 rfl rfl rfl ?_
  refine wp_seq ?_
  refine c_reg ?_
  refine s_box rfl rfl ?_
  intro b1 w2 lob1 hib1 l3 B1
  have z_l3 := l3.size
  have L := L.tr l3.up
  refine s_box rfl rfl ?_
  intro b4 w5 lob4 hib4 l6 B4
  have z_l6 := l6.size
  have L := L.tr l6.up
  have B1 := B1.ext l6
  refine s0 (x_assign (v := .bool _) rfl) ?_
  refine c_end ?_
  refine n_then ?_
  refine wp_seq ?_
  refine wp_seq ?_
  refine c_reg ?_
  refine s0 (x_fieldAddr fa54_0F7 rfl) ?_
  refine st (x_loadB sc4F7 rfl B1 rfl) ?_
  refine s0 (x_fieldAddr fa54_0F7 rfl) ?_
  refine st (x_loadB sc4F7 rfl B4 rfl) ?_
  refine sb (x_neqb un4F7 rfl rfl) (fun h9 => ?_) (fun h9 => ?_)
  · refine c_end ?_
    refine n_then ?_
    refine c_true rfl ?_
    refine wp_seq ?_
    refine c_reg ?_
    refine s0 (x_assign (v := .bool _) rfl) ?_
    refine c_end ?_
    refine n_then ?_
    refine wp_ret (r_then ?_)
    refine f_ret rfl rfl ?_
    exact ⟨ret_f (by simp_all), L⟩
  · refine c_end ?_
    refine n_then ?_
    refine c_false rfl ?_
    refine c_skipn ?_
    refine n_then ?_
    refine wp_seq ?_
    refine wp_seq ?_
    refine c_reg ?_
    refine s0 (x_fieldAddr fa54_1F7 rfl) ?_
    refine st (x_loadB sc52F7 rfl B1 rfl) ?_
    refine s0 (x_fieldAddr fa54_1F7 rfl) ?_
    refine st (x_loadB sc52F7 rfl B4 rfl) ?_
    refine srb (zcall cl124F7 rfl) (l_eqBlockS _ _ _ _ _ _ _ (hp.ext L) (hq.ext L) (by omega) hb) (fun h14 w7 l8 => ?_) (fun h14 w7 l8 => ?_)
    · have z_l8 := l8.size
      have L := L.tr l8.up
      have B1 := B1.ext l8
      have B4 := B4.ext l8
      refine s0 (x_not rfl) ?_
      refine c_end ?_
      refine n_then ?_
      refine c_false rfl ?_
      refine c_skipn ?_
      refine n_then ?_
      refine wp_seq ?_
      refine c_reg ?_
      refine s0 (x_assign (v := .bool _) rfl) ?_
      refine c_end ?_
      refine n_then ?_
      refine wp_ret ?_
      refine f_ret rfl rfl ?_
      exact ⟨ret_t (by simp_all), L⟩
    · have z_l8 := l8.size
      have L := L.tr l8.up
      have B1 := B1.ext l8
      have B4 := B4.ext l8
      refine s0 (x_not rfl) ?_
      refine c_end ?_
      refine n_then ?_
      refine c_true rfl ?_
      refine wp_seq ?_
      refine c_reg ?_
      refine s0 (x_assign (v := .bool _) rfl) ?_
      refine c_end ?_
      refine n_then ?_
      refine wp_ret (r_then ?_)
      refine f_ret rfl rfl ?_
      exact ⟨ret_f (by simp_all), L⟩

end Go.Proofs.Ytnehdmcilmlchaa
