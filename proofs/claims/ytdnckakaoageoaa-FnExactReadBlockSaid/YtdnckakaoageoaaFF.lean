/- What each function of this part returns, for every argument that meets its premises. -/
import Derived.Test.YtdnckakaoageoaaFE
namespace Go.Proofs.Ytdnckakaoageoaa
open Go.Sx Go.Pl Go.RowKit
theorem ag115 : Ag Try.prog 115 7 := ⟨⟨_, Try.underlying115⟩, by kernel_rfl⟩
theorem ag24 : Ag Try.prog 24 6 := ⟨⟨_, Try.underlying24⟩, by kernel_rfl⟩
theorem ag49 : Ag Try.prog 49 2 := ⟨⟨_, Try.underlying49⟩, by kernel_rfl⟩
theorem cl15 : Callable Try.prog 15 := callable Try.func15 (by kernel_rfl) rfl
theorem cl161 : Callable Try.prog 161 := callable Try.func161 (by kernel_rfl) rfl
theorem cl163 : Callable Try.prog 163 := callable Try.func163 (by kernel_rfl) rfl
theorem cl167 : Callable Try.prog 167 := callable Try.func167 (by kernel_rfl) rfl
theorem cl17 : Callable Try.prog 17 := callable Try.func17 (by kernel_rfl) rfl
theorem cl20 : Callable Try.prog 20 := callable Try.func20 (by kernel_rfl) rfl
theorem cl35 : Callable Try.prog 35 := callable Try.func35 (by kernel_rfl) rfl
theorem cl37 : Callable Try.prog 37 := callable Try.func37 (by kernel_rfl) rfl
theorem cl40 : Callable Try.prog 40 := callable Try.func40 (by kernel_rfl) rfl
theorem fa110_0 : FieldAt Try.prog 110 0 0 := ⟨_, _, Try.underlying110, rfl, rfl, ⟨5, by unfold Sz; kernel_rfl⟩⟩
theorem fa110_1 : FieldAt Try.prog 110 1 6 := ⟨_, _, Try.underlying110, rfl, rfl, ⟨0, by unfold Sz; kernel_rfl⟩⟩
theorem fa115_0 : FieldAt Try.prog 115 0 0 := ⟨_, _, Try.underlying115, rfl, rfl, ⟨5, by unfold Sz; kernel_rfl⟩⟩
theorem fa115_1 : FieldAt Try.prog 115 1 6 := ⟨_, _, Try.underlying115, rfl, rfl, ⟨0, by unfold Sz; kernel_rfl⟩⟩
theorem sc108 : Sc Try.prog 108 := ⟨(.slice 49), by kernel_rfl, trivial⟩
theorem sc113 : Sc Try.prog 113 := ⟨(.slice 54), by kernel_rfl, trivial⟩
theorem so108 : SliceOf Try.prog 108 49 2 32 := ⟨by kernel_rfl, by kernel_rfl⟩
theorem so113 : SliceOf Try.prog 113 54 2 32 := ⟨by kernel_rfl, by kernel_rfl⟩
theorem sz113 : Sz Try.prog 113 1 := by unfold Sz; kernel_rfl
theorem sz115 : Sz Try.prog 115 7 := by unfold Sz; kernel_rfl
theorem un108 : Try.prog.underlying 108 = some (.slice 49) := by kernel_rfl
theorem un113 : Try.prog.underlying 113 = some (.slice 54) := by kernel_rfl
theorem zr115 : ZeroV Try.prog 115 [.int .i64 0, .int .i64 0, .int .i64 0, .bool false, .bool false, .slice none 0 0, .slice none 0 0] := by unfold ZeroV; kernel_rfl
/-- a macroblock no greater than a bound -/
def smallM (N : Nat) (m : Mk) : Prop := m.bs.length ≤ N ∧ ∀ b ∈ m.bs, b.lv.length ≤ N
theorem set_uptoG {α β : Type} [Inhabited α] (f : α → β) {xs ys : List α} {k : Nat} {v : α} (hk : k < xs.length) (h : ∀ j : Nat, j < k → f (xs.getD j default) = f (ys.getD j default)) (hv : f v = f (ys.getD k default)) : ∀ j : Nat, j < k + 1 → f ((xs.set (k : Int).toNat v).getD j default) = f (ys.getD j default) := fun j hj => by
  rw [Int.toNat_natCast]
  rcases Nat.lt_or_ge j k with h2 | h2
  · have h3 : k ≠ j := by omega
    simp only [List.getD_eq_getElem?_getD, List.getElem?_set, if_neg h3]
    simpa only [List.getD_eq_getElem?_getD] using h j h2
  · obtain rfl : j = k := by omega
    simp only [List.getD_eq_getElem?_getD, List.getElem?_set, if_pos rfl, hk]
    simpa [hk, List.getD_eq_getElem?_getD] using hv
theorem mpl_eq {k : Nat} {us ms : List Mk} (h : (us.getD (k : Int).toNat default).eight = (ms.getD (k : Int).toNat default).eight ∧ (us.getD (k : Int).toNat default).bs.map Bk.pl = (ms.getD (k : Int).toNat default).bs.map Bk.pl) : (us.getD k default).pl = (ms.getD k default).pl := by
  simp only [Int.toNat_natCast] at h; simp only [Mk.pl, h]
theorem mpl_and {k : Nat} {us ms : List Mk} (h : (us.getD k default).pl = (ms.getD k default).pl) : (us.getD (k : Int).toNat default).eight = (ms.getD (k : Int).toNat default).eight ∧ (us.getD (k : Int).toNat default).bs.map Bk.pl = (ms.getD (k : Int).toNat default).bs.map Bk.pl := by
  simp only [Int.toNat_natCast]; simp only [Mk.pl, Prod.mk.injEq] at h; exact h
theorem mpl_bound {ms ms' : List Mk} {N : Nat} (h : ms'.map Mk.pl = ms.map Mk.pl) (hb : ∀ m ∈ ms, smallM N m) : ∀ m ∈ ms', smallM N m := fun m hm => by
  have h1 : m.pl ∈ ms.map Mk.pl := by rw [← h]; exact List.mem_map.2 ⟨m, hm, rfl⟩
  obtain ⟨x, hx, he⟩ := List.mem_map.1 h1
  have hs := hb x hx
  simp only [Mk.pl, Prod.mk.injEq] at he
  exact ⟨by rw [← map_len he.2]; exact hs.1, pl_bound he.2.symm hs.2⟩

/-- laws.szMbS -/
theorem l_szMbS (p : Option Addr) (ms : List Mk) (c : Nat) (left : Int) (w : World) (hp : RdMs w p ms c) (hs : ms.length ≤ 9223372036854775807) (hb : ∀ m ∈ ms, smallM 9223372036854775807 m) (hl : 0 ≤ left ∧ left ≤ 9223372036854775807) :
    Calls Try.prog 161 [.slice p ms.length c, .int .i64 left].toArray w (RetP w fun v w' => ∃ r : Int, v = .int .i64 r ∧ (r = -1 ∨ (0 ≤ r ∧ r ≤ left ∧ (ms.length : Int) ≤ left ∧ ∀ m ∈ ms, smallM left.toNat m))) := by
  have L : Exm [] w w := Exm.rfl'
  refine enter (n := 27) Try.func161 rfl rfl rfl ?_
  refine wp_seq ?_
  refine c_reg ?_
  refine s0 (x_assign (v := .int _ _) rfl) ?_
  refine c_end ?_
  refine n_then ?_
  refine wp_seq ?_
  refine c_reg ?_
  refine s0 (x_move (v := .int _ _) rfl) ?_
  refine s0 (x_move (v := .slice _ _ _) rfl) ?_
  refine s0 (x_lensl un108 rfl) ?_
  refine s0 (x_sub rfl rfl (by omega)) ?_
  refine s0 (x_assign (v := .int _ _) rfl) ?_
  refine c_end ?_
  refine n_then ?_
  refine wp_seq ?_
  refine wp_seq ?_
  refine c_reg ?_
  refine s0 (x_move (v := .int _ _) rfl) ?_
  refine sb (x_lss rfl rfl) (fun h11 => ?_) (fun h11 => ?_)
  · refine c_end ?_
    refine n_then ?_
    refine c_true rfl ?_
    refine wp_seq ?_
    refine c_reg ?_
    refine s0 (x_assign (v := .int _ _) rfl) ?_
    refine c_end ?_
    refine n_then ?_
    refine wp_ret (r_then ?_)
    refine f_ret rfl rfl ?_
    exact ⟨_, rfl, L, _, rfl, .inl rfl⟩
  · refine c_end ?_
    refine n_then ?_
    refine c_false rfl ?_
    refine c_skipn ?_
    refine n_then ?_
    refine wp_seq ?_
    refine wp_seq ?_
    refine c_reg ?_
    refine s0 (x_assign (v := .int _ _) rfl) ?_
    refine c_end ?_
    refine n_then ?_
    refine wp_block ?_
    refine c_loop (γ := Nat × Int) (fun g => ms.length - g.1) (fun (g : Nat × Int) E wl => ∃ E0, E = upd (upd (upd E0 0 (.slice p ms.length c)) 1 (.int .i64 g.2)) 5 (.int .i64 (g.1 : Int)) ∧ (Exm [] w wl) ∧ ((g.1 : Int) ≤ ms.length) ∧ (0 ≤ g.2 ∧ g.2 ≤ left) ∧ (∀ j : Nat, j < g.1 → smallM left.toNat (ms.getD j default))) (0, left - ms.length) ⟨_, upd_self3 rfl rfl rfl, L, (by simp), (by show 0 ≤ left - ms.length ∧ left - ms.length ≤ left; omega), (by intro j hj; simp at hj)⟩ ?_
    rintro g E wl1 ⟨E0, rfl, L, hk, hr, hall⟩
    have Lz0 := L.size
    refine wp_seq ?_
    refine wp_seq ?_
    refine c_reg ?_
    refine s0 (x_move (v := .int _ _) rfl) ?_
    refine s0 (x_move (v := .slice _ _ _) rfl) ?_
    refine s0 (x_lensl un108 rfl) ?_
    refine sb (x_lss rfl rfl) (fun h15 => ?_) (fun h15 => ?_)
    · refine c_end ?_
      refine n_then ?_
      refine c_true rfl ?_
      refine c_skipn ?_
      refine n_then ?_
      refine wp_seq ?_
      refine wp_block ?_
      refine wp_seq ?_
      have hbm := hb _ (getD_mem (xs := ms) (i := (g.1 : Int)) (by omega) (by omega))
      have hbm1 := hbm.1
      refine c_reg ?_
      refine s0 (x_move (v := .slice _ _ _) rfl) ?_
      refine s0 (x_move (v := .int _ _) rfl) ?_
      refine s0 (x_idx so108 rfl rfl hp.1 (by decide) (by omega) (by omega)) ?_
      refine st (x_ldr mrow_len ag49 rfl (hp.1.ext L) (by omega) (by omega)) ?_
      refine s0 (x_move (v := .int _ _) rfl) ?_
      refine sp (zcall cl35 rfl) (l_szMb _ _ _ _ _ _ ((hp.2 _ (getD_mem (by omega) (by omega))).ext L) (by omega) hbm.2 (by omega)) ?_
      rintro v23 w2 l3 ⟨r23, rfl, hr23⟩
      have z_l3 := l3.size
      have L := L.tr l3.up
      refine s0 (x_assign (v := .int _ _) rfl) ?_
      refine c_end ?_
      refine n_then ?_
      refine wp_seq ?_
      refine c_reg ?_
      refine s0 (x_move (v := .int _ _) rfl) ?_
      refine sb (x_lss rfl rfl) (fun h25 => ?_) (fun h25 => ?_)
      · refine c_end ?_
        refine n_then ?_
        refine c_true rfl ?_
        refine wp_seq ?_
        refine c_reg ?_
        refine s0 (x_assign (v := .int _ _) rfl) ?_
        refine c_end ?_
        refine n_then ?_
        refine wp_ret (r_block (r_then (r_then (r_block (r_then ?_)))))
        refine f_ret rfl rfl ?_
        exact ⟨_, rfl, L, _, rfl, .inl rfl⟩
      · refine c_end ?_
        refine n_then ?_
        refine c_false rfl ?_
        refine c_skipn ?_
        refine n_block ?_
        refine n_then ?_
        refine c_reg ?_
        refine s0 (x_move (v := .int _ _) rfl) ?_
        refine s0 (x_add rfl rfl (by omega)) ?_
        refine s0 (x_assign (v := .int _ _) rfl) ?_
        refine c_end ?_
        rw [Int.toNat_natCast] at hr23
        have hq := hr23.resolve_left (by omega)
        exact c_round (g' := (g.1 + 1, r23)) (by show ms.length - (g.1 + 1) < ms.length - g.1; omega) ⟨_, upd_self3 rfl rfl (vint (by show (g.1 : Int) + 1 = ((g.1 + 1 : Nat) : Int); omega)), L, (by show ((g.1 + 1 : Nat) : Int) ≤ _; omega), (by show 0 ≤ r23 ∧ r23 ≤ left; omega), (upto_succ' hall ⟨by omega, fun b hb2 => by have := hq.2.2.2 b hb2; omega⟩)⟩
    · refine c_end ?_
      refine n_then ?_
      refine c_false rfl ?_
      refine wp_exit (e_then (e_then (e_here ?_)))
      refine n_then ?_
      refine wp_seq ?_
      refine c_reg ?_
      refine s0 (x_move (v := .int _ _) rfl) ?_
      refine s0 (x_assign (v := .int _ _) rfl) ?_
      refine c_end ?_
      refine n_then ?_
      refine wp_ret ?_
      refine f_ret rfl rfl ?_
      exact ⟨_, rfl, L, _, rfl, .inr ⟨hr.1, hr.2, by omega, all_getD fun j hj => hall j (by omega)⟩⟩

/-- laws.toMbS -/
theorem l_toMbS (p : Option Addr) (ms : List Mk) (c : Nat) (w : World) (hp : RdMs w p ms c) (hl : ms.length ≤ 1099511627776) (hb : ∀ m ∈ ms, smallM 1099511627776 m) :
    Calls Try.prog 163 [.slice p ms.length c].toArray w (RetP w fun v w' => ∃ p' ms' c' F', v = .slice p' ms'.length c' ∧ OwN (Km 81 3) w' 54 p' ms' c' F' ∧ Fr w.heap.size F' ∧ ms'.map Mk.pl = ms.map Mk.pl) := by
  have L : Exm [] w w := Exm.rfl'
  refine enter (n := 23) Try.func163 rfl rfl rfl ?_
  refine wp_seq ?_
  refine c_reg ?_
  refine s0 (x_assign (v := .slice _ _ _) rfl) ?_
  refine c_end ?_
  refine n_then ?_
  refine wp_seq ?_
  refine c_reg ?_
  refine s0 (x_move (v := .slice _ _ _) rfl) ?_
  refine s0 (x_lensl un108 rfl) ?_
  refine s_maker Mk.zero mrow_len so113 zr54 rfl rfl (by omega) (by omega) (by omega) ?_
  intro p7 F7 w1 l2 o7 f7 g7
  have z_l2 := l2.size
  have L := L.tr l2.up
  have hn7 := o7.nr mrow_len (by decide)
  refine s0 (x_assign (v := .slice _ _ _) rfl) ?_
  refine c_end ?_
  refine n_then ?_
  refine wp_seq ?_
  refine wp_seq ?_
  refine c_reg ?_
  refine s0 (x_assign (v := .int _ _) rfl) ?_
  refine c_end ?_
  refine n_then ?_
  refine wp_block ?_
  refine c_loop (γ := Nat × List Mk) (fun g => ms.length - g.1) (fun (g : Nat × List Mk) E wl => ∃ E0 pz3 cz3 Fz3, E = upd (upd (upd E0 0 (.slice p ms.length c)) 3 (.slice pz3 ((g.2).length) cz3)) 4 (.int .i64 (g.1 : Int)) ∧ (Exm [] w wl) ∧ (w1.heap.size ≤ wl.heap.size) ∧ (OwN (Km 81 3) wl 54 pz3 (g.2) cz3 Fz3) ∧ (Fr (w.heap.size) Fz3) ∧ (Lt Fz3 wl.heap.size) ∧ ((g.1 : Int) ≤ ms.length) ∧ (g.2.length = ms.length) ∧ (∀ j : Nat, j < g.1 → Mk.pl (g.2.getD j default) = Mk.pl (ms.getD j default))) (0, List.replicate ms.length Mk.zero) ⟨_, _, _, _, upd_self3 rfl (by (rw [List.length_replicate]); rfl) rfl, L, (by omega), (OwN.ofZero o7 OwN.nil rfl), (f7.mono (by omega)), (g7.mono (by omega)), (by simp), (by simp), (by intro j hj; simp at hj)⟩ ?_
  rintro g E wl3 ⟨E0, pz3, cz3, Fz3, rfl, L, Lz, oz3, fz3, gz3, hk, hn, heq⟩
  have Lz0 := L.size
  refine wp_seq ?_
  refine wp_seq ?_
  refine c_reg ?_
  refine s0 (x_move (v := .int _ _) rfl) ?_
  refine s0 (x_move (v := .slice _ _ _) rfl) ?_
  refine s0 (x_lensl un108 rfl) ?_
  refine sb (x_lss rfl rfl) (fun h11 => ?_) (fun h11 => ?_)
  · refine c_end ?_
    refine n_then ?_
    refine c_true rfl ?_
    refine c_skipn ?_
    refine n_then ?_
    refine wp_seq ?_
    refine wp_block ?_
    have hbm := hb _ (getD_mem (xs := ms) (i := (g.1 : Int)) (by omega) (by omega))
    have hbm1 := hbm.1
    refine c_reg ?_
    refine s0 (x_move (v := .slice _ _ _) rfl) ?_
    refine s0 (x_move (v := .int _ _) rfl) ?_
    refine s0 (x_move (v := .slice _ _ _) rfl) ?_
    refine s0 (x_move (v := .int _ _) rfl) ?_
    refine s0 (x_idx so108 rfl rfl hp.1 (by decide) (by omega) (by omega)) ?_
    refine st (x_ldr mrow_len ag49 rfl (hp.1.ext L) (by omega) (by omega)) ?_
    refine sp (zcall cl37 rfl) (l_toMb _ _ _ _ _ ((hp.2 _ (getD_mem (by omega) (by omega))).ext L) (by omega) hbm.2) ?_
    rintro v20 w4 l5 ⟨p20, bs20, c20, F20, rfl, o20, f20, hm20⟩
    have z_l5 := l5.size
    have L := L.tr l5.up
    have oz3 := oz3.ext l5
    have g20 := o20.lt
    refine s0 (x_idx so113 rfl rfl oz3.sl (by decide) (by omega) (by omega)) ?_
    refine s_stoN (v := ⟨_, p20, bs20, c20, F20⟩) (K := (Km 81 3)) rfl sz54 rfl rfl oz3 o20 (by first | assumption | exact Dj.symm (by assumption) | exact dj_of f20 g20 fz3 gz3 (by omega)) (by omega) (by omega) ?_
    intro w6 Fz3 l7 el7 oz3 ml7
    have z_l7 := l7.size
    have L := L.freshL l7 fz3 (by omega)
    have o20 := o20.exm l7 (by first | assumption | exact Dj.symm (by assumption) | exact dj_of fz3 gz3 f20 g20 (by omega))
    have fz3 : Fr (w.heap.size) Fz3 := fun b hb => (ml7 b hb).elim (fz3 b) (f20.mono (by omega) b)
    have gz3 := oz3.lt
    refine c_end ?_
    refine n_block ?_
    refine n_then ?_
    refine c_reg ?_
    refine s0 (x_move (v := .int _ _) rfl) ?_
    refine s0 (x_add rfl rfl (by omega)) ?_
    refine s0 (x_assign (v := .int _ _) rfl) ?_
    refine c_end ?_
    exact c_round (g' := (g.1 + 1, g.2.set (g.1 : Int).toNat ⟨_, p20, bs20, c20, F20⟩)) (by show ms.length - (g.1 + 1) < ms.length - g.1; omega) ⟨_, _, _, _, upd_self3 rfl (by (rw [List.length_set]); rfl) (vint (by show (g.1 : Int) + 1 = ((g.1 + 1 : Nat) : Int); omega)), L, (by omega), oz3, (fz3.mono (by omega)), (gz3.mono (by omega)), (by show ((g.1 + 1 : Nat) : Int) ≤ _; omega), (by rw [List.length_set]; exact hn), (set_uptoG Mk.pl (by omega) heq (by simp only [Mk.pl, hm20, Int.toNat_natCast]))⟩
  · refine c_end ?_
    refine n_then ?_
    refine c_false rfl ?_
    refine wp_exit (e_then (e_then (e_here ?_)))
    refine n_then ?_
    refine wp_seq ?_
    refine c_reg ?_
    refine s0 (x_move (v := .slice _ _ _) rfl) ?_
    refine s0 (x_assign (v := .slice _ _ _) rfl) ?_
    refine c_end ?_
    refine n_then ?_
    refine wp_ret ?_
    refine f_ret rfl rfl ?_
    exact ⟨_, rfl, L, _, _, _, _, rfl, oz3, fz3.mono (by omega), map_ext hn fun j hj => heq j (by omega)⟩

/-- laws.eqMbS -/
theorem l_eqMbS (p q : Option Addr) (us ms : List Mk) (c d : Nat) (w : World) (hp : RdMs w p us c) (hq : RdMs w q ms d) (hl : us.length ≤ 1099511627776) (hb : ∀ m ∈ us, smallM 1099511627776 m) :
    Calls Try.prog 167 [.slice p us.length c, .slice q ms.length d].toArray w (Ret w (.bool (decide (us.map Mk.pl = ms.map Mk.pl)))) := by
  have L : Exm [] w w := Exm.rfl'
  refine enter (n := 27) Try.func167 rfl rfl rfl ?_
  refine wp_seq ?_
  refine c_reg ?_
  refine s0 (x_assign (v := .bool _) rfl) ?_
  refine c_end ?_
  refine n_then ?_
  refine wp_seq ?_
  refine wp_seq ?_
  refine c_reg ?_
  refine s0 (x_move (v := .slice _ _ _) rfl) ?_
  refine s0 (x_lensl un113 rfl) ?_
  refine s0 (x_move (v := .slice _ _ _) rfl) ?_
  refine s0 (x_lensl un113 rfl) ?_
  refine sb (x_neq rfl rfl) (fun h10 => ?_) (fun h10 => ?_)
  · refine c_end ?_
    refine n_then ?_
    refine c_true rfl ?_
    refine wp_seq ?_
    refine c_reg ?_
    refine s0 (x_assign (v := .bool _) rfl) ?_
    refine c_end ?_
    refine n_then ?_
    refine wp_ret (r_then ?_)
    refine f_ret rfl rfl ?_
    exact ⟨ret_f (fun h => h10 (by rw [map_len h])), L⟩
  · refine c_end ?_
    refine n_then ?_
    refine c_false rfl ?_
    refine c_skipn ?_
    refine n_then ?_
    refine wp_seq ?_
    refine wp_seq ?_
    refine c_reg ?_
    refine s0 (x_assign (v := .int _ _) rfl) ?_
    refine c_end ?_
    refine n_then ?_
    refine wp_block ?_
    refine c_loop (γ := Nat) (fun k => us.length - k) (fun (k : Nat) E wl => ∃ E0, E = upd (upd (upd E0 0 (.slice p us.length c)) 1 (.slice q ms.length d)) 5 (.int .i64 (k : Int)) ∧ (Exm [] w wl) ∧ ((k : Int) ≤ us.length) ∧ (∀ j : Nat, j < k → Mk.pl (us.getD j default) = Mk.pl (ms.getD j default))) 0 ⟨_, upd_self3 rfl rfl rfl, L, (by omega), (by intro j hj; omega)⟩ ?_
    rintro k E wl1 ⟨E0, rfl, L, hk, heq⟩
    have Lz0 := L.size
    refine wp_seq ?_
    refine wp_seq ?_
    refine c_reg ?_
    refine s0 (x_move (v := .int _ _) rfl) ?_
    refine s0 (x_move (v := .slice _ _ _) rfl) ?_
    refine s0 (x_lensl un113 rfl) ?_
    refine sb (x_lss rfl rfl) (fun h14 => ?_) (fun h14 => ?_)
    · refine c_end ?_
      refine n_then ?_
      refine c_true rfl ?_
      refine c_skipn ?_
      refine n_then ?_
      refine wp_seq ?_
      refine wp_block ?_
      refine wp_seq ?_
      have hbm := hb _ (getD_mem (xs := us) (i := (k : Int)) (by omega) (by omega))
      have hbm1 := hbm.1
      have hbm2 := hbm.2
      refine c_plan (fun wq => Exm [] wl1 wq) 10 (.cons (0, 2) (.cons (1, 2) (.cons (2, 2) (.cons (3, 1) (.cons (4, 2) (.cons (5, 2) (.cons (6, 2) (.cons (7, 1) (.cons (8, 0) (.cons (9, 2) .nil)))))))))) (by kernel_rfl) (by kernel_rfl) (Exm.drew _) ?_
      obtain ⟨w2, hwd⟩ : ∃ x, x = wl1.drew := ⟨_, rfl⟩
      have l3 : Ext wl1 w2 := by rw [hwd]; exact Exm.drew _
      rw [← hwd]; clear hwd
      have Lq : Exm [] wl1 w2 := l3.up
      have qL := L
      have z_l3 := l3.size
      have L := L.tr l3.up
      refine p0 rfl (x_move (v := .slice _ _ _) rfl) ?_
      refine p0 rfl (x_move (v := .int _ _) rfl) ?_
      refine p0 rfl (x_idx so113 rfl rfl hp.1 (by decide) (by omega) (by omega)) ?_
      refine ps rfl (fun wq hwq => x_ldr mrow_len ag54 rfl ((hp.1.ext qL).ext hwq) (by omega) (by omega)) ?_
      refine p0 rfl (x_move (v := .slice _ _ _) rfl) ?_
      refine p0 rfl (x_move (v := .int _ _) rfl) ?_
      refine p0 rfl (x_idx so113 rfl rfl hq.1 (by decide) (by omega) (by omega)) ?_
      refine ps rfl (fun wq hwq => x_ldr mrow_len ag54 rfl ((hq.1.ext qL).ext hwq) (by omega) (by omega)) ?_
      refine pu rfl ?_ (by rintro ⟨_, _, h, _⟩; cases h)
      refine srb (zcall cl40 rfl) (l_eqMb _ _ _ _ _ _ _ _ _ ((hp.2 _ (getD_mem (by omega) (by omega))).ext L) ((hq.2 _ (getD_mem (by omega) (by omega))).ext L) (by omega) hbm.2) (fun h25 w4 l5 => ?_) (fun h25 w4 l5 => ?_)
      · have z_l5 := l5.size
        have L := L.tr l5.up
        have Lq := Lq.tr l5.up
        refine c_end ⟨rfl, fun h hS => Lq, ?_⟩
        refine p0 rfl (x_not rfl) ?_
        refine p_nil (np_normal ?_)
        refine n_then ?_
        refine c_false rfl ?_
        refine c_skipn ?_
        refine n_block ?_
        refine n_then ?_
        refine c_reg ?_
        refine s0 (x_move (v := .int _ _) rfl) ?_
        refine s0 (x_add rfl rfl (by omega)) ?_
        refine s0 (x_assign (v := .int _ _) rfl) ?_
        refine c_end ?_
        exact c_round (g' := k + 1) (by omega) ⟨_, upd_self3 rfl rfl (vint (by omega)), L, (by omega), (upto_succ' heq (mpl_eq h25))⟩
      · have z_l5 := l5.size
        have L := L.tr l5.up
        have Lq := Lq.tr l5.up
        refine c_end ⟨rfl, fun h hS => Lq, ?_⟩
        refine p0 rfl (x_not rfl) ?_
        refine p_nil (np_normal ?_)
        refine n_then ?_
        refine c_true rfl ?_
        refine wp_seq ?_
        refine c_reg ?_
        refine s0 (x_assign (v := .bool _) rfl) ?_
        refine c_end ?_
        refine n_then ?_
        refine wp_ret (r_block (r_then (r_then (r_block (r_then ?_)))))
        refine f_ret rfl rfl ?_
        exact ⟨ret_f (fun h => h25 (mpl_and (map_get h k))), L⟩
    · refine c_end ?_
      refine n_then ?_
      refine c_false rfl ?_
      refine wp_exit (e_then (e_then (e_here ?_)))
      refine n_then ?_
      refine wp_seq ?_
      refine c_reg ?_
      refine s0 (x_assign (v := .bool _) rfl) ?_
      refine c_end ?_
      refine n_then ?_
      refine wp_ret ?_
      refine f_ret rfl rfl ?_
      exact ⟨ret_t (map_ext (by omega) fun j hj => heq j (by omega)), L⟩

/-- laws.szStream -/
theorem l_szStream (a b q : Int) (y z : Bool) (r : Option Addr) (xs : List Int) (e : Nat) (p : Option Addr) (ms : List Mk) (c : Nat) (left : Int) (w : World) (hp : RdMs w p ms c) (hs0 : xs.length ≤ 9223372036854775807) (hs : ms.length ≤ 9223372036854775807) (hb : ∀ m ∈ ms, smallM 9223372036854775807 m) (hl : 0 ≤ left ∧ left ≤ 9223372036854775807) :
    Calls Try.prog 77 [.agg [.int .i64 a, .int .i64 b, .int .i64 q, .bool y, .bool z, .slice r xs.length e, .slice p ms.length c].toArray, .int .i64 left].toArray w (RetP w fun v w' => ∃ r : Int, v = .int .i64 r ∧ (r = -1 ∨ (0 ≤ r ∧ r ≤ left ∧ (xs.length : Int) ≤ left ∧ (ms.length : Int) ≤ left ∧ ∀ m ∈ ms, smallM left.toNat m))) := by
  have L : Exm [] w w := Exm.rfl'
  refine enter (n := 18) Try.func77 rfl rfl rfl ?_
  refine wp_seq ?_
  refine c_reg ?_
  refine s_box rfl rfl ?_
  intro b1 w2 lob1 hib1 l3 B1
  have z_l3 := l3.size
  have L := L.tr l3.up
  refine s0 (x_assign (v := .int _ _) rfl) ?_
  refine c_end ?_
  refine n_then ?_
  refine wp_seq ?_
  refine c_reg ?_
  refine s0 (x_fieldAddr fa110_0 rfl) ?_
  refine st (x_loadIn ag24 rfl B1 [.int _ _, .int _ _, .int _ _, .bool _, .bool _, .slice _ _ _] rfl rfl) ?_
  refine s0 (x_move (v := .int _ _) rfl) ?_
  refine sr (zcall cl15 rfl) (l_szHeader _ _ _ _ _ _ _ _ _ _ (by omega) (by omega)) ?_
  intro w4 l5
  have z_l5 := l5.size
  have L := L.tr l5.up
  have B1 := B1.ext l5
  refine s0 (x_assign (v := .int _ _) rfl) ?_
  refine c_end ?_
  refine n_then ?_
  refine wp_seq ?_
  refine wp_seq ?_
  refine c_reg ?_
  refine s0 (x_move (v := .int _ _) rfl) ?_
  refine sb (x_lss rfl rfl) (fun h10 => ?_) (fun h10 => ?_)
  · refine c_end ?_
    refine n_then ?_
    refine c_true rfl ?_
    refine wp_seq ?_
    refine c_reg ?_
    refine s0 (x_assign (v := .int _ _) rfl) ?_
    refine c_end ?_
    refine n_then ?_
    refine wp_ret (r_then ?_)
    refine f_ret rfl rfl ?_
    exact ⟨_, rfl, L, _, rfl, .inl rfl⟩
  · refine c_end ?_
    refine n_then ?_
    refine c_false rfl ?_
    refine c_skipn ?_
    refine n_then ?_
    refine wp_seq ?_
    have h8 := sz_in h10
    refine c_reg ?_
    refine s0 (x_fieldAddr fa110_1 rfl) ?_
    refine st (x_loadB sc108 rfl B1 rfl) ?_
    refine s0 (x_move (v := .int _ _) rfl) ?_
    refine sp (zcall cl161 rfl) (l_szMbS _ _ _ _ _ (hp.ext L) (by omega) hb (by omega)) ?_
    rintro v14 w6 l7 ⟨r14, rfl, hr14⟩
    have z_l7 := l7.size
    have L := L.tr l7.up
    have B1 := B1.ext l7
    refine s0 (x_assign (v := .int _ _) rfl) ?_
    refine c_end ?_
    refine n_then ?_
    refine wp_seq ?_
    refine wp_seq ?_
    refine c_reg ?_
    refine s0 (x_move (v := .int _ _) rfl) ?_
    refine sb (x_lss rfl rfl) (fun h16 => ?_) (fun h16 => ?_)
    · refine c_end ?_
      refine n_then ?_
      refine c_true rfl ?_
      refine wp_seq ?_
      refine c_reg ?_
      refine s0 (x_assign (v := .int _ _) rfl) ?_
      refine c_end ?_
      refine n_then ?_
      refine wp_ret (r_then ?_)
      refine f_ret rfl rfl ?_
      exact ⟨_, rfl, L, _, rfl, .inl rfl⟩
    · refine c_end ?_
      refine n_then ?_
      refine c_false rfl ?_
      refine c_skipn ?_
      refine n_then ?_
      refine wp_seq ?_
      have hq := hr14.resolve_left (by omega)
      refine c_reg ?_
      refine s0 (x_move (v := .int _ _) rfl) ?_
      refine s0 (x_assign (v := .int _ _) rfl) ?_
      refine c_end ?_
      refine n_then ?_
      refine wp_ret ?_
      refine f_ret rfl rfl ?_
      exact ⟨_, rfl, L, _, rfl, .inr ⟨by omega, by omega, by omega, by omega, fun m hm => ⟨by have := (hq.2.2.2 m hm).1; omega, fun b hb2 => by have := (hq.2.2.2 m hm).2 b hb2; omega⟩⟩⟩

/-- laws.toStream -/
theorem l_toStream (a b q : Int) (y z : Bool) (r : Option Addr) (xs : List Int) (e : Nat) (p : Option Addr) (ms : List Mk) (c : Nat) (w : World) (hx : Sl w r xs.length e 1 (ic xs)) (hp : RdMs w p ms c) (hl0 : xs.length ≤ 1099511627776) (hl : ms.length ≤ 1099511627776) (hb : ∀ m ∈ ms, smallM 1099511627776 m) :
    Calls Try.prog 79 [.agg [.int .i64 a, .int .i64 b, .int .i64 q, .bool y, .bool z, .slice r xs.length e, .slice p ms.length c].toArray].toArray w (RetP w fun v w' => ∃ r' e' F' p' ms' c' G', v = .agg [.int .i64 a, .int .i64 b, .int .i64 q, .bool y, .bool z, .slice r' xs.length e', .slice p' ms'.length c'].toArray ∧ Own w' r' xs.length e' 3 1 (ic xs) F' ∧ Fr w.heap.size F' ∧ OwN (Km 81 3) w' 54 p' ms' c' G' ∧ Fr w.heap.size G' ∧ ms'.map Mk.pl = ms.map Mk.pl) := by
  have L : Exm [] w w := Exm.rfl'
  refine enter (n := 13) Try.func79 rfl rfl rfl ?_
  refine wp_seq ?_
  refine c_reg ?_
  refine s_box rfl rfl ?_
  intro b1 w2 lob1 hib1 l3 B1
  have z_l3 := l3.size
  have L := L.tr l3.up
  refine s_alloc zr115 ?_
  intro b4 w5 lob4 hib4 l6 B4
  have z_l6 := l6.size
  have L := L.tr l6.up
  have B1 := B1.ext l6
  refine c_end ?_
  refine n_then ?_
  refine wp_seq ?_
  refine c_reg ?_
  refine s_alloc zr115 ?_
  intro b7 w8 lob7 hib7 l9 B7
  have z_l9 := l9.size
  have L := L.tr l9.up
  have B1 := B1.ext l9
  have B4 := B4.ext l9
  refine c_end ?_
  refine n_then ?_
  refine wp_seq ?_
  refine c_reg ?_
  refine s0 (x_fieldAddr fa110_0 rfl) ?_
  refine st (x_loadIn ag24 rfl B1 [.int _ _, .int _ _, .int _ _, .bool _, .bool _, .slice _ _ _] rfl rfl) ?_
  refine sp (zcall cl17 rfl) (l_toHeader _ _ _ _ _ _ _ _ _ (hx.ext L) (by omega)) ?_
  rintro v6 w10 l11 ⟨p6, c6, F6, rfl, o6, f6⟩
  have z_l11 := l11.size
  have L := L.tr l11.up
  have B1 := B1.ext l11
  have B4 := B4.ext l11
  have B7 := B7.ext l11
  have g6 := o6.lt
  refine s0 (x_fieldAddr fa115_0 rfl) ?_
  refine s_storeIn (cs' := [_, _, _, _, _, _, _]) (vs := [.int _ _, .int _ _, .int _ _, .bool _, .bool _, .slice _ _ _]) rfl sz27 rfl rfl B7 rfl (Nat.le_of_ble_eq_true rfl) rfl rfl ?_
  intro w12 l13 el13 B7
  have z_l13 := l13.size
  have L := L.fresh l13 (by omega)
  have B1 := B1.ne l13 (by omega)
  have B4 := B4.ne l13 (by omega)
  have o6 := o6.ne l13 (by first | assumption | exact nin_of f6 g6 (by omega))
  refine c_end ?_
  refine n_then ?_
  refine wp_seq ?_
  refine c_reg ?_
  refine s0 (x_fieldAddr fa110_1 rfl) ?_
  refine st (x_loadB sc108 rfl B1 rfl) ?_
  refine sp (zcall cl163 rfl) (l_toMbS _ _ _ _ (hp.ext L) (by omega) hb) ?_
  rintro v10 w14 l15 ⟨p10, ms10, c10, F10, rfl, o10, f10, hm10⟩
  have z_l15 := l15.size
  have L := L.tr l15.up
  have B1 := B1.ext l15
  have B4 := B4.ext l15
  have B7 := B7.ext l15
  have o6 := o6.ext l15
  have g10 := o10.lt
  refine s0 (x_fieldAddr fa115_1 rfl) ?_
  refine s_store (v := .slice _ _ _) (cs' := [_, _, _, _, _, _, _]) rfl sz113 rfl rfl rfl rfl B7 rfl rfl ?_
  intro w16 l17 el17 B7
  have z_l17 := l17.size
  have L := L.fresh l17 (by omega)
  have B1 := B1.ne l17 (by omega)
  have B4 := B4.ne l17 (by omega)
  have o6 := o6.ne l17 (by first | assumption | exact nin_of f6 g6 (by omega))
  have o10 := o10.ne l17 (by first | assumption | exact nin_of f10 g10 (by omega))
  refine c_end ?_
  refine n_then ?_
  refine wp_seq ?_
  refine c_reg ?_
  refine st (x_loadAgB ag115 rfl B7 rfl) ?_
  refine s_storeAg rfl sz115 rfl rfl B4 rfl rfl rfl ?_
  intro w18 l19 el19 B4
  have z_l19 := l19.size
  have L := L.fresh l19 (by omega)
  have B1 := B1.ne l19 (by omega)
  have B7 := B7.ne l19 (by omega)
  have o6 := o6.ne l19 (by first | assumption | exact nin_of f6 g6 (by omega))
  have o10 := o10.ne l19 (by first | assumption | exact nin_of f10 g10 (by omega))
  refine c_end ?_
  refine n_then ?_
  refine wp_ret ?_
  refine f_retc rfl rfl ag115 B4 rfl ?_
  exact ⟨_, rfl, L, _, _, _, _, _, _, _, rfl, o6, f6.mono (by omega), o10, f10.mono (by omega), hm10⟩

/-- laws.eqStream -/
theorem l_eqStream (a b q : Int) (y z : Bool) (r : Option Addr) (xs : List Int) (e : Nat) (p : Option Addr) (ms : List Mk) (c : Nat) (a' b' q' : Int) (y' z' : Bool) (r' : Option Addr) (xs' : List Int) (e' : Nat) (p' : Option Addr) (us : List Mk) (c' : Nat) (w : World) (hx : Sl w r xs.length e 1 (ic xs)) (hp : RdMs w p ms c) (hx' : Sl w r' xs'.length e' 1 (ic xs')) (hp' : RdMs w p' us c') (hl0 : xs.length ≤ 1099511627776) (hl : ms.length ≤ 1099511627776) (hb : ∀ m ∈ ms, smallM 1099511627776 m) :
    Calls Try.prog 81 [.agg [.int .i64 a, .int .i64 b, .int .i64 q, .bool y, .bool z, .slice r xs.length e, .slice p ms.length c].toArray, .agg [.int .i64 a', .int .i64 b', .int .i64 q', .bool y', .bool z', .slice r' xs'.length e', .slice p' us.length c'].toArray].toArray w (Ret w (.bool (decide (a = a' ∧ b = b' ∧ q = q' ∧ y = y' ∧ z = z' ∧ xs = xs' ∧ ms.map Mk.pl = us.map Mk.pl)))) := by
  have L : Exm [] w w := Exm.rfl'
  refine enter (n := 17) Try.func81 rfl rfl rfl ?_
  refine wp_seq ?_
  refine c_reg ?_
  refine s_box rfl rfl ?_
  intro b1 w2 lob1 hib1 l3 B1
  have z_l3 := l3.size
  have L := L.tr l3.up
  refine s_box rfl rfl ?_
  intro b4 w5 lob4 hib4 l6 B4
  have z_l6 := l6.size
  have L := L.tr l6.up
  have B1 := B1.ext l6
  refine s0 (x_assign (v := .bool _) rfl) ?_
  refine c_end ?_
  refine n_then ?_
  refine wp_seq ?_
  refine wp_seq ?_
  refine c_reg ?_
  refine s0 (x_fieldAddr fa115_0 rfl) ?_
  refine st (x_loadIn ag27 rfl B1 [.int _ _, .int _ _, .int _ _, .bool _, .bool _, .slice _ _ _] rfl rfl) ?_
  refine s0 (x_fieldAddr fa115_0 rfl) ?_
  refine st (x_loadIn ag27 rfl B4 [.int _ _, .int _ _, .int _ _, .bool _, .bool _, .slice _ _ _] rfl rfl) ?_
  refine srb (zcall cl20 rfl) (l_eqHeader _ _ _ _ _ _ _ _ _ _ _ _ _ _ _ _ _ (hx.ext L) (hx'.ext L) (by omega)) (fun h9 w7 l8 => ?_) (fun h9 w7 l8 => ?_)
  · have z_l8 := l8.size
    have L := L.tr l8.up
    have B1 := B1.ext l8
    have B4 := B4.ext l8
    refine s0 (x_not rfl) ?_
    refine c_end ?_
    refine n_then ?_
    refine c_false rfl ?_
    refine c_skipn ?_
    refine n_then ?_
    refine wp_seq ?_
    refine wp_seq ?_
    refine c_reg ?_
    refine s0 (x_fieldAddr fa115_1 rfl) ?_
    refine st (x_loadB sc113 rfl B1 rfl) ?_
    refine s0 (x_fieldAddr fa115_1 rfl) ?_
    refine st (x_loadB sc113 rfl B4 rfl) ?_
    refine srb (zcall cl167 rfl) (l_eqMbS _ _ _ _ _ _ _ (hp.ext L) (hp'.ext L) (by omega) (by assumption)) (fun h15 w9 l10 => ?_) (fun h15 w9 l10 => ?_)
    · have z_l10 := l10.size
      have L := L.tr l10.up
      have B1 := B1.ext l10
      have B4 := B4.ext l10
      refine s0 (x_not rfl) ?_
      refine c_end ?_
      refine n_then ?_
      refine c_false rfl ?_
      refine c_skipn ?_
      refine n_then ?_
      refine wp_seq ?_
      refine c_reg ?_
      refine s0 (x_assign (v := .bool _) rfl) ?_
      refine c_end ?_
      refine n_then ?_
      refine wp_ret ?_
      refine f_ret rfl rfl ?_
      exact ⟨ret_t (by simp_all), L⟩
    · have z_l10 := l10.size
      have L := L.tr l10.up
      have B1 := B1.ext l10
      have B4 := B4.ext l10
      refine s0 (x_not rfl) ?_
      refine c_end ?_
      refine n_then ?_
      refine c_true rfl ?_
      refine wp_seq ?_
      refine c_reg ?_
      refine s0 (x_assign (v := .bool _) rfl) ?_
      refine c_end ?_
      refine n_then ?_
      refine wp_ret (r_then ?_)
      refine f_ret rfl rfl ?_
      exact ⟨ret_f (by simp_all), L⟩
  · have z_l8 := l8.size
    have L := L.tr l8.up
    have B1 := B1.ext l8
    have B4 := B4.ext l8
    refine s0 (x_not rfl) ?_
    refine c_end ?_
    refine n_then ?_
    refine c_true rfl ?_
    refine wp_seq ?_
    refine c_reg ?_
    refine s0 (x_assign (v := .bool _) rfl) ?_
    refine c_end ?_
    refine n_then ?_
    refine wp_ret (r_then ?_)
    refine f_ret rfl rfl ?_
    exact ⟨ret_f (by simp_all), L⟩

end Go.Proofs.Ytdnckakaoageoaa
