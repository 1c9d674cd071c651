/- What each function of this part returns, for every argument that meets its premises. -/
import Derived.Test.YtepnknffaecbdaaGreatProg
import Derived.Test.YtepnknffaecbdaaGreatVSxA
import Derived.Test.YtepnknffaecbdaaGreatVPlA
import Derived.Test.YtepnknffaecbdaaGreatVF4
import Derived.Test.YtepnknffaecbdaaGreatVF7
namespace Go.Proofs.YtepnknffaecbdaaGreat
open Go.Sx Go.Pl Go.RowKit
theorem ag139FF : Ag Tryz.prog 139 2 := ⟨⟨_, Tryz.underlying139⟩, by kernel_rfl⟩
theorem ag26FF : Ag Tryz.prog 26 6 := ⟨⟨_, Tryz.underlying26⟩, by kernel_rfl⟩
theorem ag34FF : Ag Tryz.prog 34 2 := ⟨⟨_, Tryz.underlying34⟩, by kernel_rfl⟩
theorem ag45FF : Ag Tryz.prog 45 6 := ⟨⟨_, Tryz.underlying45⟩, by kernel_rfl⟩
theorem cl106FF : Callable Tryz.prog 106 := callable Tryz.func106 (by kernel_rfl) rfl
theorem cl120FF : Callable Tryz.prog 120 := callable Tryz.func120 (by kernel_rfl) rfl
theorem cl121FF : Callable Tryz.prog 121 := callable Tryz.func121 (by kernel_rfl) rfl
theorem cl45FF : Callable Tryz.prog 45 := callable Tryz.func45 (by kernel_rfl) rfl
theorem cl46FF : Callable Tryz.prog 46 := callable Tryz.func46 (by kernel_rfl) rfl
theorem cl55FF : Callable Tryz.prog 55 := callable Tryz.func55 (by kernel_rfl) rfl
theorem cl56FF : Callable Tryz.prog 56 := callable Tryz.func56 (by kernel_rfl) rfl
theorem fa29_0FF : FieldAt Tryz.prog 29 0 0 := ⟨_, _, Tryz.underlying29, rfl, rfl, ⟨5, by unfold Sz; kernel_rfl⟩⟩
theorem fa29_1FF : FieldAt Tryz.prog 29 1 6 := ⟨_, _, Tryz.underlying29, rfl, rfl, ⟨0, by unfold Sz; kernel_rfl⟩⟩
theorem fa48_0FF : FieldAt Tryz.prog 48 0 0 := ⟨_, _, Tryz.underlying48, rfl, rfl, ⟨5, by unfold Sz; kernel_rfl⟩⟩
theorem fa48_1FF : FieldAt Tryz.prog 48 1 6 := ⟨_, _, Tryz.underlying48, rfl, rfl, ⟨0, by unfold Sz; kernel_rfl⟩⟩
theorem sc27FF : Sc Tryz.prog 27 := ⟨(.slice 34), by kernel_rfl, trivial⟩
theorem sc46FF : Sc Tryz.prog 46 := ⟨(.slice 139), by kernel_rfl, trivial⟩
theorem so27FF : SliceOf Tryz.prog 27 34 2 32 := ⟨by kernel_rfl, by kernel_rfl⟩
theorem so46FF : SliceOf Tryz.prog 46 139 2 32 := ⟨by kernel_rfl, by kernel_rfl⟩
theorem sz34FF : Sz Tryz.prog 34 2 := by unfold Sz; kernel_rfl
theorem un27FF : Tryz.prog.underlying 27 = some (.slice 34) := by kernel_rfl
theorem un46FF : Tryz.prog.underlying 46 = some (.slice 139) := by kernel_rfl
theorem zr34FF : ZeroV Tryz.prog 34 [.bool false, .slice none 0 0] := by unfold ZeroV; kernel_rfl
/-- a macroblock no greater than a bound -/
def smallM (N : Nat) (m : Mk) : Prop := m.bs.length ≤ N ∧ ∀ b ∈ m.bs, b.lv.length ≤ N
theorem set_uptoG {α β : Type} [Inhabited α] (f : α → β) {xs ys : List α} {k : Nat} {v : α} (hk : k < xs.length) (h : ∀ j : Nat, j < k → f (xs.getD j default) = f (ys.getD j default)) (hv : f v = f (ys.getD k default)) : ∀ j : Nat, j < k + 1 → f ((xs.set (k : Int).toNat v).getD j default) = f (ys.getD j default) := fun j hj => by
  rw [Int.toNat_natCast]
  rcases Nat.lt_or_ge j k with h2 | h2
  · have h3 : k ≠ j := by omega
    simp only [List.getD_eq_getElem?_getD, List.getElem?_set, if_neg h3]
    simpa only [List.getD_eq_getElem?_getD] using h j h2
  · obtain rfl : j = k := by omega
    simp only [List.getD_eq_getElem?_getD, List.getElem?_set, if_pos rfl, hk]
    simpa [hk, List.getD_eq_getElem?_getD] using hv
theorem mpl_eq {k : Nat} {us ms : List Mk} (h : (us.getD (k : Int).toNat default).eight = (ms.getD (k : Int).toNat default).eight ∧ (us.getD (k : Int).toNat default).bs.map Bk.pl = (ms.getD (k : Int).toNat default).bs.map Bk.pl) : (us.getD k default).pl = (ms.getD k default).pl := by
  simp only [Int.toNat_natCast] at h; simp only [Mk.pl, h]
theorem mpl_and {k : Nat} {us ms : List Mk} (h : (us.getD k default).pl = (ms.getD k default).pl) : (us.getD (k : Int).toNat default).eight = (ms.getD (k : Int).toNat default).eight ∧ (us.getD (k : Int).toNat default).bs.map Bk.pl = (ms.getD (k : Int).toNat default).bs.map Bk.pl := by
  simp only [Int.toNat_natCast]; simp only [Mk.pl, Prod.mk.injEq] at h; exact h
theorem mpl_bound {ms ms' : List Mk} {N : Nat} (h : ms'.map Mk.pl = ms.map Mk.pl) (hb : ∀ m ∈ ms, smallM N m) : ∀ m ∈ ms', smallM N m := fun m hm => by
  have h1 : m.pl ∈ ms.map Mk.pl := by rw [← h]; exact List.mem_map.2 ⟨m, hm, rfl⟩
  obtain ⟨x, hx, he⟩ := List.mem_map.1 h1
  have hs := hb x hx
  simp only [Mk.pl, Prod.mk.injEq] at he
  exact ⟨by rw [← map_len he.2]; exact hs.1, pl_bound he.2.symm hs.2⟩

/-- laws.szMbS -/
theorem l_szMbS (p : Option Addr) (ms : List Mk) (c : Nat) (left : Int) (w : World) (hp : RdMs w p ms c) (hs : ms.length ≤ 9223372036854775807) (hb : ∀ m ∈ ms, smallM 9223372036854775807 m) (hl : 0 ≤ left ∧ left ≤ 9223372036854775807) :
    Calls Tryz.prog 46 [.slice p ms.length c, .int .i64 left].toArray w (RetP w fun v w' => ∃ r : Int, v = .int .i64 r ∧ (r = -1 ∨ (0 ≤ r ∧ r ≤ left ∧ (ms.length : Int) ≤ left ∧ ∀ m ∈ ms, smallM left.toNat m))) := by
 have L : Exm [] w w := Exm.rfl'
 refine enter (n := 27) Tryz.func46 rfl rfl rfl ?_
 refine wp_seq (c_reg (s0 (xaI rfl) (c_end (n_then (wp_seq (c_reg (s0 (xmI rfl) (s0 (xmS rfl) (s0 (x_lensl un46FF rfl) (s0 (x_sub rfl rfl (by omega)) (s0 (xaI rfl) (c_end (n_then ?_)))))))))))))
 refine wp_seq (wp_seq (c_reg (s0 (xmI rfl) ?_)))
 refine sb (x_lss rfl rfl) (fun h11 => ?_) (fun h11 => ?_)
 ·refine c_end (n_then (c_true rfl (wp_seq (c_reg (s0 (xaI rfl) (c_end (n_then ?_)))))))
  refine wp_ret (r_then ?_)
  refine f_ret rfl rfl ?_
  exact ⟨_, rfl, L, _, rfl, .inl rfl⟩
 ·refine c_end (n_then (c_false rfl (c_skipn (n_then (wp_seq (wp_seq (c_reg (s0 (xaI rfl) (c_end (n_then (wp_block ?_)))))))))))
  refine c_loop (γ := Nat × Int) (fun g => ms.length - g.1) (fun (g : Nat × Int) E wl => ∃ E0, E = upd (upd (upd E0 0 (.slice p ms.length c)) 1 (.int .i64 g.2)) 5 (.int .i64 (g.1 : Int)) ∧ (Exm [] w wl) ∧ ((g.1 : Int) ≤ ms.length) ∧ (0 ≤ g.2 ∧ g.2 ≤ left) ∧ (∀ j : Nat, j < g.1 → smallM left.toNat (ms.getD j default))) (0, left - ms.length) ⟨_, upd_self3 rfl rfl rfl, L, (by simp), (by show 0 ≤ left - ms.length ∧ left - ms.length ≤ left; omega), (by intro j hj; simp at hj)⟩ ?_
  rintro g E wl1 ⟨E0, rfl, L, hk, hr, hall⟩
  have Lz0 := L.size
  refine wp_seq (wp_seq (c_reg (s0 (xmI rfl) (s0 (xmS rfl) (s0 (x_lensl un46FF rfl) ?_)))))
  refine sb (x_lss rfl rfl) (fun h15 => ?_) (fun h15 => ?_)
  ·refine c_end (n_then (c_true rfl (c_skipn (n_then (wp_seq (wp_block (wp_seq ?_)))))))
   have hbm := hb _ (getD_mem (xs := ms) (i := (g.1 : Int)) (by omega) (by omega)); have hbm1 := hbm.1
   refine c_reg (s0 (xmS rfl) (s0 (xmI rfl) (s0 (x_idx so46FF rfl rfl hp.1 (by decide) (by omega) (by omega)) (st (x_ldr mrow_len ag139FF rfl (hp.1.ext L) (by omega) (by omega)) (s0 (xmI rfl) ?_)))))
   refine sp (zcall cl106FF rfl) (l_szMb _ _ _ _ _ _ ((hp.2 _ (getD_mem (by omega) (by omega))).ext L) (by omega) hbm.2 (by omega)) ?_
   rintro v23 w2 l3 ⟨r23, rfl, hr23⟩
   have z_l3 := l3.size; have L := L.tr l3.up
   refine s0 (xaI rfl) (c_end (n_then (wp_seq (c_reg (s0 (xmI rfl) ?_)))))
   refine sb (x_lss rfl rfl) (fun h25 => ?_) (fun h25 => ?_)
   ·refine c_end (n_then (c_true rfl (wp_seq (c_reg (s0 (xaI rfl) (c_end (n_then ?_)))))))
    refine wp_ret (r_block (r_then (r_then (r_block (r_then ?_)))))
    refine f_ret rfl rfl ?_
    exact ⟨_, rfl, L, _, rfl, .inl rfl⟩
   ·refine c_end (n_then (c_false rfl (c_skipn (n_block (n_then (c_reg (s0 (xmI rfl) (s0 (x_add rfl rfl (by omega)) (s0 (xaI rfl) (c_end ?_))))))))))
    rw [Int.toNat_natCast] at hr23
    have hq := hr23.resolve_left (by omega)
    exact c_round (g' := (g.1 + 1, r23)) (by show ms.length - (g.1 + 1) < ms.length - g.1; omega) ⟨_, upd_self3 rfl rfl (vint (by show (g.1 : Int) + 1 = ((g.1 + 1 : Nat) : Int); omega)), L, (by show ((g.1 + 1 : Nat) : Int) ≤ _; omega), (by show 0 ≤ r23 ∧ r23 ≤ left; omega), (upto_succ' hall ⟨by omega, fun b hb2 => by have := hq.2.2.2 b hb2; omega⟩)⟩
  ·refine c_end (n_then (c_false rfl ?_))
   refine wp_exit (e_then (e_then (e_here ?_)))
   refine n_then (wp_seq (c_reg (s0 (xmI rfl) (s0 (xaI rfl) (c_end (n_then (wp_ret (f_ret rfl rfl ?_))))))))
   exact ⟨_, rfl, L, _, rfl, .inr ⟨hr.1, hr.2, by omega, all_getD fun j hj => hall j (by omega)⟩⟩

/-- laws.toMbS -/
theorem l_toMbS (p : Option Addr) (ms : List Mk) (c : Nat) (w : World) (hp : RdMs w p ms c) (hl : ms.length ≤ 1099511627776) (hb : ∀ m ∈ ms, smallM 1099511627776 m) :
    Calls Tryz.prog 53 [.slice p ms.length c].toArray w (RetP w fun v w' => ∃ p' ms' c' F', v = .slice p' ms'.length c' ∧ OwN (Km 71 3) w' 34 p' ms' c' F' ∧ Fr w.heap.size F' ∧ ms'.map Mk.pl = ms.map Mk.pl) := by
 have L : Exm [] w w := Exm.rfl'
 refine enter (n := 23) Tryz.func53 rfl rfl rfl ?_
 refine wp_seq (c_reg (s0 (xaS rfl) (c_end (n_then (wp_seq (c_reg (s0 (xmS rfl) (s0 (x_lensl un46FF rfl) (s_maker Mk.zero mrow_len so27FF zr34FF rfl rfl (by omega) (by omega) (by omega) ?_)))))))))
 intro p7 F7 w1 l2 o7 f7 g7
 have z_l2 := l2.size; have L := L.tr l2.up; have hn7 := o7.nr mrow_len (by decide)
 refine s0 (xaS rfl) (c_end (n_then (wp_seq (wp_seq (c_reg (s0 (xaI rfl) (c_end (n_then (wp_block ?_)))))))))
 refine c_loop (γ := Nat × List Mk) (fun g => ms.length - g.1) (fun (g : Nat × List Mk) E wl => ∃ E0 pz3 cz3 Fz3, E = upd (upd (upd E0 0 (.slice p ms.length c)) 3 (.slice pz3 ((g.2).length) cz3)) 4 (.int .i64 (g.1 : Int)) ∧ (Exm [] w wl) ∧ (w1.heap.size ≤ wl.heap.size) ∧ (OwN (Km 71 3) wl 34 pz3 (g.2) cz3 Fz3) ∧ (Fr (w.heap.size) Fz3) ∧ (Lt Fz3 wl.heap.size) ∧ ((g.1 : Int) ≤ ms.length) ∧ (g.2.length = ms.length) ∧ (∀ j : Nat, j < g.1 → Mk.pl (g.2.getD j default) = Mk.pl (ms.getD j default))) (0, List.replicate ms.length Mk.zero) ⟨_, _, _, _, upd_self3 rfl (by (rw [List.length_replicate]); rfl) rfl, L, (by omega), (OwN.ofZero o7 OwN.nil rfl), (f7.mono (by omega)), (g7.mono (by omega)), (by simp), (by simp), (by intro j hj; simp at hj)⟩ ?_
 rintro g E wl3 ⟨E0, pz3, cz3, Fz3, rfl, L, Lz, oz3, fz3, gz3, hk, hn, heq⟩
 have Lz0 := L.size
 refine wp_seq (wp_seq (c_reg (s0 (xmI rfl) (s0 (xmS rfl) (s0 (x_lensl un46FF rfl) ?_)))))
 refine sb (x_lss rfl rfl) (fun h11 => ?_) (fun h11 => ?_)
 ·refine c_end (n_then (c_true rfl (c_skipn (n_then (wp_seq (wp_block ?_))))))
  have hbm := hb _ (getD_mem (xs := ms) (i := (g.1 : Int)) (by omega) (by omega)); have hbm1 := hbm.1
  refine c_reg (s0 (xmS rfl) (s0 (xmI rfl) (s0 (xmS rfl) (s0 (xmI rfl) (s0 (x_idx so46FF rfl rfl hp.1 (by decide) (by omega) (by omega)) (st (x_ldr mrow_len ag139FF rfl (hp.1.ext L) (by omega) (by omega)) ?_))))))
  refine sp (zcall cl120FF rfl) (l_toMb _ _ _ _ _ ((hp.2 _ (getD_mem (by omega) (by omega))).ext L) (by omega) hbm.2) ?_
  rintro v20 w4 l5 ⟨p20, bs20, c20, F20, rfl, o20, f20, hm20⟩
  have z_l5 := l5.size; have L := L.tr l5.up; have oz3 := oz3.ext l5; have g20 := o20.lt
  refine s0 (x_idx so27FF rfl rfl oz3.sl (by decide) (by omega) (by omega)) ?_
  refine s_stoN (v := ⟨_, p20, bs20, c20, F20⟩) (K := (Km 71 3)) rfl sz34FF rfl rfl oz3 o20 (by first|assumption|exact Dj.symm (by assumption)|exact dj_of f20 g20 fz3 gz3 (by omega)) (by omega) (by omega) ?_
  intro w6 Fz3 l7 el7 oz3 ml7
  have z_l7 := l7.size; have L := L.freshL l7 fz3 (by omega); have o20 := o20.exm l7 (by first|assumption|exact Dj.symm (by assumption)|exact dj_of fz3 gz3 f20 g20 (by omega))
  have fz3 : Fr (w.heap.size) Fz3 := fun b hb => (ml7 b hb).elim (fz3 b) (f20.mono (by omega) b)
  have gz3 := oz3.lt
  refine c_end (n_block (n_then (c_reg (s0 (xmI rfl) (s0 (x_add rfl rfl (by omega)) (s0 (xaI rfl) (c_end ?_)))))))
  exact c_round (g' := (g.1 + 1, g.2.set (g.1 : Int).toNat ⟨_, p20, bs20, c20, F20⟩)) (by show ms.length - (g.1 + 1) < ms.length - g.1; omega) ⟨_, _, _, _, upd_self3 rfl (by (rw [List.length_set]); rfl) (vint (by show (g.1 : Int) + 1 = ((g.1 + 1 : Nat) : Int); omega)), L, (by omega), oz3, (fz3.mono (by omega)), (gz3.mono (by omega)), (by show ((g.1 + 1 : Nat) : Int) ≤ _; omega), (by rw [List.length_set]; exact hn), (set_uptoG Mk.pl (by omega) heq (by simp only [Mk.pl, hm20, Int.toNat_natCast]))⟩
 ·refine c_end (n_then (c_false rfl ?_))
  refine wp_exit (e_then (e_then (e_here ?_)))
  refine n_then (wp_seq (c_reg (s0 (xmS rfl) (s0 (xaS rfl) (c_end (n_then (wp_ret (f_ret rfl rfl ?_))))))))
  exact ⟨_, rfl, L, _, _, _, _, rfl, oz3, fz3.mono (by omega), map_ext hn fun j hj => heq j (by omega)⟩

/-- laws.eqMbS -/
theorem l_eqMbS (p q : Option Addr) (us ms : List Mk) (c d : Nat) (w : World) (hp : RdMs w p us c) (hq : RdMs w q ms d) (hl : us.length ≤ 1099511627776) (hb : ∀ m ∈ us, smallM 1099511627776 m) :
    Calls Tryz.prog 56 [.slice p us.length c, .slice q ms.length d].toArray w (Ret w (.bool (decide (us.map Mk.pl = ms.map Mk.pl)))) := by
 have L : Exm [] w w := Exm.rfl'
 refine enter (n := 27) Tryz.func56 rfl rfl rfl ?_
 refine wp_seq (c_reg (s0 (x_assign (v := .bool _) rfl) (c_end (n_then (wp_seq (wp_seq (c_reg (s0 (xmS rfl) (s0 (x_lensl un27FF rfl) (s0 (xmS rfl) (s0 (x_lensl un27FF rfl) ?_)))))))))))
 refine sb (x_neq rfl rfl) (fun h10 => ?_) (fun h10 => ?_)
 ·refine c_end (n_then (c_true rfl (wp_seq (c_reg (s0 (x_assign (v := .bool _) rfl) (c_end (n_then ?_)))))))
  refine wp_ret (r_then ?_)
  refine f_ret rfl rfl ?_
  exact ⟨ret_f (fun h => h10 (by rw [map_len h])), L⟩
 ·refine c_end (n_then (c_false rfl (c_skipn (n_then (wp_seq (wp_seq (c_reg (s0 (xaI rfl) (c_end (n_then (wp_block ?_)))))))))))
  refine c_loop (γ := Nat) (fun k => us.length - k) (fun (k : Nat) E wl => ∃ E0, E = upd (upd (upd E0 0 (.slice p us.length c)) 1 (.slice q ms.length d)) 5 (.int .i64 (k : Int)) ∧ (Exm [] w wl) ∧ ((k : Int) ≤ us.length) ∧ (∀ j : Nat, j < k → Mk.pl (us.getD j default) = Mk.pl (ms.getD j default))) 0 ⟨_, upd_self3 rfl rfl rfl, L, (by omega), (by intro j hj; omega)⟩ ?_
  rintro k E wl1 ⟨E0, rfl, L, hk, heq⟩
  have Lz0 := L.size
  refine wp_seq (wp_seq (c_reg (s0 (xmI rfl) (s0 (xmS rfl) (s0 (x_lensl un27FF rfl) ?_)))))
  refine sb (x_lss rfl rfl) (fun h14 => ?_) (fun h14 => ?_)
  ·refine c_end (n_then (c_true rfl (c_skipn (n_then (wp_seq (wp_block (wp_seq ?_)))))))
   have hbm := hb _ (getD_mem (xs := us) (i := (k : Int)) (by omega) (by omega)); have hbm1 := hbm.1; have hbm2 := hbm.2
   refine c_plan (fun wq => Exm [] wl1 wq) 10 (.cons (0, 2) (.cons (1, 2) (.cons (2, 2) (.cons (3, 1) (.cons (4, 2) (.cons (5, 2) (.cons (6, 2) (.cons (7, 1) (.cons (8, 0) (.cons (9, 2) .nil)))))))))) (by kernel_rfl) (by kernel_rfl) (Exm.drew _) ?_
   obtain ⟨w2, hwd⟩ : ∃ x, x = wl1.drew := ⟨_, rfl⟩
   have l3 : Ext wl1 w2 := by rw [hwd]; exact Exm.drew _
   rw [← hwd]; clear hwd
   have Lq : Exm [] wl1 w2 := l3.up; have qL := L; have z_l3 := l3.size; have L := L.tr l3.up
   refine p0 rfl (xmS rfl) (p0 rfl (xmI rfl) (p0 rfl (x_idx so27FF rfl rfl hp.1 (by decide) (by omega) (by omega)) ?_))
   refine ps rfl (fun wq hwq => x_ldr mrow_len ag34FF rfl ((hp.1.ext qL).ext hwq) (by omega) (by omega)) ?_
   refine p0 rfl (xmS rfl) (p0 rfl (xmI rfl) (p0 rfl (x_idx so27FF rfl rfl hq.1 (by decide) (by omega) (by omega)) ?_))
   refine ps rfl (fun wq hwq => x_ldr mrow_len ag34FF rfl ((hq.1.ext qL).ext hwq) (by omega) (by omega)) ?_
   refine pu rfl ?_ (by rintro ⟨_, _, h, _⟩; cases h)
   refine srb (zcall cl121FF rfl) (l_eqMb _ _ _ _ _ _ _ _ _ ((hp.2 _ (getD_mem (by omega) (by omega))).ext L) ((hq.2 _ (getD_mem (by omega) (by omega))).ext L) (by omega) hbm.2) (fun h25 w4 l5 => ?_) (fun h25 w4 l5 => ?_)
   ·have z_l5 := l5.size
    have L := L.tr l5.up; have Lq := Lq.tr l5.up
    refine c_end ⟨rfl, fun h hS => Lq, ?_⟩
    refine p0 rfl (x_not rfl) ?_
    refine p_nil (np_normal ?_)
    refine n_then (c_false rfl (c_skipn (n_block (n_then (c_reg (s0 (xmI rfl) (s0 (x_add rfl rfl (by omega)) (s0 (xaI rfl) (c_end ?_)))))))))
    exact c_round (g' := k + 1) (by omega) ⟨_, upd_self3 rfl rfl (vint (by omega)), L, (by omega), (upto_succ' heq (mpl_eq h25))⟩
   ·have z_l5 := l5.size
    have L := L.tr l5.up; have Lq := Lq.tr l5.up
    refine c_end ⟨rfl, fun h hS => Lq, ?_⟩
    refine p0 rfl (x_not rfl) ?_
    refine p_nil (np_normal ?_)
    refine n_then (c_true rfl (wp_seq (c_reg (s0 (x_assign (v := .bool _) rfl) (c_end (n_then ?_))))))
    refine wp_ret (r_block (r_then (r_then (r_block (r_then ?_)))))
    refine f_ret rfl rfl ?_
    exact ⟨ret_f (fun h => h25 (mpl_and (map_get h k))), L⟩
  ·refine c_end (n_then (c_false rfl ?_))
   refine wp_exit (e_then (e_then (e_here ?_)))
   refine n_then (wp_seq (c_reg (s0 (x_assign (v := .bool _) rfl) (c_end (n_then (wp_ret (f_ret rfl rfl ?_)))))))
   exact ⟨ret_t (map_ext (by omega) fun j hj => heq j (by omega)), L⟩

/-- laws.szStream -/
theorem l_szStream (a b q : Int) (y z : Bool) (r : Option Addr) (xs : List Int) (e : Nat) (p : Option Addr) (ms : List Mk) (c : Nat) (left : Int) (w : World) (hp : RdMs w p ms c) (hs0 : xs.length ≤ 9223372036854775807) (hs : ms.length ≤ 9223372036854775807) (hb : ∀ m ∈ ms, smallM 9223372036854775807 m) (hl : 0 ≤ left ∧ left ≤ 9223372036854775807) :
    Calls Tryz.prog 17 [.agg [.int .i64 a, .int .i64 b, .int .i64 q, .bool y, .bool z, .slice r xs.length e, .slice p ms.length c].toArray, .int .i64 left].toArray w (RetP w fun v w' => ∃ r : Int, v = .int .i64 r ∧ (r = -1 ∨ (0 ≤ r ∧ r ≤ left ∧ (xs.length : Int) ≤ left ∧ (ms.length : Int) ≤ left ∧ ∀ m ∈ ms, smallM left.toNat m))) := by
 have L : Exm [] w w := Exm.rfl'
 refine enter (n := 18) Tryz.func17 rfl rfl rfl ?_
 refine wp_seq (c_reg (s_box rfl rfl ?_))
 intro b1 w2 lob1 hib1 l3 B1
 have z_l3 := l3.size; have L := L.tr l3.up
 refine s0 (xaI rfl) (c_end (n_then (wp_seq (c_reg (s0 (x_fieldAddr fa48_0FF rfl) (st (x_loadIn ag45FF rfl B1 [.int _ _, .int _ _, .int _ _, .bool _, .bool _, .slice _ _ _] rfl rfl) (s0 (xmI rfl) ?_)))))))
 refine sr (zcall cl45FF rfl) (l_szHeader _ _ _ _ _ _ _ _ _ _ (by omega) (by omega)) ?_
 intro w4 l5
 have z_l5 := l5.size; have L := L.tr l5.up; have B1 := B1.ext l5
 refine s0 (xaI rfl) (c_end (n_then (wp_seq (wp_seq (c_reg (s0 (xmI rfl) ?_))))))
 refine sb (x_lss rfl rfl) (fun h10 => ?_) (fun h10 => ?_)
 ·refine c_end (n_then (c_true rfl (wp_seq (c_reg (s0 (xaI rfl) (c_end (n_then ?_)))))))
  refine wp_ret (r_then ?_)
  refine f_ret rfl rfl ?_
  exact ⟨_, rfl, L, _, rfl, .inl rfl⟩
 ·refine c_end (n_then (c_false rfl (c_skipn (n_then (wp_seq ?_)))))
  have h8 := sz_in h10
  refine c_reg (s0 (x_fieldAddr fa48_1FF rfl) (st (x_loadB sc46FF rfl B1 rfl) (s0 (xmI rfl) ?_)))
  refine sp (zcall cl46FF rfl) (l_szMbS _ _ _ _ _ (hp.ext L) (by omega) hb (by omega)) ?_
  rintro v14 w6 l7 ⟨r14, rfl, hr14⟩
  have z_l7 := l7.size; have L := L.tr l7.up
  refine s0 (xaI rfl) (c_end (n_then (wp_seq (wp_seq (c_reg (s0 (xmI rfl) ?_))))))
  refine sb (x_lss rfl rfl) (fun h16 => ?_) (fun h16 => ?_)
  ·refine c_end (n_then (c_true rfl (wp_seq (c_reg (s0 (xaI rfl) (c_end (n_then ?_)))))))
   refine wp_ret (r_then ?_)
   refine f_ret rfl rfl ?_
   exact ⟨_, rfl, L, _, rfl, .inl rfl⟩
  ·refine c_end (n_then (c_false rfl (c_skipn (n_then (wp_seq ?_)))))
   have hq := hr14.resolve_left (by omega)
   refine c_reg (s0 (xmI rfl) (s0 (xaI rfl) (c_end (n_then (wp_ret (f_ret rfl rfl ?_))))))
   exact ⟨_, rfl, L, _, rfl, .inr ⟨by omega, by omega, by omega, by omega, fun m hm => ⟨by have := (hq.2.2.2 m hm).1; omega, fun b hb2 => by have := (hq.2.2.2 m hm).2 b hb2; omega⟩⟩⟩

/-- laws.eqStream -/
theorem l_eqStream (a b q : Int) (y z : Bool) (r : Option Addr) (xs : List Int) (e : Nat) (p : Option Addr) (ms : List Mk) (c : Nat) (a' b' q' : Int) (y' z' : Bool) (r' : Option Addr) (xs' : List Int) (e' : Nat) (p' : Option Addr) (us : List Mk) (c' : Nat) (w : World) (hx : Sl w r xs.length e 1 (ic xs)) (hp : RdMs w p ms c) (hx' : Sl w r' xs'.length e' 1 (ic xs')) (hp' : RdMs w p' us c') (hl0 : xs.length ≤ 1099511627776) (hl : ms.length ≤ 1099511627776) (hb : ∀ m ∈ ms, smallM 1099511627776 m) :
    Calls Tryz.prog 21 [.agg [.int .i64 a, .int .i64 b, .int .i64 q, .bool y, .bool z, .slice r xs.length e, .slice p ms.length c].toArray, .agg [.int .i64 a', .int .i64 b', .int .i64 q', .bool y', .bool z', .slice r' xs'.length e', .slice p' us.length c'].toArray].toArray w (Ret w (.bool (decide (a = a' ∧ b = b' ∧ q = q' ∧ y = y' ∧ z = z' ∧ xs = xs' ∧ ms.map Mk.pl = us.map Mk.pl)))) := by
 have L : Exm [] w w := Exm.rfl'
 refine enter (n := 17) Tryz.func21 rfl rfl rfl ?_
 refine wp_seq (c_reg (s_box rfl rfl ?_))
 intro b1 w2 lob1 hib1 l3 B1
 have z_l3 := l3.size; have L := L.tr l3.up
 refine s_box rfl rfl ?_
 intro b4 w5 lob4 hib4 l6 B4
 have z_l6 := l6.size; have L := L.tr l6.up; have B1 := B1.ext l6
 refine s0 (x_assign (v := .bool _) rfl) (c_end (n_then (wp_seq (wp_seq (c_reg (s0 (x_fieldAddr fa29_0FF rfl) (st (x_loadIn ag26FF rfl B1 [.int _ _, .int _ _, .int _ _, .bool _, .bool _, .slice _ _ _] rfl rfl) (s0 (x_fieldAddr fa29_0FF rfl) (st (x_loadIn ag26FF rfl B4 [.int _ _, .int _ _, .int _ _, .bool _, .bool _, .slice _ _ _] rfl rfl) ?_)))))))))
 refine srb (zcall cl55FF rfl) (l_eqHeader _ _ _ _ _ _ _ _ _ _ _ _ _ _ _ _ _ (hx.ext L) (hx'.ext L) (by omega)) (fun h9 w7 l8 => ?_) (fun h9 w7 l8 => ?_)
 ·have z_l8 := l8.size
  have L := L.tr l8.up; have B1 := B1.ext l8; have B4 := B4.ext l8
  refine s0 (x_not rfl) (c_end (n_then (c_false rfl (c_skipn (n_then (wp_seq (wp_seq (c_reg (s0 (x_fieldAddr fa29_1FF rfl) (st (x_loadB sc27FF rfl B1 rfl) (s0 (x_fieldAddr fa29_1FF rfl) (st (x_loadB sc27FF rfl B4 rfl) ?_))))))))))))
  refine srb (zcall cl56FF rfl) (l_eqMbS _ _ _ _ _ _ _ (hp.ext L) (hp'.ext L) (by omega) (by assumption)) (fun h15 w9 l10 => ?_) (fun h15 w9 l10 => ?_)
  ·have z_l10 := l10.size
   have L := L.tr l10.up
   refine s0 (x_not rfl) (c_end (n_then (c_false rfl (c_skipn (n_then (wp_seq (c_reg (s0 (x_assign (v := .bool _) rfl) (c_end (n_then (wp_ret (f_ret rfl rfl ?_))))))))))))
   exact ⟨ret_t (by simp_all), L⟩
  ·have z_l10 := l10.size
   have L := L.tr l10.up
   refine s0 (x_not rfl) (c_end (n_then (c_true rfl (wp_seq (c_reg (s0 (x_assign (v := .bool _) rfl) (c_end (n_then ?_))))))))
   refine wp_ret (r_then ?_)
   refine f_ret rfl rfl ?_
   exact ⟨ret_f (by simp_all), L⟩
 ·have z_l8 := l8.size
  have L := L.tr l8.up
  refine s0 (x_not rfl) (c_end (n_then (c_true rfl (wp_seq (c_reg (s0 (x_assign (v := .bool _) rfl) (c_end (n_then ?_))))))))
  refine wp_ret (r_then ?_)
  refine f_ret rfl rfl ?_
  exact ⟨ret_f (by simp_all), L⟩

end Go.Proofs.YtepnknffaecbdaaGreat
