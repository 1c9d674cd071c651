/- What each function of this part returns, for every argument that meets its premises. -/
import Derived.Test.YtepnknffaecbdaaGreatProg
import Derived.Test.YtepnknffaecbdaaGreatVSxA
import Derived.Test.YtepnknffaecbdaaGreatVPlA
import Derived.Test.YtepnknffaecbdaaGreatVF4
namespace Go.Proofs.YtepnknffaecbdaaGreat
open Go.Sx Go.Pl Go.RowKit
theorem ag193F7 : Ag Tryz.prog 193 2 := ⟨⟨_, Tryz.underlying193⟩, by kernel_rfl⟩
theorem ag34F7 : Ag Tryz.prog 34 2 := ⟨⟨_, Tryz.underlying34⟩, by kernel_rfl⟩
theorem ag71F7 : Ag Tryz.prog 71 2 := ⟨⟨_, Tryz.underlying71⟩, by kernel_rfl⟩
theorem cl105F7 : Callable Tryz.prog 105 := callable Tryz.func105 (by kernel_rfl) rfl
theorem cl119F7 : Callable Tryz.prog 119 := callable Tryz.func119 (by kernel_rfl) rfl
theorem cl163F7 : Callable Tryz.prog 163 := callable Tryz.func163 (by kernel_rfl) rfl
theorem cl174F7 : Callable Tryz.prog 174 := callable Tryz.func174 (by kernel_rfl) rfl
theorem cl175F7 : Callable Tryz.prog 175 := callable Tryz.func175 (by kernel_rfl) rfl
theorem cl209F7 : Callable Tryz.prog 209 := callable Tryz.func209 (by kernel_rfl) rfl
theorem cl219F7 : Callable Tryz.prog 219 := callable Tryz.func219 (by kernel_rfl) rfl
theorem cl220F7 : Callable Tryz.prog 220 := callable Tryz.func220 (by kernel_rfl) rfl
theorem cl54F7 : Callable Tryz.prog 54 := callable Tryz.func54 (by kernel_rfl) rfl
theorem fa139_0F7 : FieldAt Tryz.prog 139 0 0 := ⟨_, _, Tryz.underlying139, rfl, rfl, ⟨0, by unfold Sz; kernel_rfl⟩⟩
theorem fa139_1F7 : FieldAt Tryz.prog 139 1 1 := ⟨_, _, Tryz.underlying139, rfl, rfl, ⟨0, by unfold Sz; kernel_rfl⟩⟩
theorem fa193_0F7 : FieldAt Tryz.prog 193 0 0 := ⟨_, _, Tryz.underlying193, rfl, rfl, ⟨0, by unfold Sz; kernel_rfl⟩⟩
theorem fa193_1F7 : FieldAt Tryz.prog 193 1 1 := ⟨_, _, Tryz.underlying193, rfl, rfl, ⟨0, by unfold Sz; kernel_rfl⟩⟩
theorem fa34_0F7 : FieldAt Tryz.prog 34 0 0 := ⟨_, _, Tryz.underlying34, rfl, rfl, ⟨0, by unfold Sz; kernel_rfl⟩⟩
theorem fa34_1F7 : FieldAt Tryz.prog 34 1 1 := ⟨_, _, Tryz.underlying34, rfl, rfl, ⟨0, by unfold Sz; kernel_rfl⟩⟩
theorem fa71_0F7 : FieldAt Tryz.prog 71 0 0 := ⟨_, _, Tryz.underlying71, rfl, rfl, ⟨0, by unfold Sz; kernel_rfl⟩⟩
theorem fa71_1F7 : FieldAt Tryz.prog 71 1 1 := ⟨_, _, Tryz.underlying71, rfl, rfl, ⟨0, by unfold Sz; kernel_rfl⟩⟩
theorem sc137F7 : Sc Tryz.prog 137 := ⟨(.slice 193), by kernel_rfl, trivial⟩
theorem sc24F7 : Sc Tryz.prog 24 := ⟨(.slice 3), by kernel_rfl, trivial⟩
theorem sc3F7 : Sc Tryz.prog 3 := ⟨(.int .i64), by kernel_rfl, trivial⟩
theorem sc32F7 : Sc Tryz.prog 32 := ⟨(.slice 71), by kernel_rfl, trivial⟩
theorem sc4F7 : Sc Tryz.prog 4 := ⟨.bool, by kernel_rfl, trivial⟩
theorem so137F7 : SliceOf Tryz.prog 137 193 2 32 := ⟨by kernel_rfl, by kernel_rfl⟩
theorem so32F7 : SliceOf Tryz.prog 32 71 2 32 := ⟨by kernel_rfl, by kernel_rfl⟩
theorem sz24F7 : Sz Tryz.prog 24 1 := by unfold Sz; kernel_rfl
theorem sz3F7 : Sz Tryz.prog 3 1 := by unfold Sz; kernel_rfl
theorem sz32F7 : Sz Tryz.prog 32 1 := by unfold Sz; kernel_rfl
theorem sz34F7 : Sz Tryz.prog 34 2 := by unfold Sz; kernel_rfl
theorem sz4F7 : Sz Tryz.prog 4 1 := by unfold Sz; kernel_rfl
theorem sz71F7 : Sz Tryz.prog 71 2 := by unfold Sz; kernel_rfl
theorem un137F7 : Tryz.prog.underlying 137 = some (.slice 193) := by kernel_rfl
theorem un32F7 : Tryz.prog.underlying 32 = some (.slice 71) := by kernel_rfl
theorem un4F7 : Tryz.prog.underlying 4 = some .bool := by kernel_rfl
theorem zr34F7 : ZeroV Tryz.prog 34 [.bool false, .slice none 0 0] := by unfold ZeroV; kernel_rfl
theorem zr71F7 : ZeroV Tryz.prog 71 [.int .i64 0, .slice none 0 0] := by unfold ZeroV; kernel_rfl
/-- laws.szBlock -/
theorem l_szBlock (m : Int) (p : Option Addr) (n c : Nat) (left : Int) (w : World) (hs : n ≤ 9223372036854775807) (hl : 0 ≤ left ∧ left ≤ 9223372036854775807) :
    Calls Tryz.prog 209 [.agg [.int .i64 m, .slice p n c].toArray, .int .i64 left].toArray w (Ret w (.int .i64 (szOf left n))) := by
 have L : Exm [] w w := Exm.rfl'
 refine enter (n := 12) Tryz.func209 rfl rfl rfl ?_
 refine wp_seq (c_reg (s_box rfl rfl ?_))
 intro b1 w2 lob1 hib1 l3 B1
 have z_l3 := l3.size; have L := L.tr l3.up
 refine s0 (xaI rfl) (c_end (n_then (wp_seq (c_reg (s0 (x_fieldAddr fa193_1F7 rfl) (st (x_loadB sc24F7 rfl B1 rfl) (s0 (xmI rfl) ?_)))))))
 refine sr (zcall cl105F7 rfl) (l_szIntS _ _ _ _ _ (by omega) (by omega)) ?_
 intro w4 l5
 have z_l5 := l5.size; have L := L.tr l5.up
 refine s0 (xaI rfl) (c_end (n_then (wp_seq (wp_seq (c_reg (s0 (xmI rfl) ?_))))))
 refine sb (x_lss rfl rfl) (fun h10 => ?_) (fun h10 => ?_)
 ·refine c_end (n_then (c_true rfl (wp_seq (c_reg (s0 (xaI rfl) (c_end (n_then ?_)))))))
  refine wp_ret (r_then ?_)
  refine f_ret rfl rfl ?_
  exact ⟨ret_int (by unfold szOf at h10 ⊢; split at h10 <;> simp_all <;> omega), L⟩
 ·refine c_end (n_then (c_false rfl (c_skipn (n_then (wp_seq (c_reg (s0 (xmI rfl) (s0 (xaI rfl) (c_end (n_then (wp_ret (f_ret rfl rfl ?_))))))))))))
  exact ⟨rfl, L⟩

/-- laws.toBlock -/
theorem l_toBlock (m : Int) (p : Option Addr) (xs : List Int) (c : Nat) (w : World) (hp : Sl w p xs.length c 1 (ic xs)) (hl : xs.length ≤ 1099511627776) :
    Calls Tryz.prog 219 [.agg [.int .i64 m, .slice p xs.length c].toArray].toArray w (RetP w fun v w' => ∃ p' c' F', v = .agg [.int .i64 m, .slice p' xs.length c'].toArray ∧ Own w' p' xs.length c' 3 1 (ic xs) F' ∧ Fr w.heap.size F') := by
 have L : Exm [] w w := Exm.rfl'
 refine enter (n := 12) Tryz.func219 rfl rfl rfl ?_
 refine wp_seq (c_reg (s_box rfl rfl ?_))
 intro b1 w2 lob1 hib1 l3 B1
 have z_l3 := l3.size; have L := L.tr l3.up
 refine s_alloc zr71F7 ?_
 intro b4 w5 lob4 hib4 l6 B4
 have z_l6 := l6.size; have L := L.tr l6.up; have B1 := B1.ext l6
 refine c_end (n_then (wp_seq (c_reg (s_alloc zr71F7 ?_))))
 intro b7 w8 lob7 hib7 l9 B7
 have z_l9 := l9.size; have L := L.tr l9.up; have B1 := B1.ext l9; have B4 := B4.ext l9
 refine c_end (n_then (wp_seq (c_reg (s0 (x_fieldAddr fa193_0F7 rfl) (st (x_loadB sc3F7 rfl B1 rfl) (s0 (x_fieldAddr fa71_0F7 rfl) ?_))))))
 refine s_store (v := .int _ _) (cs' := [_, _]) rfl sz3F7 rfl rfl rfl rfl B7 rfl rfl ?_
 intro w10 l11 el11 B7
 have z_l11 := l11.size; have L := L.fresh l11 (by omega); have B1 := B1.ne l11 (by omega); have B4 := B4.ne l11 (by omega)
 refine c_end (n_then (wp_seq (c_reg (s0 (x_fieldAddr fa193_1F7 rfl) (st (x_loadB sc24F7 rfl B1 rfl) ?_)))))
 refine sp (zcall cl119F7 rfl) (l_toIntS _ _ _ _ (hp.ext L) (by omega)) ?_
 rintro v9 w12 l13 ⟨p9, c9, F9, rfl, o9, f9⟩
 have z_l13 := l13.size; have L := L.tr l13.up; have B1 := B1.ext l13; have B4 := B4.ext l13; have B7 := B7.ext l13; have g9 := o9.lt
 refine s0 (x_fieldAddr fa71_1F7 rfl) ?_
 refine s_store (v := .slice _ _ _) (cs' := [_, _]) rfl sz24F7 rfl rfl rfl rfl B7 rfl rfl ?_
 intro w14 l15 el15 B7
 have z_l15 := l15.size; have L := L.fresh l15 (by omega); have B1 := B1.ne l15 (by omega); have B4 := B4.ne l15 (by omega); have o9 := o9.ne l15 (by first|assumption|exact nin_of f9 g9 (by omega))
 refine c_end (n_then (wp_seq (c_reg (st (x_loadAgB ag71F7 rfl B7 rfl) (s_storeAg rfl sz71F7 rfl rfl B4 rfl rfl rfl ?_)))))
 intro w16 l17 el17 B4
 have z_l17 := l17.size; have L := L.fresh l17 (by omega); have B1 := B1.ne l17 (by omega); have B7 := B7.ne l17 (by omega); have o9 := o9.ne l17 (by first|assumption|exact nin_of f9 g9 (by omega))
 refine c_end (n_then (wp_ret (f_retc rfl rfl ag71F7 B4 rfl ?_)))
 exact ⟨_, rfl, L, _, _, _, rfl, o9, f9.mono (by omega)⟩

/-- laws.eqBlock -/
theorem l_eqBlock (m m' : Int) (p q : Option Addr) (xs ys : List Int) (c d : Nat) (w : World) (hp : Sl w p xs.length c 1 (ic xs)) (hq : Sl w q ys.length d 1 (ic ys)) (hl : xs.length ≤ 1099511627776) :
    Calls Tryz.prog 220 [.agg [.int .i64 m, .slice p xs.length c].toArray, .agg [.int .i64 m', .slice q ys.length d].toArray].toArray w (Ret w (.bool (decide (m = m' ∧ xs = ys)))) := by
 have L : Exm [] w w := Exm.rfl'
 refine enter (n := 16) Tryz.func220 rfl rfl rfl ?_
 refine wp_seq (c_reg (s_box rfl rfl ?_))
 intro b1 w2 lob1 hib1 l3 B1
 have z_l3 := l3.size; have L := L.tr l3.up
 refine s_box rfl rfl ?_
 intro b4 w5 lob4 hib4 l6 B4
 have z_l6 := l6.size; have L := L.tr l6.up; have B1 := B1.ext l6
 refine s0 (x_assign (v := .bool _) rfl) (c_end (n_then (wp_seq (wp_seq (c_reg (s0 (x_fieldAddr fa71_0F7 rfl) (st (x_loadB sc3F7 rfl B1 rfl) (s0 (x_fieldAddr fa71_0F7 rfl) (st (x_loadB sc3F7 rfl B4 rfl) ?_)))))))))
 refine sb (x_neq rfl rfl) (fun h9 => ?_) (fun h9 => ?_)
 ·refine c_end (n_then (c_true rfl (wp_seq (c_reg (s0 (x_assign (v := .bool _) rfl) (c_end (n_then ?_)))))))
  refine wp_ret (r_then ?_)
  refine f_ret rfl rfl ?_
  exact ⟨ret_f (by simp_all), L⟩
 ·refine c_end (n_then (c_false rfl (c_skipn (n_then (wp_seq (wp_seq (c_reg (s0 (x_fieldAddr fa71_1F7 rfl) (st (x_loadB sc24F7 rfl B1 rfl) (s0 (x_fieldAddr fa71_1F7 rfl) (st (x_loadB sc24F7 rfl B4 rfl) ?_)))))))))))
  refine srb (zcall cl54F7 rfl) (l_eqIntS _ _ _ _ _ _ _ (hp.ext L) (hq.ext L) (by omega)) (fun h14 w7 l8 => ?_) (fun h14 w7 l8 => ?_)
  ·have z_l8 := l8.size
   have L := L.tr l8.up
   refine s0 (x_not rfl) (c_end (n_then (c_false rfl (c_skipn (n_then (wp_seq (c_reg (s0 (x_assign (v := .bool _) rfl) (c_end (n_then (wp_ret (f_ret rfl rfl ?_))))))))))))
   exact ⟨ret_t (by simp_all), L⟩
  ·have z_l8 := l8.size
   have L := L.tr l8.up
   refine s0 (x_not rfl) (c_end (n_then (c_true rfl (wp_seq (c_reg (s0 (x_assign (v := .bool _) rfl) (c_end (n_then ?_))))))))
   refine wp_ret (r_then ?_)
   refine f_ret rfl rfl ?_
   exact ⟨ret_f (by simp_all), L⟩

theorem upto_le {bs : List Bk} {k : Nat} {m : Int} (h : ∀ j : Nat, j < k → ((bs.getD j default).lv.length : Int) ≤ m) (h1 : ((bs.getD k default).lv.length : Int) ≤ m) : ∀ j : Nat, j < k + 1 → ((bs.getD j default).lv.length : Int) ≤ m := fun j hj => by
  rcases Nat.lt_or_ge j k with h2 | h2
  · exact h j h2
  · obtain rfl : j = k := by omega
    exact h1
theorem all_getD {α : Type} [Inhabited α] {xs : List α} {φ : α → Prop} (h : ∀ j : Nat, j < xs.length → φ (xs.getD j default)) : ∀ x ∈ xs, φ x := fun x hx => by
  obtain ⟨j, hj, rfl⟩ := List.mem_iff_getElem.1 hx
  have := h j hj
  simpa [List.getD, hj] using this
theorem map_ext {α β : Type} [Inhabited α] {f : α → β} {xs ys : List α} (hl : xs.length = ys.length) (h : ∀ j : Nat, j < xs.length → f (xs.getD j default) = f (ys.getD j default)) : xs.map f = ys.map f := by
  apply List.ext_getElem
  · simp [hl]
  · intro j h1 h2
    have := h j (by simpa using h1)
    have h3 : j < xs.length := by simpa using h1
    have h4 : j < ys.length := by simpa using h2
    simpa [List.getD, h3, h4] using this
theorem map_get {α β : Type} [Inhabited α] {f : α → β} {xs ys : List α} (h : xs.map f = ys.map f) (j : Nat) : f (xs.getD j default) = f (ys.getD j default) := by
  have h1 : (xs.map f)[j]? = (ys.map f)[j]? := by rw [h]
  simp only [List.getElem?_map] at h1
  simp only [List.getD_eq_getElem?_getD]
  cases hx : xs[j]? with
  | none => rw [hx] at h1; cases hy : ys[j]? with
    | none => rfl
    | some y => rw [hy] at h1; cases h1
  | some x => rw [hx] at h1; cases hy : ys[j]? with
    | none => rw [hy] at h1; cases h1
    | some y => rw [hy] at h1; simpa using h1
theorem map_len {α β : Type} {f : α → β} {xs ys : List α} (h : xs.map f = ys.map f) : xs.length = ys.length := by
  have := congrArg List.length h; simpa using this
theorem upto_succ' {φ : Nat → Prop} {k : Nat} (h : ∀ j : Nat, j < k → φ j) (h1 : φ k) : ∀ j : Nat, j < k + 1 → φ j := fun j hj => by
  rcases Nat.lt_or_ge j k with h2 | h2
  · exact h j h2
  · obtain rfl : j = k := by omega
    exact h1

/-- laws.szBlockS -/
theorem l_szBlockS (p : Option Addr) (bs : List Bk) (c : Nat) (left : Int) (w : World) (hp : RdBs w p bs c) (hs : bs.length ≤ 9223372036854775807) (hb : ∀ b ∈ bs, b.lv.length ≤ 9223372036854775807) (hl : 0 ≤ left ∧ left ≤ 9223372036854775807) :
    Calls Tryz.prog 163 [.slice p bs.length c, .int .i64 left].toArray w (RetP w fun v w' => ∃ r : Int, v = .int .i64 r ∧ (r = -1 ∨ (0 ≤ r ∧ r ≤ left ∧ (bs.length : Int) ≤ left ∧ ∀ b ∈ bs, (b.lv.length : Int) ≤ left))) := by
 have L : Exm [] w w := Exm.rfl'
 refine enter (n := 27) Tryz.func163 rfl rfl rfl ?_
 refine wp_seq (c_reg (s0 (xaI rfl) (c_end (n_then (wp_seq (c_reg (s0 (xmI rfl) (s0 (xmS rfl) (s0 (x_lensl un137F7 rfl) (s0 (x_sub rfl rfl (by omega)) (s0 (xaI rfl) (c_end (n_then ?_)))))))))))))
 refine wp_seq (wp_seq (c_reg (s0 (xmI rfl) ?_)))
 refine sb (x_lss rfl rfl) (fun h11 => ?_) (fun h11 => ?_)
 ·refine c_end (n_then (c_true rfl (wp_seq (c_reg (s0 (xaI rfl) (c_end (n_then ?_)))))))
  refine wp_ret (r_then ?_)
  refine f_ret rfl rfl ?_
  exact ⟨_, rfl, L, _, rfl, .inl rfl⟩
 ·refine c_end (n_then (c_false rfl (c_skipn (n_then (wp_seq (wp_seq (c_reg (s0 (xaI rfl) (c_end (n_then (wp_block ?_)))))))))))
  refine c_loop (γ := Nat × Int) (fun g => bs.length - g.1) (fun (g : Nat × Int) E wl => ∃ E0, E = upd (upd (upd E0 0 (.slice p bs.length c)) 1 (.int .i64 g.2)) 5 (.int .i64 (g.1 : Int)) ∧ (Exm [] w wl) ∧ ((g.1 : Int) ≤ bs.length) ∧ (0 ≤ g.2 ∧ g.2 ≤ left) ∧ (∀ j : Nat, j < g.1 → ((bs.getD j default).lv.length : Int) ≤ left)) (0, left - bs.length) ⟨_, upd_self3 rfl rfl rfl, L, (by simp), (by show 0 ≤ left - bs.length ∧ left - bs.length ≤ left; omega), (by intro j hj; simp at hj)⟩ ?_
  rintro g E wl1 ⟨E0, rfl, L, hk, hr, hall⟩
  have Lz0 := L.size
  refine wp_seq (wp_seq (c_reg (s0 (xmI rfl) (s0 (xmS rfl) (s0 (x_lensl un137F7 rfl) ?_)))))
  refine sb (x_lss rfl rfl) (fun h15 => ?_) (fun h15 => ?_)
  ·refine c_end (n_then (c_true rfl (c_skipn (n_then (wp_seq (wp_block (wp_seq ?_)))))))
   have hbk := hb _ (getD_mem (xs := bs) (i := (g.1 : Int)) (by omega) (by omega))
   refine c_reg (s0 (xmS rfl) (s0 (xmI rfl) (s0 (x_idx so137F7 rfl rfl hp.1 (by decide) (by omega) (by omega)) (st (x_ldr brow_len ag193F7 rfl (hp.1.ext L) (by omega) (by omega)) (s0 (xmI rfl) ?_)))))
   refine sr (zcall cl209F7 rfl) (l_szBlock _ _ _ _ _ _ (by omega) (by omega)) ?_
   intro w2 l3
   have z_l3 := l3.size; have L := L.tr l3.up
   refine s0 (xaI rfl) (c_end (n_then (wp_seq (c_reg (s0 (xmI rfl) ?_)))))
   refine sb (x_lss rfl rfl) (fun h25 => ?_) (fun h25 => ?_)
   ·refine c_end (n_then (c_true rfl (wp_seq (c_reg (s0 (xaI rfl) (c_end (n_then ?_)))))))
    refine wp_ret (r_block (r_then (r_then (r_block (r_then ?_)))))
    refine f_ret rfl rfl ?_
    exact ⟨_, rfl, L, _, rfl, .inl rfl⟩
   ·refine c_end (n_then (c_false rfl (c_skipn (n_block (n_then (c_reg (s0 (xmI rfl) (s0 (x_add rfl rfl (by omega)) (s0 (xaI rfl) (c_end ?_))))))))))
    exact c_round (g' := (g.1 + 1, szOf g.2 (bs.getD (g.1 : Int).toNat default).lv.length)) (by show bs.length - (g.1 + 1) < bs.length - g.1; omega) ⟨_, upd_self3 rfl rfl (vint (by show (g.1 : Int) + 1 = ((g.1 + 1 : Nat) : Int); omega)), L, (by show ((g.1 + 1 : Nat) : Int) ≤ _; omega), (by have hq := sz_in h25; show 0 ≤ szOf g.2 _ ∧ szOf g.2 _ ≤ left; omega), (upto_le hall (by have hq := sz_in h25; rw [Int.toNat_natCast] at hq; omega))⟩
  ·refine c_end (n_then (c_false rfl ?_))
   refine wp_exit (e_then (e_then (e_here ?_)))
   refine n_then (wp_seq (c_reg (s0 (xmI rfl) (s0 (xaI rfl) (c_end (n_then (wp_ret (f_ret rfl rfl ?_))))))))
   exact ⟨_, rfl, L, _, rfl, .inr ⟨hr.1, hr.2, by omega, all_getD fun j hj => hall j (by omega)⟩⟩

theorem set_upto {xs ys : List Bk} {k : Nat} {v : Bk} (hk : k < xs.length) (h : ∀ j : Nat, j < k → (xs.getD j default).pl = (ys.getD j default).pl) (hv : v.pl = (ys.getD k default).pl) : ∀ j : Nat, j < k + 1 → ((xs.set (k : Int).toNat v).getD j default).pl = (ys.getD j default).pl := fun j hj => by
  rw [Int.toNat_natCast]
  rcases Nat.lt_or_ge j k with h2 | h2
  · have h3 : k ≠ j := by omega
    simp only [List.getD_eq_getElem?_getD, List.getElem?_set, if_neg h3]
    simpa only [List.getD_eq_getElem?_getD] using h j h2
  · obtain rfl : j = k := by omega
    simp only [List.getD_eq_getElem?_getD, List.getElem?_set, if_pos rfl, hk]
    simpa [hk, List.getD_eq_getElem?_getD] using hv

/-- laws.toBlockS -/
theorem l_toBlockS (p : Option Addr) (bs : List Bk) (c : Nat) (w : World) (hp : RdBs w p bs c) (hl : bs.length ≤ 1099511627776) (hb : ∀ b ∈ bs, b.lv.length ≤ 1099511627776) :
    Calls Tryz.prog 174 [.slice p bs.length c].toArray w (RetP w fun v w' => ∃ p' bs' c' F', v = .slice p' bs'.length c' ∧ OwN (Kb 3) w' 71 p' bs' c' F' ∧ Fr w.heap.size F' ∧ bs'.map Bk.pl = bs.map Bk.pl) := by
 have L : Exm [] w w := Exm.rfl'
 refine enter (n := 23) Tryz.func174 rfl rfl rfl ?_
 refine wp_seq (c_reg (s0 (xaS rfl) (c_end (n_then (wp_seq (c_reg (s0 (xmS rfl) (s0 (x_lensl un137F7 rfl) (s_maker Bk.zero brow_len so32F7 zr71F7 rfl rfl (by omega) (by omega) (by omega) ?_)))))))))
 intro p7 F7 w1 l2 o7 f7 g7
 have z_l2 := l2.size; have L := L.tr l2.up; have hn7 := o7.nr brow_len (by decide)
 refine s0 (xaS rfl) (c_end (n_then (wp_seq (wp_seq (c_reg (s0 (xaI rfl) (c_end (n_then (wp_block ?_)))))))))
 refine c_loop (γ := Nat × List Bk) (fun g => bs.length - g.1) (fun (g : Nat × List Bk) E wl => ∃ E0 pz3 cz3 Fz3, E = upd (upd (upd E0 0 (.slice p bs.length c)) 3 (.slice pz3 ((g.2).length) cz3)) 4 (.int .i64 (g.1 : Int)) ∧ (Exm [] w wl) ∧ (w1.heap.size ≤ wl.heap.size) ∧ (OwN (Kb 3) wl 71 pz3 (g.2) cz3 Fz3) ∧ (Fr (w.heap.size) Fz3) ∧ (Lt Fz3 wl.heap.size) ∧ ((g.1 : Int) ≤ bs.length) ∧ (g.2.length = bs.length) ∧ (∀ j : Nat, j < g.1 → (g.2.getD j default).pl = (bs.getD j default).pl)) (0, List.replicate bs.length Bk.zero) ⟨_, _, _, _, upd_self3 rfl (by (rw [List.length_replicate]); rfl) rfl, L, (by omega), (OwN.ofZero o7 Own.nil rfl), (f7.mono (by omega)), (g7.mono (by omega)), (by simp), (by simp), (by intro j hj; simp at hj)⟩ ?_
 rintro g E wl3 ⟨E0, pz3, cz3, Fz3, rfl, L, Lz, oz3, fz3, gz3, hk, hn, heq⟩
 have Lz0 := L.size
 refine wp_seq (wp_seq (c_reg (s0 (xmI rfl) (s0 (xmS rfl) (s0 (x_lensl un137F7 rfl) ?_)))))
 refine sb (x_lss rfl rfl) (fun h11 => ?_) (fun h11 => ?_)
 ·refine c_end (n_then (c_true rfl (c_skipn (n_then (wp_seq (wp_block ?_))))))
  have hbk := hb _ (getD_mem (xs := bs) (i := (g.1 : Int)) (by omega) (by omega))
  refine c_reg (s0 (xmS rfl) (s0 (xmI rfl) (s0 (xmS rfl) (s0 (xmI rfl) (s0 (x_idx so137F7 rfl rfl hp.1 (by decide) (by omega) (by omega)) (st (x_ldr brow_len ag193F7 rfl (hp.1.ext L) (by omega) (by omega)) ?_))))))
  refine sp (zcall cl219F7 rfl) (l_toBlock _ _ _ _ _ ((hp.2 _ (getD_mem (by omega) (by omega))).ext L) (by omega)) ?_
  rintro v20 w4 l5 ⟨p20, c20, F20, rfl, o20, f20⟩
  have z_l5 := l5.size; have L := L.tr l5.up; have oz3 := oz3.ext l5; have g20 := o20.lt
  refine s0 (x_idx so32F7 rfl rfl oz3.sl (by decide) (by omega) (by omega)) ?_
  refine s_stoN (v := ⟨_, p20, _, c20, F20⟩) (K := (Kb 3)) rfl sz71F7 rfl rfl oz3 o20 (by first|assumption|exact Dj.symm (by assumption)|exact dj_of f20 g20 fz3 gz3 (by omega)) (by omega) (by omega) ?_
  intro w6 Fz3 l7 el7 oz3 ml7
  have z_l7 := l7.size; have L := L.freshL l7 fz3 (by omega); have o20 := o20.exm l7 (by first|assumption|exact Dj.symm (by assumption)|exact dj_of fz3 gz3 f20 g20 (by omega))
  have fz3 : Fr (w.heap.size) Fz3 := fun b hb => (ml7 b hb).elim (fz3 b) (f20.mono (by omega) b)
  have gz3 := oz3.lt
  refine c_end (n_block (n_then (c_reg (s0 (xmI rfl) (s0 (x_add rfl rfl (by omega)) (s0 (xaI rfl) (c_end ?_)))))))
  exact c_round (g' := (g.1 + 1, g.2.set (g.1 : Int).toNat ⟨_, p20, _, c20, F20⟩)) (by show bs.length - (g.1 + 1) < bs.length - g.1; omega) ⟨_, _, _, _, upd_self3 rfl (by (rw [List.length_set]); rfl) (vint (by show (g.1 : Int) + 1 = ((g.1 + 1 : Nat) : Int); omega)), L, (by omega), oz3, (fz3.mono (by omega)), (gz3.mono (by omega)), (by show ((g.1 + 1 : Nat) : Int) ≤ _; omega), (by rw [List.length_set]; exact hn), (set_upto (by omega) heq rfl)⟩
 ·refine c_end (n_then (c_false rfl ?_))
  refine wp_exit (e_then (e_then (e_here ?_)))
  refine n_then (wp_seq (c_reg (s0 (xmS rfl) (s0 (xaS rfl) (c_end (n_then (wp_ret (f_ret rfl rfl ?_))))))))
  exact ⟨_, rfl, L, _, _, _, _, rfl, oz3, fz3.mono (by omega), map_ext hn fun j hj => heq j (by omega)⟩

/-- laws.toMb -/
theorem l_toMb (e : Bool) (p : Option Addr) (bs : List Bk) (c : Nat) (w : World) (hp : RdBs w p bs c) (hl : bs.length ≤ 1099511627776) (hb : ∀ b ∈ bs, b.lv.length ≤ 1099511627776) :
    Calls Tryz.prog 120 [.agg [.bool e, .slice p bs.length c].toArray].toArray w (RetP w fun v w' => ∃ p' bs' c' F', v = .agg [.bool e, .slice p' bs'.length c'].toArray ∧ OwN (Kb 3) w' 71 p' bs' c' F' ∧ Fr w.heap.size F' ∧ bs'.map Bk.pl = bs.map Bk.pl) := by
 have L : Exm [] w w := Exm.rfl'
 refine enter (n := 12) Tryz.func120 rfl rfl rfl ?_
 refine wp_seq (c_reg (s_box rfl rfl ?_))
 intro b1 w2 lob1 hib1 l3 B1
 have z_l3 := l3.size; have L := L.tr l3.up
 refine s_alloc zr34F7 ?_
 intro b4 w5 lob4 hib4 l6 B4
 have z_l6 := l6.size; have L := L.tr l6.up; have B1 := B1.ext l6
 refine c_end (n_then (wp_seq (c_reg (s_alloc zr34F7 ?_))))
 intro b7 w8 lob7 hib7 l9 B7
 have z_l9 := l9.size; have L := L.tr l9.up; have B1 := B1.ext l9; have B4 := B4.ext l9
 refine c_end (n_then (wp_seq (c_reg (s0 (x_fieldAddr fa139_0F7 rfl) (st (x_loadB sc4F7 rfl B1 rfl) (s0 (x_fieldAddr fa34_0F7 rfl) ?_))))))
 refine s_store (v := .bool _) (cs' := [_, _]) rfl sz4F7 rfl rfl rfl rfl B7 rfl rfl ?_
 intro w10 l11 el11 B7
 have z_l11 := l11.size; have L := L.fresh l11 (by omega); have B1 := B1.ne l11 (by omega); have B4 := B4.ne l11 (by omega)
 refine c_end (n_then (wp_seq (c_reg (s0 (x_fieldAddr fa139_1F7 rfl) (st (x_loadB sc137F7 rfl B1 rfl) ?_)))))
 refine sp (zcall cl174F7 rfl) (l_toBlockS _ _ _ _ (hp.ext L) (by omega) hb) ?_
 rintro v9 w12 l13 ⟨p9, bs9, c9, F9, rfl, o9, f9, hm9⟩
 have z_l13 := l13.size; have L := L.tr l13.up; have B1 := B1.ext l13; have B4 := B4.ext l13; have B7 := B7.ext l13; have g9 := o9.lt
 refine s0 (x_fieldAddr fa34_1F7 rfl) ?_
 refine s_store (v := .slice _ _ _) (cs' := [_, _]) rfl sz32F7 rfl rfl rfl rfl B7 rfl rfl ?_
 intro w14 l15 el15 B7
 have z_l15 := l15.size; have L := L.fresh l15 (by omega); have B1 := B1.ne l15 (by omega); have B4 := B4.ne l15 (by omega); have o9 := o9.ne l15 (by first|assumption|exact nin_of f9 g9 (by omega))
 refine c_end (n_then (wp_seq (c_reg (st (x_loadAgB ag34F7 rfl B7 rfl) (s_storeAg rfl sz34F7 rfl rfl B4 rfl rfl rfl ?_)))))
 intro w16 l17 el17 B4
 have z_l17 := l17.size; have L := L.fresh l17 (by omega); have B1 := B1.ne l17 (by omega); have B7 := B7.ne l17 (by omega); have o9 := o9.ne l17 (by first|assumption|exact nin_of f9 g9 (by omega))
 refine c_end (n_then (wp_ret (f_retc rfl rfl ag34F7 B4 rfl ?_)))
 exact ⟨_, rfl, L, _, _, _, _, rfl, o9, f9.mono (by omega), hm9⟩

/-- laws.szMb -/
theorem l_szMb (e : Bool) (p : Option Addr) (bs : List Bk) (c : Nat) (left : Int) (w : World) (hp : RdBs w p bs c) (hs : bs.length ≤ 9223372036854775807) (hb : ∀ b ∈ bs, b.lv.length ≤ 9223372036854775807) (hl : 0 ≤ left ∧ left ≤ 9223372036854775807) :
    Calls Tryz.prog 106 [.agg [.bool e, .slice p bs.length c].toArray, .int .i64 left].toArray w (RetP w fun v w' => ∃ r : Int, v = .int .i64 r ∧ (r = -1 ∨ (0 ≤ r ∧ r ≤ left ∧ (bs.length : Int) ≤ left ∧ ∀ b ∈ bs, (b.lv.length : Int) ≤ left))) := by
 have L : Exm [] w w := Exm.rfl'
 refine enter (n := 12) Tryz.func106 rfl rfl rfl ?_
 refine wp_seq (c_reg (s_box rfl rfl ?_))
 intro b1 w2 lob1 hib1 l3 B1
 have z_l3 := l3.size; have L := L.tr l3.up
 refine s0 (xaI rfl) (c_end (n_then (wp_seq (c_reg (s0 (x_fieldAddr fa139_1F7 rfl) (st (x_loadB sc137F7 rfl B1 rfl) (s0 (xmI rfl) ?_)))))))
 refine sp (zcall cl163F7 rfl) (l_szBlockS _ _ _ _ _ (hp.ext L) (by omega) hb (by omega)) ?_
 rintro v8 w4 l5 ⟨r8, rfl, hr8⟩
 have z_l5 := l5.size; have L := L.tr l5.up
 refine s0 (xaI rfl) (c_end (n_then (wp_seq (wp_seq (c_reg (s0 (xmI rfl) ?_))))))
 refine sb (x_lss rfl rfl) (fun h10 => ?_) (fun h10 => ?_)
 ·refine c_end (n_then (c_true rfl (wp_seq (c_reg (s0 (xaI rfl) (c_end (n_then ?_)))))))
  refine wp_ret (r_then ?_)
  refine f_ret rfl rfl ?_
  exact ⟨_, rfl, L, _, rfl, .inl rfl⟩
 ·refine c_end (n_then (c_false rfl (c_skipn (n_then (wp_seq (c_reg (s0 (xmI rfl) (s0 (xaI rfl) (c_end (n_then (wp_ret (f_ret rfl rfl ?_))))))))))))
  exact ⟨_, rfl, L, _, rfl, hr8⟩

theorem pl_eq {k : Nat} {us bs : List Bk} (h : (us.getD (k : Int).toNat default).mode = (bs.getD (k : Int).toNat default).mode ∧ (us.getD (k : Int).toNat default).lv = (bs.getD (k : Int).toNat default).lv) : (us.getD k default).pl = (bs.getD k default).pl := by
  simp only [Int.toNat_natCast] at h; simp only [Bk.pl, h]
theorem pl_and {k : Nat} {us bs : List Bk} (h : (us.getD k default).pl = (bs.getD k default).pl) : (us.getD (k : Int).toNat default).mode = (bs.getD (k : Int).toNat default).mode ∧ (us.getD (k : Int).toNat default).lv = (bs.getD (k : Int).toNat default).lv := by
  simp only [Int.toNat_natCast]; simp only [Bk.pl, Prod.mk.injEq] at h; exact h

/-- laws.eqBlockS -/
theorem l_eqBlockS (p q : Option Addr) (us bs : List Bk) (c d : Nat) (w : World) (hp : RdBs w p us c) (hq : RdBs w q bs d) (hl : us.length ≤ 1099511627776) (hb : ∀ b ∈ us, b.lv.length ≤ 1099511627776) :
    Calls Tryz.prog 175 [.slice p us.length c, .slice q bs.length d].toArray w (Ret w (.bool (decide (us.map Bk.pl = bs.map Bk.pl)))) := by
 have L : Exm [] w w := Exm.rfl'
 refine enter (n := 27) Tryz.func175 rfl rfl rfl ?_
 refine wp_seq (c_reg (s0 (x_assign (v := .bool _) rfl) (c_end (n_then (wp_seq (wp_seq (c_reg (s0 (xmS rfl) (s0 (x_lensl un32F7 rfl) (s0 (xmS rfl) (s0 (x_lensl un32F7 rfl) ?_)))))))))))
 refine sb (x_neq rfl rfl) (fun h10 => ?_) (fun h10 => ?_)
 ·refine c_end (n_then (c_true rfl (wp_seq (c_reg (s0 (x_assign (v := .bool _) rfl) (c_end (n_then ?_)))))))
  refine wp_ret (r_then ?_)
  refine f_ret rfl rfl ?_
  exact ⟨ret_f (fun h => h10 (by rw [map_len h])), L⟩
 ·refine c_end (n_then (c_false rfl (c_skipn (n_then (wp_seq (wp_seq (c_reg (s0 (xaI rfl) (c_end (n_then (wp_block ?_)))))))))))
  refine c_loop (γ := Nat) (fun k => us.length - k) (fun (k : Nat) E wl => ∃ E0, E = upd (upd (upd E0 0 (.slice p us.length c)) 1 (.slice q bs.length d)) 5 (.int .i64 (k : Int)) ∧ (Exm [] w wl) ∧ ((k : Int) ≤ us.length) ∧ (∀ j : Nat, j < k → (us.getD j default).pl = (bs.getD j default).pl)) 0 ⟨_, upd_self3 rfl rfl rfl, L, (by omega), (by intro j hj; omega)⟩ ?_
  rintro k E wl1 ⟨E0, rfl, L, hk, heq⟩
  have Lz0 := L.size
  have hba : ∀ h : k < us.length, ((us.getD (k : Int).toNat default).lv.length : Int) ≤ 1099511627776 := fun h => by have := hb _ (getD_mem (xs := us) (i := (k : Int)) (by omega) (by omega)); omega
  refine wp_seq (wp_seq (c_reg (s0 (xmI rfl) (s0 (xmS rfl) (s0 (x_lensl un32F7 rfl) ?_)))))
  refine sb (x_lss rfl rfl) (fun h14 => ?_) (fun h14 => ?_)
  ·refine c_end (n_then (c_true rfl (c_skipn (n_then (wp_seq (wp_block (wp_seq ?_)))))))
   refine c_plan (fun wq => Exm [] wl1 wq) 10 (.cons (0, 2) (.cons (1, 2) (.cons (2, 2) (.cons (3, 1) (.cons (4, 2) (.cons (5, 2) (.cons (6, 2) (.cons (7, 1) (.cons (8, 0) (.cons (9, 2) .nil)))))))))) (by kernel_rfl) (by kernel_rfl) (Exm.drew _) ?_
   obtain ⟨w2, hwd⟩ : ∃ x, x = wl1.drew := ⟨_, rfl⟩
   have l3 : Ext wl1 w2 := by rw [hwd]; exact Exm.drew _
   rw [← hwd]; clear hwd
   have Lq : Exm [] wl1 w2 := l3.up; have qL := L; have z_l3 := l3.size; have L := L.tr l3.up
   refine p0 rfl (xmS rfl) (p0 rfl (xmI rfl) (p0 rfl (x_idx so32F7 rfl rfl hp.1 (by decide) (by omega) (by omega)) ?_))
   refine ps rfl (fun wq hwq => x_ldr brow_len ag71F7 rfl ((hp.1.ext qL).ext hwq) (by omega) (by omega)) ?_
   refine p0 rfl (xmS rfl) (p0 rfl (xmI rfl) (p0 rfl (x_idx so32F7 rfl rfl hq.1 (by decide) (by omega) (by omega)) ?_))
   refine ps rfl (fun wq hwq => x_ldr brow_len ag71F7 rfl ((hq.1.ext qL).ext hwq) (by omega) (by omega)) ?_
   refine pu rfl ?_ (by rintro ⟨_, _, h, _⟩; cases h)
   refine srb (zcall cl220F7 rfl) (l_eqBlock _ _ _ _ _ _ _ _ _ ((hp.2 _ (getD_mem (by omega) (by omega))).ext L) ((hq.2 _ (getD_mem (by omega) (by omega))).ext L) (by omega)) (fun h25 w4 l5 => ?_) (fun h25 w4 l5 => ?_)
   ·have z_l5 := l5.size
    have L := L.tr l5.up; have Lq := Lq.tr l5.up
    refine c_end ⟨rfl, fun h hS => Lq, ?_⟩
    refine p0 rfl (x_not rfl) ?_
    refine p_nil (np_normal ?_)
    refine n_then (c_false rfl (c_skipn (n_block (n_then (c_reg (s0 (xmI rfl) (s0 (x_add rfl rfl (by omega)) (s0 (xaI rfl) (c_end ?_)))))))))
    exact c_round (g' := k + 1) (by omega) ⟨_, upd_self3 rfl rfl (vint (by omega)), L, (by omega), (upto_succ' heq (pl_eq h25))⟩
   ·have z_l5 := l5.size
    have L := L.tr l5.up; have Lq := Lq.tr l5.up
    refine c_end ⟨rfl, fun h hS => Lq, ?_⟩
    refine p0 rfl (x_not rfl) ?_
    refine p_nil (np_normal ?_)
    refine n_then (c_true rfl (wp_seq (c_reg (s0 (x_assign (v := .bool _) rfl) (c_end (n_then ?_))))))
    refine wp_ret (r_block (r_then (r_then (r_block (r_then ?_)))))
    refine f_ret rfl rfl ?_
    exact ⟨ret_f (fun h => h25 (pl_and (map_get h k))), L⟩
  ·refine c_end (n_then (c_false rfl ?_))
   refine wp_exit (e_then (e_then (e_here ?_)))
   refine n_then (wp_seq (c_reg (s0 (x_assign (v := .bool _) rfl) (c_end (n_then (wp_ret (f_ret rfl rfl ?_)))))))
   exact ⟨ret_t (map_ext (by omega) fun j hj => heq j (by omega)), L⟩

/-- laws.eqMb -/
theorem l_eqMb (e e' : Bool) (p q : Option Addr) (us bs : List Bk) (c d : Nat) (w : World) (hp : RdBs w p us c) (hq : RdBs w q bs d) (hl : us.length ≤ 1099511627776) (hb : ∀ b ∈ us, b.lv.length ≤ 1099511627776) :
    Calls Tryz.prog 121 [.agg [.bool e, .slice p us.length c].toArray, .agg [.bool e', .slice q bs.length d].toArray].toArray w (Ret w (.bool (decide (e = e' ∧ us.map Bk.pl = bs.map Bk.pl)))) := by
 have L : Exm [] w w := Exm.rfl'
 refine enter (n := 16) Tryz.func121 rfl rfl rfl ?_
 refine wp_seq (c_reg (s_box rfl rfl ?_))
 intro b1 w2 lob1 hib1 l3 B1
 have z_l3 := l3.size; have L := L.tr l3.up
 refine s_box rfl rfl ?_
 intro b4 w5 lob4 hib4 l6 B4
 have z_l6 := l6.size; have L := L.tr l6.up; have B1 := B1.ext l6
 refine s0 (x_assign (v := .bool _) rfl) (c_end (n_then (wp_seq (wp_seq (c_reg (s0 (x_fieldAddr fa34_0F7 rfl) (st (x_loadB sc4F7 rfl B1 rfl) (s0 (x_fieldAddr fa34_0F7 rfl) (st (x_loadB sc4F7 rfl B4 rfl) ?_)))))))))
 refine sb (x_neqb un4F7 rfl rfl) (fun h9 => ?_) (fun h9 => ?_)
 ·refine c_end (n_then (c_true rfl (wp_seq (c_reg (s0 (x_assign (v := .bool _) rfl) (c_end (n_then ?_)))))))
  refine wp_ret (r_then ?_)
  refine f_ret rfl rfl ?_
  exact ⟨ret_f (by simp_all), L⟩
 ·refine c_end (n_then (c_false rfl (c_skipn (n_then (wp_seq (wp_seq (c_reg (s0 (x_fieldAddr fa34_1F7 rfl) (st (x_loadB sc32F7 rfl B1 rfl) (s0 (x_fieldAddr fa34_1F7 rfl) (st (x_loadB sc32F7 rfl B4 rfl) ?_)))))))))))
  refine srb (zcall cl175F7 rfl) (l_eqBlockS _ _ _ _ _ _ _ (hp.ext L) (hq.ext L) (by omega) hb) (fun h14 w7 l8 => ?_) (fun h14 w7 l8 => ?_)
  ·have z_l8 := l8.size
   have L := L.tr l8.up
   refine s0 (x_not rfl) (c_end (n_then (c_false rfl (c_skipn (n_then (wp_seq (c_reg (s0 (x_assign (v := .bool _) rfl) (c_end (n_then (wp_ret (f_ret rfl rfl ?_))))))))))))
   exact ⟨ret_t (by simp_all), L⟩
  ·have z_l8 := l8.size
   have L := L.tr l8.up
   refine s0 (x_not rfl) (c_end (n_then (c_true rfl (wp_seq (c_reg (s0 (x_assign (v := .bool _) rfl) (c_end (n_then ?_))))))))
   refine wp_ret (r_then ?_)
   refine f_ret rfl rfl ?_
   exact ⟨ret_f (by simp_all), L⟩

theorem pl_bound {bs bs' : List Bk} {N : Nat} (h : bs'.map Bk.pl = bs.map Bk.pl) (hb : ∀ b ∈ bs, b.lv.length ≤ N) : ∀ b ∈ bs', b.lv.length ≤ N := fun b hb' => by
  have h1 : b.pl ∈ bs.map Bk.pl := by rw [← h]; exact List.mem_map.2 ⟨b, hb', rfl⟩
  obtain ⟨x, hx, he⟩ := List.mem_map.1 h1
  have := hb x hx
  simp only [Bk.pl, Prod.mk.injEq] at he
  rw [← he.2]; exact this

end Go.Proofs.YtepnknffaecbdaaGreat
