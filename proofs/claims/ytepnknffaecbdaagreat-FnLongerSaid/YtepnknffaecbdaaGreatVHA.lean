/- What each function of this part returns, for every argument that meets its premises. -/
import Derived.Test.YtepnknffaecbdaaGreatProg
import Derived.Test.YtepnknffaecbdaaGreatVSxA
import Derived.Test.YtepnknffaecbdaaGreatVTy
import Derived.Test.YtepnknffaecbdaaGreatVPlA
import Derived.Test.YtepnknffaecbdaaGreatVF9
import Derived.Test.YtepnknffaecbdaaGreatVFC
import Derived.Test.YtepnknffaecbdaaGreatVFZ
namespace Go.Proofs.YtepnknffaecbdaaGreat
open Go.Sx Go.Pl Go.RowKit
theorem map_getD {ls : List Li} {i : Nat} : (ls.map Li.xs).getD i [] = (ls.getD i default).xs := by
  simp only [List.getD_eq_getElem?_getD, List.getElem?_map]
  cases ls[i]? <;> rfl
def RdM (w : World) (p : Option Addr) (n c : Nat) (ls : List Li) (M : Nat → Nat → Int) : Prop := n = ls.length ∧ RdL w p n c ls ∧ ls.map Li.xs = tabM M n
section
variable {w w' : World} {p : Option Addr} {n c : Nat} {ls : List Li} {M : Nat → Nat → Int}
theorem RdM.ext (h : RdM w p n c ls M) (k : Ext w w') : RdM w' p n c ls M := ⟨h.1, h.2.1.ext k, h.2.2⟩
theorem RdM.row (h : RdM w p n c ls M) {r : Int} (h0 : 0 ≤ r) (h1 : r < n) : (ls.getD r.toNat default).xs = (List.range n).map (M r.toNat) := by
  rw [← map_getD, h.2.2]; exact tabM_get M (by omega)
theorem RdM.rlen (h : RdM w p n c ls M) {r : Int} (h0 : 0 ≤ r) (h1 : r < n) : (ls.getD r.toNat default).xs.length = n := by
  rw [h.row h0 h1]; simp
theorem RdM.ent (h : RdM w p n c ls M) {r i : Int} (h0 : 0 ≤ r) (h1 : r < n) (h2 : 0 ≤ i) (h3 : i < n) : (ls.getD r.toNat default).xs.getD i.toNat 0 = M r.toNat i.toNat := by
  rw [h.row h0 h1]; exact row_get M (by omega)
theorem own_rdm {T e : TypeId} {F : List Nat} (h : OwN (Kl T) w e p ls c F) (hl : ls.length = n) (hx : ls.map Li.xs = tabM M n) : RdM w p n c ls M :=
  ⟨hl.symm, ⟨hl ▸ h.sl, fun x hx => (h.inner x hx).sl⟩, hx⟩
theorem tab_put {hs : List Li} {r k : Nat} {p : Option Addr} {c : Nat} {F : List Nat} {v i : Int} (hu : hs.map Li.xs = tabU M n r k) (hi : i.toNat = r) (hr : r < n) (hv : v = M r k) : (hs.set i.toNat (⟨p, (hs.getD i.toNat default).xs ++ [v], c, F⟩ : Li)).map Li.xs = tabU M n r (k + 1) := by
  subst hi
  rw [List.map_set, ← map_getD, hu]
  exact tabU_set M hr hv
theorem tab_len {hs : List Li} {r k : Nat} {i : Int} (hu : hs.map Li.xs = tabU M n r k) (hi : i.toNat = r) (hr : r < n) : (hs.getD i.toNat default).xs.length = k := by
  subst hi
  rw [← map_getD, hu, tabU_get M hr]; simp
theorem tab_n {hs : List Li} {r k : Nat} (hu : hs.map Li.xs = tabU M n r k) : hs.length = n := by
  have := congrArg List.length hu
  rwa [List.length_map, tabU_length] at this
end
theorem four {φ : Li → Prop} {a b c d : Li} (h1 : φ a) (h2 : φ b) (h3 : φ c) (h4 : φ d) : ∀ x ∈ [a, b, c, d], φ x := by
  intro x hx
  simp only [List.mem_cons, List.not_mem_nil, or_false] at hx
  rcases hx with rfl | rfl | rfl | rfl <;> assumption
theorem and8 : ∀ a b : Fin 8, Go.bits .and .i64 (a.1 : Int) (b.1 : Int) = ((a.1 &&& b.1 : Nat) : Int) := by decide +kernel
theorem and8' {a b : Nat} (ha : a ≤ 7) (hb : b ≤ 7) : Go.bits .and .i64 (a : Int) (b : Int) = ((a &&& b : Nat) : Int) := and8 ⟨a, by omega⟩ ⟨b, by omega⟩
section
variable {P : Program} {n : Nat} {E : Env} {ty T T' : TypeId} {x y : Operand}
theorem x_and8 {a b : Nat} (hx : opd n E x = .int .i64 (a : Int)) (hy : opd n E y = .int .i64 (b : Int)) (ha : a ≤ 7) (hb : b ≤ 7) : X0 P n E (.binOp .and T x y T') ty (.int .i64 ((a &&& b : Nat) : Int)) := by
  have h := x_bits (P := P) (T := T) (T' := T') (ty := ty) (op := .and) (by simp) hx hy; rwa [and8' ha hb] at h
theorem x_mule {a b : Int} (v : Int) (hx : opd n E x = .int .i64 a) (hy : opd n E y = .int .i64 b) (h : a * b = v) (hr : -9223372036854775808 ≤ v ∧ v ≤ 9223372036854775807) : X0 P n E (.binOp .mul T x y T') ty (.int .i64 v) := by
  subst h; exact x_mul hx hy hr
end
theorem ownI {w : World} {p : Option Addr} {n c : Nat} {e : TypeId} {xs ys : List Int} {F : List Nat} (h : Own w p n c e 1 (ic xs) F) (k : xs = ys) : Own w p n c e 1 (ic ys) F := k ▸ h

theorem i_matrixA (w : World) :
    Calls Tryz.prog 196 [].toArray w (RetP w fun v w' => ∃ (p : Option Addr) (c : Nat) (ls : List Li), v = .slice p 4 c ∧ RdM w' p 4 c ls (mt matA)) := by
 have L : Exm [] w w := Exm.rfl'
 refine enter (n := 6) Tryz.func196 rfl rfl rfl ?_
 refine wp_seq (c_reg (s0 (xaS rfl) (c_end (n_then (wp_seq (c_reg ?_))))))
 refine s_bsi (xs := [_, _, _, _]) so24 zr3 (pts_cons rfl (pts_cons rfl (pts_cons rfl (pts_cons rfl pts_nil)))) rfl rfl rfl ?_
 intro p1 F1 w1 l2 o1 f1 g1
 have z_l2 := l2.size; have L := L.tr l2.up; have hn1 := o1.n1
 refine s_bsi (xs := [_, _, _, _]) so24 zr3 (pts_cons rfl (pts_cons rfl (pts_cons rfl (pts_cons rfl pts_nil)))) rfl rfl rfl ?_
 intro p2 F2 w3 l4 o2 f2 g2
 have z_l4 := l4.size; have L := L.tr l4.up; have o1 := o1.ext l4; have hn2 := o2.n1
 refine s_bsi (xs := [_, _, _, _]) so24 zr3 (pts_cons rfl (pts_cons rfl (pts_cons rfl (pts_cons rfl pts_nil)))) rfl rfl rfl ?_
 intro p3 F3 w5 l6 o3 f3 g3
 have z_l6 := l6.size; have L := L.tr l6.up; have o1 := o1.ext l6; have o2 := o2.ext l6; have hn3 := o3.n1
 refine s_bsi (xs := [_, _, _, _]) so24 zr3 (pts_cons rfl (pts_cons rfl (pts_cons rfl (pts_cons rfl pts_nil)))) rfl rfl rfl ?_
 intro p4 F4 w7 l8 o4 f4 g4
 have z_l8 := l8.size; have L := L.tr l8.up; have o1 := o1.ext l8; have o2 := o2.ext l8; have o3 := o3.ext l8; have hn4 := o4.n1
 refine s_bsr (g := fun x : Li => .slice x.p x.xs.length x.c) (xs := [⟨p1, [1, 1, 1, 1], 4, F1⟩, ⟨p2, [2, 1, -1, -2], 4, F2⟩, ⟨p3, [1, -1, -1, 1], 4, F3⟩, ⟨p4, [1, -2, 2, -1], 4, F4⟩]) (fun _ => rfl) lrow_len so187 zr24 (pts_cons rfl (pts_cons rfl (pts_cons rfl (pts_cons rfl pts_nil)))) rfl rfl rfl ?_
 intro p5 F5 w9 l10 o5 f5 g5
 have z_l10 := l10.size; have L := L.tr l10.up; have o1 := o1.ext l10; have o2 := o2.ext l10; have o3 := o3.ext l10; have o4 := o4.ext l10; have hn5 := o5.nr lrow_len (by decide)
 refine s0 (xaS rfl) (c_end (n_then (wp_ret (f_ret rfl rfl ?_))))
 exact ⟨_, rfl, L, _, _, _, rfl, rfl, ⟨o5.sl, four (φ := fun x : Li => Sl _ x.p x.xs.length x.c 1 (ic x.xs)) o1.sl o2.sl o3.sl o4.sl⟩, (show matA = tabM (mt matA) 4 by decide)⟩

theorem i_turned (p : Option Addr) (n c : Nat) (ls : List Li) (M : Nat → Nat → Int) (w : World) (hM : RdM w p n c ls M) (hl : n ≤ 8) :
    Calls Tryz.prog 195 [.slice p n c].toArray w (RetP w fun v w' => ∃ (p' : Option Addr) (c' : Nat) (ls' : List Li), v = .slice p' n c' ∧ RdM w' p' n c' ls' (fun r k => M k r)) := by
 have hnl := hM.1; have L : Exm [] w w := Exm.rfl'
 refine enter (n := 38) Tryz.func195 rfl rfl rfl ?_
 refine wp_seq (c_reg (s0 (xaS rfl) (c_end (n_then (wp_seq (c_reg (s0 (xmS rfl) (s0 (x_lensl un187 rfl) (s_maker Li.zero lrow_len so187 zr24 rfl rfl (by omega) (by omega) (by omega) ?_)))))))))
 intro p8 F8 w1 l2 o8 f8 g8
 have z_l2 := l2.size; have L := L.tr l2.up; have hn8 := o8.nr lrow_len (by decide)
 refine s0 (xaS rfl) (c_end (n_then (wp_seq (wp_seq (c_reg (s0 (xmS rfl) (s0 (x_lensl un187 rfl) (s0 (xmI rfl) (c_end (n_then (wp_block ?_)))))))))))
 refine c_loop (γ := Nat × List Li) (fun g => n - g.1) (fun (g : Nat × List Li) E wl => ∃ E0 pz3 cz3 Fz3, E = upd (upd (upd (upd E0 0 (.slice p n c)) 3 (.slice pz3 ((g.2).length) cz3)) 10 (.int .i64 n)) 11 (.int .i64 (g.1 : Int)) ∧ (Exm [] w wl) ∧ (w1.heap.size ≤ wl.heap.size) ∧ (OwN (Kl 3) wl 24 pz3 (g.2) cz3 Fz3) ∧ (Fr (w.heap.size) Fz3) ∧ (Lt Fz3 wl.heap.size) ∧ ((g.1 : Int) ≤ n) ∧ (g.2.map Li.xs = tabU (fun r k => M k r) n g.1 0)) (0, List.replicate n Li.zero) ⟨_, _, _, _, upd_self4 rfl (slice_len (by simp)) rfl rfl, L, (by omega), (OwN.ofZero (K := (Kl 3)) o8 Own.nil rfl), (f8.mono (by omega)), (g8.mono (by omega)), (by show ((0 : Nat) : Int) ≤ _; omega), (by show (List.replicate _ _).map Li.xs = _; rw [tabU_zero, List.map_replicate]; rfl)⟩ ?_
 rintro g E wl3 ⟨E0, pz3, cz3, Fz3, rfl, L, Lz, oz3, fz3, gz3, hk, hu⟩
 have Lz0 := L.size; have hgl := tab_n hu
 refine wp_seq (c_reg ?_)
 refine sb (x_lss rfl rfl) (fun h12 => ?_) (fun h12 => ?_)
 ·refine c_end (n_then (wp_seq (c_true rfl (c_skipn (n_then (wp_seq (wp_block (wp_seq (c_reg (s0 (xmI rfl) (s0 (xaI rfl) (c_end (n_then ?_)))))))))))))
  refine wp_seq (c_reg (s0 (xmS rfl) (s0 (x_lensl un187 rfl) (s0 (xmI rfl) (c_end (n_then (wp_block ?_)))))))
  refine c_loop (γ := Nat × List Li) (fun h => n - h.1) (fun (h : Nat × List Li) E wl => ∃ E0 pz3 cz3 Fz3, E = upd (upd (upd (upd (upd (upd (upd E0 0 (.slice p n c)) 3 (.slice pz3 ((h.2).length) cz3)) 4 (.int .i64 (g.1 : Int))) 10 (.int .i64 n)) 11 (.int .i64 (g.1 : Int))) 15 (.int .i64 n)) 16 (.int .i64 (h.1 : Int)) ∧ (Exm [] w wl) ∧ (wl3.heap.size ≤ wl.heap.size) ∧ (OwN (Kl 3) wl 24 pz3 (h.2) cz3 Fz3) ∧ (Fr (w.heap.size) Fz3) ∧ (Lt Fz3 wl.heap.size) ∧ ((h.1 : Int) ≤ n) ∧ (h.2.map Li.xs = tabU (fun r k => M k r) n g.1 h.1)) (0, g.2) ⟨_, _, _, _, upd_self7 rfl rfl rfl rfl rfl rfl rfl, L, (by omega), oz3, (fz3.mono (by omega)), (gz3.mono (by omega)), (by show ((0 : Nat) : Int) ≤ _; omega), hu⟩ ?_
  rintro h E wl4 ⟨E0, pz3, cz3, Fz3, rfl, L, Lz, oz3, fz3, gz3, hk2, hu2⟩
  have Lz0 := L.size; have hhl := tab_n hu2
  refine wp_seq (c_reg ?_)
  refine sb (x_lss rfl rfl) (fun h17 => ?_) (fun h17 => ?_)
  ·refine c_end (n_then (wp_seq (c_true rfl (c_skipn (n_then (wp_seq (wp_block (wp_seq (c_reg (s0 (xmI rfl) (s0 (xaI rfl) (c_end (n_then ?_)))))))))))))
   have hrl : (h.2.getD (g.1 : Int).toNat default).xs.length = h.1 := tab_len hu2 (Int.toNat_natCast _) (by omega); have hrm := hM.rlen (r := (h.1 : Int)) (by omega) (by omega)
   refine c_plan (fun wq => Exm [] wl4 wq) 14 (.cons (0, 2) (.cons (1, 2) (.cons (2, 2) (.cons (3, 2) (.cons (4, 2) (.cons (5, 1) (.cons (6, 2) (.cons (7, 2) (.cons (8, 2) (.cons (9, 1) (.cons (10, 2) (.cons (11, 2) (.cons (12, 1) (.cons (13, 0) (.cons (14, 0) (.cons (15, 0) (.cons (16, 0) .nil))))))))))))))))) (by kernel_rfl) (by kernel_rfl) (Exm.drew _) ?_
   obtain ⟨w5, hwd⟩ : ∃ x, x = wl4.drew := ⟨_, rfl⟩
   have l6 : Ext wl4 w5 := by rw [hwd]; exact Exm.drew _
   rw [← hwd]; clear hwd
   have Lq : Exm [] wl4 w5 := l6.up; have qoz3 := oz3; have qL := L; have z_l6 := l6.size; have L := L.tr l6.up; have oz3 := oz3.ext l6
   refine p0 rfl (xmS rfl) (p0 rfl (xmI rfl) (p0 rfl (xmS rfl) (p0 rfl (xmI rfl) (p0 rfl (x_idx so187 rfl rfl oz3.sl (by decide) (by omega) (by omega)) ?_))))
   refine ps rfl (fun wq hwq => x_ldf (k := 0) lrow_len sc24 rfl (qoz3.ext hwq).sl (by omega) (by omega) (by decide) rfl) ?_
   refine p0 rfl (xmS rfl) (p0 rfl (xmI rfl) (p0 rfl (x_idx so187 rfl rfl hM.2.1.1 (by decide) (by omega) (by omega)) ?_))
   refine ps rfl (fun wq hwq => x_ldf (k := 0) lrow_len sc24 rfl ((hM.2.1.1.ext qL).ext hwq) (by omega) (by omega) (by decide) rfl) ?_
   refine p0 rfl (xmI rfl) (p0 rfl (x_idx so24 rfl rfl ((hM.2.1.2 _ (getD_mem (by omega) (by omega))).ext L) (by decide) (by omega) (by omega)) ?_)
   refine ps rfl (fun wq hwq => x_ldi sc3 rfl (((hM.2.1.2 _ (getD_mem (by omega) (by omega))).ext qL).ext hwq) (by omega) (by omega)) ?_
   refine pu rfl ?_
   refine s_bsi (xs := [_]) so24 zr3 (pts_cons rfl pts_nil) rfl rfl rfl ?_
   intro p32 F32 w7 l8 o32 f32 g32
   have z_l8 := l8.size; have L := L.tr l8.up; have Lq := Lq.tr l8.up; have oz3 := oz3.ext l8; have hn32 := o32.n1
   refine c_end ⟨rfl, fun h hS => Lq, ?_⟩
   refine pu rfl ?_
   have u33 := oz3.sub (get_some (i := (g.1 : Int)) (by omega) (by omega))
   refine s_appH (B := w.heap.size) (i := (g.1 : Int)) so24 zr3 oz3 (by omega) (by omega) rfl rfl o32.sl fz3 (by omega) (by omega) (by omega) ?_
   intro p33 c33 F33 w9 l10 oz3 o33 k33 f33 g33 t33
   have K33 : Grew w7 Fz3 F33 := fun b hb => (k33 b hb).elim (fun h => .inl (u33 b h)) .inr
   have d32_33 : Dj F32 F33 := K33.dj (by first|assumption|exact Dj.symm (by assumption)|exact dj_of f32 g32 fz3 gz3 (by omega)) g32 (by omega)
   have z_l10 := l10.size; have L := L.freshL l10 fz3 (by omega); have o32 := o32.exm l10 (by first|assumption|exact Dj.symm (by assumption)|exact dj_of fz3 gz3 f32 g32 (by omega))
   have hn33 := o33.n1
   refine c_end ⟨rfl, fun h hS => absurd h (by decide), ?_⟩
   refine pu rfl (s0 (x_idx so187 rfl rfl oz3.sl (by decide) (by omega) (by omega)) ?_)
   refine c_end ⟨rfl, fun h hS => absurd h (by decide), ?_⟩
   refine pu rfl ?_
   have dd32 : Dj F32 Fz3 := (by first|assumption|exact Dj.symm (by assumption)|exact dj_of f32 g32 fz3 gz3 (by omega))
   have de32 : Dj F32 F33 := (by first|assumption|exact Dj.symm (by assumption)|exact dj_of f32 g32 f33 g33 (by omega))
   refine s_stoH (v := (⟨p33, (h.2.getD (g.1 : Int).toNat default).xs ++ [(ls.getD (h.1 : Int).toNat default).xs.getD (g.1 : Int).toNat 0], c33, F33⟩ : Li)) (K := (Kl 3)) rfl sz24 rfl rfl rfl rfl rfl rfl oz3 o33 k33 t33 (by omega) (by omega) ?_
   intro w11 Fz3 l12 el12 oz3 ml12
   have z_l12 := l12.size; have L := L.freshL l12 fz3 (by omega); have o32 := o32.exm l12 (by first|assumption|exact Dj.symm (by assumption)|exact dj_of fz3 gz3 f32 g32 (by omega))
   have d32_z3 : Dj F32 Fz3 := fun b hb h => (ml12 _ h).elim (dd32 b hb) (de32 b hb)
   have fz3 : Fr (w.heap.size) Fz3 := fun b hb => (ml12 b hb).elim (fz3 b) (f33 b)
   have gz3 := oz3.lt
   refine c_end ⟨rfl, fun h hS => absurd h (by decide), ?_⟩
   refine p_nil (np_normal ?_)
   refine n_block (n_then (c_reg (s0 (x_add rfl rfl (by omega)) (s0 (xmI rfl) (c_end ?_)))))
   have hve := hM.ent (r := (h.1 : Int)) (i := (g.1 : Int)) (by omega) (by omega) (by omega) (by omega)
   exact c_round (g' := (h.1 + 1, h.2.set (g.1 : Int).toNat (⟨p33, (h.2.getD (g.1 : Int).toNat default).xs ++ [(ls.getD (h.1 : Int).toNat default).xs.getD (g.1 : Int).toNat 0], c33, F33⟩ : Li))) (by show n - (h.1 + 1) < n - h.1; omega) ⟨_, _, _, _, upd_self7 rfl (slice_len (by show (h.2.set _ _).length = _; rw [List.length_set])) rfl rfl rfl rfl (vint (by show _ = ((h.1 + 1 : Nat) : Int); omega)), L, (by omega), oz3, (fz3.mono (by omega)), (gz3.mono (by omega)), (by show ((h.1 + 1 : Nat) : Int) ≤ _; omega), (tab_put hu2 (Int.toNat_natCast _) (by omega) hve)⟩
  ·refine c_end (n_then (wp_seq (c_false rfl ?_)))
   refine wp_exit (e_then (e_then (e_here ?_)))
   refine n_block (n_then (c_reg (s0 (x_add rfl rfl (by omega)) (s0 (xmI rfl) (c_end ?_)))))
   have hke : h.1 = n := by omega
   exact c_round (g' := (g.1 + 1, h.2)) (by show n - (g.1 + 1) < n - g.1; omega) ⟨_, _, _, _, upd_self4 rfl rfl rfl (vint (by show _ = ((g.1 + 1 : Nat) : Int); omega)), L, (by omega), oz3, (fz3.mono (by omega)), (gz3.mono (by omega)), (by show ((g.1 + 1 : Nat) : Int) ≤ _; omega), (by show List.map Li.xs h.2 = _; rw [hu2, hke]; exact tabU_next _ _ _)⟩
 ·refine c_end (n_then (wp_seq (c_false rfl ?_)))
  refine wp_exit (e_then (e_then (e_here ?_)))
  refine n_then (wp_seq (c_reg (s0 (xmS rfl) (s0 (xaS rfl) (c_end (n_then (wp_ret (f_ret rfl rfl ?_))))))))
  have hge : g.1 = n := by omega
  rw [hge, tabU_end _ (Nat.le_refl _)] at hu
  exact ⟨_, rfl, L, _, _, g.2, slice_len hgl.symm, own_rdm oz3 hgl hu⟩

theorem i_matrixH (w : World) :
    Calls Tryz.prog 197 [].toArray w (RetP w fun v w' => ∃ (p' : Option Addr) (c' : Nat) (ls' : List Li), v = .slice p' 8 c' ∧ RdM w' p' 8 c' ls' hEnt) := by
 have L : Exm [] w w := Exm.rfl'
 refine enter (n := 31) Tryz.func197 rfl rfl rfl ?_
 refine wp_seq (c_reg (s0 (xaS rfl) (c_end (n_then (wp_seq (c_reg (s_maker Li.zero lrow_len so187 zr24 rfl rfl (by omega) (by omega) (by omega) ?_)))))))
 intro p4 F4 w1 l2 o4 f4 g4
 have z_l2 := l2.size; have L := L.tr l2.up; have hn4 := o4.nr lrow_len (by decide)
 refine s0 (xaS rfl) (c_end (n_then (wp_seq (wp_seq (c_reg (s0 (xmI rfl) (c_end (n_then (wp_block ?_)))))))))
 refine c_loop (γ := Nat × List Li) (fun g => 8 - g.1) (fun (g : Nat × List Li) E wl => ∃ E0 pz1 cz1 Fz1, E = upd (upd E0 1 (.slice pz1 ((g.2).length) cz1)) 5 (.int .i64 (g.1 : Int)) ∧ (Exm [] w wl) ∧ (w1.heap.size ≤ wl.heap.size) ∧ (OwN (Kl 3) wl 24 pz1 (g.2) cz1 Fz1) ∧ (Fr (w.heap.size) Fz1) ∧ (Lt Fz1 wl.heap.size) ∧ ((g.1 : Int) ≤ 8) ∧ (g.2.map Li.xs = tabU hEnt 8 g.1 0)) (0, List.replicate 8 Li.zero) ⟨_, _, _, _, upd_self2 (slice_len (by simp)) rfl, L, (by omega), (OwN.ofZero (K := (Kl 3)) o4 Own.nil rfl), (f4.mono (by omega)), (g4.mono (by omega)), (by show ((0 : Nat) : Int) ≤ _; omega), (by show (List.replicate _ _).map Li.xs = _; rw [tabU_zero, List.map_replicate]; rfl)⟩ ?_
 rintro g E wl3 ⟨E0, pz1, cz1, Fz1, rfl, L, Lz, oz1, fz1, gz1, hk, hu⟩
 have Lz0 := L.size; have hgl := tab_n hu
 refine wp_seq (c_reg ?_)
 refine sb (x_lss rfl rfl) (fun h6 => ?_) (fun h6 => ?_)
 ·refine c_end (n_then (wp_seq (c_true rfl (c_skipn (n_then (wp_seq (wp_block (wp_seq (c_reg (s0 (xmI rfl) (s0 (xaI rfl) (c_end (n_then ?_)))))))))))))
  refine wp_seq (c_reg (s0 (xmI rfl) (c_end (n_then (wp_block ?_)))))
  refine c_loop (γ := Nat × List Li) (fun h => 8 - h.1) (fun (h : Nat × List Li) E wl => ∃ E0 pz1 cz1 Fz1, E = upd (upd (upd (upd E0 1 (.slice pz1 ((h.2).length) cz1)) 2 (.int .i64 (g.1 : Int))) 5 (.int .i64 (g.1 : Int))) 8 (.int .i64 (h.1 : Int)) ∧ (Exm [] w wl) ∧ (wl3.heap.size ≤ wl.heap.size) ∧ (OwN (Kl 3) wl 24 pz1 (h.2) cz1 Fz1) ∧ (Fr (w.heap.size) Fz1) ∧ (Lt Fz1 wl.heap.size) ∧ ((h.1 : Int) ≤ 8) ∧ (h.2.map Li.xs = tabU hEnt 8 g.1 h.1)) (0, g.2) ⟨_, _, _, _, upd_self4 rfl rfl rfl rfl, L, (by omega), oz1, (fz1.mono (by omega)), (gz1.mono (by omega)), (by show ((0 : Nat) : Int) ≤ _; omega), hu⟩ ?_
  rintro h E wl4 ⟨E0, pz1, cz1, Fz1, rfl, L, Lz, oz1, fz1, gz1, hk2, hu2⟩
  have Lz0 := L.size; have hhl := tab_n hu2
  refine wp_seq (c_reg ?_)
  refine sb (x_lss rfl rfl) (fun h9 => ?_) (fun h9 => ?_)
  ·refine c_end (n_then (wp_seq (c_true rfl (c_skipn (n_then (wp_seq (wp_block (wp_seq (c_reg (s0 (xmI rfl) (s0 (xaI rfl) (c_end (n_then ?_)))))))))))))
   have hrl : (h.2.getD (g.1 : Int).toNat default).xs.length = h.1 := tab_len hu2 (Int.toNat_natCast _) (by omega); have hle7 : g.1 &&& h.1 ≤ 7 := Nat.le_trans Nat.and_le_left (by omega)
   have hp3 : pop3 (g.1 &&& h.1) ≤ 3 := by unfold pop3; omega
   refine c_plan (fun wq => Exm [] wl4 wq) 15 (.cons (0, 2) (.cons (1, 2) (.cons (2, 2) (.cons (3, 2) (.cons (4, 2) (.cons (5, 1) (.cons (6, 2) (.cons (7, 2) (.cons (8, 2) (.cons (9, 2) (.cons (10, 0) (.cons (11, 2) (.cons (12, 2) (.cons (13, 2) (.cons (14, 0) (.cons (15, 0) (.cons (16, 0) (.cons (17, 0) .nil)))))))))))))))))) (by kernel_rfl) (by kernel_rfl) (Exm.drew _) ?_
   obtain ⟨w5, hwd⟩ : ∃ x, x = wl4.drew := ⟨_, rfl⟩
   have l6 : Ext wl4 w5 := by rw [hwd]; exact Exm.drew _
   rw [← hwd]; clear hwd
   have Lq : Exm [] wl4 w5 := l6.up; have qoz1 := oz1; have z_l6 := l6.size; have L := L.tr l6.up; have oz1 := oz1.ext l6
   refine p0 rfl (xmS rfl) (p0 rfl (xmI rfl) (p0 rfl (xmS rfl) (p0 rfl (xmI rfl) (p0 rfl (x_idx so187 rfl rfl oz1.sl (by decide) (by omega) (by omega)) ?_))))
   refine ps rfl (fun wq hwq => x_ldf (k := 0) lrow_len sc24 rfl (qoz1.ext hwq).sl (by omega) (by omega) (by decide) rfl) ?_
   refine p0 rfl (xmI rfl) (p0 rfl (xmI rfl) (p0 rfl (x_and8 rfl rfl (by omega) (by omega)) (p0 rfl (x_conv us3 un173 rfl (u64_in (by omega))) (pu rfl ?_))))
   refine sr (zcall cl225 rfl) (g_ones _ _ (by omega)) ?_
   intro w7 l8
   have z_l8 := l8.size; have L := L.tr l8.up; have Lq := Lq.tr l8.up; have oz1 := oz1.ext l8
   refine c_end ⟨rfl, fun h hS => Lq, ?_⟩
   refine p0 rfl (x_rem rfl rfl (by omega) (by omega)) (p0 rfl (x_mul rfl rfl (by omega)) (p0 rfl (x_sub rfl rfl (by omega)) (pu rfl ?_)))
   refine s_bsi (xs := [_]) so24 zr3 (pts_cons rfl pts_nil) rfl rfl rfl ?_
   intro p25 F25 w9 l10 o25 f25 g25
   have z_l10 := l10.size; have L := L.tr l10.up; have Lq := Lq.tr l10.up; have oz1 := oz1.ext l10; have hn25 := o25.n1
   refine c_end ⟨rfl, fun h hS => Lq, ?_⟩
   refine pu rfl ?_
   have u26 := oz1.sub (get_some (i := (g.1 : Int)) (by omega) (by omega))
   refine s_appH (B := w.heap.size) (i := (g.1 : Int)) so24 zr3 oz1 (by omega) (by omega) rfl rfl o25.sl fz1 (by omega) (by omega) (by omega) ?_
   intro p26 c26 F26 w11 l12 oz1 o26 k26 f26 g26 t26
   have K26 : Grew w9 Fz1 F26 := fun b hb => (k26 b hb).elim (fun h => .inl (u26 b h)) .inr
   have d25_26 : Dj F25 F26 := K26.dj (by first|assumption|exact Dj.symm (by assumption)|exact dj_of f25 g25 fz1 gz1 (by omega)) g25 (by omega)
   have z_l12 := l12.size; have L := L.freshL l12 fz1 (by omega); have o25 := o25.exm l12 (by first|assumption|exact Dj.symm (by assumption)|exact dj_of fz1 gz1 f25 g25 (by omega))
   have hn26 := o26.n1
   refine c_end ⟨rfl, fun h hS => absurd h (by decide), ?_⟩
   refine pu rfl (s0 (x_idx so187 rfl rfl oz1.sl (by decide) (by omega) (by omega)) ?_)
   refine c_end ⟨rfl, fun h hS => absurd h (by decide), ?_⟩
   refine pu rfl ?_
   have dd25 : Dj F25 Fz1 := (by first|assumption|exact Dj.symm (by assumption)|exact dj_of f25 g25 fz1 gz1 (by omega))
   have de25 : Dj F25 F26 := (by first|assumption|exact Dj.symm (by assumption)|exact dj_of f25 g25 f26 g26 (by omega))
   refine s_stoH (v := (⟨p26, (h.2.getD (g.1 : Int).toNat default).xs ++ [(1 - 2 * (((pop3 (g.1 &&& h.1) : Nat) : Int) % 2))], c26, F26⟩ : Li)) (K := (Kl 3)) rfl sz24 rfl rfl rfl rfl rfl rfl oz1 o26 k26 t26 (by omega) (by omega) ?_
   intro w13 Fz1 l14 el14 oz1 ml14
   have z_l14 := l14.size; have L := L.freshL l14 fz1 (by omega); have o25 := o25.exm l14 (by first|assumption|exact Dj.symm (by assumption)|exact dj_of fz1 gz1 f25 g25 (by omega))
   have d25_z1 : Dj F25 Fz1 := fun b hb h => (ml14 _ h).elim (dd25 b hb) (de25 b hb)
   have fz1 : Fr (w.heap.size) Fz1 := fun b hb => (ml14 b hb).elim (fz1 b) (f26 b)
   have gz1 := oz1.lt
   refine c_end ⟨rfl, fun h hS => absurd h (by decide), ?_⟩
   refine p_nil (np_normal ?_)
   refine n_block (n_then (c_reg (s0 (x_add rfl rfl (by omega)) (s0 (xmI rfl) (c_end ?_)))))
   have hve : (1 - 2 * (((pop3 (g.1 &&& h.1) : Nat) : Int) % 2)) = hEnt g.1 h.1 := rfl
   exact c_round (g' := (h.1 + 1, h.2.set (g.1 : Int).toNat (⟨p26, (h.2.getD (g.1 : Int).toNat default).xs ++ [(1 - 2 * (((pop3 (g.1 &&& h.1) : Nat) : Int) % 2))], c26, F26⟩ : Li))) (by show 8 - (h.1 + 1) < 8 - h.1; omega) ⟨_, _, _, _, upd_self4 (slice_len (by show (h.2.set _ _).length = _; rw [List.length_set])) rfl rfl (vint (by show _ = ((h.1 + 1 : Nat) : Int); omega)), L, (by omega), oz1, (fz1.mono (by omega)), (gz1.mono (by omega)), (by show ((h.1 + 1 : Nat) : Int) ≤ _; omega), (tab_put hu2 (Int.toNat_natCast _) (by omega) hve)⟩
  ·refine c_end (n_then (wp_seq (c_false rfl ?_)))
   refine wp_exit (e_then (e_then (e_here ?_)))
   refine n_block (n_then (c_reg (s0 (x_add rfl rfl (by omega)) (s0 (xmI rfl) (c_end ?_)))))
   have hke : h.1 = 8 := by omega
   exact c_round (g' := (g.1 + 1, h.2)) (by show 8 - (g.1 + 1) < 8 - g.1; omega) ⟨_, _, _, _, upd_self2 rfl (vint (by show _ = ((g.1 + 1 : Nat) : Int); omega)), L, (by omega), oz1, (fz1.mono (by omega)), (gz1.mono (by omega)), (by show ((g.1 + 1 : Nat) : Int) ≤ _; omega), (by show List.map Li.xs h.2 = _; rw [hu2, hke]; exact tabU_next _ _ _)⟩
 ·refine c_end (n_then (wp_seq (c_false rfl ?_)))
  refine wp_exit (e_then (e_then (e_here ?_)))
  refine n_then (wp_seq (c_reg (s0 (xmS rfl) (s0 (xaS rfl) (c_end (n_then (wp_ret (f_ret rfl rfl ?_))))))))
  have hge : g.1 = 8 := by omega
  rw [hge, tabU_end _ (Nat.le_refl _)] at hu
  exact ⟨_, rfl, L, _, _, g.2, slice_len hgl.symm, own_rdm oz1 hgl hu⟩

end Go.Proofs.YtepnknffaecbdaaGreat
