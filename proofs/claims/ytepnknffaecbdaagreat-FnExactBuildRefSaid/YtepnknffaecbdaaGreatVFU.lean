/- What each function of this part returns, for every argument that meets its premises. -/
import Derived.Test.YtepnknffaecbdaaGreatProg
import Derived.Test.YtepnknffaecbdaaGreatVSxA
import Derived.Test.YtepnknffaecbdaaGreatVPlA
import Derived.Test.YtepnknffaecbdaaGreatVF9
import Derived.Test.YtepnknffaecbdaaGreatVFD
namespace Go.Proofs.YtepnknffaecbdaaGreat
open Go.Sx Go.Pl Go.RowKit
theorem cl59FU : Callable Tryz.prog 59 := callable Tryz.func59 (by kernel_rfl) rfl
theorem fa71_0FU : FieldAt Tryz.prog 71 0 0 := ⟨_, _, Tryz.underlying71, rfl, rfl, ⟨0, by unfold Sz; kernel_rfl⟩⟩
theorem fa71_1FU : FieldAt Tryz.prog 71 1 1 := ⟨_, _, Tryz.underlying71, rfl, rfl, ⟨0, by unfold Sz; kernel_rfl⟩⟩
theorem sc24FU : Sc Tryz.prog 24 := ⟨(.slice 3), by kernel_rfl, trivial⟩
theorem so32FU : SliceOf Tryz.prog 32 71 2 32 := ⟨by kernel_rfl, by kernel_rfl⟩
theorem sz3FU : Sz Tryz.prog 3 1 := by unfold Sz; kernel_rfl
theorem un32FU : Tryz.prog.underlying 32 = some (.slice 71) := by kernel_rfl
/-- the mark that an element of blocks begins with, by their lengths -/
def kA (f : Nat → Nat) (k : Int) : Nat → Int
  | 0 => k
  | i + 1 => kA f k i + 1 + (f i : Int)
theorem kA_congr {f g : Nat → Nat} (k : Int) {n : Nat} (h : ∀ j, j < n → f j = g j) : kA f k n = kA g k n := by
  induction n with
  | zero => rfl
  | succ n ih => simp only [kA]; rw [ih fun j hj => h j (by omega), h n (by omega)]
theorem kA_range {f : Nat → Nat} (k : Int) {B : Nat} {n : Nat} (h : ∀ j, j < n → f j ≤ B) : k ≤ kA f k n ∧ kA f k n ≤ k + (n : Int) * ((B : Int) + 1) := by
  induction n with
  | zero => simp [kA]
  | succ n ih =>
    have h1 := ih fun j hj => h j (by omega)
    have h2 := h n (by omega)
    have e : ((n + 1 : Nat) : Int) * ((B : Int) + 1) = (n : Int) * ((B : Int) + 1) + ((B : Int) + 1) := by rw [show ((n + 1 : Nat) : Int) = (n : Int) + 1 by omega, Int.add_mul, Int.one_mul]
    simp only [kA]; omega
def bl (bs : List Bk) (j : Nat) : Nat := (bs.getD j default).lv.length
/-- blocks with marks -/
def Mkd (bs : List Bk) (k : Int) : Prop := ∀ j, j < bs.length → (bs.getD j default).mode = kA (bl bs) k j ∧ (bs.getD j default).lv = mkI (kA (bl bs) k j + 1) (bl bs j)
structure MkU (bs L : List Bk) (k : Int) (i : Nat) : Prop where
  len : L.length = bs.length
  same : ∀ j, j < bs.length → bl L j = bl bs j
  done : ∀ j, j < i → (L.getD j default).mode = kA (bl bs) k j ∧ (L.getD j default).lv = mkI (kA (bl bs) k j + 1) (bl bs j)
theorem MkU.start (bs : List Bk) (k : Int) : MkU bs bs k 0 := ⟨rfl, fun _ _ => rfl, fun j hj => by omega⟩
theorem MkU.step {bs L : List Bk} {k : Int} {i n : Nat} (h : MkU bs L k i) (hn : n = i) (hi : i < bs.length) {V : Bk} (hV : V = { (L.getD n default) with mode := kA (bl bs) k i }) {X : Bk} (hX : X = (L.set n V).getD n default) : MkU bs ((L.set n V).set n { X with lv := mkI (kA (bl bs) k i + 1) X.lv.length }) k (i + 1) := by
  subst hn
  have hl : n < L.length := by rw [h.len]; exact hi
  have hl1 : n < (L.set n V).length := by rw [List.length_set]; exact hl
  have hx : X = V := by rw [hX, getD_set1 hl, if_pos rfl]
  have hvl : V.lv.length = bl bs n := by rw [hV]; exact h.same n hi
  refine ⟨by rw [List.length_set, List.length_set]; exact h.len, fun j hj => ?_, fun j hj => ?_⟩
  · unfold bl
    rw [getD_set1 hl1, getD_set1 hl]
    by_cases e : n = j
    · subst e; rw [if_pos rfl]; show (mkI _ _).length = _; rw [mkI_length, hx]; exact hvl
    · rw [if_neg e, if_neg e]; exact h.same j hj
  · rw [getD_set1 hl1, getD_set1 hl]
    by_cases e : n = j
    · subst e; rw [if_pos rfl]
      refine ⟨?_, ?_⟩
      · show X.mode = _; rw [hx, hV]
      · show mkI _ _ = _; rw [hx, hvl]
    · rw [if_neg e, if_neg e]; exact h.done j (by omega)
theorem MkU.small {bs L : List Bk} {k : Int} {i B : Nat} (h : MkU bs L k i) (hb : ∀ b ∈ bs, b.lv.length ≤ B) : ∀ b ∈ L, b.lv.length ≤ B := by
  intro b hx
  obtain ⟨j, hj, rfl⟩ := List.mem_iff_getElem.1 hx
  have hj2 : j < bs.length := by rw [← h.len]; exact hj
  have h1 := h.same j hj2
  have e1 : bl L j = L[j].lv.length := by unfold bl; simp [List.getD, hj]
  have e2 : bl bs j = bs[j].lv.length := by unfold bl; simp [List.getD, hj2]
  have := hb bs[j] (List.getElem_mem hj2)
  omega
theorem MkU.ends {bs L : List Bk} {k : Int} (h : MkU bs L k bs.length) : Mkd L k ∧ kA (bl L) k L.length = kA (bl bs) k bs.length ∧ L.length = bs.length := by
  refine ⟨fun j hj => ?_, ?_, h.len⟩
  · rw [h.len] at hj
    have h1 := h.done j hj
    rw [kA_congr k (f := bl L) (g := bl bs) (n := j) fun i hi => h.same i (by omega), h.same j hj]
    exact h1
  · rw [h.len]; exact kA_congr k fun j hj => h.same j hj

theorem l_markAt {i : Nat} {x : Bk} (p : Option Addr) (bs : List Bk) (c : Nat) (k : Int) (F : List Nat) (w : World) (o : OwN (Kb 3) w 71 p bs c F) (hx : bs[i]? = some x) (hl : x.lv.length ≤ 1099511627776) (hk : 0 ≤ k ∧ k ≤ 4611686018427387904) :
    Calls Tryz.prog 59 [.slice x.p x.lv.length x.c, .int .i64 k].toArray w (RetM F w fun v w' => v = .int .i64 (k + x.lv.length) ∧ OwN (Kb 3) w' 71 p (bs.set i { x with lv := mkI k x.lv.length }) c F) := by
  refine Calls.mono (l_markIntS x.p x.lv x.c k x.F w (o.inner x (List.mem_of_getElem? hx)) hl hk) ?_
  rintro e w' ⟨v, rfl, h1, rfl, h2⟩
  refine ⟨_, rfl, Exm.withinL Exm.rfl' h1 (o.sub hx), rfl, o.turn hx h1 ?_ ?_ rfl⟩
  · show Own w' x.p (mkI k x.lv.length).length x.c 3 1 (ic (mkI k x.lv.length)) x.F
    rw [mkI_length]; exact h2
  · show [Value.int .i64 x.mode, Value.slice x.p (mkI k x.lv.length).length x.c] = _
    rw [mkI_length]; rfl

/-- laws.markBlockS -/
theorem l_markBlockS (pA : Option Addr) (n : Nat) (bs : List Bk) (c : Nat) (k : Int) (FA : List Nat) (w : World) (oA : OwN (Kb 3) w 71 pA bs c FA) (hn : n = bs.length) (hl : n ≤ 1048576) (hb : ∀ b ∈ bs, b.lv.length ≤ 1048576) (hk : 0 ≤ k ∧ k ≤ 2305843009213693952) :
    Calls Tryz.prog 122 [.slice pA n c, .int .i64 k].toArray w (RetM FA w fun v w' => ∃ bs', v = .int .i64 (kA (bl bs') k n) ∧ OwN (Kb 3) w' 71 pA bs' c FA ∧ Mkd bs' k ∧ n = bs'.length ∧ kA (bl bs') k n = kA (bl bs) k n ∧ (∀ b ∈ bs', b.lv.length ≤ 1048576) ∧ k ≤ kA (bl bs') k n ∧ kA (bl bs') k n ≤ k + 1099512676352 ∧ (∀ j, j < n → bl bs' j = bl bs j)) := by
 subst hn
 have fA : Fr 0 FA := fun _ _ => Nat.zero_le _
 have gA := oA.lt; have hbj : ∀ j, j < bs.length → bl bs j ≤ 1048576 := fun j hj => hb _ (getD_mem (xs := bs) (i := (j : Int)) (by omega) (by omega))
 have L : Exm FA w w := Exm.rfl'
 refine enter (n := 27) Tryz.func122 rfl rfl rfl ?_
 refine wp_seq (c_reg (s0 (xaI rfl) (c_end (n_then (wp_seq (wp_seq (c_reg (s0 (xaI rfl) (c_end (n_then (wp_block ?_)))))))))))
 refine c_loop (γ := Nat × List Bk) (fun g => bs.length - g.1) (fun (g : Nat × List Bk) E wl => ∃ E0, E = upd (upd (upd E0 0 (.slice pA g.2.length c)) 1 (.int .i64 (kA (bl bs) k g.1))) 5 (.int .i64 (g.1 : Int)) ∧ (Exm FA w wl) ∧ (OwN (Kb 3) wl 71 pA g.2 c FA) ∧ ((g.1 : Int) ≤ bs.length) ∧ (MkU bs g.2 k g.1)) (0, bs) ⟨_, upd_self3 rfl rfl rfl, L, oA, (by show ((0 : Nat) : Int) ≤ _; omega), (MkU.start bs k)⟩ ?_
 rintro g E wl1 ⟨E0, rfl, L, oA, hj, hu⟩
 have Lz0 := L.size; have hlen := hu.len; have hkr := kA_range k (B := 1048576) (n := g.1) (f := bl bs) (fun j hj => hbj j (by omega))
 have hmul : (g.1 : Int) * ((1048576 : Nat) + 1 : Int) ≤ 1048576 * 1048577 := Int.mul_le_mul (by omega) (by omega) (by omega) (by omega)
 refine wp_seq (wp_seq (c_reg (s0 (xmI rfl) (s0 (xmS rfl) (s0 (x_lensl un32FU rfl) ?_)))))
 refine sb (x_lss rfl rfl) (fun h9 => ?_) (fun h9 => ?_)
 ·refine c_end (n_then (c_true rfl (c_skipn (n_then (wp_seq (wp_block (wp_seq (c_reg (s0 (xmS rfl) (s0 (xmI rfl) (s0 (xmI rfl) ?_)))))))))))
  refine s0 (x_idx so32FU rfl rfl (oA.sln (by first | rfl | omega | (simp only [List.length_set]; done) | (simp only [List.length_set]; omega))) (by decide) (by omega) (by omega)) ?_
  refine s0 (x_fieldAddr fa71_0FU rfl) ?_
  refine s_stofN (K := (Kb 3)) (k := 0) (u := .int _ _) ({ (g.2.getD (g.1 : Int).toNat default) with mode := kA (bl bs) k g.1 }) rfl sz3FU rfl rfl rfl rfl oA (by omega) (by omega) (by decide) rfl rfl (fun _ h => h) ?_
  intro w2 l3 el3 oA
  have z_l3 := l3.size; have L := L.withinL l3 (by simp)
  refine c_end (n_then (wp_seq (c_reg (s0 (xmI rfl) (s0 (x_add rfl rfl (by omega)) (s0 (xaI rfl) (c_end (n_then ?_))))))))
  have hl1 : (g.2.set (g.1 : Int).toNat { (g.2.getD (g.1 : Int).toNat default) with mode := kA (bl bs) k g.1 }).length = bs.length := by rw [List.length_set]; exact hlen
  have hxv : ((g.2.set (g.1 : Int).toNat { (g.2.getD (g.1 : Int).toNat default) with mode := kA (bl bs) k g.1 }).getD (g.1 : Int).toNat default).lv.length = bl bs g.1 := by rw [getD_set1 (by omega), if_pos rfl, Int.toNat_natCast]; exact hu.same g.1 (by omega)
  have hbg := hbj g.1 (by omega)
  refine c_reg (s0 (xmS rfl) (s0 (xmI rfl) ?_))
  refine s0 (x_idx so32FU rfl rfl (oA.sln (by first | rfl | omega | (simp only [List.length_set]; done) | (simp only [List.length_set]; omega))) (by decide) (by omega) (by omega)) ?_
  refine s0 (x_fieldAddr fa71_1FU rfl) ?_
  refine st (x_ldf (u := .slice _ _ _) brow_len sc24FU rfl (oA.sln (by first | rfl | omega | (simp only [List.length_set]; done) | (simp only [List.length_set]; omega))) (by omega) (by omega) (by decide) rfl) ?_
  refine s0 (xmI rfl) ?_
  refine spm (zcall cl59FU rfl) (l_markAt _ _ _ _ _ _ oA (get_some (by omega) (by omega)) (by omega) (by omega)) ?_
  rintro v25 w4 l5 ⟨rfl, oA⟩
  have z_l5 := l5.size; have L := L.withinL l5 (by simp)
  refine s0 (xaI rfl) (c_end (n_block (n_then (c_reg (s0 (xmI rfl) (s0 (x_add rfl rfl (by omega)) (s0 (xaI rfl) (c_end ?_))))))))
  have hst := MkU.step (n := (g.1 : Int).toNat) hu (Int.toNat_natCast _) (by omega) (V := { (g.2.getD (g.1 : Int).toNat default) with mode := kA (bl bs) k g.1 }) rfl (X := (g.2.set (g.1 : Int).toNat { (g.2.getD (g.1 : Int).toNat default) with mode := kA (bl bs) k g.1 }).getD (g.1 : Int).toNat default) rfl
  exact c_round (g' := (g.1 + 1, (g.2.set (g.1 : Int).toNat { (g.2.getD (g.1 : Int).toNat default) with mode := kA (bl bs) k g.1 }).set (g.1 : Int).toNat { ((g.2.set (g.1 : Int).toNat { (g.2.getD (g.1 : Int).toNat default) with mode := kA (bl bs) k g.1 }).getD (g.1 : Int).toNat default) with lv := mkI (kA (bl bs) k g.1 + 1) ((g.2.set (g.1 : Int).toNat { (g.2.getD (g.1 : Int).toNat default) with mode := kA (bl bs) k g.1 }).getD (g.1 : Int).toNat default).lv.length })) (by show bs.length - (g.1 + 1) < bs.length - g.1; omega) ⟨_, upd_self3 (slice_len (by show (List.set (List.set _ _ _) _ _).length = _; rw [List.length_set, List.length_set])) (vint (by show _ = kA (bl bs) k g.1 + 1 + (bl bs g.1 : Int); omega)) (vint (by show _ = ((g.1 + 1 : Nat) : Int); omega)), L, oA, (by show ((g.1 + 1 : Nat) : Int) ≤ _; omega), hst⟩
 ·refine c_end (n_then (c_false rfl ?_))
  refine wp_exit (e_then (e_then (e_here ?_)))
  refine n_then (wp_seq (c_reg (s0 (xmI rfl) (s0 (xaI rfl) (c_end (n_then (wp_ret (f_ret rfl rfl ?_))))))))
  have hge : g.1 = bs.length := by omega
  rw [hge] at hkr hmul
  have hue : MkU bs g.2 k bs.length := by rw [← hge]; exact hu
  obtain ⟨e1, e2, e3⟩ := hue.ends
  rw [e3] at e2
  exact ⟨_, rfl, L, g.2, by rw [e2, ← hge]; rfl, oA, e1, e3.symm, e2, hue.small hb, by omega, by omega, hue.same⟩

end Go.Proofs.YtepnknffaecbdaaGreat
