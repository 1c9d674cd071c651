/- What each function of this part returns, for every argument that meets its premises. -/
import Derived.Test.YtepnknffaecbdaaGreatProg
import Derived.Test.YtepnknffaecbdaaGreatVSxA
import Derived.Test.YtepnknffaecbdaaGreatVPlA
import Derived.Test.YtepnknffaecbdaaGreatVF9
import Derived.Test.YtepnknffaecbdaaGreatVFD
import Derived.Test.YtepnknffaecbdaaGreatVFF
import Derived.Test.YtepnknffaecbdaaGreatVFJ
import Derived.Test.YtepnknffaecbdaaGreatVFU
namespace Go.Proofs.YtepnknffaecbdaaGreat
open Go.Sx Go.Pl Go.RowKit
theorem ag26FX : Ag Tryz.prog 26 6 := ⟨⟨_, Tryz.underlying26⟩, by kernel_rfl⟩
theorem cl122FX : Callable Tryz.prog 122 := callable Tryz.func122 (by kernel_rfl) rfl
theorem cl57FX : Callable Tryz.prog 57 := callable Tryz.func57 (by kernel_rfl) rfl
theorem cl58FX : Callable Tryz.prog 58 := callable Tryz.func58 (by kernel_rfl) rfl
theorem fa29_0FX : FieldAt Tryz.prog 29 0 0 := ⟨_, _, Tryz.underlying29, rfl, rfl, ⟨5, by unfold Sz; kernel_rfl⟩⟩
theorem fa29_1FX : FieldAt Tryz.prog 29 1 6 := ⟨_, _, Tryz.underlying29, rfl, rfl, ⟨0, by unfold Sz; kernel_rfl⟩⟩
theorem fa34_0FX : FieldAt Tryz.prog 34 0 0 := ⟨_, _, Tryz.underlying34, rfl, rfl, ⟨0, by unfold Sz; kernel_rfl⟩⟩
theorem fa34_1FX : FieldAt Tryz.prog 34 1 1 := ⟨_, _, Tryz.underlying34, rfl, rfl, ⟨0, by unfold Sz; kernel_rfl⟩⟩
theorem sc27FX : Sc Tryz.prog 27 := ⟨(.slice 34), by kernel_rfl, trivial⟩
theorem sc32FX : Sc Tryz.prog 32 := ⟨(.slice 71), by kernel_rfl, trivial⟩
theorem so27FX : SliceOf Tryz.prog 27 34 2 32 := ⟨by kernel_rfl, by kernel_rfl⟩
theorem sz4FX : Sz Tryz.prog 4 1 := by unfold Sz; kernel_rfl
theorem un27FX : Tryz.prog.underlying 27 = some (.slice 34) := by kernel_rfl
/-- marks element by element -/
def kG (g : Nat → Int → Int) (k : Int) : Nat → Int
  | 0 => k
  | i + 1 => g i (kG g k i)
theorem kG_congr {g h : Nat → Int → Int} (k : Int) {n : Nat} (e : ∀ j, j < n → ∀ x, g j x = h j x) : kG g k n = kG h k n := by
  induction n with
  | zero => rfl
  | succ n ih => simp only [kG]; rw [ih fun j hj => e j (by omega), e n (by omega)]
def gM (ms : List Mk) (j : Nat) (x : Int) : Int := kA (bl (ms.getD j default).bs) (x + 1) (ms.getD j default).bs.length
/-- macroblocks with marks -/
def MkdM (ms : List Mk) (k : Int) : Prop := ∀ j, j < ms.length → (ms.getD j default).eight = decide (kG (gM ms) k j % 3 = 0) ∧ Mkd (ms.getD j default).bs (kG (gM ms) k j + 1)
def sameB (bs us : List Bk) : Prop := bs.length = us.length ∧ ∀ j, j < us.length → bl bs j = bl us j
structure MuM (ms L : List Mk) (k : Int) (i : Nat) : Prop where
  len : L.length = ms.length
  same : ∀ j, j < ms.length → sameB (L.getD j default).bs (ms.getD j default).bs
  done : ∀ j, j < i → (L.getD j default).eight = decide (kG (gM ms) k j % 3 = 0) ∧ Mkd (L.getD j default).bs (kG (gM ms) k j + 1)
theorem sameB_gM {ms L : List Mk} {j : Nat} (h : sameB (L.getD j default).bs (ms.getD j default).bs) (x : Int) : gM L j x = gM ms j x := by
  unfold gM; rw [h.1]; exact kA_congr _ h.2
theorem MuM.start (ms : List Mk) (k : Int) : MuM ms ms k 0 := ⟨rfl, fun _ _ => ⟨rfl, fun _ _ => rfl⟩, fun j hj => by omega⟩
theorem MuM.step {ms L : List Mk} {k : Int} {i n : Nat} (h : MuM ms L k i) (hn : n = i) (hi : i < ms.length) {V : Mk} (hV : V = { (L.getD n default) with eight := decide (kG (gM ms) k i % 3 = 0) }) {X : Mk} (hX : X = (L.set n V).getD n default) {bs : List Bk} (hm : Mkd bs (kG (gM ms) k i + 1)) (hs : sameB bs X.bs) : MuM ms ((L.set n V).set n { X with bs := bs }) k (i + 1) := by
  subst hn
  have hl : n < L.length := by rw [h.len]; exact hi
  have hl1 : n < (L.set n V).length := by rw [List.length_set]; exact hl
  have hx : X = V := by rw [hX, getD_set1 hl, if_pos rfl]
  have hb : X.bs = (L.getD n default).bs := by rw [hx, hV]
  have h0 := h.same n hi
  refine ⟨by rw [List.length_set, List.length_set]; exact h.len, fun j hj => ?_, fun j hj => ?_⟩
  · rw [getD_set1 hl1, getD_set1 hl]
    by_cases e : n = j
    · subst e; rw [if_pos rfl]
      show sameB bs _
      rw [hb] at hs
      exact ⟨hs.1.trans h0.1, fun j hj2 => (hs.2 j (by rw [h0.1]; exact hj2)).trans (h0.2 j hj2)⟩
    · rw [if_neg e, if_neg e]; exact h.same j hj
  · rw [getD_set1 hl1, getD_set1 hl]
    by_cases e : n = j
    · subst e; rw [if_pos rfl]
      refine ⟨?_, hm⟩
      show X.eight = _; rw [hx, hV]
    · rw [if_neg e, if_neg e]; exact h.done j (by omega)
theorem MuM.ends {ms L : List Mk} {k : Int} (h : MuM ms L k ms.length) : MkdM L k ∧ kG (gM L) k L.length = kG (gM ms) k ms.length ∧ L.length = ms.length := by
  refine ⟨fun j hj => ?_, ?_, h.len⟩
  · rw [h.len] at hj
    have h1 := h.done j hj
    rw [kG_congr k (g := gM L) (h := gM ms) (n := j) fun i hi x => sameB_gM (h.same i (by omega)) x]
    exact h1
  · rw [h.len]; exact kG_congr k fun j hj x => sameB_gM (h.same j hj) x
theorem mk_small {B : Nat} {bs us : List Bk} (h : sameB bs us) (hb : us.length ≤ B ∧ ∀ b ∈ us, b.lv.length ≤ B) : bs.length ≤ B ∧ ∀ b ∈ bs, b.lv.length ≤ B := by
  refine ⟨by rw [h.1]; exact hb.1, fun b hx => ?_⟩
  obtain ⟨j, hj, rfl⟩ := List.mem_iff_getElem.1 hx
  have hj2 : j < us.length := by rw [← h.1]; exact hj
  have h1 := h.2 j hj2
  have e1 : bl bs j = bs[j].lv.length := by unfold bl; simp [List.getD, hj]
  have e2 : bl us j = us[j].lv.length := by unfold bl; simp [List.getD, hj2]
  have := hb.2 us[j] (List.getElem_mem hj2)
  omega
theorem MuM.small {B : Nat} {ms L : List Mk} {k : Int} {i : Nat} (h : MuM ms L k i) (hb : ∀ m ∈ ms, smallM B m) : ∀ m ∈ L, smallM B m := by
  intro m hx
  obtain ⟨j, hj, rfl⟩ := List.mem_iff_getElem.1 hx
  have hj2 : j < ms.length := by rw [← h.len]; exact hj
  have h1 := h.same j hj2
  have e1 : L.getD j default = L[j] := by simp [List.getD, hj]
  have e2 : ms.getD j default = ms[j] := by simp [List.getD, hj2]
  rw [e1, e2] at h1
  exact mk_small h1 (hb ms[j] (List.getElem_mem hj2))
theorem gM_range {ms : List Mk} {j : Nat} (h : smallM 1048576 (ms.getD j default)) (x : Int) : x + 1 ≤ gM ms j x ∧ gM ms j x ≤ x + 1099512676353 := by
  have h1 := kA_range (f := bl (ms.getD j default).bs) (x + 1) (B := 1048576) (n := (ms.getD j default).bs.length) (fun i hi => h.2 _ (getD_mem (xs := (ms.getD j default).bs) (i := (i : Int)) (by omega) (by omega)))
  have h2 : ((ms.getD j default).bs.length : Int) * ((1048576 : Nat) + 1 : Int) ≤ 1048576 * 1048577 := Int.mul_le_mul (by have := h.1; omega) (by omega) (by omega) (by omega)
  unfold gM; omega
theorem kG_range {ms : List Mk} (k : Int) (hb : ∀ m ∈ ms, smallM 1048576 m) {n : Nat} (hn : n ≤ ms.length) : k ≤ kG (gM ms) k n ∧ kG (gM ms) k n ≤ k + (n : Int) * 1099512676353 := by
  induction n with
  | zero => simp [kG]
  | succ n ih =>
    have h1 := ih (by omega)
    have h2 := gM_range (hb _ (getD_mem (xs := ms) (i := (n : Int)) (by omega) (by omega))) (kG (gM ms) k n)
    rw [Int.toNat_natCast] at h2
    simp only [kG]; omega

theorem l_markMbAt {i : Nat} {x : Mk} (p : Option Addr) (ms : List Mk) (c : Nat) (k : Int) (F : List Nat) (w : World) (o : OwN (Km 71 3) w 34 p ms c F) (hx : ms[i]? = some x) (hb : smallM 1048576 x) (hk : 0 ≤ k ∧ k ≤ 2305843009213693952) :
    Calls Tryz.prog 122 [.slice x.p x.bs.length x.c, .int .i64 k].toArray w (RetM F w fun v w' => ∃ bs', v = .int .i64 (kA (bl bs') k x.bs.length) ∧ OwN (Km 71 3) w' 34 p (ms.set i { x with bs := bs' }) c F ∧ Mkd bs' k ∧ sameB bs' x.bs ∧ kA (bl bs') k x.bs.length = kA (bl x.bs) k x.bs.length) := by
  refine Calls.mono (l_markBlockS x.p x.bs.length x.bs x.c k x.F w (o.inner x (List.mem_of_getElem? hx)) rfl hb.1 hb.2 hk) ?_
  rintro e w' ⟨v, rfl, h1, bs', rfl, h2, h3, h4, h5, _, _, _, h6⟩
  refine ⟨_, rfl, Exm.withinL Exm.rfl' h1 (o.sub hx), bs', rfl, o.turn hx h1 h2 ?_ rfl, h3, ⟨h4.symm, h6⟩, h5⟩
  show [Value.bool x.eight, Value.slice x.p bs'.length x.c] = _
  rw [← h4]; rfl

/-- laws.markMbS -/
theorem l_markMbS (pA : Option Addr) (n : Nat) (ms : List Mk) (c : Nat) (k : Int) (FA : List Nat) (w : World) (oA : OwN (Km 71 3) w 34 pA ms c FA) (hn : n = ms.length) (hl : n ≤ 1048576) (hb : ∀ m ∈ ms, smallM 1048576 m) (hk : 0 ≤ k ∧ k ≤ 4398046511104) :
    Calls Tryz.prog 58 [.slice pA n c, .int .i64 k].toArray w (RetM FA w fun v w' => ∃ ms', v = .int .i64 (kG (gM ms') k n) ∧ OwN (Km 71 3) w' 34 pA ms' c FA ∧ MkdM ms' k ∧ n = ms'.length ∧ kG (gM ms') k n = kG (gM ms) k n ∧ (∀ m ∈ ms', smallM 1048576 m) ∧ k ≤ kG (gM ms') k n ∧ kG (gM ms') k n ≤ k + 1152922604119523328) := by
 subst hn
 have fA : Fr 0 FA := fun _ _ => Nat.zero_le _
 have gA := oA.lt; have L : Exm FA w w := Exm.rfl'
 refine enter (n := 29) Tryz.func58 rfl rfl rfl ?_
 refine wp_seq (c_reg (s0 (xaI rfl) (c_end (n_then (wp_seq (wp_seq (c_reg (s0 (xaI rfl) (c_end (n_then (wp_block ?_)))))))))))
 refine c_loop (γ := Nat × List Mk) (fun g => ms.length - g.1) (fun (g : Nat × List Mk) E wl => ∃ E0, E = upd (upd (upd E0 0 (.slice pA g.2.length c)) 1 (.int .i64 (kG (gM ms) k g.1))) 5 (.int .i64 (g.1 : Int)) ∧ (Exm FA w wl) ∧ (OwN (Km 71 3) wl 34 pA g.2 c FA) ∧ ((g.1 : Int) ≤ ms.length) ∧ (MuM ms g.2 k g.1)) (0, ms) ⟨_, upd_self3 rfl rfl rfl, L, oA, (by show ((0 : Nat) : Int) ≤ _; omega), (MuM.start ms k)⟩ ?_
 rintro g E wl1 ⟨E0, rfl, L, oA, hj, hu⟩
 have Lz0 := L.size; have hlen := hu.len; have hkr := kG_range k hb (n := g.1) (by omega)
 refine wp_seq (wp_seq (c_reg (s0 (xmI rfl) (s0 (xmS rfl) (s0 (x_lensl un27FX rfl) ?_)))))
 refine sb (x_lss rfl rfl) (fun h9 => ?_) (fun h9 => ?_)
 ·refine c_end (n_then (c_true rfl (c_skipn (n_then (wp_seq (wp_block (wp_seq (c_reg (s0 (xmS rfl) (s0 (xmI rfl) (s0 (xmI rfl) (s0 (x_rem rfl rfl (by omega) (by omega)) (s0 (x_eql rfl rfl) ?_)))))))))))))
  refine s0 (x_idx so27FX rfl rfl (oA.sln (by first | rfl | omega | (simp only [List.length_set]; done) | (simp only [List.length_set]; omega))) (by decide) (by omega) (by omega)) ?_
  refine s0 (x_fieldAddr fa34_0FX rfl) ?_
  refine s_stofN (K := (Km 71 3)) (k := 0) (u := .bool _) ({ (g.2.getD (g.1 : Int).toNat default) with eight := decide (kG (gM ms) k g.1 % 3 = 0) }) rfl sz4FX rfl rfl rfl rfl oA (by omega) (by omega) (by decide) rfl rfl (fun _ h => h) ?_
  intro w2 l3 el3 oA
  have z_l3 := l3.size; have L := L.withinL l3 (by simp)
  refine c_end (n_then (wp_seq (c_reg (s0 (xmI rfl) (s0 (x_add rfl rfl (by omega)) (s0 (xaI rfl) (c_end (n_then ?_))))))))
  have hl1 : (g.2.set (g.1 : Int).toNat { (g.2.getD (g.1 : Int).toNat default) with eight := decide (kG (gM ms) k g.1 % 3 = 0) }).length = ms.length := by rw [List.length_set]; exact hlen
  have hx0 := hu.small hb _ (getD_mem (xs := g.2) (i := (g.1 : Int)) (by omega) (by omega))
  have hxs : smallM 1048576 ((g.2.set (g.1 : Int).toNat { (g.2.getD (g.1 : Int).toNat default) with eight := decide (kG (gM ms) k g.1 % 3 = 0) }).getD (g.1 : Int).toNat default) := by rw [getD_set1 (by omega), if_pos rfl]; exact hx0
  have hxb : sameB ((g.2.set (g.1 : Int).toNat { (g.2.getD (g.1 : Int).toNat default) with eight := decide (kG (gM ms) k g.1 % 3 = 0) }).getD (g.1 : Int).toNat default).bs (ms.getD g.1 default).bs := by rw [getD_set1 (by omega), if_pos rfl, Int.toNat_natCast]; exact hu.same g.1 (by omega)
  have hxg : kA (bl ((g.2.set (g.1 : Int).toNat { (g.2.getD (g.1 : Int).toNat default) with eight := decide (kG (gM ms) k g.1 % 3 = 0) }).getD (g.1 : Int).toNat default).bs) (kG (gM ms) k g.1 + 1) ((g.2.set (g.1 : Int).toNat { (g.2.getD (g.1 : Int).toNat default) with eight := decide (kG (gM ms) k g.1 % 3 = 0) }).getD (g.1 : Int).toNat default).bs.length = gM ms g.1 (kG (gM ms) k g.1) := by show _ = kA (bl (ms.getD g.1 default).bs) (kG (gM ms) k g.1 + 1) (ms.getD g.1 default).bs.length; rw [hxb.1]; exact kA_congr _ hxb.2
  refine c_reg (s0 (xmS rfl) (s0 (xmI rfl) ?_))
  refine s0 (x_idx so27FX rfl rfl (oA.sln (by first | rfl | omega | (simp only [List.length_set]; done) | (simp only [List.length_set]; omega))) (by decide) (by omega) (by omega)) ?_
  refine s0 (x_fieldAddr fa34_1FX rfl) ?_
  refine st (x_ldf (u := .slice _ _ _) mrow_len sc32FX rfl (oA.sln (by first | rfl | omega | (simp only [List.length_set]; done) | (simp only [List.length_set]; omega))) (by omega) (by omega) (by decide) rfl) ?_
  refine s0 (xmI rfl) ?_
  refine spm (zcall cl122FX rfl) (l_markMbAt _ _ _ _ _ _ oA (get_some (by omega) (by omega)) hxs (by omega)) ?_
  rintro v27 w4 l5 ⟨bs27, rfl, oA, hm27, hs27, hk27⟩
  have z_l5 := l5.size; have L := L.withinL l5 (by simp)
  refine s0 (xaI rfl) (c_end (n_block (n_then (c_reg (s0 (xmI rfl) (s0 (x_add rfl rfl (by omega)) (s0 (xaI rfl) (c_end ?_))))))))
  have hst := MuM.step (n := (g.1 : Int).toNat) hu (Int.toNat_natCast _) (by omega) (V := { (g.2.getD (g.1 : Int).toNat default) with eight := decide (kG (gM ms) k g.1 % 3 = 0) }) rfl (X := ((g.2.set (g.1 : Int).toNat { (g.2.getD (g.1 : Int).toNat default) with eight := decide (kG (gM ms) k g.1 % 3 = 0) }).getD (g.1 : Int).toNat default)) rfl hm27 hs27
  exact c_round (g' := (g.1 + 1, (g.2.set (g.1 : Int).toNat { (g.2.getD (g.1 : Int).toNat default) with eight := decide (kG (gM ms) k g.1 % 3 = 0) }).set (g.1 : Int).toNat { ((g.2.set (g.1 : Int).toNat { (g.2.getD (g.1 : Int).toNat default) with eight := decide (kG (gM ms) k g.1 % 3 = 0) }).getD (g.1 : Int).toNat default) with bs := bs27 })) (by show ms.length - (g.1 + 1) < ms.length - g.1; omega) ⟨_, upd_self3 (slice_len (by show (List.set (List.set _ _ _) _ _).length = _; rw [List.length_set, List.length_set])) (vint (by show _ = gM ms g.1 (kG (gM ms) k g.1); rw [hk27, ← hxg])) (vint (by show _ = ((g.1 + 1 : Nat) : Int); omega)), L, oA, (by show ((g.1 + 1 : Nat) : Int) ≤ _; omega), hst⟩
 ·refine c_end (n_then (c_false rfl ?_))
  refine wp_exit (e_then (e_then (e_here ?_)))
  refine n_then (wp_seq (c_reg (s0 (xmI rfl) (s0 (xaI rfl) (c_end (n_then (wp_ret (f_ret rfl rfl ?_))))))))
  have hge : g.1 = ms.length := by omega
  rw [hge] at hkr
  have hue : MuM ms g.2 k ms.length := by rw [← hge]; exact hu
  obtain ⟨e1, e2, e3⟩ := hue.ends
  rw [e3] at e2
  exact ⟨_, rfl, L, g.2, by rw [e2, ← hge]; rfl, oA, e1, e3.symm, e2, hue.small hb, by omega, by omega⟩

/-- laws.markStream -/
theorem l_markStream (a b q : Int) (y z : Bool) (pA : Option Addr) (nA cA : Nat) (xs : List Int) (pB : Option Addr) (nB : Nat) (ms : List Mk) (cB : Nat) (k : Int) (FA FB : List Nat) (w : World) (oA : Own w pA nA cA 3 1 (ic xs) FA) (oB : OwN (Km 71 3) w 34 pB ms cB FB) (hAB : Dj FA FB) (hn : nB = ms.length) (hlA : nA ≤ 1048576) (hl : nB ≤ 1048576) (hb : ∀ m ∈ ms, smallM 1048576 m) (hk : 0 ≤ k ∧ k ≤ 1099511627776) :
    Calls Tryz.prog 22 [.agg [.int .i64 a, .int .i64 b, .int .i64 q, .bool y, .bool z, .slice pA nA cA, .slice pB nB cB].toArray, .int .i64 k].toArray w (RetM (FA ++ FB) w fun v w' => ∃ ms', v = .int .i64 (kG (gM ms') (k + nA) nB) ∧ Own w' pA nA cA 3 1 (ic (mkI k nA)) FA ∧ OwN (Km 71 3) w' 34 pB ms' cB FB ∧ MkdM ms' (k + nA) ∧ nB = ms'.length ∧ (∀ m ∈ ms', smallM 1048576 m) ∧ k + nA ≤ kG (gM ms') (k + nA) nB ∧ kG (gM ms') (k + nA) nB ≤ k + nA + 1152922604119523328) := by
 have fA : Fr 0 FA := fun _ _ => Nat.zero_le _
 have gA := oA.lt; have fB : Fr 0 FB := fun _ _ => Nat.zero_le _
 have gB := oB.lt; have L : Exm (FA ++ FB) w w := Exm.rfl'
 refine enter (n := 14) Tryz.func22 rfl rfl rfl ?_
 refine wp_seq (c_reg (s_box rfl rfl ?_))
 intro b1 w2 lob1 hib1 l3 B1
 have z_l3 := l3.size; have L := L.tr l3.up; have oA := oA.ext l3; have oB := oB.ext l3
 refine s0 (xaI rfl) (c_end (n_then (wp_seq (c_reg (s0 (x_fieldAddr fa29_0FX rfl) (st (x_loadIn ag26FX rfl B1 [.int _ _, .int _ _, .int _ _, .bool _, .bool _, .slice _ _ _] rfl rfl) (s0 (xmI rfl) ?_)))))))
 refine spm (zcall cl57FX rfl) (l_markHeader _ _ _ _ _ _ _ _ _ _ _ _ oA (by omega) (by omega)) ?_
 rintro v8 w4 l5 ⟨rfl, oA⟩
 have z_l5 := l5.size; have L := L.withinL l5 (fun _ h => List.mem_append_left _ h)
 have B1 := B1.exm l5 (by first|assumption|exact nin_of fA gA (by omega))
 have oB := oB.exm l5 (by first|assumption|exact Dj.symm (by assumption)|exact dj_of fA gA fB gB (by omega))
 refine s0 (xaI rfl) (c_end (n_then (wp_seq (c_reg (s0 (x_fieldAddr fa29_1FX rfl) (st (x_loadB sc27FX rfl B1 rfl) (s0 (xmI rfl) ?_)))))))
 refine spm (zcall cl58FX rfl) (l_markMbS _ _ _ _ _ _ _ oB (by first | rfl | assumption) (by omega) (by assumption) (by omega)) ?_
 rintro v12 w6 l7 ⟨ms12, rfl, oB, hm12, hn12, hk12, hb12, hr12⟩
 have z_l7 := l7.size; have L := L.withinL l7 (fun _ h => List.mem_append_right _ h)
 have B1 := B1.exm l7 (by first|assumption|exact nin_of fB gB (by omega))
 have oA := oA.exm l7 (by first|assumption|exact Dj.symm (by assumption)|exact dj_of fB gB fA gA (by omega))
 refine s0 (xaI rfl) (c_end (n_then (wp_seq (c_reg (s0 (xmI rfl) (s0 (xaI rfl) (c_end (n_then (wp_ret (f_ret rfl rfl ?_))))))))))
 exact ⟨_, rfl, L, ms12, rfl, oA, oB, hm12, hn12, hb12, hr12⟩

end Go.Proofs.YtepnknffaecbdaaGreat
