/- What each function of this part returns, for every argument that meets its premises. -/
import Derived.Test.YtnehdmcilmlchaaProg
import Derived.Test.YtnehdmcilmlchaaVSxG
import Derived.Test.YtnehdmcilmlchaaVPlU
import Derived.Test.YtnehdmcilmlchaaVF9
import Derived.Test.YtnehdmcilmlchaaVFD
import Derived.Test.YtnehdmcilmlchaaVFF
import Derived.Test.YtnehdmcilmlchaaVFJ
import Derived.Test.YtnehdmcilmlchaaVFU
namespace Go.Proofs.Ytnehdmcilmlchaa
open Go.Sx Go.Pl Go.RowKit
theorem ag42FX : Ag Try.prog 42 6 := ⟨⟨_, Try.underlying42⟩, by kernel_rfl⟩
theorem cl125FX : Callable Try.prog 125 := callable Try.func125 (by kernel_rfl) rfl
theorem cl126FX : Callable Try.prog 126 := callable Try.func126 (by kernel_rfl) rfl
theorem cl142FX : Callable Try.prog 142 := callable Try.func142 (by kernel_rfl) rfl
theorem cl143FX : Callable Try.prog 143 := callable Try.func143 (by kernel_rfl) rfl
theorem cl54FX : Callable Try.prog 54 := callable Try.func54 (by kernel_rfl) rfl
theorem cl55FX : Callable Try.prog 55 := callable Try.func55 (by kernel_rfl) rfl
theorem fa54_0FX : FieldAt Try.prog 54 0 0 := ⟨_, _, Try.underlying54, rfl, rfl, ⟨0, by unfold Sz; kernel_rfl⟩⟩
theorem fa54_1FX : FieldAt Try.prog 54 1 1 := ⟨_, _, Try.underlying54, rfl, rfl, ⟨0, by unfold Sz; kernel_rfl⟩⟩
theorem fa85_0FX : FieldAt Try.prog 85 0 0 := ⟨_, _, Try.underlying85, rfl, rfl, ⟨5, by unfold Sz; kernel_rfl⟩⟩
theorem fa85_1FX : FieldAt Try.prog 85 1 6 := ⟨_, _, Try.underlying85, rfl, rfl, ⟨0, by unfold Sz; kernel_rfl⟩⟩
theorem sc4FX : Sc Try.prog 4 := ⟨.bool, by kernel_rfl, trivial⟩
theorem sc52FX : Sc Try.prog 52 := ⟨(.slice 111), by kernel_rfl, trivial⟩
theorem sc83FX : Sc Try.prog 83 := ⟨(.slice 54), by kernel_rfl, trivial⟩
theorem so83FX : SliceOf Try.prog 83 54 2 32 := ⟨by kernel_rfl, by kernel_rfl⟩
theorem sz4FX : Sz Try.prog 4 1 := by unfold Sz; kernel_rfl
theorem un4FX : Try.prog.underlying 4 = some .bool := by kernel_rfl
theorem un83FX : Try.prog.underlying 83 = some (.slice 54) := by kernel_rfl
/-- marks element by element -/
def kG (g : Nat → Int → Int) (k : Int) : Nat → Int
  | 0 => k
  | i + 1 => g i (kG g k i)
theorem kG_congr {g h : Nat → Int → Int} (k : Int) {n : Nat} (e : ∀ j, j < n → ∀ x, g j x = h j x) : kG g k n = kG h k n := by
  induction n with
  | zero => rfl
  | succ n ih => simp only [kG]; rw [ih fun j hj => e j (by omega), e n (by omega)]
def gM (ms : List Mk) (j : Nat) (x : Int) : Int := kA (bl (ms.getD j default).bs) (x + 1) (ms.getD j default).bs.length
/-- macroblocks with marks -/
def MkdM (ms : List Mk) (k : Int) : Prop := ∀ j, j < ms.length → (ms.getD j default).eight = decide (kG (gM ms) k j % 3 = 0) ∧ Mkd (ms.getD j default).bs (kG (gM ms) k j + 1)
def sameB (bs us : List Bk) : Prop := bs.length = us.length ∧ ∀ j, j < us.length → bl bs j = bl us j
structure MuM (ms L : List Mk) (k : Int) (i : Nat) : Prop where
  len : L.length = ms.length
  same : ∀ j, j < ms.length → sameB (L.getD j default).bs (ms.getD j default).bs
  done : ∀ j, j < i → (L.getD j default).eight = decide (kG (gM ms) k j % 3 = 0) ∧ Mkd (L.getD j default).bs (kG (gM ms) k j + 1)
theorem sameB_gM {ms L : List Mk} {j : Nat} (h : sameB (L.getD j default).bs (ms.getD j default).bs) (x : Int) : gM L j x = gM ms j x := by
  unfold gM; rw [h.1]; exact kA_congr _ h.2
theorem MuM.start (ms : List Mk) (k : Int) : MuM ms ms k 0 := ⟨rfl, fun _ _ => ⟨rfl, fun _ _ => rfl⟩, fun j hj => by omega⟩
theorem MuM.step {ms L : List Mk} {k : Int} {i n : Nat} (h : MuM ms L k i) (hn : n = i) (hi : i < ms.length) {V : Mk} (hV : V = { (L.getD n default) with eight := decide (kG (gM ms) k i % 3 = 0) }) {X : Mk} (hX : X = (L.set n V).getD n default) {bs : List Bk} (hm : Mkd bs (kG (gM ms) k i + 1)) (hs : sameB bs X.bs) : MuM ms ((L.set n V).set n { X with bs := bs }) k (i + 1) := by
  subst hn
  have hl : n < L.length := by rw [h.len]; exact hi
  have hl1 : n < (L.set n V).length := by rw [List.length_set]; exact hl
  have hx : X = V := by rw [hX, getD_set1 hl, if_pos rfl]
  have hb : X.bs = (L.getD n default).bs := by rw [hx, hV]
  have h0 := h.same n hi
  refine ⟨by rw [List.length_set, List.length_set]; exact h.len, fun j hj => ?_, fun j hj => ?_⟩
  · rw [getD_set1 hl1, getD_set1 hl]
    by_cases e : n = j
    · subst e; rw [if_pos rfl]
      show sameB bs _
      rw [hb] at hs
      exact ⟨hs.1.trans h0.1, fun j hj2 => (hs.2 j (by rw [h0.1]; exact hj2)).trans (h0.2 j hj2)⟩
    · rw [if_neg e, if_neg e]; exact h.same j hj
  · rw [getD_set1 hl1, getD_set1 hl]
    by_cases e : n = j
    · subst e; rw [if_pos rfl]
      refine ⟨?_, hm⟩
      show X.eight = _; rw [hx, hV]
    · rw [if_neg e, if_neg e]; exact h.done j (by omega)
theorem MuM.ends {ms L : List Mk} {k : Int} (h : MuM ms L k ms.length) : MkdM L k ∧ kG (gM L) k L.length = kG (gM ms) k ms.length ∧ L.length = ms.length := by
  refine ⟨fun j hj => ?_, ?_, h.len⟩
  · rw [h.len] at hj
    have h1 := h.done j hj
    rw [kG_congr k (g := gM L) (h := gM ms) (n := j) fun i hi x => sameB_gM (h.same i (by omega)) x]
    exact h1
  · rw [h.len]; exact kG_congr k fun j hj x => sameB_gM (h.same j hj) x
theorem mk_small {B : Nat} {bs us : List Bk} (h : sameB bs us) (hb : us.length ≤ B ∧ ∀ b ∈ us, b.lv.length ≤ B) : bs.length ≤ B ∧ ∀ b ∈ bs, b.lv.length ≤ B := by
  refine ⟨by rw [h.1]; exact hb.1, fun b hx => ?_⟩
  obtain ⟨j, hj, rfl⟩ := List.mem_iff_getElem.1 hx
  have hj2 : j < us.length := by rw [← h.1]; exact hj
  have h1 := h.2 j hj2
  have e1 : bl bs j = bs[j].lv.length := by unfold bl; simp [List.getD, hj]
  have e2 : bl us j = us[j].lv.length := by unfold bl; simp [List.getD, hj2]
  have := hb.2 us[j] (List.getElem_mem hj2)
  omega
theorem MuM.small {B : Nat} {ms L : List Mk} {k : Int} {i : Nat} (h : MuM ms L k i) (hb : ∀ m ∈ ms, smallM B m) : ∀ m ∈ L, smallM B m := by
  intro m hx
  obtain ⟨j, hj, rfl⟩ := List.mem_iff_getElem.1 hx
  have hj2 : j < ms.length := by rw [← h.len]; exact hj
  have h1 := h.same j hj2
  have e1 : L.getD j default = L[j] := by simp [List.getD, hj]
  have e2 : ms.getD j default = ms[j] := by simp [List.getD, hj2]
  rw [e1, e2] at h1
  exact mk_small h1 (hb ms[j] (List.getElem_mem hj2))
theorem gM_range {ms : List Mk} {j : Nat} (h : smallM 1048576 (ms.getD j default)) (x : Int) : x + 1 ≤ gM ms j x ∧ gM ms j x ≤ x + 1099512676353 := by
  have h1 := kA_range (f := bl (ms.getD j default).bs) (x + 1) (B := 1048576) (n := (ms.getD j default).bs.length) (fun i hi => h.2 _ (getD_mem (xs := (ms.getD j default).bs) (i := (i : Int)) (by omega) (by omega)))
  have h2 : ((ms.getD j default).bs.length : Int) * ((1048576 : Nat) + 1 : Int) ≤ 1048576 * 1048577 := Int.mul_le_mul (by have := h.1; omega) (by omega) (by omega) (by omega)
  unfold gM; omega
theorem kG_range {ms : List Mk} (k : Int) (hb : ∀ m ∈ ms, smallM 1048576 m) {n : Nat} (hn : n ≤ ms.length) : k ≤ kG (gM ms) k n ∧ kG (gM ms) k n ≤ k + (n : Int) * 1099512676353 := by
  induction n with
  | zero => simp [kG]
  | succ n ih =>
    have h1 := ih (by omega)
    have h2 := gM_range (hb _ (getD_mem (xs := ms) (i := (n : Int)) (by omega) (by omega))) (kG (gM ms) k n)
    rw [Int.toNat_natCast] at h2
    simp only [kG]; omega

theorem l_markMbAt {i : Nat} {x : Mk} (p : Option Addr) (ms : List Mk) (c : Nat) (k : Int) (F : List Nat) (w : World) (o : OwN (Km 111 3) w 54 p ms c F) (hx : ms[i]? = some x) (hb : smallM 1048576 x) (hk : 0 ≤ k ∧ k ≤ 2305843009213693952) :
    Calls Try.prog 125 [.slice x.p x.bs.length x.c, .int .i64 k].toArray w (RetM F w fun v w' => ∃ bs', v = .int .i64 (kA (bl bs') k x.bs.length) ∧ OwN (Km 111 3) w' 54 p (ms.set i { x with bs := bs' }) c F ∧ Mkd bs' k ∧ sameB bs' x.bs ∧ kA (bl bs') k x.bs.length = kA (bl x.bs) k x.bs.length) := by
  refine Calls.mono (l_markBlockS x.p x.bs.length x.bs x.c k x.F w (o.inner x (List.mem_of_getElem? hx)) rfl hb.1 hb.2 hk) ?_
  rintro e w' ⟨v, rfl, h1, bs', rfl, h2, h3, h4, h5, _, _, _, h6⟩
  refine ⟨_, rfl, Exm.withinL Exm.rfl' h1 (o.sub hx), bs', rfl, o.turn hx h1 h2 ?_ rfl, h3, ⟨h4.symm, h6⟩, h5⟩
  show [Value.bool x.eight, Value.slice x.p bs'.length x.c] = _
  rw [← h4]; rfl

/-- laws.markMbS -/
theorem l_markMbS (pA : Option Addr) (n : Nat) (ms : List Mk) (c : Nat) (k : Int) (FA : List Nat) (w : World) (oA : OwN (Km 111 3) w 54 pA ms c FA) (hn : n = ms.length) (hl : n ≤ 1048576) (hb : ∀ m ∈ ms, smallM 1048576 m) (hk : 0 ≤ k ∧ k ≤ 4398046511104) :
    Calls Try.prog 142 [.slice pA n c, .int .i64 k].toArray w (RetM FA w fun v w' => ∃ ms', v = .int .i64 (kG (gM ms') k n) ∧ OwN (Km 111 3) w' 54 pA ms' c FA ∧ MkdM ms' k ∧ n = ms'.length ∧ kG (gM ms') k n = kG (gM ms) k n ∧ (∀ m ∈ ms', smallM 1048576 m) ∧ k ≤ kG (gM ms') k n ∧ kG (gM ms') k n ≤ k + 1152922604119523328) := by
  subst hn
  have fA : Fr 0 FA := fun _ _ => Nat.zero_le _
  have gA := oA.lt
  have L : Exm FA w w := Exm.rfl'
  refine enter (n := 29) Try.func142 rfl rfl rfl ?_
  refine wp_seq ?_
  refine c_reg ?_
  refine s0 (x_assign (v := .int _ _) rfl) ?_
  refine c_end ?_
  refine n_then ?_
  refine wp_seq ?_
  refine wp_seq ?_
  refine c_reg ?_
  refine s0 (x_assign (v := .int _ _) rfl) ?_
  refine c_end ?_
  refine n_then ?_
  refine wp_block ?_
  refine c_loop (γ := Nat × List Mk) (fun g => ms.length - g.1) (fun (g : Nat × List Mk) E wl => ∃ E0, E = upd (upd (upd E0 0 (.slice pA g.2.length c)) 1 (.int .i64 (kG (gM ms) k g.1))) 5 (.int .i64 (g.1 : Int)) ∧ (Exm FA w wl) ∧ (OwN (Km 111 3) wl 54 pA g.2 c FA) ∧ ((g.1 : Int) ≤ ms.length) ∧ (MuM ms g.2 k g.1)) (0, ms) ⟨_, upd_self3 rfl rfl rfl, L, oA, (by show ((0 : Nat) : Int) ≤ _; omega), (MuM.start ms k)⟩ ?_
  rintro g E wl1 ⟨E0, rfl, L, oA, hj, hu⟩
  have Lz0 := L.size
  have hlen := hu.len
  have hkr := kG_range k hb (n := g.1) (by omega)
  refine wp_seq ?_
  refine wp_seq ?_
  refine c_reg ?_
  refine s0 (x_move (v := .int _ _) rfl) ?_
  refine s0 (x_move (v := .slice _ _ _) rfl) ?_
  refine s0 (x_lensl un83FX rfl) ?_
  refine sb (x_lss rfl rfl) (fun h9 => ?_) (fun h9 => ?_)
  · refine c_end ?_
    refine n_then ?_
    refine c_true rfl ?_
    refine c_skipn ?_
    refine n_then ?_
    refine wp_seq ?_
    refine wp_block ?_
    refine wp_seq ?_
    refine c_reg ?_
    refine s0 (x_move (v := .slice _ _ _) rfl) ?_
    refine s0 (x_move (v := .int _ _) rfl) ?_
    refine s0 (x_move (v := .int _ _) rfl) ?_
    refine s0 (x_rem rfl rfl (by omega) (by omega)) ?_
    refine s0 (x_eql rfl rfl) ?_
    refine s0 (x_idx so83FX rfl rfl (oA.sln (by first | rfl | omega | (simp only [List.length_set]; done) | (simp only [List.length_set]; omega))) (by decide) (by omega) (by omega)) ?_
    refine s0 (x_fieldAddr fa54_0FX rfl) ?_
    refine s_stofN (K := (Km 111 3)) (k := 0) (u := .bool _) ({ (g.2.getD (g.1 : Int).toNat default) with eight := decide (kG (gM ms) k g.1 % 3 = 0) }) rfl sz4FX rfl rfl rfl rfl oA (by omega) (by omega) (by decide) rfl rfl (fun _ h => h) ?_
    intro w2 l3 el3 oA
    have z_l3 := l3.size
    have L := L.withinL l3 (by simp)
    refine c_end ?_
    refine n_then ?_
    refine wp_seq ?_
    refine c_reg ?_
    refine s0 (x_move (v := .int _ _) rfl) ?_
    refine s0 (x_add rfl rfl (by omega)) ?_
    refine s0 (x_assign (v := .int _ _) rfl) ?_
    refine c_end ?_
    refine n_then ?_
    have hl1 : (g.2.set (g.1 : Int).toNat { (g.2.getD (g.1 : Int).toNat default) with eight := decide (kG (gM ms) k g.1 % 3 = 0) }).length = ms.length := by rw [List.length_set]; exact hlen
    have hx0 := hu.small hb _ (getD_mem (xs := g.2) (i := (g.1 : Int)) (by omega) (by omega))
    have hxs : smallM 1048576 ((g.2.set (g.1 : Int).toNat { (g.2.getD (g.1 : Int).toNat default) with eight := decide (kG (gM ms) k g.1 % 3 = 0) }).getD (g.1 : Int).toNat default) := by rw [getD_set1 (by omega), if_pos rfl]; exact hx0
    have hxb : sameB ((g.2.set (g.1 : Int).toNat { (g.2.getD (g.1 : Int).toNat default) with eight := decide (kG (gM ms) k g.1 % 3 = 0) }).getD (g.1 : Int).toNat default).bs (ms.getD g.1 default).bs := by rw [getD_set1 (by omega), if_pos rfl, Int.toNat_natCast]; exact hu.same g.1 (by omega)
    have hxg : kA (bl ((g.2.set (g.1 : Int).toNat { (g.2.getD (g.1 : Int).toNat default) with eight := decide (kG (gM ms) k g.1 % 3 = 0) }).getD (g.1 : Int).toNat default).bs) (kG (gM ms) k g.1 + 1) ((g.2.set (g.1 : Int).toNat { (g.2.getD (g.1 : Int).toNat default) with eight := decide (kG (gM ms) k g.1 % 3 = 0) }).getD (g.1 : Int).toNat default).bs.length = gM ms g.1 (kG (gM ms) k g.1) := by show _ = kA (bl (ms.getD g.1 default).bs) (kG (gM ms) k g.1 + 1) (ms.getD g.1 default).bs.length; rw [hxb.1]; exact kA_congr _ hxb.2
    refine c_reg ?_
    refine s0 (x_move (v := .slice _ _ _) rfl) ?_
    refine s0 (x_move (v := .int _ _) rfl) ?_
    refine s0 (x_idx so83FX rfl rfl (oA.sln (by first | rfl | omega | (simp only [List.length_set]; done) | (simp only [List.length_set]; omega))) (by decide) (by omega) (by omega)) ?_
    refine s0 (x_fieldAddr fa54_1FX rfl) ?_
    refine st (x_ldf (u := .slice _ _ _) mrow_len sc52FX rfl (oA.sln (by first | rfl | omega | (simp only [List.length_set]; done) | (simp only [List.length_set]; omega))) (by omega) (by omega) (by decide) rfl) ?_
    refine s0 (x_move (v := .int _ _) rfl) ?_
    refine spm (zcall cl125FX rfl) (l_markMbAt _ _ _ _ _ _ oA (get_some (by omega) (by omega)) hxs (by omega)) ?_
    rintro v27 w4 l5 ⟨bs27, rfl, oA, hm27, hs27, hk27⟩
    have z_l5 := l5.size
    have L := L.withinL l5 (by simp)
    refine s0 (x_assign (v := .int _ _) rfl) ?_
    refine c_end ?_
    refine n_block ?_
    refine n_then ?_
    refine c_reg ?_
    refine s0 (x_move (v := .int _ _) rfl) ?_
    refine s0 (x_add rfl rfl (by omega)) ?_
    refine s0 (x_assign (v := .int _ _) rfl) ?_
    refine c_end ?_
    have hst := MuM.step (n := (g.1 : Int).toNat) hu (Int.toNat_natCast _) (by omega) (V := { (g.2.getD (g.1 : Int).toNat default) with eight := decide (kG (gM ms) k g.1 % 3 = 0) }) rfl (X := ((g.2.set (g.1 : Int).toNat { (g.2.getD (g.1 : Int).toNat default) with eight := decide (kG (gM ms) k g.1 % 3 = 0) }).getD (g.1 : Int).toNat default)) rfl hm27 hs27
    exact c_round (g' := (g.1 + 1, (g.2.set (g.1 : Int).toNat { (g.2.getD (g.1 : Int).toNat default) with eight := decide (kG (gM ms) k g.1 % 3 = 0) }).set (g.1 : Int).toNat { ((g.2.set (g.1 : Int).toNat { (g.2.getD (g.1 : Int).toNat default) with eight := decide (kG (gM ms) k g.1 % 3 = 0) }).getD (g.1 : Int).toNat default) with bs := bs27 })) (by show ms.length - (g.1 + 1) < ms.length - g.1; omega) ⟨_, upd_self3 (slice_len (by show (List.set (List.set _ _ _) _ _).length = _; rw [List.length_set, List.length_set])) (vint (by show _ = gM ms g.1 (kG (gM ms) k g.1); rw [hk27, ← hxg])) (vint (by show _ = ((g.1 + 1 : Nat) : Int); omega)), L, oA, (by show ((g.1 + 1 : Nat) : Int) ≤ _; omega), hst⟩
  · refine c_end ?_
    refine n_then ?_
    refine c_false rfl ?_
    refine wp_exit (e_then (e_then (e_here ?_)))
    refine n_then ?_
    refine wp_seq ?_
    refine c_reg ?_
    refine s0 (x_move (v := .int _ _) rfl) ?_
    refine s0 (x_assign (v := .int _ _) rfl) ?_
    refine c_end ?_
    refine n_then ?_
    refine wp_ret ?_
    refine f_ret rfl rfl ?_
    have hge : g.1 = ms.length := by omega
    rw [hge] at hkr
    have hue : MuM ms g.2 k ms.length := by rw [← hge]; exact hu
    obtain ⟨e1, e2, e3⟩ := hue.ends
    rw [e3] at e2
    exact ⟨_, rfl, L, g.2, by rw [e2, ← hge]; rfl, oA, e1, e3.symm, e2, hue.small hb, by omega, by omega⟩

/-- laws.heldMbS -/
theorem l_heldMbS (p : Option Addr) (n : Nat) (ms : List Mk) (c : Nat) (k : Int) (w : World) (hp : RdMs w p ms c) (hn : n = ms.length) (hm : MkdM ms k) (hl : n ≤ 1048576) (hb : ∀ m ∈ ms, smallM 1048576 m) (hk : 0 ≤ k ∧ k ≤ 4398046511104) :
    Calls Try.prog 143 [.slice p n c, .int .i64 k].toArray w (Ret w (.int .i64 (kG (gM ms) k n))) := by
  subst hn
  have L : Exm [] w w := Exm.rfl'
  refine enter (n := 33) Try.func143 rfl rfl rfl ?_
  refine wp_seq ?_
  refine c_reg ?_
  refine s0 (x_assign (v := .int _ _) rfl) ?_
  refine c_end ?_
  refine n_then ?_
  refine wp_seq ?_
  refine wp_seq ?_
  refine c_reg ?_
  refine s0 (x_assign (v := .int _ _) rfl) ?_
  refine c_end ?_
  refine n_then ?_
  refine wp_block ?_
  refine c_loop (γ := Nat) (fun g => ms.length - g) (fun (g : Nat) E wl => ∃ E0, E = upd (upd (upd E0 0 (.slice p ms.length c)) 1 (.int .i64 (kG (gM ms) k g))) 5 (.int .i64 (g : Int)) ∧ (Exm [] w wl) ∧ ((g : Int) ≤ ms.length)) 0 ⟨_, upd_self3 rfl rfl rfl, L, (by omega)⟩ ?_
  rintro g E wl1 ⟨E0, rfl, L, hj⟩
  have Lz0 := L.size
  have hkr := kG_range k hb (n := g) (by omega)
  refine wp_seq ?_
  refine wp_seq ?_
  refine c_reg ?_
  refine s0 (x_move (v := .int _ _) rfl) ?_
  refine s0 (x_move (v := .slice _ _ _) rfl) ?_
  refine s0 (x_lensl un83FX rfl) ?_
  refine sb (x_lss rfl rfl) (fun h9 => ?_) (fun h9 => ?_)
  · refine c_end ?_
    refine n_then ?_
    refine c_true rfl ?_
    refine c_skipn ?_
    refine n_then ?_
    refine wp_seq ?_
    refine wp_block ?_
    refine wp_seq ?_
    refine wp_seq ?_
    have hmk := hm g (by omega)
    refine c_reg ?_
    refine s0 (x_move (v := .slice _ _ _) rfl) ?_
    refine s0 (x_move (v := .int _ _) rfl) ?_
    refine s0 (x_idx so83FX rfl rfl hp.1 (by decide) (by omega) (by omega)) ?_
    refine s0 (x_fieldAddr fa54_0FX rfl) ?_
    refine st (x_ldf (u := .bool _) mrow_len sc4FX rfl (hp.1.ext L) (by omega) (by omega) (by decide) rfl) ?_
    refine s0 (x_move (v := .int _ _) rfl) ?_
    refine s0 (x_rem rfl rfl (by omega) (by omega)) ?_
    refine s0 (x_eql rfl rfl) ?_
    refine sb (x_neqb un4FX rfl rfl) (fun h20 => ?_) (fun h20 => ?_)
    · exact absurd (by rw [Int.toNat_natCast]; exact hmk.1) h20
    · refine c_end ?_
      refine n_then ?_
      refine c_false rfl ?_
      refine c_skipn ?_
      refine n_then ?_
      refine wp_seq ?_
      refine c_reg ?_
      refine s0 (x_move (v := .int _ _) rfl) ?_
      refine s0 (x_add rfl rfl (by omega)) ?_
      refine s0 (x_assign (v := .int _ _) rfl) ?_
      refine c_end ?_
      refine n_then ?_
      refine wp_seq ?_
      have hbg := hb _ (getD_mem (xs := ms) (i := (g : Int)) (by omega) (by omega))
      have hle : Mkd (ms.getD (g : Int).toNat default).bs (kG (gM ms) k g + 1) := by rw [Int.toNat_natCast]; exact hmk.2
      have hgr := gM_range hbg (kG (gM ms) k g)
      rw [Int.toNat_natCast] at hgr
      have hge2 : kA (bl (ms.getD (g : Int).toNat default).bs) (kG (gM ms) k g + 1) (ms.getD (g : Int).toNat default).bs.length = gM ms g (kG (gM ms) k g) := by rw [Int.toNat_natCast]; rfl
      refine c_reg ?_
      refine s0 (x_move (v := .slice _ _ _) rfl) ?_
      refine s0 (x_move (v := .int _ _) rfl) ?_
      refine s0 (x_idx so83FX rfl rfl hp.1 (by decide) (by omega) (by omega)) ?_
      refine s0 (x_fieldAddr fa54_1FX rfl) ?_
      refine st (x_ldf (u := .slice _ _ _) mrow_len sc52FX rfl (hp.1.ext L) (by omega) (by omega) (by decide) rfl) ?_
      refine s0 (x_move (v := .int _ _) rfl) ?_
      refine sr (zcall cl126FX rfl) (l_heldBlockS _ _ _ _ _ _ ((hp.2 _ (getD_mem (by omega) (by omega))).ext L) rfl hle (by have := hbg.1; omega) hbg.2 (by omega)) ?_
      intro w2 l3
      have z_l3 := l3.size
      have L := L.tr l3.up
      refine s0 (x_assign (v := .int _ _) rfl) ?_
      refine c_end ?_
      refine n_then ?_
      refine wp_seq ?_
      refine c_reg ?_
      refine s0 (x_move (v := .int _ _) rfl) ?_
      refine sb (x_lss rfl rfl) (fun h31 => ?_) (fun h31 => ?_)
      · omega
      · refine c_end ?_
        refine n_then ?_
        refine c_false rfl ?_
        refine c_skipn ?_
        refine n_block ?_
        refine n_then ?_
        refine c_reg ?_
        refine s0 (x_move (v := .int _ _) rfl) ?_
        refine s0 (x_add rfl rfl (by omega)) ?_
        refine s0 (x_assign (v := .int _ _) rfl) ?_
        refine c_end ?_
        exact c_round (g' := g + 1) (by omega) ⟨_, upd_self3 rfl (vint (by show _ = gM ms g (kG (gM ms) k g); rw [Int.toNat_natCast]; rfl)) (vint (by omega)), L, (by omega)⟩
  · refine c_end ?_
    refine n_then ?_
    refine c_false rfl ?_
    refine wp_exit (e_then (e_then (e_here ?_)))
    refine n_then ?_
    refine wp_seq ?_
    refine c_reg ?_
    refine s0 (x_move (v := .int _ _) rfl) ?_
    refine s0 (x_assign (v := .int _ _) rfl) ?_
    refine c_end ?_
    refine n_then ?_
    refine wp_ret ?_
    refine f_ret rfl rfl ?_
    have hge : g = ms.length := by omega
    exact ⟨ret_int (by rw [hge]), L⟩

/-- laws.markStream -/
theorem l_markStream (a b q : Int) (y z : Bool) (pA : Option Addr) (nA cA : Nat) (xs : List Int) (pB : Option Addr) (nB : Nat) (ms : List Mk) (cB : Nat) (k : Int) (FA FB : List Nat) (w : World) (oA : Own w pA nA cA 3 1 (ic xs) FA) (oB : OwN (Km 111 3) w 54 pB ms cB FB) (hAB : Dj FA FB) (hn : nB = ms.length) (hlA : nA ≤ 1048576) (hl : nB ≤ 1048576) (hb : ∀ m ∈ ms, smallM 1048576 m) (hk : 0 ≤ k ∧ k ≤ 1099511627776) :
    Calls Try.prog 59 [.agg [.int .i64 a, .int .i64 b, .int .i64 q, .bool y, .bool z, .slice pA nA cA, .slice pB nB cB].toArray, .int .i64 k].toArray w (RetM (FA ++ FB) w fun v w' => ∃ ms', v = .int .i64 (kG (gM ms') (k + nA) nB) ∧ Own w' pA nA cA 3 1 (ic (mkI k nA)) FA ∧ OwN (Km 111 3) w' 54 pB ms' cB FB ∧ MkdM ms' (k + nA) ∧ nB = ms'.length ∧ (∀ m ∈ ms', smallM 1048576 m) ∧ k + nA ≤ kG (gM ms') (k + nA) nB ∧ kG (gM ms') (k + nA) nB ≤ k + nA + 1152922604119523328) := by
  have fA : Fr 0 FA := fun _ _ => Nat.zero_le _
  have gA := oA.lt
  have fB : Fr 0 FB := fun _ _ => Nat.zero_le _
  have gB := oB.lt
  have L : Exm (FA ++ FB) w w := Exm.rfl'
  refine enter (n := 14) Try.func59 rfl rfl rfl ?_
  refine wp_seq ?_
  refine c_reg ?_
  refine s_box rfl rfl ?_
  intro b1 w2 lob1 hib1 l3 B1
  have z_l3 := l3.size
  have L := L.tr l3.up
  have oA := oA.ext l3
  have oB := oB.ext l3
  refine s0 (x_assign (v := .int _ _) rfl) ?_
  refine c_end ?_
  refine n_then ?_
  refine wp_seq ?_
  refine c_reg ?_
  refine s0 (x_fieldAddr fa85_0FX rfl) ?_
  refine st (x_loadIn ag42FX rfl B1 [.int _ _, .int _ _, .int _ _, .bool _, .bool _, .slice _ _ _] rfl rfl) ?_
  refine s0 (x_move (v := .int _ _) rfl) ?_
  refine spm (zcall cl54FX rfl) (l_markHeader _ _ _ _ _ _ _ _ _ _ _ _ oA (by omega) (by omega)) ?_
  rintro v8 w4 l5 ⟨rfl, oA⟩
  have z_l5 := l5.size
  have L := L.withinL l5 (fun _ h => List.mem_append_left _ h)
  have B1 := B1.exm l5 (by first | assumption | exact nin_of fA gA (by omega))
  have oB := oB.exm l5 (by first | assumption | exact Dj.symm (by assumption) | exact dj_of fA gA fB gB (by omega))
  refine s0 (x_assign (v := .int _ _) rfl) ?_
  refine c_end ?_
  refine n_then ?_
  refine wp_seq ?_
  refine c_reg ?_
  refine s0 (x_fieldAddr fa85_1FX rfl) ?_
  refine st (x_loadB sc83FX rfl B1 rfl) ?_
  refine s0 (x_move (v := .int _ _) rfl) ?_
  refine spm (zcall cl142FX rfl) (l_markMbS _ _ _ _ _ _ _ oB (by first | rfl | assumption) (by omega) (by assumption) (by omega)) ?_
  rintro v12 w6 l7 ⟨ms12, rfl, oB, hm12, hn12, hk12, hb12, hr12⟩
  have z_l7 := l7.size
  have L := L.withinL l7 (fun _ h => List.mem_append_right _ h)
  have B1 := B1.exm l7 (by first | assumption | exact nin_of fB gB (by omega))
  have oA := oA.exm l7 (by first | assumption | exact Dj.symm (by assumption) | exact dj_of fB gB fA gA (by omega))
  refine s0 (x_assign (v := .int _ _) rfl) ?_
  refine c_end ?_
  refine n_then ?_
  refine wp_seq ?_
  refine c_reg ?_
  refine s0 (x_move (v := .int _ _) rfl) ?_
  refine s0 (x_assign (v := .int _ _) rfl) ?_
  refine c_end ?_
  refine n_then ?_
  refine wp_ret ?_
  refine f_ret rfl rfl ?_
  exact ⟨_, rfl, L, ms12, rfl, oA, oB, hm12, hn12, hb12, hr12⟩

/-- laws.heldStream -/
theorem l_heldStream (a b q : Int) (y z : Bool) (p : Option Addr) (n c : Nat) (pB : Option Addr) (nB : Nat) (ms : List Mk) (cB : Nat) (k : Int) (w : World) (hp : Sl w p n c 1 (ic (mkI k n))) (hq : RdMs w pB ms cB) (hn : nB = ms.length) (hm : MkdM ms (k + n)) (hlA : n ≤ 1048576) (hl : nB ≤ 1048576) (hb : ∀ m ∈ ms, smallM 1048576 m) (hk : 0 ≤ k ∧ k ≤ 1099511627776) :
    Calls Try.prog 60 [.agg [.int .i64 a, .int .i64 b, .int .i64 q, .bool y, .bool z, .slice p n c, .slice pB nB cB].toArray, .int .i64 k].toArray w (Ret w (.int .i64 (kG (gM ms) (k + n) nB))) := by
  have L : Exm [] w w := Exm.rfl'
  refine enter (n := 18) Try.func60 rfl rfl rfl ?_
  refine wp_seq ?_
  refine c_reg ?_
  refine s_box rfl rfl ?_
  intro b1 w2 lob1 hib1 l3 B1
  have z_l3 := l3.size
  have L := L.tr l3.up
  refine s0 (x_assign (v := .int _ _) rfl) ?_
  refine c_end ?_
  refine n_then ?_
  refine wp_seq ?_
  refine c_reg ?_
  refine s0 (x_fieldAddr fa85_0FX rfl) ?_
  refine st (x_loadIn ag42FX rfl B1 [.int _ _, .int _ _, .int _ _, .bool _, .bool _, .slice _ _ _] rfl rfl) ?_
  refine s0 (x_move (v := .int _ _) rfl) ?_
  refine sr (zcall cl55FX rfl) (l_heldHeader _ _ _ _ _ _ _ _ _ _ (hp.ext L) (by omega) (by omega)) ?_
  intro w4 l5
  have z_l5 := l5.size
  have L := L.tr l5.up
  have B1 := B1.ext l5
  refine s0 (x_assign (v := .int _ _) rfl) ?_
  refine c_end ?_
  refine n_then ?_
  refine wp_seq ?_
  refine wp_seq ?_
  refine c_reg ?_
  refine s0 (x_move (v := .int _ _) rfl) ?_
  refine sb (x_lss rfl rfl) (fun h10 => ?_) (fun h10 => ?_)
  · omega
  · refine c_end ?_
    refine n_then ?_
    refine c_false rfl ?_
    refine c_skipn ?_
    refine n_then ?_
    refine wp_seq ?_
    refine c_reg ?_
    refine s0 (x_fieldAddr fa85_1FX rfl) ?_
    refine st (x_loadB sc83FX rfl B1 rfl) ?_
    refine s0 (x_move (v := .int _ _) rfl) ?_
    refine sr (zcall cl143FX rfl) (l_heldMbS _ _ _ _ _ _ (hq.ext L) (by first | rfl | assumption) (by assumption) (by omega) (by assumption) (by omega)) ?_
    intro w6 l7
    have z_l7 := l7.size
    have L := L.tr l7.up
    have B1 := B1.ext l7
    refine s0 (x_assign (v := .int _ _) rfl) ?_
    refine c_end ?_
    refine n_then ?_
    refine wp_seq ?_
    refine wp_seq ?_
    have hkr := kG_range (k + n) hb (n := nB) (by omega)
    refine c_reg ?_
    refine s0 (x_move (v := .int _ _) rfl) ?_
    refine sb (x_lss rfl rfl) (fun h16 => ?_) (fun h16 => ?_)
    · omega
    · refine c_end ?_
      refine n_then ?_
      refine c_false rfl ?_
      refine c_skipn ?_
      refine n_then ?_
      refine wp_seq ?_
      refine c_reg ?_
      refine s0 (x_move (v := .int _ _) rfl) ?_
      refine s0 (x_assign (v := .int _ _) rfl) ?_
      refine c_end ?_
      refine n_then ?_
      refine wp_ret ?_
      refine f_ret rfl rfl ?_
      exact ⟨rfl, L⟩

theorem pr_small {s : ByteArray} {ms : List Mk} (h : ms.map Mk.pl = prM s) : ms.length ≤ 16 ∧ (∀ m ∈ ms, smallM 1048576 m) ∧ (∀ m ∈ ms, smallM 1099511627776 m) := by
  obtain ⟨h1, h2⟩ := prM_ms s
  have h3 : ∀ m ∈ ms, m.bs.length ≤ 4 ∧ ∀ b ∈ m.bs, b.lv.length ≤ 64 := fun m hm => by
    have h4 := h2 (Mk.pl m) (by rw [← h]; exact List.mem_map_of_mem hm)
    refine ⟨?_, fun b hb => ?_⟩
    · have h5 : (m.bs.map Bk.pl).length ≤ 4 := h4.1
      rw [List.length_map] at h5; exact h5
    · exact h4.2 (Bk.pl b) (List.mem_map_of_mem hb)
  refine ⟨by rw [← h, List.length_map] at h1; exact h1, fun m hm => ⟨by have := (h3 m hm).1; omega, fun b hb => by have := (h3 m hm).2 b hb; omega⟩, fun m hm => ⟨by have := (h3 m hm).1; omega, fun b hb => by have := (h3 m hm).2 b hb; omega⟩⟩

end Go.Proofs.Ytnehdmcilmlchaa
