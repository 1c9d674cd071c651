/- A region that draws its order: one walk, in an order of our own, of which some operations yield the same in every world of a class and the others are forced. -/
import Derived.Test.YtepnknffaecbdaaVSx2
import Derived.OrdersHeld
import Derived.StillTail
import Derived.Deep.RegionHeld3
namespace Go.Sx
open Go.RowKit

section
variable {P : Program} {ops : Array Oper} {Q : Exit → Act → World → Prop} {md : Region.Mode} {S : World → Prop} {m : Nat}

def wpAnyT (P : Program) (md : Region.Mode) (ops : Array Oper) (Q : Exit → Act → World → Prop) (S : World → Prop) (m : Nat) : Nat → Array Bool → Act → World → Prop
  | 0, listed, a, w => Region.ready md ops listed = [] ∧ Q .normal a w
  | fuel + 1, listed, a, w =>
    (Region.ready md ops listed = [] → Q .normal a w) ∧
    ∀ i ∈ Region.ready md ops listed, wpOp P ops Q i (fun a' w' => (i < m → S w → S w') ∧ wpAnyT P md ops Q S m fuel (listed.setIfInBounds i true) a' w') a w

theorem wpAny_of_T : ∀ (fuel : Nat) (listed : Array Bool) (a : Act) (w : World), wpAnyT P md ops Q S m fuel listed a w → wpAny P md ops Q fuel listed a w
  | 0, _, _, _, h => h
  | fuel + 1, _, _, _, h => ⟨h.1, fun i hi => wpOp_mono (fun a' w' h' => wpAny_of_T fuel _ a' w' h'.2) (h.2 i hi)⟩

/-- the operation that begins the tail waits, at length, for number i -/
def sinkOf (md : Region.Mode) (ops : Array Oper) (n : Nat) : Nat → Nat → Bool
  | 0, _ => false
  | fuel + 1, i => (List.range (n + 1)).any fun j => decide (i < j) && Region.waitsFor md ops j i && (Nat.beq j n || sinkOf md ops n fuel j)
/-- number i comes before the tail's -/
def tailFor (md : Region.Mode) (ops : Array Oper) (m i : Nat) : Bool := Nat.beq m ops.size || (Nat.blt m ops.size && sinkOf md ops m ops.size i && Region.chainB md ops m)

theorem sink_waits {n : Nat} {listed : Array Bool} (hc : Region.chainB md ops n = true) (hn : n < ops.size) (inv : HeadInv md ops n listed) :
    ∀ (f i : Nat), sinkOf md ops n f i = true → i < n → listed.getD i true = false → ∀ t, n ≤ t → t ∉ Region.ready md ops listed := by
  intro f
  induction f with
  | zero => intro i h; cases h
  | succ f ih =>
    intro i hs hi hun t ht hr
    obtain ⟨_, ot, hot, hall⟩ := mem_ready.1 hr
    have htlt : t < ops.size := (Array.getElem?_eq_some_iff.1 hot).1
    by_cases htn : t = n
    · subst htn
      obtain ⟨j, hj, hj2⟩ := List.any_eq_true.1 hs
      simp only [Bool.and_eq_true, decide_eq_true_eq, Bool.or_eq_true] at hj2
      obtain ⟨oj, hoj, e, he, hb, hon⟩ := Region.waitsFor_spec hj2.1.2
      have hjle : j ≤ t := by have := List.mem_range.1 hj; omega
      by_cases hjt : j = t
      · subst hjt
        have : oj = ot := Option.some.inj (hoj.symm.trans hot)
        subst this
        have h2 := hall e he hb
        rw [hon, getD_both hun] at h2
        cases h2
      · have hs2 : sinkOf md ops t f j = true := by
          rcases hj2.2 with h | h
          · exact absurd (Nat.eq_of_beq_eq_true h) hjt
          · exact h
        cases hl : listed.getD j false with
        | true =>
          have h2 := inv.closed j oj hoj hl e he hb
          rw [hon, getD_both hun] at h2
          cases h2
        | false =>
          have hjs : j < listed.size := by rw [inv.size]; omega
          exact ih j hs2 (by omega) (getD_in hjs hl) t (Nat.le_refl _) hr
    · have h1 := List.all_eq_true.1 hc t (List.mem_range.2 htlt)
      simp only [Bool.or_eq_true, decide_eq_true_eq] at h1
      rcases h1 with h1 | h1
      · omega
      · obtain ⟨o', ho', e, he, hb, hon⟩ := Region.waitsFor_spec h1
        have : o' = ot := Option.some.inj (ho'.symm.trans hot)
        subst this
        have h2 := hall e he hb
        rw [hon, getD_both (inv.tail (t - 1) (by omega) (by omega))] at h2
        cases h2

theorem head_first {i : Nat} (ht : tailFor md ops m i = true) {listed : Array Bool} (inv : HeadInv md ops m listed) {j : Nat} (hi : i < m) (hl : listed.getD i true = false) (hj : j ∈ Region.ready md ops listed) : j < m := by
  simp only [tailFor, Bool.or_eq_true, Bool.and_eq_true] at ht
  rcases ht with h | ⟨⟨h1, h2⟩, h3⟩
  · have hm : m = ops.size := Nat.eq_of_beq_eq_true h
    obtain ⟨_, oj, hoj, _⟩ := mem_ready.1 hj
    have := (Array.getElem?_eq_some_iff.1 hoj).1
    omega
  · have hn : m < ops.size := by simpa using h1
    rcases Nat.lt_or_ge j m with h | h
    · exact h
    · exact absurd hj (sink_waits h3 hn inv _ i h2 hi hl j h)

theorem wpAnyT_first {i : Nat} (ht : tailFor md ops m i = true) {oi : Oper} {v : Value} (hi : ops[i]? = some oi) (him : i < m) (hsel : ∀ (j : Nat) (o : Oper) cs b, ops[j]? = some o → o.op ≠ .select cs b)
    (hQ : ∀ c a w, Q (.panic c) (a.put oi.dst v) w → Q (.panic c) a w) :
    ∀ (fuel : Nat) (listed : Array Bool) (a : Act) (w : World), HeadInv md ops m listed →
      (∀ j oj, ops[j]? = some oj → j ≠ i → listed.getD j true = false → (∀ e ∈ oj.after, Region.binds md e = true → e.on ≠ i) → oi.apart ops oj = true) →
      i ∈ Region.ready md ops listed → YieldsIf P ops S oi v a → S w →
      wpAnyT P md ops Q S m fuel (listed.setIfInBounds i true) (a.put oi.dst v) w → wpAnyT P md ops Q S m (fuel + 1) listed a w := by
  intro fuel
  induction fuel with
  | zero =>
    intro listed a w _ _ hr hy hS H
    refine ⟨fun h => (by rw [h] at hr; cases hr), fun j hj => ?_⟩
    by_cases hji : j = i
    · subst hji; exact hy.wpOp hi hS ⟨fun _ _ => hS, H⟩
    · have := ready_mono hj hji
      rw [H.1] at this
      cases this
  | succ fuel ih =>
    intro listed a w inv hfree hr hy hS H
    refine ⟨fun h => (by rw [h] at hr; cases hr), fun j hj => ?_⟩
    by_cases hji : j = i
    · subst hji; exact hy.wpOp hi hS ⟨fun _ _ => hS, H⟩
    · have h1 := H.2 j (ready_mono hj hji)
      have hun := (mem_ready.1 hr).1
      have hjm : j < m := head_first ht inv him hun hj
      obtain ⟨hjun, oj, hoj, hall⟩ := mem_ready.1 hj
      have hnot : ∀ e ∈ oj.after, Region.binds md e = true → e.on ≠ i := fun e he hb heq => by
        have h1 := hall e he hb
        rw [heq] at h1
        rcases Nat.lt_or_ge i listed.size with h' | h'
        · simp [h'] at hun h1; rw [hun] at h1; cases h1
        · simp [Array.getElem?_eq_none h'] at h1
      have h2 := wpOp_putIf hoj (hfree j oj hoj hji hjun hnot) (fun cs b => hsel i oi cs b hi) (fun cs b => hsel j oj cs b hoj) hQ hy h1
      have hfree' : ∀ k ok, ops[k]? = some ok → k ≠ i → (listed.setIfInBounds j true).getD k true = false →
          (∀ e ∈ ok.after, Region.binds md e = true → e.on ≠ i) → oi.apart ops ok = true := fun k ok hk hki hun hno => by
        refine hfree k ok hk hki ?_ hno
        by_cases hjk : j = k
        · subst hjk; exact hjun
        · rw [getD_set_ne true hjk] at hun; exact hun
      refine wpOp_mono (fun a' w' h3 => ⟨h3.2.1, ih (listed.setIfInBounds j true) a' w' (inv.set hj hjm) hfree' (ready_mono hr (Ne.symm hji)) h3.1 (h3.2.1 hjm hS) ?_⟩) h2
      rw [Array.setIfInBounds_comm _ _ hji]
      exact h3.2.2

/-- number i yields the same in whatever world -/
theorem wpAnyT_firstU {i : Nat} {oi : Oper} {v : Value} (hi : ops[i]? = some oi) (hsel : ∀ (j : Nat) (o : Oper) cs b, ops[j]? = some o → o.op ≠ .select cs b)
    (hQ : ∀ c a w, Q (.panic c) (a.put oi.dst v) w → Q (.panic c) a w) :
    ∀ (fuel : Nat) (listed : Array Bool) (a : Act) (w : World),
      (∀ j oj, ops[j]? = some oj → j ≠ i → listed.getD j true = false → (∀ e ∈ oj.after, Region.binds md e = true → e.on ≠ i) → oi.apart ops oj = true) →
      i ∈ Region.ready md ops listed → YieldsIf P ops (fun _ => True) oi v a →
      wpAnyT P md ops Q S m fuel (listed.setIfInBounds i true) (a.put oi.dst v) w → wpAnyT P md ops Q S m (fuel + 1) listed a w := by
  intro fuel
  induction fuel with
  | zero =>
    intro listed a w _ hr hy H
    refine ⟨fun h => (by rw [h] at hr; cases hr), fun j hj => ?_⟩
    by_cases hji : j = i
    · subst hji; exact hy.wpOp hi trivial ⟨fun _ h => h, H⟩
    · have := ready_mono hj hji
      rw [H.1] at this
      cases this
  | succ fuel ih =>
    intro listed a w hfree hr hy H
    refine ⟨fun h => (by rw [h] at hr; cases hr), fun j hj => ?_⟩
    by_cases hji : j = i
    · subst hji; exact hy.wpOp hi trivial ⟨fun _ h => h, H⟩
    · have h1 := H.2 j (ready_mono hj hji)
      have hun := (mem_ready.1 hr).1
      obtain ⟨hjun, oj, hoj, hall⟩ := mem_ready.1 hj
      have hnot : ∀ e ∈ oj.after, Region.binds md e = true → e.on ≠ i := fun e he hb heq => by
        have h1 := hall e he hb
        rw [heq] at h1
        rcases Nat.lt_or_ge i listed.size with h' | h'
        · simp [h'] at hun h1; rw [hun] at h1; cases h1
        · simp [Array.getElem?_eq_none h'] at h1
      have h2 := wpOp_putIf hoj (hfree j oj hoj hji hjun hnot) (fun cs b => hsel i oi cs b hi) (fun cs b => hsel j oj cs b hoj) hQ hy h1
      have hfree' : ∀ k ok, ops[k]? = some ok → k ≠ i → (listed.setIfInBounds j true).getD k true = false →
          (∀ e ∈ ok.after, Region.binds md e = true → e.on ≠ i) → oi.apart ops ok = true := fun k ok hk hki hun hno => by
        refine hfree k ok hk hki ?_ hno
        by_cases hjk : j = k
        · subst hjk; exact hjun
        · rw [getD_set_ne true hjk] at hun; exact hun
      refine wpOp_mono (fun a' w' h3 => ⟨h3.2.1, ih (listed.setIfInBounds j true) a' w' hfree' (ready_mono hr (Ne.symm hji)) h3.1 ?_⟩) h2
      rw [Array.setIfInBounds_comm _ _ hji]
      exact h3.2.2

/-- an order of our own: (i, 1): number i yields the same in every world of the class; (i, 2): in whatever world; (i, 0): it is the only one that may come up; a fork: two may come up -/
inductive PT where
  | nil : PT
  | cons (p : Nat × Nat) (r : PT) : PT
  | fork (i j : Nat) (r s : PT) : PT
  | fork3 (i j k : Nat) (r s t : PT) : PT
/-- nothing but forced ones -/
def PT.forced : PT → Bool
  | .nil => true
  | .cons p r => Nat.beq p.2 0 && r.forced
  | .fork _ _ r s => r.forced && s.forced
  | .fork3 _ _ _ r s t => r.forced && s.forced && t.forced
def PT.len : PT → Nat
  | .nil => 0
  | .cons _ r => r.len + 1
  | .fork _ _ r _ => r.len + 1
  | .fork3 _ _ _ r _ _ => r.len + 1
def PT.even : PT → Bool
  | .nil => true
  | .cons _ r => r.even
  | .fork _ _ r s => Nat.beq r.len s.len && r.even && s.even
  | .fork3 _ _ _ r s t => Nat.beq r.len s.len && Nat.beq r.len t.len && r.even && s.even && t.even
def planB (md : Region.Mode) (ops : Array Oper) (m : Nat) : PT → Array Bool → Bool
  | .nil, listed => (Region.ready md ops listed).isEmpty
  | .cons (i, 0) r, listed => (Region.ready md ops listed == [i]) && (Nat.blt i m || r.forced) && planB md ops m r (listed.setIfInBounds i true)
  | .cons (i, 1) r, listed => Nat.blt i m && tailFor md ops m i && Region.free md ops listed i && (Region.ready md ops listed).contains i && planB md ops m r (listed.setIfInBounds i true)
  | .cons (i, _ + 2) r, listed => Nat.blt i m && Region.free md ops listed i && (Region.ready md ops listed).contains i && planB md ops m r (listed.setIfInBounds i true)
  | .fork3 i j k r s t, listed => (Region.ready md ops listed == [i, j, k]) && (Nat.blt i m || r.forced) && (Nat.blt j m || s.forced) && (Nat.blt k m || t.forced) && planB md ops m r (listed.setIfInBounds i true) && planB md ops m s (listed.setIfInBounds j true) && planB md ops m t (listed.setIfInBounds k true)
  | .fork i j r s, listed => (Region.ready md ops listed == [i, j]) && (Nat.blt i m || r.forced) && (Nat.blt j m || s.forced) && planB md ops m r (listed.setIfInBounds i true) && planB md ops m s (listed.setIfInBounds j true)

def wpForced (P : Program) (ops : Array Oper) (Q : Exit → Act → World → Prop) (S : World → Prop) (m i : Nat) (K : Act → World → Prop) (a : Act) (w : World) : Prop :=
  ∃ oi, ops[i]? = some oi ∧ if Region.wanted oi (yielded ops a.tmps) then oi.wp P a w (fun a' w' => (i < m → S w → S w') ∧ K a' w') Q else (i < m → S w → S w) ∧ K (a.put oi.dst undef) w
def wpPlan (P : Program) (ops : Array Oper) (Q : Exit → Act → World → Prop) (S : World → Prop) (m : Nat) : PT → Act → World → Prop
  | .nil, a, w => Q .normal a w
  | .cons (i, 0) r, a, w => wpForced P ops Q S m i (wpPlan P ops Q S m r) a w
  | .cons (i, 1) r, a, w => ∃ oi v, ops[i]? = some oi ∧ YieldsIf P ops S oi v a ∧ wpPlan P ops Q S m r (a.put oi.dst v) w
  | .cons (i, _ + 2) r, a, w => ∃ oi v, ops[i]? = some oi ∧ YieldsIf P ops (fun _ => True) oi v a ∧ wpPlan P ops Q S m r (a.put oi.dst v) w
  | .fork i j r s, a, w => wpForced P ops Q S m i (wpPlan P ops Q S m r) a w ∧ wpForced P ops Q S m j (wpPlan P ops Q S m s) a w
  | .fork3 i j k r s t, a, w => wpForced P ops Q S m i (wpPlan P ops Q S m r) a w ∧ wpForced P ops Q S m j (wpPlan P ops Q S m s) a w ∧ wpForced P ops Q S m k (wpPlan P ops Q S m t) a w

theorem forced_step {i : Nat} {r : PT} {listed : Array Bool} {a : Act} {w : World}
    (ih : ∀ (listed : Array Bool) (a : Act) (w : World), (r.forced = true ∨ (HeadInv md ops m listed ∧ S w)) → planB md ops m r listed = true → wpPlan P ops Q S m r a w → wpAnyT P md ops Q S m r.len listed a w)
    (hI : r.forced = true ∨ (HeadInv md ops m listed ∧ S w)) (hi : i ∈ Region.ready md ops listed) (h4 : (Nat.blt i m || r.forced) = true) (h2 : planB md ops m r (listed.setIfInBounds i true) = true)
    (h : wpForced P ops Q S m i (wpPlan P ops Q S m r) a w) : wpOp P ops Q i (fun a' w' => (i < m → S w → S w') ∧ wpAnyT P md ops Q S m r.len (listed.setIfInBounds i true) a' w') a w := by
  obtain ⟨oi, hoi, hk⟩ := h
  have step : ∀ a' w', ((i < m → S w → S w') ∧ wpPlan P ops Q S m r a' w') → ((i < m → S w → S w') ∧ wpAnyT P md ops Q S m r.len (listed.setIfInBounds i true) a' w') := by
    intro a' w' h3
    refine ⟨h3.1, ?_⟩
    refine ih _ _ _ ?_ h2 h3.2
    rw [Bool.or_eq_true] at h4
    by_cases hjm : i < m
    · rcases hI with hI | ⟨inv, hS⟩
      · exact Or.inl hI
      · exact Or.inr ⟨inv.set hi hjm, h3.1 hjm hS⟩
    · rcases h4 with h4 | h4
      · exact absurd (by simpa using h4) hjm
      · exact Or.inl h4
  unfold wpOp
  simp only [hoi]
  split
  · rename_i hw
    rw [if_pos hw] at hk
    exact .inl (Oper.wp_mono step hk)
  · rename_i hw
    rw [if_neg hw] at hk
    exact step _ _ hk

theorem wpAnyT_of_plan (hsel : Region.noSelect ops = true) (hQ : ∀ c a w d v, Q (.panic c) (Act.put a d v) w → Q (.panic c) a w) :
    ∀ (plan : PT) (listed : Array Bool) (a : Act) (w : World), plan.even = true → (plan.forced = true ∨ (HeadInv md ops m listed ∧ S w)) → planB md ops m plan listed = true → wpPlan P ops Q S m plan a w →
      wpAnyT P md ops Q S m plan.len listed a w := by
  intro plan
  induction plan with
  | nil =>
    intro listed a w _ _ hB h
    exact ⟨by simpa [planB] using hB, h⟩
  | fork i j r s ihr ihs =>
    intro listed a w hE hI hB h
    simp only [PT.even, Bool.and_eq_true] at hE
    obtain ⟨⟨e1, e2⟩, e3⟩ := hE
    have e1 : r.len = s.len := Nat.eq_of_beq_eq_true e1
    simp only [planB, Bool.and_eq_true, beq_iff_eq] at hB
    obtain ⟨⟨⟨⟨h1, h4⟩, h5⟩, h2⟩, h3⟩ := hB
    show wpAnyT P md ops Q S m (r.len + 1) listed a w
    refine ⟨fun h0 => (by rw [h1] at h0; cases h0), fun k hk => ?_⟩
    have hf : (r.forced = true ∧ s.forced = true) ∨ (HeadInv md ops m listed ∧ S w) := by
      rcases hI with hI | hI
      · simp only [PT.forced, Bool.and_eq_true] at hI; exact .inl hI
      · exact .inr hI
    have hij : k = i ∨ k = j := by rw [h1] at hk; simpa using hk
    rcases hij with rfl | rfl
    · exact forced_step (fun l a w x y z => ihr l a w e2 x y z) (hf.imp (·.1) id) hk h4 h2 h.1
    · rw [e1]; exact forced_step (fun l a w x y z => ihs l a w e3 x y z) (hf.imp (·.2) id) hk h5 h3 h.2
  | fork3 i j x r s t ihr ihs iht =>
    intro listed a w hE hI hB h
    simp only [PT.even, Bool.and_eq_true] at hE
    obtain ⟨⟨⟨⟨e1, e4⟩, e2⟩, e3⟩, e5⟩ := hE
    have e1 : r.len = s.len := Nat.eq_of_beq_eq_true e1
    have e4 : r.len = t.len := Nat.eq_of_beq_eq_true e4
    simp only [planB, Bool.and_eq_true, beq_iff_eq] at hB
    obtain ⟨⟨⟨⟨⟨⟨h1, h4⟩, h5⟩, h6⟩, h2⟩, h3⟩, h7⟩ := hB
    show wpAnyT P md ops Q S m (r.len + 1) listed a w
    refine ⟨fun h0 => (by rw [h1] at h0; cases h0), fun k hk => ?_⟩
    have hf : ((r.forced = true ∧ s.forced = true) ∧ t.forced = true) ∨ (HeadInv md ops m listed ∧ S w) := by
      rcases hI with hI | hI
      · simp only [PT.forced, Bool.and_eq_true] at hI; exact .inl hI
      · exact .inr hI
    have hij : k = i ∨ k = j ∨ k = x := by rw [h1] at hk; simpa using hk
    rcases hij with rfl | rfl | rfl
    · exact forced_step (fun l a w x y z => ihr l a w e2 x y z) (hf.imp (·.1.1) id) hk h4 h2 h.1
    · rw [e1]; exact forced_step (fun l a w x y z => ihs l a w e3 x y z) (hf.imp (·.1.2) id) hk h5 h3 h.2.1
    · rw [e4]; exact forced_step (fun l a w x y z => iht l a w e5 x y z) (hf.imp (·.2) id) hk h6 h7 h.2.2
  | cons p r ih =>
    intro listed a w hE hI hB h
    have hE : r.even = true := hE
    obtain ⟨i, b⟩ := p
    match b, hI, hB, h with
    | 0, hI, hB, h =>
      simp only [planB, Bool.and_eq_true, beq_iff_eq] at hB
      obtain ⟨⟨h1, h4⟩, h2⟩ := hB
      show wpAnyT P md ops Q S m (r.len + 1) listed a w
      refine ⟨fun h0 => (by rw [h1] at h0; cases h0), fun j hj => ?_⟩
      have hij : j = i := by rw [h1] at hj; simpa using hj
      subst hij
      have hf : r.forced = true ∨ (HeadInv md ops m listed ∧ S w) := by
        rcases hI with hI | hI
        · simp only [PT.forced, Bool.and_eq_true] at hI; exact .inl hI.2
        · exact .inr hI
      exact forced_step (fun l a w x y z => ih l a w hE x y z) hf hj h4 h2 h
    | 1, hI, hB, h =>
      simp only [planB, Bool.and_eq_true] at hB
      obtain ⟨⟨⟨⟨h1, h5⟩, h2⟩, h3⟩, h4⟩ := hB
      obtain ⟨oi, v, hoi, hy, hk⟩ := h
      have him : i < m := by simpa using h1
      rcases hI with hI | ⟨inv, hS⟩
      · simp [PT.forced] at hI
      · have hr : i ∈ Region.ready md ops listed := by simpa using h3
        refine wpAnyT_first h5 hoi him (Region.noSelect_spec hsel) (fun c a w => hQ c a w _ _) _ listed a w inv (Region.free_spec hoi h2) hr hy hS ?_
        exact ih _ _ _ hE (Or.inr ⟨inv.set hr him, hS⟩) h4 hk
    | b + 2, hI, hB, h =>
      simp only [planB, Bool.and_eq_true] at hB
      obtain ⟨⟨⟨h1, h2⟩, h3⟩, h4⟩ := hB
      obtain ⟨oi, v, hoi, hy, hk⟩ := h
      have him : i < m := by simpa using h1
      rcases hI with hI | ⟨inv, hS⟩
      · simp [PT.forced] at hI
      · have hr : i ∈ Region.ready md ops listed := by simpa using h3
        refine wpAnyT_firstU hoi (Region.noSelect_spec hsel) (fun c a w => hQ c a w _ _) _ listed a w (Region.free_spec hoi h2) hr hy ?_
        exact ih _ _ _ hE (Or.inr ⟨inv.set hr him, hS⟩) h4 hk

def planOk (l : List Oper) (m : Nat) (plan : PT) : Bool :=
  Region.noSelect l.toArray && planB .any l.toArray m plan (Array.replicate l.length false) && Nat.beq plan.len l.length && plan.even

theorem headInv0 (md : Region.Mode) (ops : Array Oper) (m : Nat) : HeadInv md ops m (Array.replicate ops.size false) := by
  refine ⟨by simp, fun j oj _ hl => ?_, fun t _ ht => ?_⟩
  · rw [getD_replicate_false] at hl; cases hl
  · simp [ht]

theorem c_plan' {id : Nat} {l : List Oper} {a : Act} {w : World} (S : World → Prop) (m : Nat) (plan : PT) (hm : P.follows .mixedOrders = true) (hB : planOk l m plan = true) (hS : S w.drew)
    (h : wpPlan P l.toArray (NoPanic Q) S m plan a w.drew) : (Code.region id l.toArray true).wp P Q a w := by
  simp only [planOk, Bool.and_eq_true] at hB
  obtain ⟨⟨⟨h2, h3⟩, h4⟩, h5⟩ := hB
  have hl : plan.len = l.length := Nat.eq_of_beq_eq_true h4
  refine wp_region_noPanic (wp_region_any hm (wpAny_of_T (S := S) (m := m) _ _ _ _ ?_))
  have inv := headInv0 .any l.toArray m
  have := wpAnyT_of_plan (P := P) (Q := NoPanic Q) (S := S) h2 (fun _ _ _ _ _ h => h) plan (Array.replicate l.length false) a w.drew h5 (Or.inr ⟨by simpa using inv, hS⟩) h3 h
  rw [hl] at this
  simpa using this

/-- the rest of a drawn region, closed to the elaborator -/
structure PL (P : Program) (ops : Array Oper) (Q : Exit → Act → World → Prop) (S : World → Prop) (m : Nat) (l : PT) (a : Act) (w : World) : Prop where
  out : wpPlan P ops Q S m l a w
theorem c_plan {id : Nat} {l : List Oper} {a : Act} {w : World} (S : World → Prop) (m : Nat) (plan : PT) (hm : P.follows .mixedOrders = true) (hB : planOk l m plan = true) (hS : S w.drew)
    (h : PL P l.toArray (NoPanic Q) S m plan a w.drew) : (Code.region id l.toArray true).wp P Q a w := c_plan' S m plan hm hB hS h.out

section plan
variable {rest : PT} {n d i : Nat} {E : Env} {op : Op} {ty : TypeId} {pos : String} {after : Array Edge} {w w' : World} {v : Value} {f : FuncId} {vs : List Value}

theorem p_nil (h : Q .normal (mk n E) w) : PL P ops Q S m .nil (mk n E) w := ⟨h⟩
/-- two may come up -/
theorem pfork {i j : Nat} {r s : PT} (h1 : PL P ops Q S m (.cons (i, 0) r) (mk n E) w) (h2 : PL P ops Q S m (.cons (j, 0) s) (mk n E) w) : PL P ops Q S m (.fork i j r s) (mk n E) w := ⟨h1.out, h2.out⟩

/-- number i yields v in every world of the class -/
theorem ps (hi : ops[i]? = some ⟨some d, op, ty, pos, after, none⟩) (hx : ∀ w, S w → X P n E op ty w v w) (k : PL P ops Q S m rest (mk n (upd E d v)) w) : PL P ops Q S m (.cons (i, 1) rest) (mk n E) w :=
  ⟨⟨_, v, hi, Or.inl ⟨rfl, fun w hw => hx w hw _ _ _ _⟩, by rw [put_mk]; exact k.out⟩⟩
theorem p0 (hi : ops[i]? = some ⟨some d, op, ty, pos, after, none⟩) (hx : X0 P n E op ty v) (k : PL P ops Q S m rest (mk n (upd E d v)) w) : PL P ops Q S m (.cons (i, 2) rest) (mk n E) w :=
  ⟨⟨_, v, hi, Or.inl ⟨rfl, fun w _ => hx w _ _ _ _⟩, by rw [put_mk]; exact k.out⟩⟩
theorem pb {p : Prop} [Decidable p] (hi : ops[i]? = some ⟨some d, op, ty, pos, after, none⟩) (hx : X0 P n E op ty (.bool (decide p))) (kt : p → PL P ops Q S m rest (mk n (upd E d (.bool true))) w) (kf : ¬ p → PL P ops Q S m rest (mk n (upd E d (.bool false))) w) : PL P ops Q S m (.cons (i, 2) rest) (mk n E) w := by
  refine p0 hi hx ?_
  by_cases h : p
  · rw [decide_eq_true h]; exact kt h
  · rw [decide_eq_false h]; exact kf h
/-- forced: whatever it does, it is the only one; given as a one-operation walk -/
theorem pu {o : Oper} (hi : ops[i]? = some o) (h : WL P ops (fun e a w' => e = .normal ∧ (i < m → S w → S w') ∧ PL P ops Q S m rest a w') [o] (mk n E) w) (hQ : ¬ LetsOut (fun (e : Exit) (a : Act) (w' : World) => e = .normal ∧ (i < m → S w → S w') ∧ PL P ops Q S m rest a w') := by rintro ⟨_, _, h, _⟩; cases h) : PL P ops Q S m (.cons (i, 0) rest) (mk n E) w := by
  refine ⟨⟨o, hi, ?_⟩⟩
  have h := h.out
  unfold wpList at h
  split
  · rename_i hw
    rw [if_pos hw] at h
    rcases h with h | ⟨_, h⟩
    · unfold Oper.wp at h ⊢
      generalize (execOp (mk n E).eval o).run P w = r at *
      cases r with
      | ok nx w' =>
        cases nx <;> simp only [Oper.upon] at h ⊢
        case value u => exact ⟨h.2.1, h.2.2.out⟩
        case skip => exact ⟨h.2.1, h.2.2.out⟩
        case defer d => exact ⟨h.2.1, h.2.2.out⟩
        case enter f args =>
          refine h.mono fun e w'' he => ?_
          cases e with
          | returned u => exact ⟨he.2.1, he.2.2.out⟩
          | panicked c => cases he.1
          | outgrown => exact absurd he hQ
        case row row args => exact Rows.mono h fun u w'' he => ⟨he.2.1, he.2.2.out⟩
      | halt x w' =>
        cases x <;> simp only [Oper.upon] at h ⊢
        case panic u => cases h.1
    · exact absurd h hQ
  · rename_i hw
    rw [if_neg hw] at h
    exact ⟨h.2.1, h.2.2.out⟩
end plan
end
end Go.Sx
