/- A region that draws its order: one walk, in an order of our own, of which some operations yield the same in every world of a class and the others are forced. -/
import Derived.Test.YtglepnbcplldeaaSx2
import Derived.OrdersHeld
import Derived.StillTail
import Derived.Deep.RegionHeld3
namespace Go.Sx
open Go.RowKit

section
variable {P : Program} {ops : Array Oper} {Q : Exit → Act → World → Prop} {md : Region.Mode} {S : World → Prop} {m : Nat}

def wpAnyT (P : Program) (md : Region.Mode) (ops : Array Oper) (Q : Exit → Act → World → Prop) (S : World → Prop) (m : Nat) : Nat → Array Bool → Act → World → Prop
  | 0, listed, a, w => Region.ready md ops listed = [] ∧ Q .normal a w
  | fuel + 1, listed, a, w =>
    (Region.ready md ops listed = [] → Q .normal a w) ∧
    ∀ i ∈ Region.ready md ops listed, wpOp P ops Q i (fun a' w' => (i < m → S w') ∧ wpAnyT P md ops Q S m fuel (listed.setIfInBounds i true) a' w') a w

theorem wpAny_of_T : ∀ (fuel : Nat) (listed : Array Bool) (a : Act) (w : World), wpAnyT P md ops Q S m fuel listed a w → wpAny P md ops Q fuel listed a w
  | 0, _, _, _, h => h
  | fuel + 1, _, _, _, h => ⟨h.1, fun i hi => wpOp_mono (fun a' w' h' => wpAny_of_T fuel _ a' w' h'.2) (h.2 i hi)⟩

/-- the head's operations come before the tail's -/
def tailOk (md : Region.Mode) (ops : Array Oper) (m : Nat) : Bool := Nat.beq m ops.size || (Nat.blt m ops.size && Region.sinkB md ops m && Region.chainB md ops m)

theorem head_first (ht : tailOk md ops m = true) {listed : Array Bool} (inv : HeadInv md ops m listed) {i j : Nat} (hi : i < m) (hl : listed.getD i true = false) (hj : j ∈ Region.ready md ops listed) : j < m := by
  simp only [tailOk, Bool.or_eq_true, Bool.and_eq_true] at ht
  rcases ht with h | ⟨⟨h1, h2⟩, h3⟩
  · have hm : m = ops.size := Nat.eq_of_beq_eq_true h
    obtain ⟨_, oj, hoj, _⟩ := mem_ready.1 hj
    have := (Array.getElem?_eq_some_iff.1 hoj).1
    omega
  · have hn : m < ops.size := by simpa using h1
    rcases Nat.lt_or_ge j m with h | h
    · exact h
    · exact absurd hj (tail_waits h2 h3 hn inv _ i rfl hi hl j h)

theorem wpAnyT_first (ht : tailOk md ops m = true) {i : Nat} {oi : Oper} {v : Value} (hi : ops[i]? = some oi) (him : i < m) (hsel : ∀ (j : Nat) (o : Oper) cs b, ops[j]? = some o → o.op ≠ .select cs b)
    (hQ : ∀ c a w, Q (.panic c) (a.put oi.dst v) w → Q (.panic c) a w) :
    ∀ (fuel : Nat) (listed : Array Bool) (a : Act) (w : World), HeadInv md ops m listed →
      (∀ j oj, ops[j]? = some oj → j ≠ i → listed.getD j true = false → (∀ e ∈ oj.after, Region.binds md e = true → e.on ≠ i) → oi.apart ops oj = true) →
      i ∈ Region.ready md ops listed → YieldsIf P ops S oi v a → S w →
      wpAnyT P md ops Q S m fuel (listed.setIfInBounds i true) (a.put oi.dst v) w → wpAnyT P md ops Q S m (fuel + 1) listed a w := by
  intro fuel
  induction fuel with
  | zero =>
    intro listed a w _ _ hr hy hS H
    refine ⟨fun h => (by rw [h] at hr; cases hr), fun j hj => ?_⟩
    by_cases hji : j = i
    · subst hji; exact hy.wpOp hi hS ⟨fun _ => hS, H⟩
    · have := ready_mono hj hji
      rw [H.1] at this
      cases this
  | succ fuel ih =>
    intro listed a w inv hfree hr hy hS H
    refine ⟨fun h => (by rw [h] at hr; cases hr), fun j hj => ?_⟩
    by_cases hji : j = i
    · subst hji; exact hy.wpOp hi hS ⟨fun _ => hS, H⟩
    · have h1 := H.2 j (ready_mono hj hji)
      have hun := (mem_ready.1 hr).1
      have hjm : j < m := head_first ht inv him hun hj
      obtain ⟨hjun, oj, hoj, hall⟩ := mem_ready.1 hj
      have hnot : ∀ e ∈ oj.after, Region.binds md e = true → e.on ≠ i := fun e he hb heq => by
        have h1 := hall e he hb
        rw [heq] at h1
        rcases Nat.lt_or_ge i listed.size with h' | h'
        · simp [h'] at hun h1; rw [hun] at h1; cases h1
        · simp [Array.getElem?_eq_none h'] at h1
      have h2 := wpOp_putIf hoj (hfree j oj hoj hji hjun hnot) (fun cs b => hsel i oi cs b hi) (fun cs b => hsel j oj cs b hoj) hQ hy h1
      have hfree' : ∀ k ok, ops[k]? = some ok → k ≠ i → (listed.setIfInBounds j true).getD k true = false →
          (∀ e ∈ ok.after, Region.binds md e = true → e.on ≠ i) → oi.apart ops ok = true := fun k ok hk hki hun hno => by
        refine hfree k ok hk hki ?_ hno
        by_cases hjk : j = k
        · subst hjk; exact hjun
        · rw [getD_set_ne true hjk] at hun; exact hun
      refine wpOp_mono (fun a' w' h3 => ⟨h3.2.1, ih (listed.setIfInBounds j true) a' w' (inv.set hj hjm) hfree' (ready_mono hr (Ne.symm hji)) h3.1 (h3.2.1 hjm) ?_⟩) h2
      rw [Array.setIfInBounds_comm _ _ hji]
      exact h3.2.2

/-- an order of our own: (i, true): number i yields the same in every world of the class; (i, false): it is the only one that may come up -/
def planB (md : Region.Mode) (ops : Array Oper) (m : Nat) : List (Nat × Bool) → Array Bool → Bool
  | [], listed => (Region.ready md ops listed).isEmpty
  | (i, true) :: r, listed => Nat.blt i m && Region.free md ops listed i && (Region.ready md ops listed).contains i && planB md ops m r (listed.setIfInBounds i true)
  | (i, false) :: r, listed => (Region.ready md ops listed == [i]) && planB md ops m r (listed.setIfInBounds i true)

def wpPlan (P : Program) (ops : Array Oper) (Q : Exit → Act → World → Prop) (S : World → Prop) (m : Nat) : List (Nat × Bool) → Act → World → Prop
  | [], a, w => Q .normal a w
  | (i, true) :: r, a, w => ∃ oi v, ops[i]? = some oi ∧ YieldsIf P ops S oi v a ∧ wpPlan P ops Q S m r (a.put oi.dst v) w
  | (i, false) :: r, a, w => ∃ oi, ops[i]? = some oi ∧ if Region.wanted oi (yielded ops a.tmps) then oi.wp P a w (fun a' w' => (i < m → S w') ∧ wpPlan P ops Q S m r a' w') Q else (i < m → S w) ∧ wpPlan P ops Q S m r (a.put oi.dst undef) w

theorem wpAnyT_of_plan (ht : tailOk md ops m = true) (hsel : Region.noSelect ops = true) (hQ : ∀ c a w d v, Q (.panic c) (Act.put a d v) w → Q (.panic c) a w) :
    ∀ (plan : List (Nat × Bool)) (listed : Array Bool) (a : Act) (w : World), (∀ p ∈ plan, p.2 = true → S w → HeadInv md ops m listed) → ((∀ p ∈ plan, p.2 = false) ∨ (HeadInv md ops m listed ∧ S w)) → planB md ops m plan listed = true → wpPlan P ops Q S m plan a w →
      wpAnyT P md ops Q S m plan.length listed a w := by
  intro plan
  induction plan with
  | nil =>
    intro listed a w _ _ hB h
    exact ⟨by simpa [planB] using hB, h⟩
  | cons p r ih =>
    intro listed a w hH hI hB h
    obtain ⟨i, b⟩ := p
    cases b with
    | true =>
      simp only [planB, Bool.and_eq_true] at hB
      obtain ⟨⟨⟨h1, h2⟩, h3⟩, h4⟩ := hB
      obtain ⟨oi, v, hoi, hy, hk⟩ := h
      have him : i < m := by simpa using h1
      rcases hI with hI | ⟨inv, hS⟩
      · exact absurd (hI (i, true) (by simp)) (by simp)
      · have hr : i ∈ Region.ready md ops listed := by simpa using h3
        refine wpAnyT_first ht hoi him (Region.noSelect_spec hsel) (fun c a w => hQ c a w _ _) _ listed a w inv (Region.free_spec hoi h2) hr hy hS ?_
        exact ih _ _ _ (fun _ _ _ _ => inv.set hr him) (Or.inr ⟨inv.set hr him, hS⟩) h4 hk
    | false =>
      simp only [planB, Bool.and_eq_true, beq_iff_eq] at hB
      obtain ⟨h1, h2⟩ := hB
      obtain ⟨oi, hoi, hk⟩ := h
      show wpAnyT P md ops Q S m (r.length + 1) listed a w
      refine ⟨fun h0 => (by rw [h1] at h0; cases h0), fun j hj => ?_⟩
      have hij : j = i := by rw [h1] at hj; simpa using hj
      subst hij
      have step : ∀ a' w', ((j < m → S w') ∧ wpPlan P ops Q S m r a' w') → ((j < m → S w') ∧ wpAnyT P md ops Q S m r.length (listed.setIfInBounds j true) a' w') := by
        intro a' w' h3
        refine ⟨h3.1, ?_⟩
        by_cases hall : ∀ p ∈ r, p.2 = false
        · exact ih _ _ _ (fun p hp h _ => absurd (hall p hp) (by simp [h])) (Or.inl hall) h2 h3.2
        · rcases hI with hI | ⟨inv, hS⟩
          · exact absurd (fun p hp => hI p (by simp [hp])) hall
          · by_cases hjm : j < m
            · have inv' := inv.set hj hjm
              exact ih _ _ _ (fun _ _ _ _ => inv') (Or.inr ⟨inv', h3.1 hjm⟩) h2 h3.2
            · exfalso
              refine hall ?_
              -- behind a tail's operation nothing of the head is left
              have key : ∀ (r : List (Nat × Bool)) (L : Array Bool), planB md ops m r L = true → (∀ i, i < m → L.getD i true = true) → ∀ p ∈ r, p.2 = false := by
                intro r
                induction r with
                | nil => intro _ _ _ p hp; cases hp
                | cons q r ihr =>
                  intro L hB hL p hp
                  obtain ⟨k, b⟩ := q
                  cases b with
                  | true =>
                    simp only [planB, Bool.and_eq_true] at hB
                    have hk : k ∈ Region.ready md ops L := by simpa using hB.1.2
                    have := (mem_ready.1 hk).1
                    rw [hL k (by simpa using hB.1.1.1)] at this
                    cases this
                  | false =>
                    simp only [planB, Bool.and_eq_true] at hB
                    rcases List.mem_cons.1 hp with rfl | hp
                    · rfl
                    · refine ihr _ hB.2 (fun i hi => ?_) p hp
                      by_cases hik : k = i
                      · subst hik
                        rcases Nat.lt_or_ge k L.size with h' | h'
                        · simp [h']
                        · simp
                      · rw [getD_set_ne true hik]; exact hL i hi
              refine key r _ h2 (fun i hi => ?_)
              cases hl : listed.getD i true with
              | true =>
                by_cases hik : j = i
                · subst hik; omega
                · rw [getD_set_ne true hik]; exact hl
              | false => exact absurd (head_first ht inv hi hl hj) hjm
      unfold wpOp
      simp only [hoi]
      split
      · rename_i hw
        rw [if_pos hw] at hk
        exact .inl (Oper.wp_mono step hk)
      · rename_i hw
        rw [if_neg hw] at hk
        exact step _ _ hk

def planOk (l : List Oper) (m : Nat) (plan : List (Nat × Bool)) : Bool :=
  tailOk .any l.toArray m && Region.noSelect l.toArray && planB .any l.toArray m plan (Array.replicate l.length false) && Nat.beq plan.length l.length

theorem headInv0 (md : Region.Mode) (ops : Array Oper) (m : Nat) : HeadInv md ops m (Array.replicate ops.size false) := by
  refine ⟨by simp, fun j oj _ hl => ?_, fun t _ ht => ?_⟩
  · rw [getD_replicate_false] at hl; cases hl
  · simp [ht]

theorem c_plan' {id : Nat} {l : List Oper} {a : Act} {w : World} (S : World → Prop) (m : Nat) (plan : List (Nat × Bool)) (hm : P.follows .mixedOrders = true) (hB : planOk l m plan = true) (hS : S w.drew)
    (h : wpPlan P l.toArray (NoPanic Q) S m plan a w.drew) : (Code.region id l.toArray true).wp P Q a w := by
  simp only [planOk, Bool.and_eq_true] at hB
  obtain ⟨⟨⟨h1, h2⟩, h3⟩, h4⟩ := hB
  have hl : plan.length = l.length := Nat.eq_of_beq_eq_true h4
  refine wp_region_noPanic (wp_region_any hm (wpAny_of_T (S := S) (m := m) _ _ _ _ ?_))
  have inv := headInv0 .any l.toArray m
  have := wpAnyT_of_plan (P := P) (Q := NoPanic Q) (S := S) h1 h2 (fun _ _ _ _ _ h => h) plan (Array.replicate l.length false) a w.drew (fun _ _ _ _ => by simpa using inv) (Or.inr ⟨by simpa using inv, hS⟩) h3 h
  rw [hl] at this
  simpa using this

/-- the rest of a drawn region, closed to the elaborator -/
structure PL (P : Program) (ops : Array Oper) (Q : Exit → Act → World → Prop) (S : World → Prop) (m : Nat) (l : List (Nat × Bool)) (a : Act) (w : World) : Prop where
  out : wpPlan P ops Q S m l a w
theorem c_plan {id : Nat} {l : List Oper} {a : Act} {w : World} (S : World → Prop) (m : Nat) (plan : List (Nat × Bool)) (hm : P.follows .mixedOrders = true) (hB : planOk l m plan = true) (hS : S w.drew)
    (h : PL P l.toArray (NoPanic Q) S m plan a w.drew) : (Code.region id l.toArray true).wp P Q a w := c_plan' S m plan hm hB hS h.out

section plan
variable {rest : List (Nat × Bool)} {n d i : Nat} {E : Env} {op : Op} {ty : TypeId} {pos : String} {after : Array Edge} {w w' : World} {v : Value} {f : FuncId} {vs : List Value}

theorem p_nil (h : Q .normal (mk n E) w) : PL P ops Q S m [] (mk n E) w := ⟨h⟩

/-- number i yields v in every world of the class -/
theorem ps (hi : ops[i]? = some ⟨some d, op, ty, pos, after, none⟩) (hx : ∀ w, S w → X P n E op ty w v w) (k : PL P ops Q S m rest (mk n (upd E d v)) w) : PL P ops Q S m ((i, true) :: rest) (mk n E) w :=
  ⟨⟨_, v, hi, Or.inl ⟨rfl, fun w hw => hx w hw _ _ _ _⟩, by rw [put_mk]; exact k.out⟩⟩
theorem p0 (hi : ops[i]? = some ⟨some d, op, ty, pos, after, none⟩) (hx : X0 P n E op ty v) (k : PL P ops Q S m rest (mk n (upd E d v)) w) : PL P ops Q S m ((i, true) :: rest) (mk n E) w :=
  ⟨⟨_, v, hi, Or.inl ⟨rfl, fun w _ => hx w _ _ _ _⟩, by rw [put_mk]; exact k.out⟩⟩
theorem pb {p : Prop} [Decidable p] (hi : ops[i]? = some ⟨some d, op, ty, pos, after, none⟩) (hx : X0 P n E op ty (.bool (decide p))) (kt : p → PL P ops Q S m rest (mk n (upd E d (.bool true))) w) (kf : ¬ p → PL P ops Q S m rest (mk n (upd E d (.bool false))) w) : PL P ops Q S m ((i, true) :: rest) (mk n E) w := by
  refine p0 hi hx ?_
  by_cases h : p
  · rw [decide_eq_true h]; exact kt h
  · rw [decide_eq_false h]; exact kf h
/-- guarded: yes -/
theorem psg {l : List Oper} {j dj : Nat} {want b : Bool} (hi : l.toArray[i]? = some ⟨some d, op, ty, pos, after, some (j, want)⟩) (hd : dstAt l j = some dj) (hn : Nat.blt dj n = true) (hv : E dj = .bool b) (hb : (b == want) = true)
    (hx : ∀ w, S w → X P n E op ty w v w) (k : PL P l.toArray Q S m rest (mk n (upd E d v)) w) : PL P l.toArray Q S m ((i, true) :: rest) (mk n E) w :=
  ⟨⟨_, v, hi, Or.inl ⟨by rw [wanted_mk l n E j dj b want hd hn hv, hb], fun w hw => hx w hw _ _ _ _⟩, by rw [put_mk]; exact k.out⟩⟩
theorem p0g {l : List Oper} {j dj : Nat} {want b : Bool} (hi : l.toArray[i]? = some ⟨some d, op, ty, pos, after, some (j, want)⟩) (hd : dstAt l j = some dj) (hn : Nat.blt dj n = true) (hv : E dj = .bool b) (hb : (b == want) = true)
    (hx : X0 P n E op ty v) (k : PL P l.toArray Q S m rest (mk n (upd E d v)) w) : PL P l.toArray Q S m ((i, true) :: rest) (mk n E) w :=
  psg hi hd hn hv hb (fun w _ => hx w) k
theorem pbg {l : List Oper} {j dj : Nat} {want b : Bool} {p : Prop} [Decidable p] (hi : l.toArray[i]? = some ⟨some d, op, ty, pos, after, some (j, want)⟩) (hd : dstAt l j = some dj) (hn : Nat.blt dj n = true) (hv : E dj = .bool b) (hb : (b == want) = true)
    (hx : X0 P n E op ty (.bool (decide p))) (kt : p → PL P l.toArray Q S m rest (mk n (upd E d (.bool true))) w) (kf : ¬ p → PL P l.toArray Q S m rest (mk n (upd E d (.bool false))) w) : PL P l.toArray Q S m ((i, true) :: rest) (mk n E) w := by
  refine p0g hi hd hn hv hb hx ?_
  by_cases h : p
  · rw [decide_eq_true h]; exact kt h
  · rw [decide_eq_false h]; exact kf h
/-- guarded: no -/
theorem pf {l : List Oper} {j dj : Nat} {want b : Bool} (hi : l.toArray[i]? = some ⟨some d, op, ty, pos, after, some (j, want)⟩) (hd : dstAt l j = some dj) (hn : Nat.blt dj n = true) (hv : E dj = .bool b) (hb : (b == want) = false)
    (k : PL P l.toArray Q S m rest (mk n (upd E d undef)) w) : PL P l.toArray Q S m ((i, true) :: rest) (mk n E) w :=
  ⟨⟨_, undef, hi, Or.inr ⟨by rw [wanted_mk l n E j dj b want hd hn hv, hb], rfl⟩, by rw [put_mk]; exact k.out⟩⟩

/-- forced: whatever it does, it is the only one; given as a one-operation walk -/
theorem pu {o : Oper} (hi : ops[i]? = some o) (h : WL P ops (fun e a w => e = .normal ∧ (i < m → S w) ∧ PL P ops Q S m rest a w) [o] (mk n E) w) (hQ : ¬ LetsOut (fun (e : Exit) (a : Act) (w : World) => e = .normal ∧ (i < m → S w) ∧ PL P ops Q S m rest a w) := by rintro ⟨_, _, h, _⟩; cases h) : PL P ops Q S m ((i, false) :: rest) (mk n E) w := by
  refine ⟨⟨o, hi, ?_⟩⟩
  have h := h.out
  unfold wpList at h
  split
  · rename_i hw
    rw [if_pos hw] at h
    rcases h with h | ⟨_, h⟩
    · unfold Oper.wp at h ⊢
      generalize (execOp (mk n E).eval o).run P w = r at *
      cases r with
      | ok nx w' =>
        cases nx <;> simp only [Oper.upon] at h ⊢
        case value u => exact ⟨h.2.1, h.2.2.out⟩
        case skip => exact ⟨h.2.1, h.2.2.out⟩
        case defer d => exact ⟨h.2.1, h.2.2.out⟩
        case enter f args =>
          refine h.mono fun e w'' he => ?_
          cases e with
          | returned u => exact ⟨he.2.1, he.2.2.out⟩
          | panicked c => cases he.1
          | outgrown => exact absurd he hQ
        case row row args => exact Rows.mono h fun u w'' he => ⟨he.2.1, he.2.2.out⟩
      | halt x w' =>
        cases x <;> simp only [Oper.upon] at h ⊢
        case panic u => cases h.1
    · exact absurd h hQ
  · rename_i hw
    rw [if_neg hw] at h
    exact ⟨h.2.1, h.2.2.out⟩
end plan
end
end Go.Sx
