/- A small stepping calculus over the kit's weakest preconditions: frames as functions, one lemma per operation. -/
import Derived.WalkKit
import Derived.Deep.MidRow
import Derived.Deep.Quiet
import Derived.OrdersHeld
import Derived.StillTail
import Derived.Deep.RegionHeld3
import Derived.Laws.MakeOwn
import Derived.ProofKit
import Derived.OpenShut
import Derived.Deep.AppendSrc
import Derived.Laws.OwnMore
import Derived.Lib.AppendZerosOnto
import Derived.Laws.IdiomStrings
import Derived.Laws.StructEq
namespace Go.Sx
open Go.RowKit

abbrev Env := Nat → Value

def upd (E : Env) (i : Nat) (v : Value) : Env := fun j => bif Nat.beq j i then v else E j
def ofArgs (l : List Value) : Env := fun i => l.getD i undef
def mk (n : Nat) (E : Env) : Act := ⟨Array.ofFn (fun i : Fin n => E i), []⟩
def opd (n : Nat) (E : Env) : Operand → Value
  | .tmp t => bif Nat.blt t n then E t else undef
  | .const v => v
  | .global g => .pointer (some ⟨g, 0, none⟩)
  | .func f => .func (.func f) #[] #[]

theorem getD_mk (n : Nat) (E : Env) (t : Nat) : (mk n E).tmps.getD t undef = (bif Nat.blt t n then E t else undef) := by
  unfold mk
  by_cases h : t < n
  · have h2 : Nat.blt t n = true := by simpa using h
    rw [h2]
    simp [Array.getD, h]
  · have h2 : Nat.blt t n = false := by cases hh : Nat.blt t n with
      | false => rfl
      | true => exact absurd (by simpa using hh) h
    rw [h2]
    simp [Array.getD, h]

theorem eval_mk (n : Nat) (E : Env) : (mk n E).eval = opd n E := by
  funext x
  cases x with
  | tmp t => exact getD_mk n E t
  | const v => rfl
  | global g => rfl
  | func f => rfl

theorem put_mk (n : Nat) (E : Env) (d : Nat) (v : Value) : (mk n E).put (some d) v = mk n (upd E d v) := by
  unfold mk Act.put
  refine congrArg (Act.mk · []) ?_
  apply Array.ext
  · simp
  · intro i h1 h2
    have hi : i < n := by simpa using h2
    rw [Array.getElem_setIfInBounds (by simpa using hi), Array.getElem_ofFn]
    simp only [Array.getElem_ofFn, upd]
    by_cases h : d = i
    · subst h; simp
    · have hb : Nat.beq i d = false := by
        cases hh : Nat.beq i d with
        | false => rfl
        | true => exact absurd (Nat.eq_of_beq_eq_true hh).symm h
      rw [hb]
      simp [h]

theorem put_mk_none (n : Nat) (E : Env) (v : Value) : (mk n E).put none v = mk n E := rfl

theorem upd_self {E : Env} {i : Nat} {v : Value} (h : E i = v) : E = upd E i v := by
  funext j
  unfold upd
  cases hh : Nat.beq j i with
  | false => rfl
  | true => rw [Nat.eq_of_beq_eq_true hh, h]; rfl

theorem enter_eq (n : Nat) (l : List Value) (h : l.length ≤ n) : (⟨l.toArray ++ Array.replicate (n - l.toArray.size) undef, []⟩ : Act) = mk n (ofArgs l) := by
  unfold mk ofArgs
  congr 1
  apply Array.ext
  · simp; omega
  · intro i h1 h2
    have hi : i < n := by simpa using h2
    simp only [Array.getElem_ofFn]
    by_cases hl : i < l.length
    · rw [Array.getElem_append_left (by simpa using hl)]
      simp [List.getD, hl]
    · rw [Array.getElem_append_right (by simpa using hl)]
      simp [List.getD, hl]

/-- Enter a function. -/
theorem enter {P : Program} {f : FuncId} {fn : Func} {c : Code} {l : List Value} {w : World} {R : Ending → World → Prop} {n : Nat}
    (hf : P.funcs[f]? = some fn) (hb : fn.body = some c) (hn : fn.ntmps = n) (hl : Nat.ble l.length n = true)
    (h : c.wp P (bodyPost P fn R) (mk n (ofArgs l)) w) : Calls P f l.toArray w R := by
  refine calls_of_wp hf hb ?_
  rw [hn, enter_eq n l (Nat.le_of_ble_eq_true hl)]
  exact h

/-- the slot of operation j of a list -/
def dstAt : List Oper → Nat → Option Tmp
  | [], _ => none
  | o :: _, 0 => o.dst
  | _ :: l, j + 1 => dstAt l j
theorem dstAt_eq : ∀ (l : List Oper) (j : Nat), dstAt l j = (l[j]?).bind (·.dst)
  | [], _ => by simp [dstAt]
  | _ :: _, 0 => by simp [dstAt]
  | _ :: l, j + 1 => by simp [dstAt, dstAt_eq l j]

theorem wanted_mk (l : List Oper) (n : Nat) (E : Env) (j d : Nat) (b want : Bool) (hd : dstAt l j = some d) (hn : Nat.blt d n = true) (hv : E d = .bool b) (dst : Option Tmp) (op : Op) (ty : TypeId) (pos : String) (after : Array Edge) :
    Region.wanted ⟨dst, op, ty, pos, after, some (j, want)⟩ (yielded l.toArray (mk n E).tmps) = (b == want) := by
  have hlt : d < n := by simpa using hn
  rw [dstAt_eq] at hd
  unfold Region.wanted yielded mk
  simp [hd, hlt, hv]

theorem wanted_un (l : List Oper) (n : Nat) (E : Env) (j d : Nat) (want : Bool) (hd : dstAt l j = some d) (hn : Nat.blt d n = true) (hv : E d = undef) (dst : Option Tmp) (op : Op) (ty : TypeId) (pos : String) (after : Array Edge) :
    Region.wanted ⟨dst, op, ty, pos, after, some (j, want)⟩ (yielded l.toArray (mk n E).tmps) = false := by
  have hlt : d < n := by simpa using hn
  rw [dstAt_eq] at hd
  unfold Region.wanted yielded mk
  simp [hd, hlt, hv, undef]

/-- What an operation does in this frame and world. -/
def X (P : Program) (n : Nat) (E : Env) (op : Op) (ty : TypeId) (w : World) (v : Value) (w' : World) : Prop :=
  ∀ dst pos after g, (execOp (mk n E).eval ⟨dst, op, ty, pos, after, g⟩).run P w = .ok (.value v) w'
/-- The same in whatever world, which it leaves alone. -/
def X0 (P : Program) (n : Nat) (E : Env) (op : Op) (ty : TypeId) (v : Value) : Prop := ∀ w, X P n E op ty w v w
/-- An operation without a value. -/
def Y (P : Program) (n : Nat) (E : Env) (op : Op) (ty : TypeId) (w : World) (w' : World) : Prop :=
  ∀ dst pos after g, (execOp (mk n E).eval ⟨dst, op, ty, pos, after, g⟩).run P w = .ok .skip w'
/-- An operation that enters a function. -/
def Z (P : Program) (n : Nat) (E : Env) (op : Op) (ty : TypeId) (f : FuncId) (vs : List Value) : Prop :=
  ∀ w dst pos after g, (execOp (mk n E).eval ⟨dst, op, ty, pos, after, g⟩).run P w = .ok (.enter f vs.toArray) w

/-- the rest of a region, closed to the elaborator -/
structure WL (P : Program) (ops : Array Oper) (Q : Exit → Act → World → Prop) (l : List Oper) (a : Act) (w : World) : Prop where
  out : wpList P ops Q l a w

section steps
variable {P : Program} {ops : Array Oper} {Q : Exit → Act → World → Prop} {rest : List Oper} {n d : Nat} {E : Env} {op : Op} {ty : TypeId} {pos : String} {after : Array Edge} {w w' : World} {v : Value}

theorem st (hx : X P n E op ty w v w') (k : WL P ops Q rest (mk n (upd E d v)) w') : WL P ops Q (⟨some d, op, ty, pos, after, none⟩ :: rest) (mk n E) w := by
  refine ⟨wpList_plain rfl fun K hK => ?_⟩
  unfold Oper.wp
  rw [hx]
  simp only [Oper.upon, put_mk]
  exact hK _ _ k.out

theorem s0 (hx : X0 P n E op ty v) (k : WL P ops Q rest (mk n (upd E d v)) w) : WL P ops Q (⟨some d, op, ty, pos, after, none⟩ :: rest) (mk n E) w := st (hx w) k

theorem sy {dst : Option Tmp} (hx : Y P n E op ty w w') (hd : dst = none) (k : WL P ops Q rest (mk n E) w') : WL P ops Q (⟨dst, op, ty, pos, after, none⟩ :: rest) (mk n E) w := by
  refine ⟨wpList_plain rfl fun K hK => ?_⟩
  unfold Oper.wp
  rw [hx]
  simp only [Oper.upon, hd, put_mk_none]
  exact hK _ _ k.out

/-- a test whose outcome parts the walk -/
theorem sb {p : Prop} [Decidable p] (hx : X0 P n E op ty (.bool (decide p))) (kt : p → WL P ops Q rest (mk n (upd E d (.bool true))) w) (kf : ¬ p → WL P ops Q rest (mk n (upd E d (.bool false))) w) :
    WL P ops Q (⟨some d, op, ty, pos, after, none⟩ :: rest) (mk n E) w := by
  refine s0 hx ?_
  by_cases h : p
  · rw [decide_eq_true h]; exact kt h
  · rw [decide_eq_false h]; exact kf h

/-- the guard says yes: as without one -/
theorem gt {l : List Oper} {j dj : Nat} {want b : Bool} {dst : Option Tmp} (hd : dstAt l j = some dj) (hn : Nat.blt dj n = true) (hv : E dj = .bool b) (hb : (b == want) = true)
    (k : WL P l.toArray Q (⟨dst, op, ty, pos, after, none⟩ :: rest) (mk n E) w) : WL P l.toArray Q (⟨dst, op, ty, pos, after, some (j, want)⟩ :: rest) (mk n E) w := by
  refine ⟨?_⟩
  have k := k.out
  unfold wpList at k ⊢
  rw [wanted_mk l n E j dj b want hd hn hv, hb]
  exact k

/-- the guard says no -/
theorem gf {l : List Oper} {j dj : Nat} {want b : Bool} (hd : dstAt l j = some dj) (hn : Nat.blt dj n = true) (hv : E dj = .bool b) (hb : (b == want) = false)
    (k : WL P l.toArray Q rest (mk n (upd E d undef)) w) : WL P l.toArray Q (⟨some d, op, ty, pos, after, some (j, want)⟩ :: rest) (mk n E) w := by
  refine ⟨?_⟩
  unfold wpList
  rw [wanted_mk l n E j dj b want hd hn hv, hb, put_mk]
  exact k.out

/-- the guard itself was passed over -/
theorem gu {l : List Oper} {j dj : Nat} {want : Bool} (hd : dstAt l j = some dj) (hn : Nat.blt dj n = true) (hv : E dj = undef)
    (k : WL P l.toArray Q rest (mk n (upd E d undef)) w) : WL P l.toArray Q (⟨some d, op, ty, pos, after, some (j, want)⟩ :: rest) (mk n E) w := by
  refine ⟨?_⟩
  unfold wpList
  rw [wanted_un l n E j dj want hd hn hv, put_mk]
  exact k.out
end steps

/-- of what was there nothing has turned but the blocks M -/
structure Exm (M : List Nat) (w w' : World) : Prop where
  os : w'.os = w.os
  tape : w'.tape = w.tape
  output : w'.output = w.output
  size : w.heap.size ≤ w'.heap.size
  block : ∀ k, k < w.heap.size → k ∉ M → w'.heap[k]? = w.heap[k]?
abbrev Ext := Exm []
theorem Exm.rfl' {M : List Nat} {w : World} : Exm M w w := ⟨rfl, rfl, rfl, Nat.le_refl _, fun _ _ _ => rfl⟩
theorem Exm.tr {M : List Nat} {a b c : World} (h : Exm M a b) (k : Exm M b c) : Exm M a c :=
  ⟨k.os.trans h.os, k.tape.trans h.tape, k.output.trans h.output, Nat.le_trans h.size k.size, fun i hi hm => (k.block i (Nat.lt_of_lt_of_le hi h.size) hm).trans (h.block i hi hm)⟩
theorem Exm.up {M : List Nat} {a b : World} (h : Ext a b) : Exm M a b := ⟨h.os, h.tape, h.output, h.size, fun i hi _ => h.block i hi (by simp)⟩
/-- a step that turns block b, which was not there at the start -/
theorem Exm.fresh {M : List Nat} {b : Nat} {w0 w w' : World} (h : Exm M w0 w) (k : Exm [b] w w') (hb : w0.heap.size ≤ b) : Exm M w0 w' :=
  ⟨k.os.trans h.os, k.tape.trans h.tape, k.output.trans h.output, Nat.le_trans h.size k.size, fun i hi hm => (k.block i (Nat.lt_of_lt_of_le hi h.size) (by simp; omega)).trans (h.block i hi hm)⟩
/-- a step that turns a block of M -/
theorem Exm.within {M : List Nat} {b : Nat} {w0 w w' : World} (h : Exm M w0 w) (k : Exm [b] w w') (hb : b ∈ M) : Exm M w0 w' :=
  ⟨k.os.trans h.os, k.tape.trans h.tape, k.output.trans h.output, Nat.le_trans h.size k.size, fun i hi hm => (k.block i (Nat.lt_of_lt_of_le hi h.size) (by simp; exact fun e => hm (e ▸ hb))).trans (h.block i hi hm)⟩
theorem Exm.alloc {M : List Nat} (w : World) (o : Obj) : Exm M w (w.alloc o) := ⟨rfl, rfl, rfl, by simp, fun k hk _ => Below.heap_alloc w o k hk⟩
theorem Exm.drew {M : List Nat} (w : World) : Exm M w w.drew := ⟨rfl, rfl, rfl, Nat.le_refl _, fun _ _ _ => rfl⟩
theorem Exm.below {w w' : World} (h : Ext w w') : Below w.heap.size w w' := ⟨h.os, h.tape, h.output, h.size, fun k hk => h.block k hk (by simp)⟩
theorem Exm.of_below {w w' : World} (h : Below w.heap.size w w') : Ext w w' := ⟨h.os, h.tape, h.output, h.size, fun k hk _ => h.block k hk⟩
theorem Exm.of_grown {w w' : World} {b : Nat} (h : w.grownBy w' (some b)) : Exm [b] w w' := ⟨h.os, h.tape, h.output, h.size, fun k hk hn => h.block k hk (by simpa using hn)⟩
theorem Exm.of_grown0 {w w' : World} (h : w.grownBy w' none) : Ext w w' := ⟨h.os, h.tape, h.output, h.size, fun k hk _ => h.block k hk (by simp)⟩

def Ret (w : World) (v : Value) : Ending → World → Prop := fun e w' => e = .returned v ∧ Ext w w'
def RetP (w : World) (φ : Value → World → Prop) : Ending → World → Prop := fun e w' => ∃ v, e = .returned v ∧ Ext w w' ∧ φ v w'

section calls
variable {P : Program} {ops : Array Oper} {Q : Exit → Act → World → Prop} {rest : List Oper} {n d : Nat} {E : Env} {op : Op} {ty : TypeId} {pos : String} {after : Array Edge} {w : World} {v : Value} {f : FuncId} {vs : List Value}

/-- a call by its contract -/
theorem sc {R : Ending → World → Prop} (hz : Z P n E op ty f vs) (hc : Calls P f vs.toArray w R) (hr : ∀ e w', R e w' → ∃ v, e = .returned v)
    (k : ∀ v w', R (.returned v) w' → WL P ops Q rest (mk n (upd E d v)) w') : WL P ops Q (⟨some d, op, ty, pos, after, none⟩ :: rest) (mk n E) w := by
  refine ⟨wpList_plain rfl fun K hK => ?_⟩
  unfold Oper.wp
  rw [hz]
  simp only [Oper.upon, put_mk]
  refine hc.mono fun e w' h => ?_
  obtain ⟨v, rfl⟩ := hr e w' h
  exact hK _ _ (k v w' h).out

theorem sr (hz : Z P n E op ty f vs) (hc : Calls P f vs.toArray w (Ret w v)) (k : ∀ w', Ext w w' → WL P ops Q rest (mk n (upd E d v)) w') :
    WL P ops Q (⟨some d, op, ty, pos, after, none⟩ :: rest) (mk n E) w :=
  sc hz hc (fun _ _ h => ⟨v, h.1⟩) fun v' w' h => by
    obtain ⟨h1, h2⟩ := h
    cases h1
    exact k w' h2

theorem srb {p : Prop} [Decidable p] (hz : Z P n E op ty f vs) (hc : Calls P f vs.toArray w (Ret w (.bool (decide p)))) (kt : p → ∀ w', Ext w w' → WL P ops Q rest (mk n (upd E d (.bool true))) w')
    (kf : ¬ p → ∀ w', Ext w w' → WL P ops Q rest (mk n (upd E d (.bool false))) w') :
    WL P ops Q (⟨some d, op, ty, pos, after, none⟩ :: rest) (mk n E) w := by
  refine sr hz hc fun w' hw => ?_
  by_cases h : p
  · rw [decide_eq_true h]; exact kt h w' hw
  · rw [decide_eq_false h]; exact kf h w' hw

theorem sp {φ : Value → World → Prop} (hz : Z P n E op ty f vs) (hc : Calls P f vs.toArray w (RetP w φ)) (k : ∀ v w', Ext w w' → φ v w' → WL P ops Q rest (mk n (upd E d v)) w') :
    WL P ops Q (⟨some d, op, ty, pos, after, none⟩ :: rest) (mk n E) w :=
  sc hz hc (fun _ _ h => ⟨h.choose, h.choose_spec.1⟩) fun v' w' h => by
    obtain ⟨v, h1, h2, h3⟩ := h
    cases h1
    exact k v' w' h2 h3
end calls

/-- function f is there, and is entered when it is called -/
def Callable (P : Program) (f : FuncId) : Prop := ∀ args w, (callFunc f args).run P w = .ok (.enter f args) w
theorem callable {P : Program} {f : FuncId} {fn : Func} (hf : P.funcs[f]? = some fn) (hn : (fn.name == "runtime.NumGoroutine") = false) (hb : fn.body.isNone = false) : Callable P f := by
  intro args w
  unfold callFunc
  simp only [Sem.run_bind, run_program, Result.andThen_ok, hf, hn, hb, Bool.false_eq_true, if_false, Sem.run_pure]

theorem zcall {P : Program} {n : Nat} {E : Env} {ty : TypeId} {f : FuncId} {l : List Operand} {ts : Array TypeId} (hc : Callable P f) {vs : List Value} (hv : l.map (opd n E) = vs) :
    Z P n E (.call { callee := .value (.func f), args := l.toArray, argTypes := ts }) ty f vs := by
  intro w dst pos after g
  subst hv
  unfold execOp
  simp only [resolve, Deferred.ofValue, eval_mk, opd, invoke, Sem.run_bind, Sem.run_pure, Result.andThen_ok, List.map_toArray]
  rw [hc]
  simp

section code
variable {P : Program} {Q Q' : Exit → Act → World → Prop} {n : Nat} {E : Env} {w : World} {x y c : Code} {a : Act}
theorem c_reg {id : Nat} {l : List Oper} (h : WL P l.toArray Q l a w) : (Code.region id l.toArray false).wp P Q a w := wp_region_lit h.out
theorem c_end {ops : Array Oper} (h : Q .normal a w) : WL P ops Q [] a w := ⟨h⟩
theorem c_skipn (h : Q .normal a w) : Code.skip.wp P Q a w := wp_skip h
theorem n_then {N : Act → World → Prop} (h : N a w) : Exit.then N Q .normal a w := h
theorem n_block {id : Nat} (h : Q .normal a w) : Exit.inBlock id Q .normal a w := h
theorem r_then {N : Act → World → Prop} (h : Q .ret a w) : Exit.then N Q .ret a w := h
theorem r_block {id : Nat} (h : Q .ret a w) : Exit.inBlock id Q .ret a w := h
theorem e_then {N : Act → World → Prop} {i : Nat} (h : Q (.exit i) a w) : Exit.then N Q (.exit i) a w := h
theorem e_here {i : Nat} (h : Q .normal a w) : Exit.inBlock i Q (.exit i) a w := by simpa [Exit.inBlock] using h
theorem c_true {t : Operand} (hc : opd n E t = .bool true) (h : x.wp P Q (mk n E) w) : (Code.cond t x y).wp P Q (mk n E) w := wp_cond_true (by rw [eval_mk]; exact hc) h
theorem c_false {t : Operand} (hc : opd n E t = .bool false) (h : y.wp P Q (mk n E) w) : (Code.cond t x y).wp P Q (mk n E) w := wp_cond_false (by rw [eval_mk]; exact hc) h
/-- a loop, with a ghost -/
theorem c_loop {γ : Type} (μ : γ → Nat) (I : γ → Env → World → Prop) (g0 : γ) (h0 : I g0 E w)
    (round : ∀ g E w, I g E w → c.wp P (Exit.then (fun a' w' => ∃ g' E', a' = mk n E' ∧ μ g' < μ g ∧ I g' E' w') Q) (mk n E) w) : (Code.loop c).wp P Q (mk n E) w := by
  intro b k cs
  have key : ∀ m g E w, μ g = m → I g E w → ∃ e a' w', Q e a' w' ∧ Arrives P (lone (b.at (mk n E) (.code c :: .inLoop c :: k)) cs w) b k cs e a' w' := by
    intro m
    induction m using Nat.strongRecOn with
    | _ m ih =>
      intro g E w hm hI
      obtain ⟨e, a₁, w₁, hq, harr⟩ := round g E w hI b (.inLoop c :: k) cs
      cases e with
      | normal =>
        obtain ⟨g', E', rfl, hlt, hI'⟩ := hq
        obtain ⟨e₂, a₂, w₂, hq₂, harr₂⟩ := ih (μ g') (hm ▸ hlt) g' E' w₁ rfl hI'
        exact ⟨e₂, a₂, w₂, hq₂, .of_steps (Steps.trans harr (.one step_inLoop)) harr₂⟩
      | exit id => exact ⟨_, a₁, w₁, hq, .pass (x := .inLoop c) rfl (fun _ _ => .inl (by simp)) harr⟩
      | goto l => exact ⟨_, a₁, w₁, hq, .pass (x := .inLoop c) rfl (fun _ _ => .inl (by simp)) harr⟩
      | ret => exact ⟨_, a₁, w₁, hq, .pass (x := .inLoop c) rfl (fun _ _ => .inl (by simp)) harr⟩
      | panic ch => exact ⟨_, a₁, w₁, hq, .pass (x := .inLoop c) rfl (fun _ _ => .inl (by simp)) harr⟩
      | outgrown => exact ⟨_, a₁, w₁, hq, .pass (x := .inLoop c) rfl (fun _ _ => .inl (by simp)) harr⟩
  obtain ⟨e, a', w', hq, harr⟩ := key _ g0 E w rfl h0
  exact ⟨e, a', w', hq, .of_steps (.one step_loop) harr⟩

theorem c_round {γ : Type} {μ : γ → Nat} {I : γ → Env → World → Prop} {g g' : γ} (hμ : μ g' < μ g) (hI : I g' E w) :
    Exit.then (fun a' w' => ∃ g' E', a' = mk n E' ∧ μ g' < μ g ∧ I g' E' w') Q .normal (mk n E) w := ⟨g', E, rfl, hμ, hI⟩
end code

section finish
variable {P : Program} {fn : Func} {R : Ending → World → Prop} {n : Nat} {E : Env} {w : World} {v : Value}
theorem f_ret {t : Nat} (hr : fn.results = #[.tmp t]) (hv : opd n E (.tmp t) = v) (h : R (.returned v) w) : bodyPost P fn R .ret (mk n E) w := by
  refine bodyPost_ret (results_tmp hr _ _ _) rfl ?_
  rw [getD_mk]; subst hv; exact h
theorem f_end0 (hr : fn.results = #[]) (h : R (.returned (.tuple #[])) w) : bodyPost P fn R .normal (mk n E) w :=
  bodyPost_end (results_none hr _ _ _) rfl h
end finish
end Go.Sx

namespace Go.Sx
open Go.RowKit

theorem wrap_in {z : Int} (h : -9223372036854775808 ≤ z ∧ z ≤ 9223372036854775807) : IntKind.i64.wrap z = z := IntWalk.i64_in z h

section ops
variable {P : Program} {n : Nat} {E : Env} {ty T T' : TypeId} {x y z : Operand} {v : Value} {a b : Int} {k : IntKind}

theorem x_move (hx : opd n E x = v) : X0 P n E (.move x) ty v := by
  intro w dst pos after g; subst hx; simp [execOp, eval_mk]
theorem x_assign (hx : opd n E x = v) : X0 P n E (.assign x) ty v := by
  intro w dst pos after g; subst hx; simp [execOp, eval_mk]
theorem x_pickt (hc : opd n E z = .bool true) (hx : opd n E x = v) : X0 P n E (.pick z x y) ty v := by
  intro w dst pos after g; subst hx; simp [execOp, eval_mk, hc, asBool]
theorem x_pickf (hc : opd n E z = .bool false) (hx : opd n E y = v) : X0 P n E (.pick z x y) ty v := by
  intro w dst pos after g; subst hx; simp [execOp, eval_mk, hc, asBool]

theorem x_bin {op : BinOp} {u : Value} {v : Value} {u' : Value} (hx : opd n E x = u) (hy : opd n E y = u') (hg : ∀ w, (eqGuard op T x y u u').run P w = .ok () w) (h : ∀ w, (binOp op T u u').run P w = .ok v w) : X0 P n E (.binOp op T x y T') ty v := by
  intro w dst pos after g
  simp [execOp, eval_mk, hx, hy, hg, h]

theorem eqGuard_int (op : BinOp) (k k' : IntKind) (w : World) : (eqGuard op T x y (.int k a) (.int k' b)).run P w = .ok () w := by
  unfold eqGuard; split <;> simp
theorem eqGuard_string (op : BinOp) (a b : ByteArray) (w : World) : (eqGuard op T x y (.string a) (.string b)).run P w = .ok () w := by
  unfold eqGuard; split <;> simp

theorem x_addk (hx : opd n E x = .int k a) (hy : opd n E y = .int k b) : X0 P n E (.binOp .add T x y T') ty (.int k (k.wrap (a + b))) :=
  x_bin hx hy (eqGuard_int _ _ _) fun w => by simp [binOp, Op.intArith]
theorem x_subk (hx : opd n E x = .int k a) (hy : opd n E y = .int k b) : X0 P n E (.binOp .sub T x y T') ty (.int k (k.wrap (a - b))) :=
  x_bin hx hy (eqGuard_int _ _ _) fun w => by simp [binOp, Op.intArith]
theorem x_mulk (hx : opd n E x = .int k a) (hy : opd n E y = .int k b) : X0 P n E (.binOp .mul T x y T') ty (.int k (k.wrap (a * b))) :=
  x_bin hx hy (eqGuard_int _ _ _) fun w => by simp [binOp, Op.intArith]
theorem x_add (hx : opd n E x = .int .i64 a) (hy : opd n E y = .int .i64 b) (h : -9223372036854775808 ≤ a + b ∧ a + b ≤ 9223372036854775807) : X0 P n E (.binOp .add T x y T') ty (.int .i64 (a + b)) := by
  have := x_addk (P := P) (T := T) (T' := T') (ty := ty) hx hy; rwa [wrap_in h] at this
theorem x_sub (hx : opd n E x = .int .i64 a) (hy : opd n E y = .int .i64 b) (h : -9223372036854775808 ≤ a - b ∧ a - b ≤ 9223372036854775807) : X0 P n E (.binOp .sub T x y T') ty (.int .i64 (a - b)) := by
  have := x_subk (P := P) (T := T) (T' := T') (ty := ty) hx hy; rwa [wrap_in h] at this
theorem x_mul (hx : opd n E x = .int .i64 a) (hy : opd n E y = .int .i64 b) (h : -9223372036854775808 ≤ a * b ∧ a * b ≤ 9223372036854775807) : X0 P n E (.binOp .mul T x y T') ty (.int .i64 (a * b)) := by
  have := x_mulk (P := P) (T := T) (T' := T') (ty := ty) hx hy; rwa [wrap_in h] at this
theorem x_quok (hx : opd n E x = .int k a) (hy : opd n E y = .int k b) (hb : b ≠ 0) : X0 P n E (.binOp .quo T x y T') ty (.int k (k.wrap (a.tdiv b))) :=
  x_bin hx hy (eqGuard_int _ _ _) fun w => by simp [binOp, Op.intDiv, hb]
theorem x_remk (hx : opd n E x = .int k a) (hy : opd n E y = .int k b) (hb : b ≠ 0) : X0 P n E (.binOp .rem T x y T') ty (.int k (a.tmod b)) :=
  x_bin hx hy (eqGuard_int _ _ _) fun w => by simp [binOp, Op.intDiv, hb]
theorem x_quo (hx : opd n E x = .int .i64 a) (hy : opd n E y = .int .i64 b) (ha : 0 ≤ a ∧ a ≤ 9223372036854775807) (hb : 0 < b) : X0 P n E (.binOp .quo T x y T') ty (.int .i64 (a / b)) := by
  have h := x_quok (P := P) (T := T) (T' := T') (ty := ty) hx hy (by omega)
  have h2 : a.tdiv b = a / b := Int.tdiv_eq_ediv_of_nonneg ha.1
  have h3 : 0 ≤ a / b := Int.ediv_nonneg ha.1 (by omega)
  have h4 : a / b ≤ a := Int.ediv_le_self _ ha.1
  rwa [h2, wrap_in ⟨by omega, by omega⟩] at h
theorem x_rem (hx : opd n E x = .int k a) (hy : opd n E y = .int k b) (ha : 0 ≤ a) (hb : 0 < b) : X0 P n E (.binOp .rem T x y T') ty (.int k (a % b)) := by
  have h := x_remk (P := P) (T := T) (T' := T') (ty := ty) hx hy (by omega)
  rwa [Int.tmod_eq_emod_of_nonneg ha] at h
theorem x_shlk {k' : IntKind} (hx : opd n E x = .int k a) (hy : opd n E y = .int k' b) (hb : 0 ≤ b ∧ b < k.bits) : X0 P n E (.binOp .shl T x y T') ty (.int k (k.wrap (a * 2 ^ b.toNat))) :=
  x_bin hx hy (eqGuard_int _ _ _) fun w => by
    have h1 : ¬ b < 0 := by omega
    have h2 : min b.toNat k.bits = b.toNat := by omega
    simp [binOp, Op.shift, h1, h2]
theorem x_shl {k' : IntKind} (hx : opd n E x = .int .i64 a) (hy : opd n E y = .int k' b) (hb : 0 ≤ b ∧ b < 64) (h : -9223372036854775808 ≤ a * 2 ^ b.toNat ∧ a * 2 ^ b.toNat ≤ 9223372036854775807) : X0 P n E (.binOp .shl T x y T') ty (.int .i64 (a * 2 ^ b.toNat)) := by
  have h1 := x_shlk (P := P) (T := T) (T' := T') (ty := ty) hx hy (by simpa [IntKind.bits] using hb); rwa [wrap_in h] at h1
theorem x_shr {k' : IntKind} (hx : opd n E x = .int k a) (hy : opd n E y = .int k' b) (hb : 0 ≤ b ∧ b ≤ k.bits) : X0 P n E (.binOp .shr T x y T') ty (.int k (a / 2 ^ b.toNat)) :=
  x_bin hx hy (eqGuard_int _ _ _) fun w => by
    have h1 : ¬ b < 0 := by omega
    have h2 : min b.toNat k.bits = b.toNat := by omega
    have h3 : a.fdiv (2 ^ b.toNat) = a / 2 ^ b.toNat := Int.fdiv_eq_ediv_of_nonneg _ (Int.pow_nonneg (by omega))
    simp [binOp, Op.shift, h1, h2, h3]
theorem x_bits {op : BinOp} (hop : op = .and ∨ op = .or ∨ op = .xor) (hx : opd n E x = .int k a) (hy : opd n E y = .int k b) : X0 P n E (.binOp op T x y T') ty (.int k (bits op k a b)) :=
  x_bin hx hy (eqGuard_int _ _ _) fun w => by rcases hop with rfl | rfl | rfl <;> simp [binOp, Op.intBits, bits]

theorem x_lss (hx : opd n E x = .int k a) (hy : opd n E y = .int k b) : X0 P n E (.binOp .lss T x y T') ty (.bool (decide (a < b))) :=
  x_bin hx hy (eqGuard_int _ _ _) fun w => by simp [binOp, Op.intCmp]
theorem x_leq (hx : opd n E x = .int k a) (hy : opd n E y = .int k b) : X0 P n E (.binOp .leq T x y T') ty (.bool (decide (a ≤ b))) :=
  x_bin hx hy (eqGuard_int _ _ _) fun w => by simp [binOp, Op.intCmp]
theorem x_gtr (hx : opd n E x = .int k a) (hy : opd n E y = .int k b) : X0 P n E (.binOp .gtr T x y T') ty (.bool (decide (b < a))) :=
  x_bin hx hy (eqGuard_int _ _ _) fun w => by simp [binOp, Op.intCmp]
theorem x_geq (hx : opd n E x = .int k a) (hy : opd n E y = .int k b) : X0 P n E (.binOp .geq T x y T') ty (.bool (decide (b ≤ a))) :=
  x_bin hx hy (eqGuard_int _ _ _) fun w => by simp [binOp, Op.intCmp]
theorem x_eql (hx : opd n E x = .int k a) (hy : opd n E y = .int k b) : X0 P n E (.binOp .eql T x y T') ty (.bool (decide (a = b))) :=
  x_bin hx hy (eqGuard_int _ _ _) fun w => by simp only [binOp, Op.intCmp]; simp; rfl
theorem x_neq (hx : opd n E x = .int k a) (hy : opd n E y = .int k b) : X0 P n E (.binOp .neq T x y T') ty (.bool (decide (a ≠ b))) :=
  x_bin hx hy (eqGuard_int _ _ _) fun w => by simp only [binOp, Op.intCmp]; simp [bne]; rfl

theorem bytes_beq (s t : ByteArray) : (s.toList == t.toList) = decide (s = t) := by
  rw [Bool.eq_iff_iff]
  simp only [beq_iff_eq, decide_eq_true_eq]
  constructor
  · intro h
    have h2 : s.data.toList = t.data.toList := by simpa [ByteArray.toList_eq] using h
    cases s; cases t; simp at h2; subst h2; rfl
  · intro h; rw [h]
theorem x_eqls {s t : ByteArray} (hx : opd n E x = .string s) (hy : opd n E y = .string t) : X0 P n E (.binOp .eql T x y T') ty (.bool (decide (s = t))) :=
  x_bin hx hy (eqGuard_string _ _ _) fun w => by simp only [binOp, Op.stringOp, bytes_beq]; simp
theorem x_adds {s t : ByteArray} (hx : opd n E x = .string s) (hy : opd n E y = .string t) (h : s.size + t.size ≤ 9223372036854775807) : X0 P n E (.binOp .add T x y T') ty (.string (s ++ t)) :=
  x_bin hx hy (eqGuard_string _ _ _) fun w => by simp only [binOp]; exact run_string_add_sum (w := w) s t h

theorem x_not {p : Bool} (hx : opd n E x = .bool p) : X0 P n E (.unOp .not T x) ty (.bool (!p)) := by
  intro w dst pos after g; simp [execOp, eval_mk, hx, Op.unary]
theorem x_negk (hx : opd n E x = .int k a) : X0 P n E (.unOp .neg T x) ty (.int k (k.wrap (0 - a))) := by
  intro w dst pos after g; simp [execOp, eval_mk, hx, Op.unary, Op.intArith]
theorem x_neg (hx : opd n E x = .int .i64 a) (h : -9223372036854775808 ≤ -a ∧ -a ≤ 9223372036854775807) : X0 P n E (.unOp .neg T x) ty (.int .i64 (-a)) := by
  have h1 := x_negk (P := P) (T := T) (ty := ty) hx; rwa [Int.zero_sub, wrap_in h] at h1

theorem x_convk {k' : IntKind} (hs : (P.underlying T).isSome = true) (hd : P.underlying T' = some (.int k')) (hx : opd n E x = .int k a) : X0 P n E (.convert T T' x) ty (.int k' (k'.wrap a)) := by
  intro w dst pos after g
  have hk : P.intKind T' = k' := by simp [Program.intKind, hd]
  have h1 := run_convert_int w T T' k a hs (by rw [hk]; exact hd)
  rw [hk] at h1
  simp [execOp, eval_mk, hx, h1]
theorem x_conv {k' : IntKind} (hs : (P.underlying T).isSome = true) (hd : P.underlying T' = some (.int k')) (hx : opd n E x = .int k a) (h : k'.wrap a = a) : X0 P n E (.convert T T' x) ty (.int k' a) := by
  have h1 := x_convk (P := P) (ty := ty) hs hd hx; rwa [h] at h1

theorem x_len {s : ByteArray} (hT : P.underlying T = some .string) (hx : opd n E x = .string s) : X0 P n E (.call { callee := .builtin .len, args := [x].toArray, argTypes := [T].toArray }) ty (.int .i64 s.size) := by
  intro w dst pos after g
  simp [execOp, eval_mk, hx, resolve, invoke, builtin, Builtin.len_, run_underlying hT, goInt]
theorem x_lensl {e : TypeId} {base : Option Addr} {m c : Nat} (hT : P.underlying T = some (.slice e)) (hx : opd n E x = .slice base m c) : X0 P n E (.call { callee := .builtin .len, args := [x].toArray, argTypes := [T].toArray }) ty (.int .i64 m) := by
  intro w dst pos after g
  simp [execOp, eval_mk, hx, resolve, invoke, builtin, Builtin.len_, run_underlying hT, goInt]
theorem x_min {ts : Array TypeId} (hx : opd n E x = .int k a) (hy : opd n E y = .int k b) : X0 P n E (.call { callee := .builtin .min, args := [x, y].toArray, argTypes := ts }) ty (.int k (min a b)) := by
  intro w dst pos after g
  have h : (if b < a then b else a) = min a b := by split <;> omega
  simp [execOp, eval_mk, hx, hy, resolve, invoke, builtin, run_min_int2, h]
theorem x_max {ts : Array TypeId} (hx : opd n E x = .int k a) (hy : opd n E y = .int k b) : X0 P n E (.call { callee := .builtin .max, args := [x, y].toArray, argTypes := ts }) ty (.int k (max a b)) := by
  intro w dst pos after g
  have h : (if a < b then b else a) = max a b := by split <;> omega
  simp [execOp, eval_mk, hx, hy, resolve, invoke, builtin, run_max_int2, h]
theorem x_extract {vs : List Value} {i : Nat} (hx : opd n E x = .tuple vs.toArray) (hv : vs[i]? = some v) : X0 P n E (.extract x i) ty v := by
  intro w dst pos after g
  simp [execOp, eval_mk, hx, Instr.extract, hv]
theorem x_index {s : ByteArray} {i : Int} (hT : P.underlying T = some .string) (hx : opd n E x = .string s) (hy : opd n E y = .int k i) (h0 : 0 ≤ i) (h1 : i < s.size) : X0 P n E (.index T x y) ty (.int .u8 (s.data.toList.getD i.toNat 0).toNat) := by
  intro w dst pos after g
  have h2 : i.toNat < s.size := by omega
  have h3 : i.toNat < s.data.size := h2
  have h4 : s[i.toNat]? = some (s.data.toList.getD i.toNat 0) := by
    rw [getElem?_pos s i.toNat h2, List.getD_eq_getElem?_getD, Array.getElem?_toList, Array.getElem?_eq_getElem h3]
    rfl
  simp [execOp, eval_mk, hx, hy, Instr.index, asIntOf, run_underlying hT, h0, h4]
theorem ofInt_nat {a : Int} (h0 : 0 ≤ a) (h1 : a ≤ 9223372036854775807) : (BitVec.ofInt 64 a).toNat = a.toNat := by
  rw [BitVec.toNat_ofInt]; omega
theorem bits_nat {op : BinOp} {f : Nat → Nat → Nat} {g : BitVec 64 → BitVec 64 → BitVec 64} (hop : ∀ a b, bits op .i64 a b = IntKind.i64.wrap (g (BitVec.ofInt 64 a) (BitVec.ofInt 64 b)).toNat) (hg : ∀ x y, (g x y).toNat = f x.toNat y.toNat) {a b : Int}
    (h0 : 0 ≤ a) (h1 : a ≤ 9223372036854775807) (g0 : 0 ≤ b) (g1 : b ≤ 9223372036854775807) (hr : f a.toNat b.toNat ≤ 9223372036854775807) : bits op .i64 a b = (f a.toNat b.toNat : Nat) := by
  rw [hop, hg, ofInt_nat h0 h1, ofInt_nat g0 g1]
  exact wrap_in ⟨by omega, by omega⟩
theorem bits_and {a b : Int} (h0 : 0 ≤ a) (h1 : a ≤ 9223372036854775807) (g0 : 0 ≤ b) (g1 : b ≤ 9223372036854775807) : bits .and .i64 a b = (a.toNat &&& b.toNat : Nat) :=
  bits_nat (g := (· &&& ·)) (f := (· &&& ·)) (fun _ _ => rfl) (fun _ _ => BitVec.toNat_and _ _) h0 h1 g0 g1 (by have : a.toNat &&& b.toNat ≤ a.toNat := Nat.and_le_left; omega)
theorem bits_or {a b : Int} (h0 : 0 ≤ a) (h1 : a ≤ 9223372036854775807) (g0 : 0 ≤ b) (g1 : b ≤ 9223372036854775807) : bits .or .i64 a b = (a.toNat ||| b.toNat : Nat) :=
  bits_nat (g := (· ||| ·)) (f := (· ||| ·)) (fun _ _ => rfl) (fun _ _ => BitVec.toNat_or _ _) h0 h1 g0 g1 (by
    have : a.toNat ||| b.toNat < 2 ^ 63 := Nat.or_lt_two_pow (by omega) (by omega)
    omega)
theorem and_mask {a b : Int} (m : Nat) (hm : m ≤ 62) (hb : b = 2 ^ m - 1) (h0 : 0 ≤ a) (h1 : a ≤ 9223372036854775807) : bits .and .i64 a b = a % 2 ^ m := by
  have hp : (2 : Int) ^ m ≤ 2 ^ 62 := by
    have : (2 : Nat) ^ m ≤ 2 ^ 62 := Nat.pow_le_pow_right (by omega) hm
    exact_mod_cast this
  have hp0 : (0 : Int) < 2 ^ m := Int.pow_pos (by omega)
  rw [bits_and h0 h1 (by omega) (by omega)]
  have hbn : b.toNat = 2 ^ m - 1 := by
    have h2 : ((2 : Int) ^ m) = ((2 ^ m : Nat) : Int) := by simp
    rw [hb, h2]; omega
  rw [hbn, Nat.and_two_pow_sub_one_eq_mod]
  have h2 : ((2 : Int) ^ m) = ((2 ^ m : Nat) : Int) := by simp
  rw [h2, Int.natCast_emod, Int.toNat_of_nonneg h0]
theorem or_low {a b : Int} (m : Nat) (q : Int) (ha : a = q * 2 ^ m) (hb0 : 0 ≤ b) (hb : b < 2 ^ m) (h0 : 0 ≤ a) (h1 : a ≤ 9223372036854775807) (g1 : b ≤ 9223372036854775807) : bits .or .i64 a b = a + b := by
  rw [bits_or h0 h1 hb0 g1]
  have hp0 : (0 : Int) < 2 ^ m := Int.pow_pos (by omega)
  have hq : 0 ≤ q := by
    rcases Int.lt_or_le q 0 with h | h
    · have := Int.mul_neg_of_neg_of_pos h hp0; omega
    · exact h
  have h2 : ((2 : Int) ^ m) = ((2 ^ m : Nat) : Int) := by simp
  have e1 : a.toNat = 2 ^ m * q.toNat := by
    have : a = ((2 ^ m * q.toNat : Nat) : Int) := by
      rw [ha, Int.natCast_mul, Int.toNat_of_nonneg hq, ← h2, Int.mul_comm]
    omega
  have e2 : b.toNat < 2 ^ m := by rw [h2] at hb; omega
  rw [e1, ← Nat.two_pow_add_eq_or_of_lt e2, ← e1]
  omega
theorem x_andm (m : Nat) (hx : opd n E x = .int .i64 a) (hy : opd n E y = .int .i64 b) (hm : m ≤ 62) (hb : b = 2 ^ m - 1) (h0 : 0 ≤ a) (h1 : a ≤ 9223372036854775807) : X0 P n E (.binOp .and T x y T') ty (.int .i64 (a % 2 ^ m)) := by
  have h := x_bits (P := P) (T := T) (T' := T') (ty := ty) (op := .and) (by simp) hx hy; rwa [and_mask m hm hb h0 h1] at h
theorem x_and1 (hx : opd n E x = .int .i64 a) (hy : opd n E y = .int .i64 1) (h0 : 0 ≤ a) (h1 : a ≤ 9223372036854775807) : X0 P n E (.binOp .and T x y T') ty (.int .i64 (a % 2)) := by
  have h := x_andm (P := P) (T := T) (T' := T') (ty := ty) 1 hx hy (by omega) (by omega) h0 h1; simpa using h
theorem x_orl (m : Nat) (q : Int) (hx : opd n E x = .int .i64 a) (hy : opd n E y = .int .i64 b) (ha : a = q * 2 ^ m) (hb0 : 0 ≤ b) (hb : b < 2 ^ m) (h0 : 0 ≤ a) (h1 : a ≤ 9223372036854775807) (g1 : b ≤ 9223372036854775807) : X0 P n E (.binOp .or T x y T') ty (.int .i64 (a + b)) := by
  have h := x_bits (P := P) (T := T) (T' := T') (ty := ty) (op := .or) (by simp) hx hy; rwa [or_low m q ha hb0 hb h0 h1 g1] at h
theorem x_or1 (q : Int) (hx : opd n E x = .int .i64 a) (hy : opd n E y = .int .i64 b) (ha : a = q * 2) (hb0 : 0 ≤ b) (hb : b < 2) (h0 : 0 ≤ a) (h1 : a ≤ 9223372036854775807) : X0 P n E (.binOp .or T x y T') ty (.int .i64 (a + b)) :=
  x_orl 1 q hx hy (by omega) hb0 (by omega) h0 h1 (by omega)
/-- shifts by a literal, written as products and quotients -/
theorem x_shlc {k' : IntKind} (c p : Int) (hx : opd n E x = .int .i64 a) (hy : opd n E y = .int k' c) (hc : 0 ≤ c ∧ c < 64) (hp : 2 ^ c.toNat = p) (h : -9223372036854775808 ≤ a * p ∧ a * p ≤ 9223372036854775807) : X0 P n E (.binOp .shl T x y T') ty (.int .i64 (a * p)) := by
  subst hp
  exact x_shl (P := P) (T := T) (T' := T') (ty := ty) hx hy hc h
theorem x_shrc {k' : IntKind} (c p : Int) (hx : opd n E x = .int k a) (hy : opd n E y = .int k' c) (hc : 0 ≤ c ∧ c ≤ k.bits) (hp : 2 ^ c.toNat = p) : X0 P n E (.binOp .shr T x y T') ty (.int k (a / p)) := by
  subst hp
  exact x_shr (P := P) (T := T) (T' := T') (ty := ty) hx hy hc
theorem x_convi (hs : (P.underlying T).isSome = true) (hd : P.underlying T' = some (.int .i64)) (hx : opd n E x = .int k a) (h : -9223372036854775808 ≤ a ∧ a ≤ 9223372036854775807) : X0 P n E (.convert T T' x) ty (.int .i64 a) :=
  x_conv hs hd hx (wrap_in h)
end ops
end Go.Sx

namespace Go.Sx
open Go.RowKit

section
variable {P : Program} {ops : Array Oper} {Q : Exit → Act → World → Prop} {md : Region.Mode} {S : World → Prop} {m : Nat}

def wpAnyT (P : Program) (md : Region.Mode) (ops : Array Oper) (Q : Exit → Act → World → Prop) (S : World → Prop) (m : Nat) : Nat → Array Bool → Act → World → Prop
  | 0, listed, a, w => Region.ready md ops listed = [] ∧ Q .normal a w
  | fuel + 1, listed, a, w =>
    (Region.ready md ops listed = [] → Q .normal a w) ∧
    ∀ i ∈ Region.ready md ops listed, wpOp P ops Q i (fun a' w' => (i < m → S w → S w') ∧ wpAnyT P md ops Q S m fuel (listed.setIfInBounds i true) a' w') a w

theorem wpAny_of_T : ∀ (fuel : Nat) (listed : Array Bool) (a : Act) (w : World), wpAnyT P md ops Q S m fuel listed a w → wpAny P md ops Q fuel listed a w
  | 0, _, _, _, h => h
  | fuel + 1, _, _, _, h => ⟨h.1, fun i hi => wpOp_mono (fun a' w' h' => wpAny_of_T fuel _ a' w' h'.2) (h.2 i hi)⟩

/-- the operation that begins the tail waits, at length, for number i -/
def sinkOf (md : Region.Mode) (ops : Array Oper) (n : Nat) : Nat → Nat → Bool
  | 0, _ => false
  | fuel + 1, i => (List.range (n + 1)).any fun j => decide (i < j) && Region.waitsFor md ops j i && (Nat.beq j n || sinkOf md ops n fuel j)
/-- number i comes before the tail's -/
def tailFor (md : Region.Mode) (ops : Array Oper) (m i : Nat) : Bool := Nat.beq m ops.size || (Nat.blt m ops.size && sinkOf md ops m ops.size i && Region.chainB md ops m)

theorem sink_waits {n : Nat} {listed : Array Bool} (hc : Region.chainB md ops n = true) (hn : n < ops.size) (inv : HeadInv md ops n listed) :
    ∀ (f i : Nat), sinkOf md ops n f i = true → i < n → listed.getD i true = false → ∀ t, n ≤ t → t ∉ Region.ready md ops listed := by
  intro f
  induction f with
  | zero => intro i h; cases h
  | succ f ih =>
    intro i hs hi hun t ht hr
    obtain ⟨_, ot, hot, hall⟩ := mem_ready.1 hr
    have htlt : t < ops.size := (Array.getElem?_eq_some_iff.1 hot).1
    by_cases htn : t = n
    · subst htn
      obtain ⟨j, hj, hj2⟩ := List.any_eq_true.1 hs
      simp only [Bool.and_eq_true, decide_eq_true_eq, Bool.or_eq_true] at hj2
      obtain ⟨oj, hoj, e, he, hb, hon⟩ := Region.waitsFor_spec hj2.1.2
      have hjle : j ≤ t := by have := List.mem_range.1 hj; omega
      by_cases hjt : j = t
      · subst hjt
        have : oj = ot := Option.some.inj (hoj.symm.trans hot)
        subst this
        have h2 := hall e he hb
        rw [hon, getD_both hun] at h2
        cases h2
      · have hs2 : sinkOf md ops t f j = true := by
          rcases hj2.2 with h | h
          · exact absurd (Nat.eq_of_beq_eq_true h) hjt
          · exact h
        cases hl : listed.getD j false with
        | true =>
          have h2 := inv.closed j oj hoj hl e he hb
          rw [hon, getD_both hun] at h2
          cases h2
        | false =>
          have hjs : j < listed.size := by rw [inv.size]; omega
          exact ih j hs2 (by omega) (getD_in hjs hl) t (Nat.le_refl _) hr
    · have h1 := List.all_eq_true.1 hc t (List.mem_range.2 htlt)
      simp only [Bool.or_eq_true, decide_eq_true_eq] at h1
      rcases h1 with h1 | h1
      · omega
      · obtain ⟨o', ho', e, he, hb, hon⟩ := Region.waitsFor_spec h1
        have : o' = ot := Option.some.inj (ho'.symm.trans hot)
        subst this
        have h2 := hall e he hb
        rw [hon, getD_both (inv.tail (t - 1) (by omega) (by omega))] at h2
        cases h2

theorem head_first {i : Nat} (ht : tailFor md ops m i = true) {listed : Array Bool} (inv : HeadInv md ops m listed) {j : Nat} (hi : i < m) (hl : listed.getD i true = false) (hj : j ∈ Region.ready md ops listed) : j < m := by
  simp only [tailFor, Bool.or_eq_true, Bool.and_eq_true] at ht
  rcases ht with h | ⟨⟨h1, h2⟩, h3⟩
  · have hm : m = ops.size := Nat.eq_of_beq_eq_true h
    obtain ⟨_, oj, hoj, _⟩ := mem_ready.1 hj
    have := (Array.getElem?_eq_some_iff.1 hoj).1
    omega
  · have hn : m < ops.size := by simpa using h1
    rcases Nat.lt_or_ge j m with h | h
    · exact h
    · exact absurd hj (sink_waits h3 hn inv _ i h2 hi hl j h)

theorem wpAnyT_first {i : Nat} (ht : tailFor md ops m i = true) {oi : Oper} {v : Value} (hi : ops[i]? = some oi) (him : i < m) (hsel : ∀ (j : Nat) (o : Oper) cs b, ops[j]? = some o → o.op ≠ .select cs b)
    (hQ : ∀ c a w, Q (.panic c) (a.put oi.dst v) w → Q (.panic c) a w) :
    ∀ (fuel : Nat) (listed : Array Bool) (a : Act) (w : World), HeadInv md ops m listed →
      (∀ j oj, ops[j]? = some oj → j ≠ i → listed.getD j true = false → (∀ e ∈ oj.after, Region.binds md e = true → e.on ≠ i) → oi.apart ops oj = true) →
      i ∈ Region.ready md ops listed → YieldsIf P ops S oi v a → S w →
      wpAnyT P md ops Q S m fuel (listed.setIfInBounds i true) (a.put oi.dst v) w → wpAnyT P md ops Q S m (fuel + 1) listed a w := by
  intro fuel
  induction fuel with
  | zero =>
    intro listed a w _ _ hr hy hS H
    refine ⟨fun h => (by rw [h] at hr; cases hr), fun j hj => ?_⟩
    by_cases hji : j = i
    · subst hji; exact hy.wpOp hi hS ⟨fun _ _ => hS, H⟩
    · have := ready_mono hj hji
      rw [H.1] at this
      cases this
  | succ fuel ih =>
    intro listed a w inv hfree hr hy hS H
    refine ⟨fun h => (by rw [h] at hr; cases hr), fun j hj => ?_⟩
    by_cases hji : j = i
    · subst hji; exact hy.wpOp hi hS ⟨fun _ _ => hS, H⟩
    · have h1 := H.2 j (ready_mono hj hji)
      have hun := (mem_ready.1 hr).1
      have hjm : j < m := head_first ht inv him hun hj
      obtain ⟨hjun, oj, hoj, hall⟩ := mem_ready.1 hj
      have hnot : ∀ e ∈ oj.after, Region.binds md e = true → e.on ≠ i := fun e he hb heq => by
        have h1 := hall e he hb
        rw [heq] at h1
        rcases Nat.lt_or_ge i listed.size with h' | h'
        · simp [h'] at hun h1; rw [hun] at h1; cases h1
        · simp [Array.getElem?_eq_none h'] at h1
      have h2 := wpOp_putIf hoj (hfree j oj hoj hji hjun hnot) (fun cs b => hsel i oi cs b hi) (fun cs b => hsel j oj cs b hoj) hQ hy h1
      have hfree' : ∀ k ok, ops[k]? = some ok → k ≠ i → (listed.setIfInBounds j true).getD k true = false →
          (∀ e ∈ ok.after, Region.binds md e = true → e.on ≠ i) → oi.apart ops ok = true := fun k ok hk hki hun hno => by
        refine hfree k ok hk hki ?_ hno
        by_cases hjk : j = k
        · subst hjk; exact hjun
        · rw [getD_set_ne true hjk] at hun; exact hun
      refine wpOp_mono (fun a' w' h3 => ⟨h3.2.1, ih (listed.setIfInBounds j true) a' w' (inv.set hj hjm) hfree' (ready_mono hr (Ne.symm hji)) h3.1 (h3.2.1 hjm hS) ?_⟩) h2
      rw [Array.setIfInBounds_comm _ _ hji]
      exact h3.2.2

/-- number i yields the same in whatever world -/
theorem wpAnyT_firstU {i : Nat} {oi : Oper} {v : Value} (hi : ops[i]? = some oi) (hsel : ∀ (j : Nat) (o : Oper) cs b, ops[j]? = some o → o.op ≠ .select cs b)
    (hQ : ∀ c a w, Q (.panic c) (a.put oi.dst v) w → Q (.panic c) a w) :
    ∀ (fuel : Nat) (listed : Array Bool) (a : Act) (w : World),
      (∀ j oj, ops[j]? = some oj → j ≠ i → listed.getD j true = false → (∀ e ∈ oj.after, Region.binds md e = true → e.on ≠ i) → oi.apart ops oj = true) →
      i ∈ Region.ready md ops listed → YieldsIf P ops (fun _ => True) oi v a →
      wpAnyT P md ops Q S m fuel (listed.setIfInBounds i true) (a.put oi.dst v) w → wpAnyT P md ops Q S m (fuel + 1) listed a w := by
  intro fuel
  induction fuel with
  | zero =>
    intro listed a w _ hr hy H
    refine ⟨fun h => (by rw [h] at hr; cases hr), fun j hj => ?_⟩
    by_cases hji : j = i
    · subst hji; exact hy.wpOp hi trivial ⟨fun _ h => h, H⟩
    · have := ready_mono hj hji
      rw [H.1] at this
      cases this
  | succ fuel ih =>
    intro listed a w hfree hr hy H
    refine ⟨fun h => (by rw [h] at hr; cases hr), fun j hj => ?_⟩
    by_cases hji : j = i
    · subst hji; exact hy.wpOp hi trivial ⟨fun _ h => h, H⟩
    · have h1 := H.2 j (ready_mono hj hji)
      have hun := (mem_ready.1 hr).1
      obtain ⟨hjun, oj, hoj, hall⟩ := mem_ready.1 hj
      have hnot : ∀ e ∈ oj.after, Region.binds md e = true → e.on ≠ i := fun e he hb heq => by
        have h1 := hall e he hb
        rw [heq] at h1
        rcases Nat.lt_or_ge i listed.size with h' | h'
        · simp [h'] at hun h1; rw [hun] at h1; cases h1
        · simp [Array.getElem?_eq_none h'] at h1
      have h2 := wpOp_putIf hoj (hfree j oj hoj hji hjun hnot) (fun cs b => hsel i oi cs b hi) (fun cs b => hsel j oj cs b hoj) hQ hy h1
      have hfree' : ∀ k ok, ops[k]? = some ok → k ≠ i → (listed.setIfInBounds j true).getD k true = false →
          (∀ e ∈ ok.after, Region.binds md e = true → e.on ≠ i) → oi.apart ops ok = true := fun k ok hk hki hun hno => by
        refine hfree k ok hk hki ?_ hno
        by_cases hjk : j = k
        · subst hjk; exact hjun
        · rw [getD_set_ne true hjk] at hun; exact hun
      refine wpOp_mono (fun a' w' h3 => ⟨h3.2.1, ih (listed.setIfInBounds j true) a' w' hfree' (ready_mono hr (Ne.symm hji)) h3.1 ?_⟩) h2
      rw [Array.setIfInBounds_comm _ _ hji]
      exact h3.2.2

/-- an order of our own: (i, 1): number i yields the same in every world of the class; (i, 2): in whatever world; (i, 0): it is the only one that may come up; a fork: two may come up -/
inductive PT where
  | nil : PT
  | cons (p : Nat × Nat) (r : PT) : PT
  | fork (i j : Nat) (r s : PT) : PT
  | fork3 (i j k : Nat) (r s t : PT) : PT
/-- nothing but forced ones -/
def PT.forced : PT → Bool
  | .nil => true
  | .cons p r => Nat.beq p.2 0 && r.forced
  | .fork _ _ r s => r.forced && s.forced
  | .fork3 _ _ _ r s t => r.forced && s.forced && t.forced
def PT.len : PT → Nat
  | .nil => 0
  | .cons _ r => r.len + 1
  | .fork _ _ r _ => r.len + 1
  | .fork3 _ _ _ r _ _ => r.len + 1
def PT.even : PT → Bool
  | .nil => true
  | .cons _ r => r.even
  | .fork _ _ r s => Nat.beq r.len s.len && r.even && s.even
  | .fork3 _ _ _ r s t => Nat.beq r.len s.len && Nat.beq r.len t.len && r.even && s.even && t.even
def planB (md : Region.Mode) (ops : Array Oper) (m : Nat) : PT → Array Bool → Bool
  | .nil, listed => (Region.ready md ops listed).isEmpty
  | .cons (i, 0) r, listed => (Region.ready md ops listed == [i]) && (Nat.blt i m || r.forced) && planB md ops m r (listed.setIfInBounds i true)
  | .cons (i, 1) r, listed => Nat.blt i m && tailFor md ops m i && Region.free md ops listed i && (Region.ready md ops listed).contains i && planB md ops m r (listed.setIfInBounds i true)
  | .cons (i, _ + 2) r, listed => Nat.blt i m && Region.free md ops listed i && (Region.ready md ops listed).contains i && planB md ops m r (listed.setIfInBounds i true)
  | .fork3 i j k r s t, listed => (Region.ready md ops listed == [i, j, k]) && (Nat.blt i m || r.forced) && (Nat.blt j m || s.forced) && (Nat.blt k m || t.forced) && planB md ops m r (listed.setIfInBounds i true) && planB md ops m s (listed.setIfInBounds j true) && planB md ops m t (listed.setIfInBounds k true)
  | .fork i j r s, listed => (Region.ready md ops listed == [i, j]) && (Nat.blt i m || r.forced) && (Nat.blt j m || s.forced) && planB md ops m r (listed.setIfInBounds i true) && planB md ops m s (listed.setIfInBounds j true)

def wpForced (P : Program) (ops : Array Oper) (Q : Exit → Act → World → Prop) (S : World → Prop) (m i : Nat) (K : Act → World → Prop) (a : Act) (w : World) : Prop :=
  ∃ oi, ops[i]? = some oi ∧ if Region.wanted oi (yielded ops a.tmps) then oi.wp P a w (fun a' w' => (i < m → S w → S w') ∧ K a' w') Q else (i < m → S w → S w) ∧ K (a.put oi.dst undef) w
def wpPlan (P : Program) (ops : Array Oper) (Q : Exit → Act → World → Prop) (S : World → Prop) (m : Nat) : PT → Act → World → Prop
  | .nil, a, w => Q .normal a w
  | .cons (i, 0) r, a, w => wpForced P ops Q S m i (wpPlan P ops Q S m r) a w
  | .cons (i, 1) r, a, w => ∃ oi v, ops[i]? = some oi ∧ YieldsIf P ops S oi v a ∧ wpPlan P ops Q S m r (a.put oi.dst v) w
  | .cons (i, _ + 2) r, a, w => ∃ oi v, ops[i]? = some oi ∧ YieldsIf P ops (fun _ => True) oi v a ∧ wpPlan P ops Q S m r (a.put oi.dst v) w
  | .fork i j r s, a, w => wpForced P ops Q S m i (wpPlan P ops Q S m r) a w ∧ wpForced P ops Q S m j (wpPlan P ops Q S m s) a w
  | .fork3 i j k r s t, a, w => wpForced P ops Q S m i (wpPlan P ops Q S m r) a w ∧ wpForced P ops Q S m j (wpPlan P ops Q S m s) a w ∧ wpForced P ops Q S m k (wpPlan P ops Q S m t) a w

theorem forced_step {i : Nat} {r : PT} {listed : Array Bool} {a : Act} {w : World}
    (ih : ∀ (listed : Array Bool) (a : Act) (w : World), (r.forced = true ∨ (HeadInv md ops m listed ∧ S w)) → planB md ops m r listed = true → wpPlan P ops Q S m r a w → wpAnyT P md ops Q S m r.len listed a w)
    (hI : r.forced = true ∨ (HeadInv md ops m listed ∧ S w)) (hi : i ∈ Region.ready md ops listed) (h4 : (Nat.blt i m || r.forced) = true) (h2 : planB md ops m r (listed.setIfInBounds i true) = true)
    (h : wpForced P ops Q S m i (wpPlan P ops Q S m r) a w) : wpOp P ops Q i (fun a' w' => (i < m → S w → S w') ∧ wpAnyT P md ops Q S m r.len (listed.setIfInBounds i true) a' w') a w := by
  obtain ⟨oi, hoi, hk⟩ := h
  have step : ∀ a' w', ((i < m → S w → S w') ∧ wpPlan P ops Q S m r a' w') → ((i < m → S w → S w') ∧ wpAnyT P md ops Q S m r.len (listed.setIfInBounds i true) a' w') := by
    intro a' w' h3
    refine ⟨h3.1, ?_⟩
    refine ih _ _ _ ?_ h2 h3.2
    rw [Bool.or_eq_true] at h4
    by_cases hjm : i < m
    · rcases hI with hI | ⟨inv, hS⟩
      · exact Or.inl hI
      · exact Or.inr ⟨inv.set hi hjm, h3.1 hjm hS⟩
    · rcases h4 with h4 | h4
      · exact absurd (by simpa using h4) hjm
      · exact Or.inl h4
  unfold wpOp
  simp only [hoi]
  split
  · rename_i hw
    rw [if_pos hw] at hk
    exact .inl (Oper.wp_mono step hk)
  · rename_i hw
    rw [if_neg hw] at hk
    exact step _ _ hk

theorem wpAnyT_of_plan (hsel : Region.noSelect ops = true) (hQ : ∀ c a w d v, Q (.panic c) (Act.put a d v) w → Q (.panic c) a w) :
    ∀ (plan : PT) (listed : Array Bool) (a : Act) (w : World), plan.even = true → (plan.forced = true ∨ (HeadInv md ops m listed ∧ S w)) → planB md ops m plan listed = true → wpPlan P ops Q S m plan a w →
      wpAnyT P md ops Q S m plan.len listed a w := by
  intro plan
  induction plan with
  | nil =>
    intro listed a w _ _ hB h
    exact ⟨by simpa [planB] using hB, h⟩
  | fork i j r s ihr ihs =>
    intro listed a w hE hI hB h
    simp only [PT.even, Bool.and_eq_true] at hE
    obtain ⟨⟨e1, e2⟩, e3⟩ := hE
    have e1 : r.len = s.len := Nat.eq_of_beq_eq_true e1
    simp only [planB, Bool.and_eq_true, beq_iff_eq] at hB
    obtain ⟨⟨⟨⟨h1, h4⟩, h5⟩, h2⟩, h3⟩ := hB
    show wpAnyT P md ops Q S m (r.len + 1) listed a w
    refine ⟨fun h0 => (by rw [h1] at h0; cases h0), fun k hk => ?_⟩
    have hf : (r.forced = true ∧ s.forced = true) ∨ (HeadInv md ops m listed ∧ S w) := by
      rcases hI with hI | hI
      · simp only [PT.forced, Bool.and_eq_true] at hI; exact .inl hI
      · exact .inr hI
    have hij : k = i ∨ k = j := by rw [h1] at hk; simpa using hk
    rcases hij with rfl | rfl
    · exact forced_step (fun l a w x y z => ihr l a w e2 x y z) (hf.imp (·.1) id) hk h4 h2 h.1
    · rw [e1]; exact forced_step (fun l a w x y z => ihs l a w e3 x y z) (hf.imp (·.2) id) hk h5 h3 h.2
  | fork3 i j x r s t ihr ihs iht =>
    intro listed a w hE hI hB h
    simp only [PT.even, Bool.and_eq_true] at hE
    obtain ⟨⟨⟨⟨e1, e4⟩, e2⟩, e3⟩, e5⟩ := hE
    have e1 : r.len = s.len := Nat.eq_of_beq_eq_true e1
    have e4 : r.len = t.len := Nat.eq_of_beq_eq_true e4
    simp only [planB, Bool.and_eq_true, beq_iff_eq] at hB
    obtain ⟨⟨⟨⟨⟨⟨h1, h4⟩, h5⟩, h6⟩, h2⟩, h3⟩, h7⟩ := hB
    show wpAnyT P md ops Q S m (r.len + 1) listed a w
    refine ⟨fun h0 => (by rw [h1] at h0; cases h0), fun k hk => ?_⟩
    have hf : ((r.forced = true ∧ s.forced = true) ∧ t.forced = true) ∨ (HeadInv md ops m listed ∧ S w) := by
      rcases hI with hI | hI
      · simp only [PT.forced, Bool.and_eq_true] at hI; exact .inl hI
      · exact .inr hI
    have hij : k = i ∨ k = j ∨ k = x := by rw [h1] at hk; simpa using hk
    rcases hij with rfl | rfl | rfl
    · exact forced_step (fun l a w x y z => ihr l a w e2 x y z) (hf.imp (·.1.1) id) hk h4 h2 h.1
    · rw [e1]; exact forced_step (fun l a w x y z => ihs l a w e3 x y z) (hf.imp (·.1.2) id) hk h5 h3 h.2.1
    · rw [e4]; exact forced_step (fun l a w x y z => iht l a w e5 x y z) (hf.imp (·.2) id) hk h6 h7 h.2.2
  | cons p r ih =>
    intro listed a w hE hI hB h
    have hE : r.even = true := hE
    obtain ⟨i, b⟩ := p
    match b, hI, hB, h with
    | 0, hI, hB, h =>
      simp only [planB, Bool.and_eq_true, beq_iff_eq] at hB
      obtain ⟨⟨h1, h4⟩, h2⟩ := hB
      show wpAnyT P md ops Q S m (r.len + 1) listed a w
      refine ⟨fun h0 => (by rw [h1] at h0; cases h0), fun j hj => ?_⟩
      have hij : j = i := by rw [h1] at hj; simpa using hj
      subst hij
      have hf : r.forced = true ∨ (HeadInv md ops m listed ∧ S w) := by
        rcases hI with hI | hI
        · simp only [PT.forced, Bool.and_eq_true] at hI; exact .inl hI.2
        · exact .inr hI
      exact forced_step (fun l a w x y z => ih l a w hE x y z) hf hj h4 h2 h
    | 1, hI, hB, h =>
      simp only [planB, Bool.and_eq_true] at hB
      obtain ⟨⟨⟨⟨h1, h5⟩, h2⟩, h3⟩, h4⟩ := hB
      obtain ⟨oi, v, hoi, hy, hk⟩ := h
      have him : i < m := by simpa using h1
      rcases hI with hI | ⟨inv, hS⟩
      · simp [PT.forced] at hI
      · have hr : i ∈ Region.ready md ops listed := by simpa using h3
        refine wpAnyT_first h5 hoi him (Region.noSelect_spec hsel) (fun c a w => hQ c a w _ _) _ listed a w inv (Region.free_spec hoi h2) hr hy hS ?_
        exact ih _ _ _ hE (Or.inr ⟨inv.set hr him, hS⟩) h4 hk
    | b + 2, hI, hB, h =>
      simp only [planB, Bool.and_eq_true] at hB
      obtain ⟨⟨⟨h1, h2⟩, h3⟩, h4⟩ := hB
      obtain ⟨oi, v, hoi, hy, hk⟩ := h
      have him : i < m := by simpa using h1
      rcases hI with hI | ⟨inv, hS⟩
      · simp [PT.forced] at hI
      · have hr : i ∈ Region.ready md ops listed := by simpa using h3
        refine wpAnyT_firstU hoi (Region.noSelect_spec hsel) (fun c a w => hQ c a w _ _) _ listed a w (Region.free_spec hoi h2) hr hy ?_
        exact ih _ _ _ hE (Or.inr ⟨inv.set hr him, hS⟩) h4 hk

def planOk (l : List Oper) (m : Nat) (plan : PT) : Bool :=
  Region.noSelect l.toArray && planB .any l.toArray m plan (Array.replicate l.length false) && Nat.beq plan.len l.length && plan.even

theorem headInv0 (md : Region.Mode) (ops : Array Oper) (m : Nat) : HeadInv md ops m (Array.replicate ops.size false) := by
  refine ⟨by simp, fun j oj _ hl => ?_, fun t _ ht => ?_⟩
  · rw [getD_replicate_false] at hl; cases hl
  · simp [ht]

theorem c_plan' {id : Nat} {l : List Oper} {a : Act} {w : World} (S : World → Prop) (m : Nat) (plan : PT) (hm : P.follows .mixedOrders = true) (hB : planOk l m plan = true) (hS : S w.drew)
    (h : wpPlan P l.toArray (NoPanic Q) S m plan a w.drew) : (Code.region id l.toArray true).wp P Q a w := by
  simp only [planOk, Bool.and_eq_true] at hB
  obtain ⟨⟨⟨h2, h3⟩, h4⟩, h5⟩ := hB
  have hl : plan.len = l.length := Nat.eq_of_beq_eq_true h4
  refine wp_region_noPanic (wp_region_any hm (wpAny_of_T (S := S) (m := m) _ _ _ _ ?_))
  have inv := headInv0 .any l.toArray m
  have := wpAnyT_of_plan (P := P) (Q := NoPanic Q) (S := S) h2 (fun _ _ _ _ _ h => h) plan (Array.replicate l.length false) a w.drew h5 (Or.inr ⟨by simpa using inv, hS⟩) h3 h
  rw [hl] at this
  simpa using this

/-- the rest of a drawn region, closed to the elaborator -/
structure PL (P : Program) (ops : Array Oper) (Q : Exit → Act → World → Prop) (S : World → Prop) (m : Nat) (l : PT) (a : Act) (w : World) : Prop where
  out : wpPlan P ops Q S m l a w
theorem c_plan {id : Nat} {l : List Oper} {a : Act} {w : World} (S : World → Prop) (m : Nat) (plan : PT) (hm : P.follows .mixedOrders = true) (hB : planOk l m plan = true) (hS : S w.drew)
    (h : PL P l.toArray (NoPanic Q) S m plan a w.drew) : (Code.region id l.toArray true).wp P Q a w := c_plan' S m plan hm hB hS h.out

section plan
variable {rest : PT} {n d i : Nat} {E : Env} {op : Op} {ty : TypeId} {pos : String} {after : Array Edge} {w w' : World} {v : Value} {f : FuncId} {vs : List Value}

theorem p_nil (h : Q .normal (mk n E) w) : PL P ops Q S m .nil (mk n E) w := ⟨h⟩
/-- two may come up -/
theorem pfork {i j : Nat} {r s : PT} (h1 : PL P ops Q S m (.cons (i, 0) r) (mk n E) w) (h2 : PL P ops Q S m (.cons (j, 0) s) (mk n E) w) : PL P ops Q S m (.fork i j r s) (mk n E) w := ⟨h1.out, h2.out⟩

/-- number i yields v in every world of the class -/
theorem ps (hi : ops[i]? = some ⟨some d, op, ty, pos, after, none⟩) (hx : ∀ w, S w → X P n E op ty w v w) (k : PL P ops Q S m rest (mk n (upd E d v)) w) : PL P ops Q S m (.cons (i, 1) rest) (mk n E) w :=
  ⟨⟨_, v, hi, Or.inl ⟨rfl, fun w hw => hx w hw _ _ _ _⟩, by rw [put_mk]; exact k.out⟩⟩
theorem p0 (hi : ops[i]? = some ⟨some d, op, ty, pos, after, none⟩) (hx : X0 P n E op ty v) (k : PL P ops Q S m rest (mk n (upd E d v)) w) : PL P ops Q S m (.cons (i, 2) rest) (mk n E) w :=
  ⟨⟨_, v, hi, Or.inl ⟨rfl, fun w _ => hx w _ _ _ _⟩, by rw [put_mk]; exact k.out⟩⟩
theorem pb {p : Prop} [Decidable p] (hi : ops[i]? = some ⟨some d, op, ty, pos, after, none⟩) (hx : X0 P n E op ty (.bool (decide p))) (kt : p → PL P ops Q S m rest (mk n (upd E d (.bool true))) w) (kf : ¬ p → PL P ops Q S m rest (mk n (upd E d (.bool false))) w) : PL P ops Q S m (.cons (i, 2) rest) (mk n E) w := by
  refine p0 hi hx ?_
  by_cases h : p
  · rw [decide_eq_true h]; exact kt h
  · rw [decide_eq_false h]; exact kf h
/-- guarded: yes -/
theorem psg {l : List Oper} {j dj : Nat} {want b : Bool} (hi : l.toArray[i]? = some ⟨some d, op, ty, pos, after, some (j, want)⟩) (hd : dstAt l j = some dj) (hn : Nat.blt dj n = true) (hv : E dj = .bool b) (hb : (b == want) = true)
    (hx : ∀ w, S w → X P n E op ty w v w) (k : PL P l.toArray Q S m rest (mk n (upd E d v)) w) : PL P l.toArray Q S m (.cons (i, 1) rest) (mk n E) w :=
  ⟨⟨_, v, hi, Or.inl ⟨by rw [wanted_mk l n E j dj b want hd hn hv, hb], fun w hw => hx w hw _ _ _ _⟩, by rw [put_mk]; exact k.out⟩⟩
theorem p0g {l : List Oper} {j dj : Nat} {want b : Bool} (hi : l.toArray[i]? = some ⟨some d, op, ty, pos, after, some (j, want)⟩) (hd : dstAt l j = some dj) (hn : Nat.blt dj n = true) (hv : E dj = .bool b) (hb : (b == want) = true)
    (hx : X0 P n E op ty v) (k : PL P l.toArray Q S m rest (mk n (upd E d v)) w) : PL P l.toArray Q S m (.cons (i, 2) rest) (mk n E) w :=
  ⟨⟨_, v, hi, Or.inl ⟨by rw [wanted_mk l n E j dj b want hd hn hv, hb], fun w _ => hx w _ _ _ _⟩, by rw [put_mk]; exact k.out⟩⟩
theorem pbg {l : List Oper} {j dj : Nat} {want b : Bool} {p : Prop} [Decidable p] (hi : l.toArray[i]? = some ⟨some d, op, ty, pos, after, some (j, want)⟩) (hd : dstAt l j = some dj) (hn : Nat.blt dj n = true) (hv : E dj = .bool b) (hb : (b == want) = true)
    (hx : X0 P n E op ty (.bool (decide p))) (kt : p → PL P l.toArray Q S m rest (mk n (upd E d (.bool true))) w) (kf : ¬ p → PL P l.toArray Q S m rest (mk n (upd E d (.bool false))) w) : PL P l.toArray Q S m (.cons (i, 2) rest) (mk n E) w := by
  refine p0g hi hd hn hv hb hx ?_
  by_cases h : p
  · rw [decide_eq_true h]; exact kt h
  · rw [decide_eq_false h]; exact kf h
/-- guarded: no -/
theorem pf {l : List Oper} {j dj : Nat} {want b : Bool} (hi : l.toArray[i]? = some ⟨some d, op, ty, pos, after, some (j, want)⟩) (hd : dstAt l j = some dj) (hn : Nat.blt dj n = true) (hv : E dj = .bool b) (hb : (b == want) = false)
    (k : PL P l.toArray Q S m rest (mk n (upd E d undef)) w) : PL P l.toArray Q S m (.cons (i, 2) rest) (mk n E) w :=
  ⟨⟨_, undef, hi, Or.inr ⟨by rw [wanted_mk l n E j dj b want hd hn hv, hb], rfl⟩, by rw [put_mk]; exact k.out⟩⟩

theorem pf1 {l : List Oper} {j dj : Nat} {want b : Bool} (hi : l.toArray[i]? = some ⟨some d, op, ty, pos, after, some (j, want)⟩) (hd : dstAt l j = some dj) (hn : Nat.blt dj n = true) (hv : E dj = .bool b) (hb : (b == want) = false)
    (k : PL P l.toArray Q S m rest (mk n (upd E d undef)) w) : PL P l.toArray Q S m (.cons (i, 1) rest) (mk n E) w :=
  ⟨⟨_, undef, hi, Or.inr ⟨by rw [wanted_mk l n E j dj b want hd hn hv, hb], rfl⟩, by rw [put_mk]; exact k.out⟩⟩

/-- forced: whatever it does, it is the only one; given as a one-operation walk -/
theorem pu {o : Oper} (hi : ops[i]? = some o) (h : WL P ops (fun e a w' => e = .normal ∧ (i < m → S w → S w') ∧ PL P ops Q S m rest a w') [o] (mk n E) w) (hQ : ¬ LetsOut (fun (e : Exit) (a : Act) (w' : World) => e = .normal ∧ (i < m → S w → S w') ∧ PL P ops Q S m rest a w') := by rintro ⟨_, _, h, _⟩; cases h) : PL P ops Q S m (.cons (i, 0) rest) (mk n E) w := by
  refine ⟨⟨o, hi, ?_⟩⟩
  have h := h.out
  unfold wpList at h
  split
  · rename_i hw
    rw [if_pos hw] at h
    rcases h with h | ⟨_, h⟩
    · unfold Oper.wp at h ⊢
      generalize (execOp (mk n E).eval o).run P w = r at *
      cases r with
      | ok nx w' =>
        cases nx <;> simp only [Oper.upon] at h ⊢
        case value u => exact ⟨h.2.1, h.2.2.out⟩
        case skip => exact ⟨h.2.1, h.2.2.out⟩
        case defer d => exact ⟨h.2.1, h.2.2.out⟩
        case enter f args =>
          refine h.mono fun e w'' he => ?_
          cases e with
          | returned u => exact ⟨he.2.1, he.2.2.out⟩
          | panicked c => cases he.1
          | outgrown => exact absurd he hQ
        case row row args => exact Rows.mono h fun u w'' he => ⟨he.2.1, he.2.2.out⟩
      | halt x w' =>
        cases x <;> simp only [Oper.upon] at h ⊢
        case panic u => cases h.1
    · exact absurd h hQ
  · rename_i hw
    rw [if_neg hw] at h
    exact ⟨h.2.1, h.2.2.out⟩
end plan
end
end Go.Sx

namespace Go.Sx
open Go.RowKit

def pt (b o : Nat) : Value := .pointer (some ⟨b, o, none⟩)

/-- block b holds these cells -/
def Bx (w : World) (b : Nat) (cs : List Value) (T : TypeId) : Prop := w.heap[b]? = some (.cells cs.toArray T (0, 0))
theorem Bx.lt {w : World} {b : Nat} {cs : List Value} {T : TypeId} (h : Bx w b cs T) : b < w.heap.size := (Array.getElem?_eq_some_iff.1 h).1
theorem Bx.exm {M : List Nat} {w w' : World} {b : Nat} {cs : List Value} {T : TypeId} (h : Bx w b cs T) (k : Exm M w w') (hb : b ∉ M) : Bx w' b cs T := (k.block b h.lt hb).trans h
theorem Bx.ext {w w' : World} {b : Nat} {cs : List Value} {T : TypeId} (h : Bx w b cs T) (k : Ext w w') : Bx w' b cs T := h.exm k (by simp)
theorem Bx.ne {w w' : World} {b b' : Nat} {cs : List Value} {T : TypeId} (h : Bx w b cs T) (k : Exm [b'] w w') (hb : b ≠ b') : Bx w' b cs T := h.exm k (by simpa using hb)
theorem Bx.cell {w : World} {b o : Nat} {cs : List Value} {T : TypeId} {v : Value} (h : Bx w b cs T) (hv : cs[o]? = some v) : w.cell? ⟨b, o, none⟩ = some v := by
  rw [cell_of_row w b o cs.toArray T (0, 0) h]; simpa using hv
theorem Bx.frozen {w : World} {b o : Nat} {cs : List Value} {T : TypeId} (h : Bx w b cs T) : w.frozen? ⟨b, o, none⟩ = false := by
  unfold Bx at h
  simp [World.frozen?, h]

/-- facts on types -/
def Sc (P : Program) (T : TypeId) : Prop := ∃ d, P.underlying T = some d ∧ (match d with | .struct _ | .array _ _ => False | _ => True)
def Ag (P : Program) (T : TypeId) (sz : Nat) : Prop := (∃ fs, P.underlying T = some (.struct fs)) ∧ (P.info? T).map (·.size) = some sz
def Sz (P : Program) (T : TypeId) (sz : Nat) : Prop := (P.info? T).map (·.size) = some sz
def ZeroV (P : Program) (T : TypeId) (cs : List Value) : Prop := ((P.info? T).bind (·.zero)).map (·.cells) = some cs.toArray
def FieldAt (P : Program) (T : TypeId) (i off : Nat) : Prop := ∃ fs f, P.underlying T = some (.struct fs) ∧ fs[i]? = some f ∧ f.offset = off ∧ ∃ k, Sz P f.type (k + 1)
def SliceOf (P : Program) (T e : TypeId) (sz bytes : Nat) : Prop := P.underlying T = some (.slice e) ∧ (P.info? e).map (fun i => (i.size, i.bytes)) = some (sz, bytes)

section
variable {P : Program} {n : Nat} {E : Env} {ty T T' : TypeId} {x y z : Operand} {v : Value} {b o : Nat} {w : World} {cs : List Value}

theorem run_isAgg_sc (h : Sc P T) (w : World) : (isAgg T).run P w = .ok false w := by
  obtain ⟨d, h1, h2⟩ := h
  unfold isAgg
  rw [Sem.run_bind, run_underlying h1]
  cases d <;> simp at h2 ⊢
theorem run_isAgg_ag {sz : Nat} (h : Ag P T sz) (w : World) : (isAgg T).run P w = .ok true w := by
  obtain ⟨⟨fs, h1⟩, h2⟩ := h
  unfold isAgg
  rw [Sem.run_bind, run_underlying h1]
  simp
theorem run_sizeOf {sz : Nat} (h : Sz P T sz) (w : World) : (sizeOf T).run P w = .ok sz w := by
  unfold Sz at h
  obtain ⟨i, h1, h2⟩ := Option.map_eq_some_iff.1 h
  simp [sizeOf, typeInfo, h1, h2]

theorem x_load (hT : Sc P T) (hx : opd n E x = pt b o) (hc : w.cell? ⟨b, o, none⟩ = some v) : X P n E (.load T x) ty w v w := by
  intro dst pos after g
  simp [execOp, eval_mk, hx, pt, Instr.loadAt, Instr.sureAddr, loadVar, run_isAgg_sc hT, hc]
theorem x_loadB (hT : Sc P T) (hx : opd n E x = pt b o) (hb : Bx w b cs T') (hv : cs[o]? = some v) : X P n E (.load T x) ty w v w := x_load hT hx (hb.cell hv)
theorem x_loadAg {sz : Nat} (hT : Ag P T sz) (hx : opd n E x = pt b o) (vs : List Value) (hl : vs.length = sz) (hc : ∀ j u, vs[j]? = some u → w.cell? ⟨b, o + j, none⟩ = some u) : X P n E (.load T x) ty w (.agg vs.toArray) w := by
  intro dst pos after g
  have h1 := run_sizeOf (P := P) (T := T) (sz := sz) hT.2 w
  have h2 := run_loadCells_list (P := P) (w := w) ⟨b, o, none⟩ vs (fun j u hu => by rw [Addr.add_lit]; exact hc j u hu)
  rw [hl] at h2
  simp [execOp, eval_mk, hx, pt, Instr.loadAt, Instr.sureAddr, loadVar, run_isAgg_ag hT, h1, h2]
theorem x_loadAgB {sz : Nat} (hT : Ag P T sz) (hx : opd n E x = pt b 0) (hb : Bx w b cs T') (hl : cs.length = sz) : X P n E (.load T x) ty w (.agg cs.toArray) w :=
  x_loadAg hT hx cs hl fun j u hu => by rw [Nat.zero_add]; exact hb.cell hu

theorem x_fieldAddr {i off : Nat} (hS : FieldAt P T i off) (hx : opd n E x = pt b o) : X0 P n E (.fieldAddr T x i) ty (pt b (o + off)) := by
  intro w dst pos after g
  obtain ⟨fs, f, h1, h2, rfl, k, hk⟩ := hS
  simp [execOp, eval_mk, hx, pt, Instr.fieldAt, Instr.sureAddr, run_underlying h1, h2, fieldPlace, run_sizeOf hk, Addr.add_lit]
theorem x_nilCheck (hx : opd n E x = pt b o) : X0 P n E (.nilCheck x) ty (pt b o) := by
  intro w dst pos after g
  simp [execOp, eval_mk, hx, pt]
end

section steps
variable {P : Program} {ops : Array Oper} {Q : Exit → Act → World → Prop} {rest : List Oper} {n d : Nat} {E : Env} {ty T T' : TypeId} {pos : String} {after : Array Edge} {w : World} {v : Value} {x y : Operand} {cs : List Value} {b o : Nat}

/-- a new variable with this value -/
theorem s_box (hx : opd n E x = v) (hc : v.cells = cs.toArray) (k : ∀ b w', w.heap.size ≤ b → b < w'.heap.size → Ext w w' → Bx w' b cs T → WL P ops Q rest (mk n (upd E d (pt b 0))) w') :
    WL P ops Q (⟨some d, .box T x, ty, pos, after, none⟩ :: rest) (mk n E) w := by
  refine st (w' := w.alloc (.cells cs.toArray T)) (v := pt w.heap.size 0) (fun dst pos after g => ?_) (k _ _ (Nat.le_refl _) (by simp) (Exm.alloc _ _) (heap_alloc_new w _))
  simp [execOp, eval_mk, hx, Instr.box, newVar, newRow, hc, pt]
theorem s_alloc (hz : ZeroV P T cs) (k : ∀ b w', w.heap.size ≤ b → b < w'.heap.size → Ext w w' → Bx w' b cs T → WL P ops Q rest (mk n (upd E d (pt b 0))) w') :
    WL P ops Q (⟨some d, .alloc T, ty, pos, after, none⟩ :: rest) (mk n E) w := by
  refine st (w' := w.alloc (.cells cs.toArray T)) (v := pt w.heap.size 0) (fun dst pos after g => ?_) (k _ _ (Nat.le_refl _) (by simp) (Exm.alloc _ _) (heap_alloc_new w _))
  unfold ZeroV at hz
  obtain ⟨z, h1, h2⟩ := Option.map_eq_some_iff.1 hz
  obtain ⟨i, h3, h4⟩ := Option.bind_eq_some_iff.1 h1
  simp [execOp, Instr.alloc, zeroValue, typeInfo, h3, h4, newVar, newRow, h2, pt]

theorem y_store (hT : Sz P T 1) (hx : opd n E x = pt b o) (hy : opd n E y = v) (hv : v.cells = #[v]) (h1 : v.oneCell' = true) (hc : (w.cell? ⟨b, o, none⟩).isSome = true) (hf : w.frozen? ⟨b, o, none⟩ = false) :
    Y P n E (.store T x y) ty w (w.setCell ⟨b, o, none⟩ v) := by
  intro dst pos after g
  have e1 := run_sizeOf hT w
  have e2 := run_store P w ⟨b, o, none⟩ v .plain h1
  obtain ⟨u, hu⟩ := Option.isSome_iff_exists.1 hc
  simp [execOp, eval_mk, hx, hy, pt, Instr.storeAt, Instr.sureAddr, storeVar, hv, e1, storeCells, Addr.add_lit, e2, hu, hf]

theorem heap_setCell_bx (hb : Bx w b cs T) : Bx (w.setCell ⟨b, o, none⟩ v) b (cs.set o v) T := by
  unfold Bx at *
  rw [heap_setCell_same w b o cs.toArray T v hb]
  simp
theorem exm_setCell : Exm [b] w (w.setCell ⟨b, o, none⟩ v) := ⟨rfl, rfl, rfl, by simp [World.setCell], fun k _ hk => heap_setCell_other w _ k v (by simpa using hk)⟩

/-- a store into a block that is known whole -/
theorem s_store {dst : Option Tmp} {cs' : List Value} (hd : dst = none) (hT : Sz P T 1) (hx : opd n E x = pt b o) (hy : opd n E y = v) (hv : v.cells = #[v]) (h1 : v.oneCell' = true) (hb : Bx w b cs T') (ho : Nat.blt o cs.length = true) (hcs : cs.set o v = cs')
    (k : ∀ w', Exm [b] w w' → w'.heap.size = w.heap.size → Bx w' b cs' T' → WL P ops Q rest (mk n E) w') :
    WL P ops Q (⟨dst, .store T x y, ty, pos, after, none⟩ :: rest) (mk n E) w := by
  subst hcs
  have ho' : o < cs.length := by simpa using ho
  exact sy (y_store hT hx hy hv h1 (by rw [hb.cell (List.getElem?_eq_getElem ho')]; rfl) hb.frozen) hd (k _ exm_setCell (by simp [World.setCell]) (heap_setCell_bx hb))

/-- a whole value into a block that is known whole -/
theorem s_storeAg {dst : Option Tmp} {vs : List Value} {sz : Nat} (hd : dst = none) (hT : Sz P T sz) (hx : opd n E x = pt b 0) (hy : opd n E y = .agg vs.toArray) (hb : Bx w b cs T') (hl : vs.length = sz) (hl2 : cs.length = sz) (h1 : vs.all (·.oneCell') = true)
    (k : ∀ w', Exm [b] w w' → w'.heap.size = w.heap.size → Bx w' b vs T' → WL P ops Q rest (mk n E) w') :
    WL P ops Q (⟨dst, .store T x y, ty, pos, after, none⟩ :: rest) (mk n E) w := by
  have e1 := run_sizeOf hT w
  have e2 := run_storeCells_at P b 0 T' vs 0 cs.toArray w hb (by simp; omega) (by simpa using h1)
  simp only [Nat.add_zero, Nat.zero_add, List.take_zero, List.nil_append] at e2
  refine sy (w' := w.setRow b (vs ++ cs.drop vs.length).toArray) (fun dst pos after g => ?_) hd ?_
  · have h3 : (⟨b, 0, none⟩ : Addr) = ⟨b, 0, none⟩ := rfl
    simp only [execOp, eval_mk, hx, hy, pt, Instr.storeAt, Instr.sureAddr, storeVar, Value.cells, Sem.run_bind, Sem.run_pure, Result.andThen_ok, e1]
    simp only [List.size_toArray, hl, ne_eq, not_true_eq_false, if_false]
    simp [e2, hl]
  · have h4 : cs.drop vs.length = [] := by apply List.drop_eq_nil_of_le; omega
    rw [h4, List.append_nil]
    refine k _ ⟨rfl, rfl, rfl, ?_, fun j _ hj => setRow_other w b j _ (by simpa using hj)⟩ ?_ (setRow_heap w b cs.toArray _ T' _ hb)
    · simp
    · simp
end steps

section finish
variable {P : Program} {fn : Func} {R : Ending → World → Prop} {n : Nat} {E : Env} {w : World} {v : Value}

def roOf (tmps : Array Value) : ResultVar → Sem Value
  | .tmp t => pure (tmps.getD t undef)
  | .cell a t => do loadVar t (← asAddr (tmps.getD a undef))
theorem results_ro (fn : Func) (tmps : Array Value) : results fn tmps = (do let vs ← fn.results.mapM (roOf tmps); pure (if h : vs.size = 1 then vs[0] else .tuple vs)) := by
  unfold results roOf
  rfl
/-- what a result reads as -/
def Ro (P : Program) (n : Nat) (E : Env) (w : World) (r : ResultVar) (v : Value) : Prop := (roOf (mk n E).tmps r).run P w = .ok v w
theorem ro_tmp {t : Nat} (h : opd n E (.tmp t) = v) : Ro P n E w (.tmp t) v := by
  show (pure ((mk n E).tmps.getD t undef) : Sem Value).run P w = .ok v w
  rw [getD_mk]
  subst h; rfl
theorem ro_cell {t : Nat} {T T' : TypeId} {b sz : Nat} {cs : List Value} (h : opd n E (.tmp t) = pt b 0) (hT : Ag P T sz) (hb : Bx w b cs T') (hl : cs.length = sz) : Ro P n E w (.cell t T) (.agg cs.toArray) := by
  have h0 : (mk n E).tmps.getD t undef = pt b 0 := by rw [getD_mk]; exact h
  have h1 := run_sizeOf (P := P) (T := T) (sz := sz) hT.2 w
  have h2 := run_loadCells_list (P := P) (w := w) ⟨b, 0, none⟩ cs (fun j u hu => by rw [Addr.add_lit]; rw [Nat.zero_add]; exact hb.cell hu)
  rw [hl] at h2
  unfold Ro roOf
  simp [h0, pt, asAddr, loadVar, run_isAgg_ag hT, h1, h2]
theorem f_rets1 {r1 : ResultVar} {v1 : Value} (hr : fn.results = #[r1]) (h1 : Ro P n E w r1 v1) (h : R (.returned v1) w) : bodyPost P fn R .ret (mk n E) w := by
  refine bodyPost_ret (v := v1) ?_ rfl h
  unfold Ro at h1
  rw [results_ro, hr, List.mapM_toArray]
  simp [List.mapM_cons, List.mapM_nil, h1]
theorem f_retc {t : Nat} {T T' : TypeId} {b sz : Nat} {cs : List Value} (hr : fn.results = #[.cell t T]) (h0 : opd n E (.tmp t) = pt b 0) (hT : Ag P T sz) (hb : Bx w b cs T') (hl : cs.length = sz) (h : R (.returned (.agg cs.toArray)) w) : bodyPost P fn R .ret (mk n E) w :=
  f_rets1 hr (ro_cell h0 hT hb hl) h
theorem f_rets2 {r1 r2 : ResultVar} {v1 v2 : Value} (hr : fn.results = #[r1, r2]) (h1 : Ro P n E w r1 v1) (h2 : Ro P n E w r2 v2) (h : R (.returned (.tuple #[v1, v2])) w) : bodyPost P fn R .ret (mk n E) w := by
  refine bodyPost_ret (v := .tuple #[v1, v2]) ?_ rfl h
  unfold Ro at h1 h2
  rw [results_ro, hr, List.mapM_toArray]
  simp [List.mapM_cons, List.mapM_nil, Sem.run_bind, h1, h2]
theorem f_rets3 {r1 r2 r3 : ResultVar} {v1 v2 v3 : Value} (hr : fn.results = #[r1, r2, r3]) (h1 : Ro P n E w r1 v1) (h2 : Ro P n E w r2 v2) (h3 : Ro P n E w r3 v3) (h : R (.returned (.tuple #[v1, v2, v3])) w) : bodyPost P fn R .ret (mk n E) w := by
  refine bodyPost_ret (v := .tuple #[v1, v2, v3]) ?_ rfl h
  unfold Ro at h1 h2 h3
  rw [results_ro, hr, List.mapM_toArray]
  simp [List.mapM_cons, List.mapM_nil, Sem.run_bind, h1, h2, h3]
end finish

theorem np_normal {Q : Exit → Act → World → Prop} {a : Act} {w : World} (h : Q .normal a w) : NoPanic Q .normal a w := h

section
variable {E : Env} {i1 i2 i3 i4 i5 i6 i7 i8 : Nat} {v1 v2 v3 v4 v5 v6 v7 v8 : Value}
theorem upd_self1 (h1 : E i1 = v1) : E = upd E i1 v1 := upd_self h1
theorem upd_self2 (h1 : E i1 = v1) (h2 : E i2 = v2) : E = upd (upd E i1 v1) i2 v2 := by rw [← upd_self h1, ← upd_self h2]
theorem upd_self3 (h1 : E i1 = v1) (h2 : E i2 = v2) (h3 : E i3 = v3) : E = upd (upd (upd E i1 v1) i2 v2) i3 v3 := by rw [← upd_self2 h1 h2, ← upd_self h3]
theorem upd_self4 (h1 : E i1 = v1) (h2 : E i2 = v2) (h3 : E i3 = v3) (h4 : E i4 = v4) : E = upd (upd (upd (upd E i1 v1) i2 v2) i3 v3) i4 v4 := by rw [← upd_self3 h1 h2 h3, ← upd_self h4]
theorem upd_self5 (h1 : E i1 = v1) (h2 : E i2 = v2) (h3 : E i3 = v3) (h4 : E i4 = v4) (h5 : E i5 = v5) : E = upd (upd (upd (upd (upd E i1 v1) i2 v2) i3 v3) i4 v4) i5 v5 := by rw [← upd_self4 h1 h2 h3 h4, ← upd_self h5]
theorem upd_self6 (h1 : E i1 = v1) (h2 : E i2 = v2) (h3 : E i3 = v3) (h4 : E i4 = v4) (h5 : E i5 = v5) (h6 : E i6 = v6) : E = upd (upd (upd (upd (upd (upd E i1 v1) i2 v2) i3 v3) i4 v4) i5 v5) i6 v6 := by rw [← upd_self5 h1 h2 h3 h4 h5, ← upd_self h6]
theorem upd_self7 (h1 : E i1 = v1) (h2 : E i2 = v2) (h3 : E i3 = v3) (h4 : E i4 = v4) (h5 : E i5 = v5) (h6 : E i6 = v6) (h7 : E i7 = v7) : E = upd (upd (upd (upd (upd (upd (upd E i1 v1) i2 v2) i3 v3) i4 v4) i5 v5) i6 v6) i7 v7 := by rw [← upd_self6 h1 h2 h3 h4 h5 h6, ← upd_self h7]
theorem upd_self8 (h1 : E i1 = v1) (h2 : E i2 = v2) (h3 : E i3 = v3) (h4 : E i4 = v4) (h5 : E i5 = v5) (h6 : E i6 = v6) (h7 : E i7 = v7) (h8 : E i8 = v8) : E = upd (upd (upd (upd (upd (upd (upd (upd E i1 v1) i2 v2) i3 v3) i4 v4) i5 v5) i6 v6) i7 v7) i8 v8 := by rw [← upd_self7 h1 h2 h3 h4 h5 h6 h7, ← upd_self h8]
end
end Go.Sx

namespace Go.Sx
open Go.RowKit Go.ChangeShapes Go.WideShapes Go.ChangeAt

section opening
variable {H : Type} {enc : TypeId × Value → H} {P : Program} {W : World} {fuel : Nat} {t : TypeId} {cs : List Value} {x : DataW H × List MemPlace}

/-- cells that read as a value of a type -/
def Tr {H : Type} (enc : TypeId × Value → H) (P : Program) (W : World) (t : TypeId) (cs : List Value) : Prop := ∃ fuel x, DataW.trod enc P W 0 (fun _ => true) true fuel t cs = some x

theorem op_int {k : IntKind} (hu : P.underlying t = some (.int k)) (h : Tr enc P W t cs) : ∃ n, cs = [.int k n] ∧ (Lit.int k n).wf = true := by
  obtain ⟨fuel, x, h⟩ := h
  cases fuel with
  | zero => simp [DataW.trod] at h
  | succ fuel =>
    unfold DataW.trod at h
    rw [hu] at h
    split at h <;> simp_all
theorem mapM_some {α β : Type} {f : α → Option β} : ∀ {l : List α} {ys : List β}, l.mapM f = some ys → ∀ a ∈ l, ∃ y, f a = some y
  | [], _, _, a, ha => by cases ha
  | b :: l, ys, h, a, ha => by
    rw [List.mapM_cons] at h
    cases hb : f b with
    | none => rw [hb] at h; cases h
    | some y =>
      rw [hb] at h
      rcases List.mem_cons.1 ha with rfl | ha
      · exact ⟨y, hb⟩
      · cases hl : l.mapM f with
        | none => rw [hl] at h; cases h
        | some zs => exact mapM_some hl a ha
theorem op_slice {e : TypeId} (hu : P.underlying t = some (.slice e)) (h : Tr enc P W t cs) : cs = [.slice none 0 0] ∨ ∃ a len cap, cs = [.slice (some a) len cap] ∧ len ≤ cap ∧ cap ≤ maxLen ∧
    ∀ i, i < len → ∃ es, W.cells? 0 (a.add (i * P.cellsOf e)) (P.cellsOf e) = some es ∧ Tr enc P W e es := by
  obtain ⟨fuel, x, h⟩ := h
  cases fuel with
  | zero => simp [DataW.trod] at h
  | succ fuel =>
    unfold DataW.trod at h
    rw [hu] at h
    split at h <;> rename_i hh _ <;> simp_all
    obtain ⟨⟨h1, h2⟩, h3⟩ := h
    refine ⟨_, _, _, ⟨rfl, rfl, rfl⟩, h1, h2, fun i hi => ?_⟩
    obtain ⟨ys, h4, _⟩ := Option.bind_eq_some_iff.1 h3
    obtain ⟨y, hy⟩ := mapM_some h4 i (by simpa using hi)
    obtain ⟨es, he, hx⟩ := Option.bind_eq_some_iff.1 hy
    exact ⟨es, he, fuel, y, hx⟩
end opening

section law
variable {H : Type} {enc : TypeId × Value → H} {P : Program} {W W' : World}

theorem trodAll_ext (hl : laidOutB P = true) (hx : Ext W W') : ∀ {ts : List TypeId} {vs : List Value} {ds : List (DataW H)} {ps : List MemPlace}, (ts.all fun t => P.readableRec t && decide (t < P.types.size)) = true → (∀ x ∈ ps, x.block < W.heap.size) →
    DataW.TrodAll enc P W 0 (fun _ => true) true ts vs ds ps → DataW.TrodAll enc P W' 0 (fun b => decide (b < W.heap.size)) true ts vs ds ps
  | [], [], [], _, _, _, h => h
  | [], [], _ :: _, _, _, _, h => h.elim
  | [], _ :: _, _, _, _, _, h => h.elim
  | _ :: _, [], _, _, _, _, h => h.elim
  | _ :: _, _ :: _, [], _, _, _, h => h.elim
  | t :: ts, v :: vs, d :: ds, ps, hr, hlt, h => by
    obtain ⟨p, q, h1, h2, rfl⟩ := h
    simp only [List.all_cons, Bool.and_eq_true, decide_eq_true_eq] at hr
    refine ⟨p, q, Below.trod hl hr.1.1 hr.1.2 h1 hx.below (fun x hx => hlt x (by simp [hx])), trodAll_ext hl hx (by simpa using hr.2) (fun x hx => hlt x (by simp [hx])) h2, rfl⟩

/-- a law that returns true and leaves all that was there alone -/
theorem law_post {f : Func} {s : ChangeSpec} {args : Array Value} {ds gs : List (DataW H)} {before : List MemPlace} {B : TypeId} (hl : laidOutB P = true) (hv : s.vars = []) (hr : (f.params.toList.all fun t => P.readableRec t && decide (t < P.types.size)) = true)
    (hres : f.resultTypes = #[B]) (hB : P.underlying B = some .bool) (hW : DataW.Whole enc P f.params.toList s.vars false W args.toList ds gs before) (h1 : (s.fn H (ds ++ gs)).results = [.lit (.bool true)]) (h2 : (s.fn H (ds ++ gs)).args = ds) (h3 : (s.fn H (ds ++ gs)).vars = []) (hx : Ext W W') :
    s.post enc P f false true false false W args (.bool true) W' := by
  have hW' := hW
  have hlt := hW.lt
  obtain ⟨p, q, hA, hV, rfl, _, _⟩ := hW
  refine ⟨ds, gs, p ++ q, [], p, [], hW', ?_, ?_, ?_, hx.below.frame _, fun h => by cases h⟩
  · rw [h1, hres]
    exact trodAll_mk1 (shut_bool hB true)
  · rw [h2]
    exact trodAll_ext hl hx hr (fun x hx => hlt x (by simp [hx])) hA
  · rw [h3, hv]; rfl
end law
end Go.Sx

namespace Go.Sx
open Go.RowKit

def blk (p : Option Addr) : Nat := match p with | some a => a.block | none => 0
def off (p : Option Addr) : Nat := match p with | some a => a.off | none => 0
/-- its block, if it has one, is not b -/
def Ap (p : Option Addr) (b : Nat) : Prop := ∀ a, p = some a → a.block ≠ b
theorem Ap.no {b : Nat} : Ap none b := fun _ e => by cases e
/-- blocks from B on; blocks below B; two lists of blocks without a block in common -/
def Fr (B : Nat) (F : List Nat) : Prop := ∀ b ∈ F, B ≤ b
def Lt (F : List Nat) (B : Nat) : Prop := ∀ b ∈ F, b < B
def Dj (F G : List Nat) : Prop := ∀ b ∈ F, b ∉ G
section blocks
variable {B B' b lo hi lo2 hi2 : Nat} {F G H : List Nat}
theorem Fr.mono (h : Fr B F) (hb : B' ≤ B) : Fr B' F := fun b e => Nat.le_trans hb (h b e)
theorem Lt.mono (h : Lt F B) (hb : B ≤ B') : Lt F B' := fun b e => Nat.lt_of_lt_of_le (h b e) hb
theorem Fr.no : Fr B [] := fun _ e => by cases e
theorem Lt.no : Lt [] B := fun _ e => by cases e
theorem Fr.one (h : B ≤ b) : Fr B [b] := fun c e => by simp at e; omega
theorem Lt.one (h : b < B) : Lt [b] B := fun c e => by simp at e; omega
theorem Fr.app (h : Fr B F) (k : Fr B G) : Fr B (F ++ G) := fun c e => (List.mem_append.1 e).elim (h c) (k c)
theorem Lt.app (h : Lt F B) (k : Lt G B) : Lt (F ++ G) B := fun c e => (List.mem_append.1 e).elim (h c) (k c)
theorem nin_of (f : Fr lo F) (g : Lt F hi) (h : b < lo ∨ hi ≤ b) : b ∉ F := fun e => by have := f b e; have := g b e; omega
theorem dj_of (f : Fr lo F) (g : Lt F hi) (f2 : Fr lo2 G) (g2 : Lt G hi2) (h : hi ≤ lo2 ∨ hi2 ≤ lo) : Dj F G := fun b e e2 => by have := f b e; have := g b e; have := f2 b e2; have := g2 b e2; omega
theorem Dj.symm (h : Dj F G) : Dj G F := fun b e e2 => h b e2 e
theorem dj_nil : Dj [] G := fun b e => by cases e
theorem dj_nil' : Dj F [] := fun b _ e => by cases e
theorem dj_one (h : b ∉ G) : Dj [b] G := fun c e => by simp at e; subst e; exact h
theorem dj_app (h : Dj F H) (k : Dj G H) : Dj (F ++ G) H := fun c e => (List.mem_append.1 e).elim (h c) (k c)
theorem dj_app' (h : Dj F G) (k : Dj F H) : Dj F (G ++ H) := fun c e e2 => (List.mem_append.1 e2).elim (h c e) (k c e)
/-- G has come out of F: its blocks are F's, or new -/
def Grew (w : World) (F G : List Nat) : Prop := ∀ b ∈ G, b ∈ F ∨ w.heap.size ≤ b
theorem Grew.fr {w : World} (h : Grew w F G) (f : Fr B F) (hB : B ≤ w.heap.size) : Fr B G := fun b e => (h b e).elim (f b) fun k => Nat.le_trans hB k
theorem Grew.nin {w : World} (h : Grew w F G) (k : b ∉ F) (hb : b < w.heap.size) : b ∉ G := fun e => (h b e).elim k fun k => by omega
theorem Grew.dj {w : World} (h : Grew w F G) (k : Dj H F) (g : Lt H B) (hB : B ≤ w.heap.size) : Dj H G := fun b e => h.nin (k b e) (by have := g b e; omega)
end blocks
/-- a step that turns blocks that were not there at the start -/
theorem Exm.freshL {M F : List Nat} {w0 w w' : World} {B : Nat} (h : Exm M w0 w) (k : Exm F w w') (f : Fr B F) (hB : w0.heap.size ≤ B) : Exm M w0 w' :=
  ⟨k.os.trans h.os, k.tape.trans h.tape, k.output.trans h.output, Nat.le_trans h.size k.size, fun i hi hm => (k.block i (Nat.lt_of_lt_of_le hi h.size) (fun e => by have := f i e; omega)).trans (h.block i hi hm)⟩
/-- a step that turns blocks of M -/
theorem Exm.withinL {M F : List Nat} {w0 w w' : World} (h : Exm M w0 w) (k : Exm F w w') (hF : ∀ b ∈ F, b ∈ M) : Exm M w0 w' :=
  ⟨k.os.trans h.os, k.tape.trans h.tape, k.output.trans h.output, Nat.le_trans h.size k.size, fun i hi hm => (k.block i (Nat.lt_of_lt_of_le hi h.size) (fun e => hm (hF i e))).trans (h.block i hi hm)⟩

/-- a slice of n elements of sz cells that reads as these cells -/
structure Sl (w : World) (p : Option Addr) (n c sz : Nat) (cells : List Value) : Prop where
  len : cells.length = n * sz
  cap : n ≤ c
  mx : c ≤ maxLen
  nil : p = none → n = 0 ∧ c = 0
  cell : ∀ a, p = some a → ∀ j v, cells[j]? = some v → w.cell? (a.add j) = some v

theorem Sl.exm {M : List Nat} {w w' : World} {p : Option Addr} {n c sz : Nat} {cells : List Value} (h : Sl w p n c sz cells) (k : Exm M w w') (hm : ∀ b ∈ M, Ap p b) : Sl w' p n c sz cells := by
  refine ⟨h.len, h.cap, h.mx, h.nil, fun a ha j v hv => ?_⟩
  have h1 := h.cell a ha j v hv
  have h2 := World.block_lt_of_cell? w (a.add j) h1
  have hb : (a.add j).block = a.block := by unfold Addr.add; split <;> rfl
  rw [World.cell?_of_block (w := w) (k.block _ h2 (fun hin => hm _ hin a ha hb.symm))]
  exact h1
theorem Sl.ext {w w' : World} {p : Option Addr} {n c sz : Nat} {cells : List Value} (h : Sl w p n c sz cells) (k : Ext w w') : Sl w' p n c sz cells := h.exm k (by simp)
theorem Sl.ne {b : Nat} {w w' : World} {p : Option Addr} {n c sz : Nat} {cells : List Value} (h : Sl w p n c sz cells) (k : Exm [b] w w') (hb : Ap p b) : Sl w' p n c sz cells := h.exm k (by simpa using hb)
theorem Sl.nil' {w : World} {sz : Nat} : Sl w none 0 0 sz [] := ⟨by simp, Nat.le_refl _, by simp [maxLen], fun _ => ⟨rfl, rfl⟩, fun _ h => by cases h⟩
theorem Sl.ptr {w : World} {p : Option Addr} {n c sz : Nat} {cells : List Value} (h : Sl w p n c sz cells) (hn : 0 < cells.length) : ∃ b o, p = some ⟨b, o, none⟩ := by
  cases p with
  | none =>
    have := (h.nil rfl).1
    have h2 := h.len
    subst this
    simp at h2
    rw [h2] at hn
    simp at hn
  | some a =>
    have h1 := h.cell a rfl 0 _ (List.getElem?_eq_getElem hn)
    obtain ⟨b, o, sp⟩ := a
    refine ⟨b, o, ?_⟩
    unfold Addr.add at h1
    rw [if_pos rfl] at h1
    unfold World.cell? at h1
    split at h1
    · split at h1
      · cases h1
      · rename_i hs
        cases sp with
        | none => rfl
        | some x => simp at hs
    · cases h1
theorem Sl.at {w : World} {p : Option Addr} {n c sz : Nat} {cells : List Value} (h : Sl w p n c sz cells) {j : Nat} {v : Value} (hv : cells[j]? = Option.some v) : w.cell? ⟨blk p, off p + j, none⟩ = some v := by
  have hlt : j < cells.length := (List.getElem?_eq_some_iff.1 hv).1
  obtain ⟨b, o, rfl⟩ := h.ptr (by omega)
  have h1 := h.cell _ rfl j v hv
  rw [Addr.add_lit] at h1
  exact h1
theorem Sl.lt {w : World} {p : Option Addr} {n c sz : Nat} {cells : List Value} (h : Sl w p n c sz cells) (hn : 0 < cells.length) : blk p < w.heap.size := by
  have := h.at (List.getElem?_eq_getElem hn)
  exact World.block_lt_of_cell? w _ this

/-- a slice of the call's own; F are its blocks -/
def Own (w : World) (p : Option Addr) (n c : Nat) (e : TypeId) (sz : Nat) (cells : List Value) (F : List Nat) : Prop :=
  cells.length = n * sz ∧ ((n = 0 ∧ c = 0 ∧ F = [] ∧ (p = none → c = 0)) ∨ ∃ g cur, F = [g] ∧ p = some ⟨g, 0, none⟩ ∧ w.heap[g]? = some (.cells cur e (0, 0)) ∧ n ≤ c ∧ c ≤ maxLen ∧ cur.size = c * sz ∧ cur.toList.take (n * sz) = cells)

section own
variable {w w' : World} {p : Option Addr} {n c sz : Nat} {e : TypeId} {cells : List Value} {F : List Nat}
theorem Own.nil : Own w none 0 0 e sz [] [] := ⟨by simp, .inl ⟨rfl, rfl, rfl, fun _ => rfl⟩⟩
theorem Own.none' : Own w p 0 0 e sz [] [] := ⟨by simp, .inl ⟨rfl, rfl, rfl, fun _ => rfl⟩⟩
theorem Own.exm {M : List Nat} (h : Own w p n c e sz cells F) (k : Exm M w w') (hm : Dj M F) : Own w' p n c e sz cells F := by
  obtain ⟨h1, h2⟩ := h
  refine ⟨h1, ?_⟩
  rcases h2 with h2 | ⟨g, cur, rfl, rfl, hg, r⟩
  · exact .inl h2
  · refine .inr ⟨g, cur, rfl, rfl, ?_, r⟩
    rw [k.block g (Array.getElem?_eq_some_iff.1 hg).1 (fun hin => hm g hin (by simp))]
    exact hg
theorem Own.ext (h : Own w p n c e sz cells F) (k : Ext w w') : Own w' p n c e sz cells F := h.exm k dj_nil
theorem Own.ne {b : Nat} (h : Own w p n c e sz cells F) (k : Exm [b] w w') (hb : b ∉ F) : Own w' p n c e sz cells F := h.exm k (dj_one hb)
theorem Own.lt (h : Own w p n c e sz cells F) : Lt F w.heap.size := by
  intro b hb
  rcases h.2 with ⟨_, _, rfl, _⟩ | ⟨g, cur, rfl, rfl, hg, _⟩
  · cases hb
  · simp at hb; subst hb; exact (Array.getElem?_eq_some_iff.1 hg).1
theorem Own.len (h : Own w p n c e sz cells F) : cells.length = n * sz := h.1
theorem Own.mx (h : Own w p n c e sz cells F) : n ≤ maxLen := by
  rcases h.2 with ⟨rfl, rfl, _⟩ | ⟨_, _, _, _, _, h1, h2, _⟩ <;> omega
theorem Own.nodup (h : Own w p n c e sz cells F) : F.Nodup := by
  rcases h.2 with ⟨_, _, rfl, _⟩ | ⟨g, cur, rfl, _⟩ <;> simp
theorem Own.sl (h : Own w p n c e sz cells F) : Sl w p n c sz cells := by
  obtain ⟨h1, h2⟩ := h
  rcases h2 with ⟨rfl, rfl, _, _⟩ | ⟨g, cur, rfl, rfl, hg, hnc, hcm, hs, ht⟩
  · have : cells = [] := List.eq_nil_of_length_eq_zero (by simpa using h1)
    subst this
    exact ⟨by simp, Nat.le_refl _, by simp [maxLen], fun _ => ⟨rfl, rfl⟩, fun _ _ j v h => by simp at h⟩
  · refine ⟨h1, hnc, hcm, (fun h => by cases h), fun a ha j v hv => ?_⟩
    cases ha
    rw [Addr.add_lit, Nat.zero_add, cell_of_row w g j cur e (0, 0) hg]
    rw [← ht, List.getElem?_take] at hv
    split at hv
    · simpa using hv
    · cases hv
theorem Own.stored {j : Nat} {v : Value} (h : Own w p n c e sz cells F) (hj : j < cells.length) : Own (w.setCell ⟨blk p, off p + j, none⟩ v) p n c e sz (cells.set j v) F := by
  obtain ⟨h1, h2⟩ := h
  refine ⟨by simpa using h1, ?_⟩
  rcases h2 with ⟨rfl, rfl, _, _⟩ | ⟨g, cur, rfl, rfl, hg, hnc, hcm, hs, ht⟩
  · simp at h1; subst h1; simp at hj
  · refine .inr ⟨g, cur.setIfInBounds j v, rfl, rfl, ?_, hnc, hcm, by simpa using hs, ?_⟩
    · show (w.setCell ⟨g, 0 + j, none⟩ v).heap[g]? = _
      rw [Nat.zero_add]
      exact heap_setCell_same w g j cur e v hg
    · rw [← ht]
      simp only [Array.toList_setIfInBounds]
      rw [List.take_set]
theorem Own.frozen {j : Nat} (h : Own w p n c e sz cells F) : w.frozen? ⟨blk p, off p + j, none⟩ = false ∨ cells = [] := by
  rcases h.2 with ⟨rfl, _⟩ | ⟨g, cur, rfl, rfl, hg, _⟩
  · exact .inr (List.eq_nil_of_length_eq_zero (by simpa using h.1))
  · left
    simp [World.frozen?, blk, hg]
theorem Own.some_of (h : Own w p n c e sz cells F) (hn : 0 < cells.length) : p = some ⟨blk p, 0, none⟩ ∧ F = [blk p] ∧ off p = 0 := by
  rcases h.2 with ⟨rfl, _, _⟩ | ⟨g, cur, rfl, rfl, _⟩
  · have := h.1; simp at this; rw [this] at hn; simp at hn
  · exact ⟨rfl, rfl, rfl⟩
theorem Own.ap {b : Nat} (h : Own w p n c e sz cells F) (hn : 0 < cells.length) (hb : b ∉ F) : Ap p b := by
  obtain ⟨h1, h2, h3⟩ := h.some_of hn
  intro a ha he
  rw [h1] at ha; cases ha
  rw [h2] at hb; exact hb (by simp; exact he.symm)
end own

section ops
variable {P : Program} {n : Nat} {E : Env} {ty T T' e : TypeId} {x y z : Operand} {v : Value} {w : World} {p : Option Addr} {m c sz bytes : Nat} {cells : List Value} {k : IntKind} {i : Int}

theorem x_idx (hT : SliceOf P T e sz bytes) (hx : opd n E x = .slice p m c) (hy : opd n E y = .int k i) (hs : Sl w p m c sz cells) (hz : 0 < sz) (h0 : 0 ≤ i) (h1 : i < m) : X0 P n E (.indexAddr T x y) ty (pt (blk p) (off p + i.toNat * sz)) := by
  intro w' dst pos after g
  have hm : 0 < m := by omega
  have hl : 0 < cells.length := by rw [hs.len]; exact Nat.mul_pos hm hz
  obtain ⟨b, o, rfl⟩ := hs.ptr hl
  obtain ⟨hu, hi⟩ := hT
  have e1 : Sz P e sz := by
    unfold Sz
    obtain ⟨j, h2, h3⟩ := Option.map_eq_some_iff.1 hi
    simp only [Prod.mk.injEq] at h3
    rw [h2]; simp [h3.1]
  have e2 := run_sizeOf e1 w'
  simp [execOp, eval_mk, hx, hy, Instr.indexAt, asIntOf, run_underlying hu, h0, h1, e2, Addr.add_lit, pt, blk, off]

/-- a load of one cell of an element -/
theorem x_ldc {o j : Nat} (hT : Sc P T) (hx : opd n E x = pt (blk p) o) (hs : Sl w p m c sz cells) (ho : o = off p + j) (hv : cells[j]? = some v) : X P n E (.load T x) ty w v w := by
  subst ho
  exact x_load hT hx (hs.at hv)
/-- a load of a whole element -/
theorem x_lda {o j : Nat} (hT : Ag P T sz) (hx : opd n E x = pt (blk p) o) (hs : Sl w p m c sz cells) (ho : o = off p + j * sz) (vs : List Value) (hl : vs.length = sz) (hv : (cells.drop (j * sz)).take sz = vs) : X P n E (.load T x) ty w (.agg vs.toArray) w := by
  subst ho
  refine x_loadAg hT hx vs hl fun k u hu => ?_
  rw [Nat.add_assoc]
  refine hs.at ?_
  rw [← hv, List.getElem?_take] at hu
  split at hu
  · rw [List.getElem?_drop] at hu; exact hu
  · cases hu
end ops

section steps
variable {P : Program} {ops : Array Oper} {Q : Exit → Act → World → Prop} {rest : List Oper} {n d : Nat} {E : Env} {ty T T' e : TypeId} {pos : String} {after : Array Edge} {w : World} {v : Value} {x y : Operand} {p : Option Addr} {m c sz bytes : Nat} {cells : List Value} {F : List Nat}

/-- a store into one cell of a slice of the call's own -/
theorem s_sto {dst : Option Tmp} {o j : Nat} (hd : dst = none) (hT : Sz P T 1) (hx : opd n E x = pt (blk p) o) (hy : opd n E y = v) (hv : v.cells = #[v]) (h1 : v.oneCell' = true) (hs : Own w p m c e sz cells F) (ho : o = off p + j) (hj : j < cells.length)
    (k : ∀ w', Exm F w w' → w'.heap.size = w.heap.size → Own w' p m c e sz (cells.set j v) F → WL P ops Q rest (mk n E) w') :
    WL P ops Q (⟨dst, .store T x y, ty, pos, after, none⟩ :: rest) (mk n E) w := by
  subst ho
  have h2 := hs.sl.at (List.getElem?_eq_getElem hj)
  have h3 : cells ≠ [] := fun h => by subst h; simp at hj
  have h4 := (hs.some_of (by omega)).2.1
  refine sy (y_store hT hx hy hv h1 (by rw [h2]; rfl) (hs.frozen.resolve_right h3)) hd (k _ ?_ (by simp [World.setCell]) (hs.stored hj))
  rw [h4]; exact exm_setCell

theorem Own.ofRow {base : Nat} {p : Option Addr} {n c : Nat} (h : w.ownsRow base e sz (.slice p n c) n cells) : ∃ F, Own w p n c e sz cells F ∧ Fr base F := by
  obtain ⟨h1, h2⟩ := h
  rcases h2 with ⟨h2, h3⟩ | ⟨g, cap, cur, h2, hb, hg, h3, h4, h5, h6⟩
  · simp only [Value.slice.injEq] at h2
    obtain ⟨rfl, rfl, rfl⟩ := h2
    exact ⟨[], ⟨h1, .inl ⟨rfl, rfl, rfl, fun _ => rfl⟩⟩, Fr.no⟩
  · simp only [Value.slice.injEq] at h2
    obtain ⟨rfl, _, rfl⟩ := h2
    exact ⟨[g], ⟨h1, .inr ⟨g, cur, rfl, rfl, hg, h3, h4, h5, h6⟩⟩, Fr.one hb⟩

/-- make([]T, l) -/
theorem s_make {kl kc : IntKind} {l : Nat} {zs : List Value} (hT : SliceOf P T e sz bytes) (hz : ZeroV P e zs) (hl : opd n E x = .int kl (l : Int)) (hc : opd n E y = .int kc (l : Int)) (hb : l * bytes ≤ 281474976710656) (hm : l ≤ 9223372036854775807)
    (k : ∀ p F w', Ext w w' → Own w' p l l e sz (madeCells zs.toArray (l * sz)).toList F → Fr w.heap.size F → Lt F w'.heap.size → WL P ops Q rest (mk n (upd E d (.slice p l l))) w') :
    WL P ops Q (⟨some d, .makeSlice T x y, ty, pos, after, none⟩ :: rest) (mk n E) w := by
  obtain ⟨hu, hi⟩ := hT
  obtain ⟨i, h2, h3⟩ := Option.map_eq_some_iff.1 hi
  simp only [Prod.mk.injEq] at h3
  unfold ZeroV at hz
  rw [h2] at hz
  obtain ⟨zv, h4, h5⟩ := Option.map_eq_some_iff.1 hz
  obtain ⟨w', hr, ho, hg⟩ := run_make_full (P := P) w w.heap.size T e i zv sz hu h2 (by simpa using h4) h3.1 kl kc l (by rw [h3.2, Nat.mul_comm]; exact hb) (by simpa [maxLen] using hm) (Nat.le_refl _)
  obtain ⟨F, ho, hF⟩ := Own.ofRow ho
  have hx := Exm.of_grown0 hg
  refine st (w' := w') (v := .slice (some ⟨w.heap.size, 0, none⟩) l l) (fun dst pos after g => ?_) (k _ F _ hx (by rw [h5] at ho; exact ho) hF ho.lt)
  simp [execOp, eval_mk, hl, hc, hr]

/-- append(s, x...) onto a slice of the call's own -/
theorem s_appG {news : List Value} {m' : Nat} {T2 : TypeId} {vy : Value} (hT : SliceOf P T e sz bytes) (hz : ∃ zs, ZeroV P e zs ∧ zs.length = sz) (hx : opd n E x = .slice p m c) (hy : opd n E y = vy) (ho : Own w p m c e sz cells F) (hnl : news.length = m' * sz) (h1 : ∀ u ∈ news, u.oneCell' = true)
    (hgrow : ∀ (i : TypeInfo) (z : Value) (olds : List Value), P.info? e = some i → i.zero = some z → i.size = sz → i.bytes = bytes → c < m + m' → (Builtin.firstCells i.size m (.slice p m c)).run P w.drew = .ok olds.toArray w.drew →
      (Builtin.append_ #[T, T2] ty #[.slice p m c, vy]).run P w = .ok (.slice (some ⟨w.heap.size, 0, none⟩) (m + m') (grownCap w (m + m') c e)) (w.drew.alloc (.cells ((olds ++ news).toArray ++ Builtin.zeroCells z.cells (grownCap w (m + m') c e - (m + m'))) e)))
    (hroom : ∀ (i : TypeInfo) (g : Nat) (cur : Array Value), P.info? e = some i → i.size = sz → p = some ⟨g, 0, none⟩ → w.heap[g]? = some (.cells cur e (0, 0)) → m + m' ≤ c → m * i.size + news.length ≤ cur.size →
      (Builtin.append_ #[T, T2] ty #[.slice p m c, vy]).run P w = .ok (.slice p (m + m') c) (w.setRow g (cur.toList.take (m * i.size) ++ news ++ cur.toList.drop (m * i.size + news.length)).toArray))
    (hnone : ∀ i : TypeInfo, P.info? e = some i → i.size = sz → m = 0 → c = 0 → m' = 0 → (Builtin.append_ #[T, T2] ty #[.slice p m c, vy]).run P w = .ok (.slice p 0 0) w)
    (hm : m + m' ≤ 9223372036854775807)
    (k : ∀ p' c' F' w', Exm F w w' → Own w' p' (m + m') c' e sz (cells ++ news) F' → Grew w F F' → Lt F' w'.heap.size → WL P ops Q rest (mk n (upd E d (.slice p' (m + m') c'))) w') :
    WL P ops Q (⟨some d, .call { callee := .builtin .append, args := [x, y].toArray, argTypes := [T, T2].toArray }, ty, pos, after, none⟩ :: rest) (mk n E) w := by
  obtain ⟨hu, hi⟩ := hT
  obtain ⟨i, h2, h3⟩ := Option.map_eq_some_iff.1 hi
  simp only [Prod.mk.injEq] at h3
  obtain ⟨zs, hz, hzl⟩ := hz
  unfold ZeroV at hz
  rw [h2] at hz
  obtain ⟨zv, h4, h5⟩ := Option.map_eq_some_iff.1 hz
  simp only [Option.bind_some] at h4
  obtain ⟨hs1, hs2⟩ := h3
  have hzs : zv.cells.size = i.size := by rw [h5, hs1]; simpa using hzl
  have go : ∀ v' w', (Builtin.append_ #[T, T2] ty #[.slice p m c, vy]).run P w = .ok v' w' → WL P ops Q rest (mk n (upd E d v')) w' →
      WL P ops Q (⟨some d, .call { callee := .builtin .append, args := [x, y].toArray, argTypes := [T, T2].toArray }, ty, pos, after, none⟩ :: rest) (mk n E) w := by
    intro v' w' hr hk
    refine st (w' := w') (v := v') (fun dst pos after g => ?_) hk
    simp [execOp, eval_mk, hx, hy, resolve, invoke, builtin, hr]
  have hlen : (cells ++ news).length = (m + m') * sz := by rw [List.length_append, ho.len, hnl, Nat.add_mul]
  have k2 : ∀ p' c' F' w', Exm F w w' → Own w' p' (m + m') c' e sz (cells ++ news) F' → Grew w F F' → WL P ops Q rest (mk n (upd E d (.slice p' (m + m') c'))) w' := fun p' c' F' w' a b c => k p' c' F' w' a b c b.lt
  -- a new row
  have grow : ∀ (hg : c < m + m') (hold : (Builtin.firstCells i.size m (.slice p m c)).run P w.drew = .ok cells.toArray w.drew), WL P ops Q (⟨some d, .call { callee := .builtin .append, args := [x, y].toArray, argTypes := [T, T2].toArray }, ty, pos, after, none⟩ :: rest) (mk n E) w := by
    intro hg hold
    refine go _ _ (hgrow i zv cells h2 h4 hs1 hs2 hg hold) (k2 _ _ [w.heap.size] _ ⟨rfl, rfl, rfl, by simp, fun j hj _ => Below.heap_alloc w.drew _ j hj⟩ ⟨hlen, .inr ⟨w.heap.size, _, rfl, rfl, heap_alloc_new w.drew _, grownCap_ge _ _ _ _, grownCap_le_maxLen _ _ _ _ (by simpa [maxLen] using hm), ?_, ?_⟩⟩ (fun b hb => .inr (by simp at hb; omega)))
    · have hge := grownCap_ge w (m + m') c e
      simp only [Array.size_append, List.size_toArray, hlen, size_zeroCells, hzs, hs1, ← Nat.add_mul]
      congr 1
      omega
    · simp only [Array.toList_append]
      rw [← hlen]
      exact List.take_left
  rcases ho.2 with ⟨rfl, rfl, rfl, _⟩ | ⟨g, cur, rfl, rfl, hg, hnc, hcm, hcs, htake⟩
  · have hx0 : cells = [] := List.eq_nil_of_length_eq_zero (by simpa using ho.len)
    subst hx0
    by_cases hm0 : m' = 0
    · subst hm0
      have hn : news = [] := List.eq_nil_of_length_eq_zero (by simpa using hnl)
      subst hn
      exact go (.slice p 0 0) w (hnone i h2 hs1 rfl rfl rfl) (k2 p 0 [] w Exm.rfl' Own.none' (fun b hb => .inl hb))
    · refine grow (by omega) ?_
      cases p with
      | none => exact run_firstCells_none _ _ _ _ _
      | some a => exact run_firstCells_some _ _ _ _ _ _ _ (by simp) (fun j u hj => by simp at hj)
  · by_cases hroom' : m + m' ≤ c
    · have hfit2 : m * i.size + news.length ≤ cur.size := by rw [hs1, hnl, hcs, ← Nat.add_mul]; exact Nat.mul_le_mul_right _ hroom'
      refine go _ _ (hroom i g cur h2 hs1 rfl hg hroom' hfit2) (k2 _ _ _ _ ⟨rfl, rfl, rfl, by simp, fun j _ hj => setRow_other w g j _ (by simpa using hj)⟩ ⟨hlen, .inr ⟨g, _, rfl, rfl, setRow_heap w g cur _ e _ hg, hroom', hcm, ?_, ?_⟩⟩ (fun b hb => .inl hb))
      · rw [hs1, hnl] at hfit2
        simp only [List.size_toArray, List.length_append, List.length_take, List.length_drop, Array.length_toList, hs1, hnl]
        omega
      · rw [hs1, htake, ← hlen]
        exact List.take_left
    · exact grow (by omega) (run_firstCells_some _ _ _ _ _ _ _ (by rw [hs1]; exact ho.len) (fun j u hj => by simpa using ho.sl.cell _ rfl j u hj))
theorem s_app {a : Option Addr} {m' c' : Nat} {news : List Value} (hT : SliceOf P T e sz bytes) (hz : ∃ zs, ZeroV P e zs ∧ zs.length = sz) (hx : opd n E x = .slice p m c) (hy : opd n E y = .slice a m' c') (ho : Own w p m c e sz cells F) (hs : Sl w a m' c' sz news) (h1 : ∀ u ∈ news, u.oneCell' = true)
    (hb : (m + m') * bytes ≤ 140737488355328) (hm : m + m' ≤ 9223372036854775807)
    (k : ∀ p' c' F' w', Exm F w w' → Own w' p' (m + m') c' e sz (cells ++ news) F' → Grew w F F' → Lt F' w'.heap.size → WL P ops Q rest (mk n (upd E d (.slice p' (m + m') c'))) w') :
    WL P ops Q (⟨some d, .call { callee := .builtin .append, args := [x, y].toArray, argTypes := [T, T].toArray }, ty, pos, after, none⟩ :: rest) (mk n E) w := by
  obtain ⟨hu, hi⟩ := id hT
  have hsrc : ∀ i : TypeInfo, i.size = sz → Src P i.size T (.slice a m' c') m' news w := by
    rintro i rfl
    cases a with
    | none =>
      obtain ⟨rfl, rfl⟩ := hs.nil rfl
      have : news = [] := List.eq_nil_of_length_eq_zero (by simpa using hs.len)
      subst this
      exact Src.ofNil w hu 0
    | some q => exact Src.ofSlice w hu q m' c' news hs.len (fun j u hj => hs.cell q rfl j u hj) h1
  refine s_appG hT hz hx hy ho hs.len h1 (fun i z olds h2 h4 h5 h6 hg hold => ?_) (fun i g cur h2 h5 hp hg hr hf => ?_) (fun i h2 h5 hm0 hc0 hn0 => ?_) hm k
  · exact run_append_grow_src (P := P) w T T ty e i z hu h2 h4 p m c olds hold (.slice a m' c') m' news (hsrc i h5) hg (by omega) (by rw [h6]; exact growslice_fits hg hb)
  · subst hp
    cases a with
    | none =>
      obtain ⟨rfl, rfl⟩ := hs.nil rfl
      have : news = [] := List.eq_nil_of_length_eq_zero (by simpa using hs.len)
      subst this
      have hs0 := hsrc i h5
      have e1 : w.setRow g (List.take (m * i.size) cur.toList ++ [] ++ List.drop (m * i.size + ([] : List Value).length) cur.toList).toArray = w := by
        simp only [List.append_nil, List.length_nil, Nat.add_zero, List.take_append_drop, Array.toArray_toList]
        exact setRow_self w g cur e (0, 0) hg
      rw [e1]
      have hr0 : m ≤ c := by omega
      simp [Builtin.append_, run_underlying hu, sizeOf, typeInfo, h2, hs0.len, hs0.cells, hr0, storeCells]
    | some q => subst h5; exact run_append_room (P := P) w T ty e i hu h2 g m c cur hg q m' c' news hs.len (fun j u hj => hs.cell q rfl j u hj) h1 hr hf
  · subst hm0 hc0 hn0
    have hs0 := hsrc i h5
    have hn : news = [] := List.eq_nil_of_length_eq_zero (by simpa using hs.len)
    subst hn
    cases p <;> simp [Builtin.append_, run_underlying hu, sizeOf, typeInfo, h2, hs0.len, hs0.cells, storeCells]

/-- a slice written out, of one-cell values -/
theorem s_bs {vs : List Value} {l : Nat} {parts : List (Nat × Operand)} {zs : List Value} (hT : SliceOf P T e sz bytes) (hz : ZeroV P e zs) (hl : l * sz ≤ 16777216) (hp : Instr.fill (fun i => some (i * sz, sz)) ((Array.range (l * sz)).map (zs.toArray[· % zs.toArray.size]!)) (parts.map fun q => (q.1, opd n E q.2)) = some vs.toArray) (hvs : vs.length = l * sz) (h0 : Nat.ble 1 (l * sz) = true)
    (k : ∀ p F w', Ext w w' → Own w' p l l e sz vs F → Fr w.heap.size F → Lt F w'.heap.size → WL P ops Q rest (mk n (upd E d (.slice p l l))) w') :
    WL P ops Q (⟨some d, .buildSlice T l parts.toArray, ty, pos, after, none⟩ :: rest) (mk n E) w := by
  obtain ⟨hu, hi⟩ := hT
  obtain ⟨i, h2, h3⟩ := Option.map_eq_some_iff.1 hi
  simp only [Prod.mk.injEq] at h3
  unfold ZeroV at hz
  rw [h2] at hz
  obtain ⟨zv, h4, h5⟩ := Option.map_eq_some_iff.1 hz
  simp only [Option.bind_some] at h4
  have hne : ¬ (l * sz = 0) := by have := Nat.le_of_ble_eq_true h0; omega
  have e1 : Sz P e sz := by unfold Sz; rw [h2]; simp [h3.1]
  have e2 := run_sizeOf e1 w
  have hlt : ¬ (16777216 < l * sz) := by omega
  refine st (w' := w.alloc (.cells vs.toArray e)) (v := .slice (some ⟨w.heap.size, 0, none⟩) l l) (fun dst pos after g => ?_) (k _ [w.heap.size] _ (Exm.alloc _ _) ⟨hvs, .inr ⟨w.heap.size, vs.toArray, rfl, rfl, heap_alloc_new w _, Nat.le_refl _, ?_, by simpa using hvs, ?_⟩⟩ (Fr.one (Nat.le_refl _)) (Lt.one (by simp)))
  · simp only [execOp, eval_mk, Instr.buildSlice, Sem.run_bind, run_underlying hu, Result.andThen_ok, e2]
    have hp2 : Instr.fill (fun i => some (i * sz, sz)) ((Array.range (l * sz)).map (zv.cells[· % zv.cells.size]!)) (parts.map fun x => (x.1, opd n E x.2)) = some vs.toArray := by
      rw [h5]; exact hp
    simp [hne, zeroValue, typeInfo, h2, h4, hp2, newRow, hlt]
  · rcases Nat.eq_zero_or_pos sz with h | h
    · subst h; simp at hne
    · have : l ≤ l * sz := Nat.le_mul_of_pos_right _ h
      simp [maxLen]; omega
  · simp only []
    rw [← hvs]; simp
end steps

section cut
variable {P : Program} {n : Nat} {E : Env} {ty T e : TypeId} {x lo hi : Operand} {w : World} {p : Option Addr} {m c sz bytes : Nat} {cells : List Value} {k k' : IntKind} {l h : Int}
/-- where x[l:] of a slice begins -/
def cutp (p : Option Addr) (c l sz : Nat) : Option Addr := if c = l then p else p.map (·.add (l * sz))
theorem Sl.cut {l h : Nat} (hs : Sl w p m c sz cells) (h1 : l ≤ h) (h2 : h ≤ m) : Sl w (cutp p c l sz) (h - l) (c - l) sz ((cells.drop (l * sz)).take ((h - l) * sz)) := by
  have hcap := hs.cap
  have hlen := hs.len
  refine ⟨?_, by omega, by have := hs.mx; omega, fun hp => ?_, fun a ha j v hv => ?_⟩
  · rw [List.length_take, List.length_drop, hlen, ← Nat.sub_mul]
    exact Nat.min_eq_left (Nat.mul_le_mul_right _ (by omega))
  · unfold cutp at hp
    split at hp
    · have := hs.nil hp; omega
    · cases p with
      | none => have := hs.nil rfl; omega
      | some q => cases hp
  · unfold cutp at ha
    have hv' : cells[l * sz + j]? = some v := by
      rw [List.getElem?_take] at hv
      split at hv
      · rwa [List.getElem?_drop] at hv
      · cases hv
    split at ha
    · rename_i hc
      have : h - l = 0 := by omega
      rw [this] at hv; simp at hv
    · cases p with
      | none => cases ha
      | some q =>
        simp only [Option.map_some, Option.some.injEq] at ha
        subst ha
        have h3 := hs.cell q rfl _ v hv'
        obtain ⟨b, o, hq⟩ := hs.ptr (by have := (List.getElem?_eq_some_iff.1 hv').1; omega)
        cases hq
        rw [Addr.add_lit] at h3 ⊢
        rw [Addr.add_lit]
        simpa [Nat.add_assoc] using h3
theorem x_cuth (hT : SliceOf P T e sz bytes) (hx : opd n E x = .slice p m c) (hh : opd n E hi = .int k' h) (h0 : 0 ≤ h) (h2 : h ≤ m) (hc : m ≤ c) : X0 P n E (.slice T x none (some hi) none) ty (.slice (cutp p c 0 sz) h.toNat c) := by
  intro w' dst pos after g
  obtain ⟨hu, hi'⟩ := hT
  have e1 : Sz P e sz := by
    unfold Sz
    obtain ⟨j, h2, h3⟩ := Option.map_eq_some_iff.1 hi'
    simp only [Prod.mk.injEq] at h3
    rw [h2]; simp [h3.1]
  have e2 := run_sizeOf e1 w'
  have h3 : h ≤ c := by omega
  have h4 : cutp p c 0 sz = p := by
    unfold cutp
    split
    · rfl
    · cases p <;> simp [Addr.add]
  rw [h4]
  have h5 : (if c = 0 then p else p.map (·.add (0 * sz))) = p := h4
  simp [execOp, eval_mk, hx, hh, Instr.sliceAt, run_underlying hu, Instr.slice, Instr.sliceBounds, Instr.sliceBound, asIntOf, h0, h3, e2]
  cases p <;> simp [Addr.add]
theorem x_cut (hT : SliceOf P T e sz bytes) (hx : opd n E x = .slice p m c) (hl : opd n E lo = .int k l) (hh : opd n E hi = .int k' h) (h0 : 0 ≤ l) (h1 : l ≤ h) (h2 : h ≤ m) (hc : m ≤ c) : X0 P n E (.slice T x (some lo) (some hi) none) ty (.slice (cutp p c l.toNat sz) (h.toNat - l.toNat) (c - l.toNat)) := by
  intro w' dst pos after g
  obtain ⟨hu, hi'⟩ := hT
  have e1 : Sz P e sz := by
    unfold Sz
    obtain ⟨j, h2, h3⟩ := Option.map_eq_some_iff.1 hi'
    simp only [Prod.mk.injEq] at h3
    rw [h2]; simp [h3.1]
  have e2 := run_sizeOf e1 w'
  have h3 : h ≤ c := by omega
  have h6 : 0 ≤ h := by omega
  simp [execOp, eval_mk, hx, hh, hl, Instr.sliceAt, run_underlying hu, Instr.slice, Instr.sliceBounds, Instr.sliceBound, asIntOf, h0, h3, h6, h1, Int.toNat_of_nonneg h6, e2, cutp]
end cut

/-- integers -/
def ic (xs : List Int) : List Value := xs.map (.int .i64)
theorem ic_length (xs : List Int) : (ic xs).length = xs.length := by simp [ic]
theorem ic_get {xs : List Int} {i : Int} (h0 : 0 ≤ i) (h1 : i < xs.length) : (ic xs)[i.toNat]? = some (.int .i64 (xs.getD i.toNat 0)) := by
  have : i.toNat < xs.length := by omega
  simp [ic, List.getD, this]
theorem ic_one {xs : List Int} : ∀ u ∈ ic xs, u.oneCell' = true := by
  intro u hu
  simp only [ic, List.mem_map] at hu
  obtain ⟨a, _, rfl⟩ := hu
  rfl
theorem ic_append (xs ys : List Int) : ic (xs ++ ys) = ic xs ++ ic ys := by simp [ic]
theorem ic_set (xs : List Int) (j : Nat) (a : Int) : (ic xs).set j (.int .i64 a) = ic (xs.set j a) := by simp [ic]
theorem Sl.n {w : World} {p : Option Addr} {n c : Nat} {xs : List Int} (h : Sl w p n c 1 (ic xs)) : n = xs.length := by
  have := h.len; rw [ic_length] at this; omega
theorem x_ldi {P : Program} {n : Nat} {E : Env} {ty T : TypeId} {x : Operand} {w : World} {p : Option Addr} {m c : Nat} {xs : List Int} {i : Int} (hT : Sc P T) (hx : opd n E x = pt (blk p) (off p + i.toNat * 1)) (hs : Sl w p m c 1 (ic xs)) (h0 : 0 ≤ i) (h1 : i < xs.length) : X P n E (.load T x) ty w (.int .i64 (xs.getD i.toNat 0)) w :=
  x_ldc hT hx hs (by omega) (ic_get h0 h1)
end Go.Sx

namespace Go.Sx
section
variable {P : Program} {ops : Array Oper} {Q : Exit → Act → World → Prop} {rest : List Oper} {n d : Nat} {E : Env} {op : Op} {ty T : TypeId} {pos : String} {after : Array Edge} {w : World} {v v1 v2 : Value} {f : FuncId} {vs : List Value}
/-- a loaded test parts the walk -/
theorem sbl {p : Prop} [Decidable p] (hx : X P n E op ty w (.bool (decide p)) w) (kt : p → WL P ops Q rest (mk n (upd E d (.bool true))) w) (kf : ¬ p → WL P ops Q rest (mk n (upd E d (.bool false))) w) :
    WL P ops Q (⟨some d, op, ty, pos, after, none⟩ :: rest) (mk n E) w := by
  refine st hx ?_
  by_cases h : p
  · rw [decide_eq_true h]; exact kt h
  · rw [decide_eq_false h]; exact kf h
/-- how a struct is put together: its zero value, and where its fields lie -/
def Built (P : Program) (T : TypeId) (zs : List Value) (places : Array (Nat × Nat)) : Prop :=
  ∃ fs, P.underlying T = some (.struct fs) ∧ ZeroV P T zs ∧ ∀ w, (fs.mapM fun f => do pure (f.offset, ← sizeOf f.type) : Sem (Array (Nat × Nat))).run P w = .ok places w
/-- the parts of a struct, looked up -/
def Pts (n : Nat) (E : Env) (ps : List (Nat × Operand)) (vs : List (Nat × Value)) : Prop := ps.map (fun q => (q.1, opd n E q.2)) = vs
theorem pts_nil {n : Nat} {E : Env} : Pts n E [] [] := rfl
theorem pts_cons {n i : Nat} {E : Env} {x : Operand} {v : Value} {ps : List (Nat × Operand)} {vs : List (Nat × Value)} (h : opd n E x = v) (t : Pts n E ps vs) : Pts n E ((i, x) :: ps) ((i, v) :: vs) := by
  unfold Pts at *; simp [h, t]
theorem x_build {zs cs : List Value} {places : Array (Nat × Nat)} {parts : List (Nat × Operand)} {vs : List (Nat × Value)} (hb : Built P T zs places) (hp : Pts n E parts vs) (hf : Instr.fill (places[·]?) zs.toArray vs = some cs.toArray) :
    X0 P n E (.build T parts.toArray) ty (.agg cs.toArray) := by
  intro w dst pos after g
  obtain ⟨fs, hu, hz, hq⟩ := hb
  unfold ZeroV at hz
  obtain ⟨zv, h4, h5⟩ := Option.map_eq_some_iff.1 hz
  obtain ⟨i, h2, h3⟩ := Option.bind_eq_some_iff.1 h4
  have hp1 := hq w
  unfold Pts at hp
  simp only [execOp, eval_mk, Instr.build, zeroValue, typeInfo, Sem.run_bind, run_program, Result.andThen_ok, h2, Sem.run_pure, h3, run_underlying hu, hp1]
  simp [h5, hf, hp]
end

theorem ret_int {a b : Int} (h : a = b) : Ending.returned (.int .i64 a) = .returned (.int .i64 b) := by rw [h]
theorem vint {a b : Int} (h : a = b) : Value.int .i64 a = .int .i64 b := by rw [h]
theorem ret_t {p : Prop} [Decidable p] (h : p) : Ending.returned (.bool true) = .returned (.bool (decide p)) := by simp [h]
theorem ret_f {p : Prop} [Decidable p] (h : ¬ p) : Ending.returned (.bool false) = .returned (.bool (decide p)) := by simp [h]
theorem ret_dec2 {p q : Prop} [Decidable p] [Decidable q] (h : p ↔ q) : Ending.returned (.bool (decide p)) = .returned (.bool (decide q)) := by simp [h]
theorem ret_bt {p : Prop} [Decidable p] (h : p) : Ending.returned (.bool (decide p)) = .returned (.bool true) := by simp [h]
theorem ret_val {a b : Value} (h : a = b) : Ending.returned a = .returned b := by rw [h]
end Go.Sx

namespace Go.Sx
section
variable {w w' : World} {p : Option Addr} {n c sz B : Nat} {e : TypeId} {cells : List Value} {F : List Nat}
theorem Own.n1 {xs : List Int} (h : Own w p n c e 1 (ic xs) F) : n = xs.length := by
  have := h.len; rw [ic_length] at this; omega
theorem Own.nr {α : Type} {f : α → List Value} {xs : List α} (h : Own w p n c e sz (xs.flatMap f) F) (hf : ∀ x, (f x).length = sz) (hz : 0 < sz) : n = xs.length := by
  have h1 := h.len
  have h2 : (xs.flatMap f).length = xs.length * sz := by
    clear h h1
    induction xs with
    | nil => simp
    | cons x xs ih => rw [List.flatMap_cons, List.length_append, ih, hf, List.length_cons, Nat.add_mul]; omega
  rw [h2] at h1
  exact Nat.eq_of_mul_eq_mul_right hz h1.symm
end
section
variable {P : Program} {ops : Array Oper} {Q : Exit → Act → World → Prop} {rest : List Oper} {n d : Nat} {E : Env} {op : Op} {ty T e : TypeId} {pos : String} {after : Array Edge} {w : World} {x y : Operand} {p a : Option Addr} {m c m' c' bytes : Nat} {xs ys : List Int} {B : Nat} {F : List Nat}
theorem made_ints (l : Nat) : (madeCells [.int .i64 0].toArray (l * 1)).toList = ic (List.replicate l 0) := by
  unfold madeCells ic
  apply List.ext_getElem
  · simp
  · intro i h1 h2
    simp [Nat.mod_one]
/-- make([]int, a) -/
theorem s_makei {kl kc : IntKind} {l : Int} (hT : SliceOf P T e 1 bytes) (hz : ZeroV P e [.int .i64 0]) (hl : opd n E x = .int kl l) (hc : opd n E y = .int kc l) (h0 : 0 ≤ l) (hb : l * bytes ≤ 140737488355328) (hm : l ≤ 1099511627776)
    (k : ∀ p F w', Ext w w' → Own w' p l.toNat l.toNat e 1 (ic (List.replicate l.toNat 0)) F → Fr w.heap.size F → Lt F w'.heap.size → WL P ops Q rest (mk n (upd E d (.slice p l.toNat l.toNat))) w') :
    WL P ops Q (⟨some d, .makeSlice T x y, ty, pos, after, none⟩ :: rest) (mk n E) w := by
  obtain ⟨j, rfl⟩ : ∃ j : Nat, l = j := ⟨l.toNat, by omega⟩
  have hjb : j * bytes ≤ 140737488355328 := Int.ofNat_le.1 (by rw [Int.natCast_mul]; exact hb)
  refine s_make (l := j) hT hz hl hc (by omega) (by omega) fun p F w' h1 h2 h3 h4 => ?_
  rw [made_ints] at h2
  exact k p F w' h1 h2 h3 h4
/-- numbers, numbered -/
def numbered : Nat → List Int → List (Nat × Value)
  | _, [] => []
  | i, x :: r => (i, .int .i64 x) :: numbered (i + 1) r
theorem fill_num : ∀ (xs : List Int) (pre zs : List Value), zs.length = xs.length → Instr.fill (fun i => some (i * 1, 1)) (pre ++ zs).toArray (numbered pre.length xs) = some (pre ++ ic xs).toArray
  | [], pre, zs, h => by
    have : zs = [] := List.eq_nil_of_length_eq_zero h
    subst this; simp [numbered, Instr.fill, ic]
  | x :: r, pre, [], h => by simp at h
  | x :: r, pre, z :: zs, h => by
    have ih := fill_num r (pre ++ [(Value.int .i64 x)]) zs (by simpa using h)
    unfold numbered Instr.fill
    have e1 : (Value.int .i64 x).cells = #[.int .i64 x] := rfl
    simp only [e1, Nat.mul_one]
    rw [if_neg (by simp)]
    have e3 : (#[(.int .i64 x : Value)].zipIdx.foldl (fun cs (c, j) => cs.setIfInBounds (pre.length + j) c) (pre ++ z :: zs).toArray) = (pre ++ [(Value.int .i64 x)] ++ zs).toArray := by
      simp
    rw [e3]
    simpa [ic] using ih
theorem s_bsi {l : Nat} {parts : List (Nat × Operand)} (hT : SliceOf P T e 1 bytes) (hz : ZeroV P e [.int .i64 0]) (hp : Pts n E parts (numbered 0 xs)) (hl : Nat.ble l 4096 = true) (hn : Nat.ble 1 l = true) (hxs : xs.length = l)
    (k : ∀ p F w', Ext w w' → Own w' p l l e 1 (ic xs) F → Fr w.heap.size F → Lt F w'.heap.size → WL P ops Q rest (mk n (upd E d (.slice p l l))) w') :
    WL P ops Q (⟨some d, .buildSlice T l parts.toArray, ty, pos, after, none⟩ :: rest) (mk n E) w := by
  unfold Pts at hp
  have := Nat.le_of_ble_eq_true hl
  have hf := fill_num xs [] ((Array.range (l * 1)).map (#[(.int .i64 0 : Value)][· % 1]!)).toList (by simp [hxs])
  simp only [List.nil_append, List.length_nil, Array.toArray_toList] at hf
  exact s_bs hT hz (by omega) (by rw [hp]; exact hf) (by simp [ic, hxs]) (by simpa using hn) k
/-- a slice written out without elements -/
theorem s_bs0 {sz : Nat} (hT : SliceOf P T e sz bytes)
    (k : ∀ p F w', Ext w w' → Own w' p 0 0 e sz [] F → Fr w.heap.size F → Lt F w'.heap.size → WL P ops Q rest (mk n (upd E d (.slice p 0 0))) w') :
    WL P ops Q (⟨some d, .buildSlice T 0 [].toArray, ty, pos, after, none⟩ :: rest) (mk n E) w := by
  obtain ⟨hu, hi⟩ := hT
  obtain ⟨i, h2, h3⟩ := Option.map_eq_some_iff.1 hi
  simp only [Prod.mk.injEq] at h3
  have e1 : Sz P e sz := by unfold Sz; rw [h2]; simp [h3.1]
  have e2 := run_sizeOf e1 w
  refine st (w' := w.alloc (.cells #[] e)) (v := .slice (some ⟨w.heap.size, 0, none⟩) 0 0) (fun dst pos after g => ?_) (k _ [w.heap.size] _ (Exm.alloc _ _) ⟨by simp, .inr ⟨w.heap.size, #[], rfl, rfl, heap_alloc_new w _, Nat.le_refl _, by simp [maxLen], by simp, by simp⟩⟩ (Fr.one (Nat.le_refl _)) (Lt.one (by simp)))
  simp [execOp, eval_mk, Instr.buildSlice, run_underlying hu, e2, Instr.fill, newRow]
  congr 2
  exact Array.eq_empty_of_size_eq_zero (by simp)
/-- append(s, ys...) -/
theorem s_appi (hT : SliceOf P T e 1 bytes) (hz : ZeroV P e [.int .i64 0]) (hx : opd n E x = .slice p m c) (hy : opd n E y = .slice a m' c') (ho : Own w p m c e 1 (ic xs) F) (hs : Sl w a m' c' 1 (ic ys)) (f : Fr B F) (hB : B ≤ w.heap.size)
    (hb : (m + m') * bytes ≤ 140737488355328) (hm : m + m' ≤ 1099511627776)
    (k : ∀ p' c' F' w', Exm F w w' → Own w' p' (xs ++ ys).length c' e 1 (ic (xs ++ ys)) F' → (xs ++ ys).length = m + m' → Grew w F F' → Fr B F' → Lt F' w'.heap.size → WL P ops Q rest (mk n (upd E d (.slice p' (xs ++ ys).length c'))) w') :
    WL P ops Q (⟨some d, .call { callee := .builtin .append, args := [x, y].toArray, argTypes := [T, T].toArray }, ty, pos, after, none⟩ :: rest) (mk n E) w := by
  refine s_app hT ⟨_, hz, rfl⟩ hx hy ho hs ic_one hb (by omega) fun p' c'' F' w' h1 h2 h3 h4 => ?_
  rw [← ic_append] at h2
  have hn := h2.n1
  rw [hn] at h2 ⊢
  exact k p' c'' F' w' h1 h2 hn.symm h3 (h3.fr f hB) h4
/-- ints stored -/
theorem s_stoi {dst : Option Tmp} {i v : Int} (hd : dst = none) (hT : Sz P T 1) (hx : opd n E x = pt (blk p) (off p + i.toNat * 1)) (hy : opd n E y = .int .i64 v) (hs : Own w p m c e 1 (ic xs) F) (h0 : 0 ≤ i) (h1 : i < xs.length)
    (k : ∀ w', Exm F w w' → w'.heap.size = w.heap.size → Own w' p m c e 1 (ic (xs.set i.toNat v)) F → WL P ops Q rest (mk n E) w') :
    WL P ops Q (⟨dst, .store T x y, ty, pos, after, none⟩ :: rest) (mk n E) w := by
  refine s_sto (j := i.toNat) hd hT hx hy rfl rfl hs (by omega) (by rw [ic_length]; omega) fun w' h1 h2 h3 => ?_
  rw [ic_set] at h3
  exact k w' h1 h2 h3
end
end Go.Sx

namespace Go.Sx
open Go.RowKit
section rows
variable {α : Type} {f : α → List Value} {sz : Nat}
theorem rows_length (hf : ∀ x, (f x).length = sz) (xs : List α) : (xs.flatMap f).length = xs.length * sz := by
  induction xs with
  | nil => simp
  | cons x xs ih => rw [List.flatMap_cons, List.length_append, ih, hf, List.length_cons, Nat.add_mul]; omega
theorem rows_get (hf : ∀ x, (f x).length = sz) : ∀ (xs : List α) (j : Nat) (v : Value), (xs.flatMap f)[j]? = some v → ∃ i k x, xs[i]? = some x ∧ j = i * sz + k ∧ k < sz ∧ (f x)[k]? = some v
  | [], j, v, h => by simp at h
  | x :: xs, j, v, h => by
    rw [List.flatMap_cons] at h
    by_cases hj : j < sz
    · rw [List.getElem?_append_left (by rw [hf]; exact hj)] at h
      exact ⟨0, j, x, rfl, by omega, hj, h⟩
    · rw [List.getElem?_append_right (by rw [hf]; omega), hf] at h
      obtain ⟨i, k, y, h1, h2, h3, h4⟩ := rows_get hf xs _ _ h
      exact ⟨i + 1, k, y, by simpa using h1, by rw [Nat.add_mul]; omega, h3, h4⟩
end rows
section opening
variable {H : Type} {enc : TypeId × Value → H} {P : Program} {W : World} {t : TypeId} {cs : List Value}
theorem mapM_len {α β : Type} (f : α → Option β) (l : List α) : ∀ (ys : List β), l.mapM f = some ys → l.length = ys.length := by
  induction l with
  | nil => intro ys h; simp at h; subst h; rfl
  | cons x l ih =>
    intro ys h
    rw [List.mapM_cons] at h
    cases hx : f x with
    | none => rw [hx] at h; cases h
    | some y =>
      rw [hx] at h
      cases hl : l.mapM f with
      | none => rw [hl] at h; cases h
      | some zs =>
        rw [hl] at h
        simp only [Option.bind_eq_bind, Option.bind_some, Option.pure_def, Option.some.injEq] at h
        subst h
        simp [ih zs hl]
theorem cells_at {a : Addr} {n : Nat} {es : List Value} (h : W.cells? 0 a n = some es) {k : Nat} {v : Value} (hv : es[k]? = some v) : W.cell? (a.add k) = some v := by
  unfold World.cells? at h
  rw [if_pos (Nat.zero_le _)] at h
  have key : ∀ (m : Nat) (es : List Value), (List.range' m es.length).mapM (fun i => W.cell? (a.add i)) = some es → ∀ k v, es[k]? = some v → W.cell? (a.add (m + k)) = some v := by
    intro m es
    induction es generalizing m with
    | nil => intro _ k v hv; simp at hv
    | cons x xs ih =>
      intro h k v hv
      rw [List.length_cons, List.range'_succ, List.mapM_cons] at h
      cases hx : W.cell? (a.add m) with
      | none => rw [hx] at h; cases h
      | some y =>
        rw [hx] at h
        cases hm : (List.range' (m + 1) xs.length).mapM (fun i => W.cell? (a.add i)) with
        | none => rw [hm] at h; cases h
        | some ys =>
          rw [hm] at h
          simp only [Option.bind_eq_bind, Option.bind_some, Option.pure_def, Option.some.injEq, List.cons.injEq] at h
          obtain ⟨rfl, rfl⟩ := h
          cases k with
          | zero => simp at hv; subst hv; simpa using hx
          | succ k =>
            have := ih (m + 1) hm k v (by simpa using hv)
            rw [show m + (k + 1) = m + 1 + k by omega]; exact this
  have hl : es.length = n := by
    have := mapM_len _ _ _ h
    simpa using this.symm
  subst hl
  have := key 0 es (by rw [← List.range_eq_range']; exact h) k v hv
  simpa using this
theorem op_rows {α : Type} {e : TypeId} {sz : Nat} (f : α → List Value) (good : α → Prop) (hu : P.underlying t = some (.slice e)) (hsz : P.cellsOf e = sz) (hf : ∀ x, (f x).length = sz) (hop : ∀ es, Tr enc P W e es → ∃ x, es = f x ∧ good x) (h : Tr enc P W t cs) :
    ∃ (p : Option Addr) (c : Nat) (xs : List α), cs = [.slice p xs.length c] ∧ Sl W p xs.length c sz (xs.flatMap f) ∧ (∀ x ∈ xs, good x) := by
  rcases op_slice hu h with rfl | ⟨a, len, cap, rfl, hlc, hcm, hi⟩
  · exact ⟨none, 0, [], rfl, Sl.nil', by simp⟩
  · rw [hsz] at hi
    have hx : ∀ i : Fin len, ∃ x, W.cells? 0 (a.add (i.1 * sz)) sz = some (f x) ∧ good x := fun i => by
      obtain ⟨es, h1, h2⟩ := hi i.1 i.2
      obtain ⟨x, rfl, h3⟩ := hop es h2
      exact ⟨x, h1, h3⟩
    refine ⟨some a, cap, List.ofFn fun i => (hx i).choose, by rw [List.length_ofFn], ?_, fun x hm => ?_⟩
    · rw [List.length_ofFn]
      refine ⟨by rw [rows_length hf, List.length_ofFn], hlc, hcm, fun h => (by cases h), fun b hb j v hv => ?_⟩
      cases hb
      obtain ⟨i, k, x, h1, rfl, _, h4⟩ := rows_get hf _ j v hv
      have hi2 : i < len := by
        have := (List.getElem?_eq_some_iff.1 h1).1
        simpa using this
      rw [List.getElem?_ofFn, dif_pos hi2] at h1
      simp only [Option.some.injEq] at h1
      have h5 := (hx ⟨i, hi2⟩).choose_spec.1
      rw [h1] at h5
      rw [← Addr.add_add]
      exact cells_at h5 h4
    · obtain ⟨i, rfl⟩ := List.mem_ofFn.1 hm
      exact (hx i).choose_spec.2
theorem flat_ic (xs : List Int) : xs.flatMap (fun x => [Value.int .i64 x]) = ic xs := by
  induction xs with
  | nil => rfl
  | cons x xs ih => rw [List.flatMap_cons, ih]; rfl
end opening
end Go.Sx

namespace Go.Sx
open Go.RowKit
/-- a function that returns v with φ, and turns only the blocks M -/
def RetM (M : List Nat) (w : World) (φ : Value → World → Prop) : Ending → World → Prop := fun e w' => ∃ v, e = .returned v ∧ Exm M w w' ∧ φ v w'
section
variable {P : Program} {ops : Array Oper} {Q : Exit → Act → World → Prop} {rest : List Oper} {n d : Nat} {E : Env} {op : Op} {ty T T' e : TypeId} {pos : String} {after : Array Edge} {w : World} {x y : Operand} {f : FuncId} {vs : List Value}
theorem spm {M : List Nat} {φ : Value → World → Prop} (hz : Z P n E op ty f vs) (hc : Calls P f vs.toArray w (RetM M w φ)) (k : ∀ v w', Exm M w w' → φ v w' → WL P ops Q rest (mk n (upd E d v)) w') :
    WL P ops Q (⟨some d, op, ty, pos, after, none⟩ :: rest) (mk n E) w :=
  sc hz hc (fun _ _ h => ⟨h.choose, h.choose_spec.1⟩) fun v' w' h => by
    obtain ⟨v, h1, h2, h3⟩ := h
    cases h1
    exact k v' w' h2 h3
theorem bits_and_le (a : Int) {b : Int} (g0 : 0 ≤ b) (g1 : b ≤ 9223372036854775807) : 0 ≤ bits .and .i64 a b ∧ bits .and .i64 a b ≤ b := by
  have h : bits .and .i64 a b = IntKind.i64.wrap ((BitVec.ofInt 64 a) &&& (BitVec.ofInt 64 b)).toNat := rfl
  rw [h, BitVec.toNat_and, ofInt_nat g0 g1]
  have h2 : (BitVec.ofInt 64 a).toNat &&& b.toNat ≤ b.toNat := Nat.and_le_right
  rw [wrap_in ⟨by omega, by omega⟩]
  omega
/-- cells of bytes -/
def bc (xs : List Int) : List Value := xs.map (.int .u8)
theorem bc_length (xs : List Int) : (bc xs).length = xs.length := by simp [bc]
theorem bc_get {xs : List Int} {i : Int} (h0 : 0 ≤ i) (h1 : i < xs.length) : (bc xs)[i.toNat]? = some (.int .u8 (xs.getD i.toNat 0)) := by
  have : i.toNat < xs.length := by omega
  simp [bc, List.getD, this]
theorem x_ldb {p : Option Addr} {m c : Nat} {xs : List Int} {i : Int} (hT : Sc P T) (hx : opd n E x = pt (blk p) (off p + i.toNat * 1)) (hs : Sl w p m c 1 (bc xs)) (h0 : 0 ≤ i) (h1 : i < xs.length) : X P n E (.load T x) ty w (.int .u8 (xs.getD i.toNat 0)) w :=
  x_ldc hT hx hs (by omega) (bc_get h0 h1)
theorem getD_byte {xs : List Int} (h : ∀ x ∈ xs, 0 ≤ x ∧ x ≤ 255) (i : Nat) : 0 ≤ xs.getD i 0 ∧ xs.getD i 0 ≤ 255 := by
  rw [List.getD_eq_getElem?_getD]
  cases hh : xs[i]? with
  | none => simp
  | some v => exact h v (List.mem_of_getElem? hh)
end
section opening
variable {H : Type} {enc : TypeId × Value → H} {P : Program} {W : World} {t : TypeId} {cs : List Value}
theorem flat_bc (xs : List Int) : xs.flatMap (fun x => [Value.int .u8 x]) = bc xs := by
  induction xs with
  | nil => rfl
  | cons x xs ih => rw [List.flatMap_cons, ih]; rfl
theorem op_bytes {e : TypeId} (hu : P.underlying t = some (.slice e)) (he : P.underlying e = some (.int .u8)) (hsz : P.cellsOf e = 1) (h : Tr enc P W t cs) :
    ∃ (p : Option Addr) (c : Nat) (xs : List Int), cs = [.slice p xs.length c] ∧ Sl W p xs.length c 1 (bc xs) ∧ (∀ x ∈ xs, 0 ≤ x ∧ x ≤ 255) ∧ xs.length ≤ maxLen := by
  obtain ⟨p, c, xs, h1, h2, h3⟩ := op_rows (fun x : Int => [.int .u8 x]) (fun x => 0 ≤ x ∧ x ≤ 255) hu hsz (fun _ => rfl) (fun es h => by
    obtain ⟨x, rfl, hw⟩ := op_int he h
    exact ⟨x, rfl, by simpa [Lit.wf, IntKind.min, IntKind.max, IntKind.signed, IntKind.bits] using hw⟩) h
  rw [flat_bc] at h2
  exact ⟨p, c, xs, h1, h2, h3, Nat.le_trans h2.cap h2.mx⟩
end opening

section rows
variable {α : Type} {f : α → List Value} {sz : Nat} {P : Program} {n : Nat} {E : Env} {ty T : TypeId} {x : Operand} {w : World} {p : Option Addr} {m c : Nat} {xs : List α} {i : Int}
theorem row_at (hf : ∀ x, (f x).length = sz) : ∀ (xs : List α) (i : Nat) (v : α), xs[i]? = some v → ((xs.flatMap f).drop (i * sz)).take sz = f v
  | [], i, v, h => by simp at h
  | x :: xs, 0, v, h => by
    simp at h; subst h
    rw [List.flatMap_cons, Nat.zero_mul, List.drop_zero, List.take_append_of_le_length (by rw [hf]; exact Nat.le_refl _), List.take_of_length_le (by rw [hf]; exact Nat.le_refl _)]
  | x :: xs, i + 1, v, h => by
    have e1 : ((f x ++ xs.flatMap f).drop ((i + 1) * sz)) = (xs.flatMap f).drop (i * sz) := by
      rw [List.drop_append, hf, List.drop_of_length_le (by rw [hf, Nat.add_mul]; omega), List.nil_append]
      congr 1
      rw [Nat.add_mul]; omega
    rw [List.flatMap_cons, e1]
    exact row_at hf xs i v (by simpa using h)
theorem row_cell (hf : ∀ x, (f x).length = sz) {xs : List α} {i k : Nat} {v : α} {u : Value} (h : xs[i]? = some v) (hk : k < sz) (hu : (f v)[k]? = some u) : (xs.flatMap f)[i * sz + k]? = some u := by
  have h1 := row_at hf xs i v h
  rw [← h1, List.getElem?_take, if_pos hk, List.getElem?_drop] at hu
  exact hu
theorem get_some [Inhabited α] {xs : List α} {i : Int} (h0 : 0 ≤ i) (h1 : i < xs.length) : xs[i.toNat]? = some (xs.getD i.toNat default) := by
  have : i.toNat < xs.length := by omega
  simp [List.getD, this]
/-- a load of a whole element -/
theorem x_ldr [Inhabited α] (hf : ∀ x, (f x).length = sz) (hT : Ag P T sz) (hx : opd n E x = pt (blk p) (off p + i.toNat * sz)) (hs : Sl w p m c sz (xs.flatMap f)) (h0 : 0 ≤ i) (h1 : i < xs.length) : X P n E (.load T x) ty w (.agg (f (xs.getD i.toNat default)).toArray) w :=
  x_lda hT hx hs rfl _ (hf _) (row_at hf xs _ _ (get_some h0 h1))
/-- a load of a field of an element -/
theorem x_ldf [Inhabited α] {k : Nat} {u : Value} (hf : ∀ x, (f x).length = sz) (hT : Sc P T) (hx : opd n E x = pt (blk p) (off p + i.toNat * sz + k)) (hs : Sl w p m c sz (xs.flatMap f)) (h0 : 0 ≤ i) (h1 : i < xs.length) (hk : k < sz) (hu : (f (xs.getD i.toNat default))[k]? = some u) : X P n E (.load T x) ty w u w :=
  x_ldc hT hx hs (by omega) (row_cell hf (get_some h0 h1) hk hu)
theorem flat_set (hf : ∀ x, (f x).length = sz) : ∀ (xs : List α) (i : Nat) (v : α), i < xs.length → (xs.flatMap f).take (i * sz) ++ f v ++ (xs.flatMap f).drop (i * sz + sz) = (xs.set i v).flatMap f
  | [], i, v, h => by simp at h
  | x :: xs, 0, v, h => by
    have e1 : (f x ++ xs.flatMap f).drop sz = xs.flatMap f := by rw [← hf x]; exact List.drop_left
    simp only [List.flatMap_cons, Nat.zero_mul, Nat.zero_add, List.take_zero, List.nil_append, List.set_cons_zero, e1]
  | x :: xs, i + 1, v, h => by
    have ih := flat_set hf xs i v (by simpa using h)
    have e1 : ((f x ++ xs.flatMap f).drop ((i + 1) * sz + sz)) = (xs.flatMap f).drop (i * sz + sz) := by
      rw [List.drop_append, hf, List.drop_of_length_le (by rw [hf, Nat.add_mul]; omega), List.nil_append]
      congr 1
      rw [Nat.add_mul]; omega
    have e2 : ((f x ++ xs.flatMap f).take ((i + 1) * sz)) = f x ++ (xs.flatMap f).take (i * sz) := by
      rw [List.take_append, hf, List.take_of_length_le (by rw [hf, Nat.add_mul]; omega)]
      congr 2
      rw [Nat.add_mul]; omega
    simp only [List.flatMap_cons, List.set_cons_succ, e1, e2, ← ih, List.append_assoc]
theorem made_rows (hf : ∀ x, (f x).length = sz) (z : α) (l : Nat) : (madeCells (f z).toArray (l * sz)).toList = (List.replicate l z).flatMap f := by
  have h1 : ((List.replicate l z).flatMap f).length = l * sz := by rw [rows_length hf, List.length_replicate]
  apply List.ext_getElem
  · rw [h1]; simp [madeCells]
  · intro i h2 h3
    have hi : i < l * sz := by rw [h1] at h3; exact h3
    have hz : 0 < sz := Nat.pos_of_ne_zero (by rintro rfl; simp at hi)
    have hl : i / sz < l := Nat.div_lt_of_lt_mul (by rw [Nat.mul_comm]; exact hi)
    have hk : i % sz < sz := Nat.mod_lt _ hz
    have h4 := row_cell hf (xs := List.replicate l z) (i := i / sz) (k := i % sz) (v := z) (u := (f z)[i % sz]'(by rw [hf]; exact hk)) (by simp [hl]) hk (by rw [List.getElem?_eq_getElem])
    rw [show i / sz * sz + i % sz = i by rw [Nat.mul_comm]; exact Nat.div_add_mod i sz] at h4
    rw [List.getElem?_eq_getElem h3] at h4
    simp only [Option.some.injEq] at h4
    rw [h4]
    simp [madeCells, hf, hk]
end rows

section fill
theorem fold_setL : ∀ (vs : List Value) (k o : Nat) (pre zs : List Value), pre.length = o + k → vs.length ≤ zs.length →
    (vs.zipIdx k).foldl (fun (cs : Array Value) (cj : Value × Nat) => cs.setIfInBounds (o + cj.2) cj.1) (pre ++ zs).toArray = (pre ++ vs ++ zs.drop vs.length).toArray
  | [], k, o, pre, zs, h, hl => by simp
  | v :: vs, k, o, pre, [], h, hl => by simp at hl
  | v :: vs, k, o, pre, z :: zs, h, hl => by
    have ih := fold_setL vs (k + 1) o (pre ++ [v]) zs (by simp; omega) (by simpa using hl)
    rw [List.zipIdx_cons, List.foldl_cons]
    have e : (pre ++ z :: zs).toArray.setIfInBounds (o + k) v = (pre ++ [v] ++ zs).toArray := by
      rw [← h]; simp
    rw [e, ih]; simp
theorem fold_set (vs : List Value) (o : Nat) (pre zs : List Value) (h : pre.length = o) (hl : vs.length ≤ zs.length) :
    vs.toArray.zipIdx.foldl (fun (cs : Array Value) (cj : Value × Nat) => cs.setIfInBounds (o + cj.2) cj.1) (pre ++ zs).toArray = (pre ++ vs ++ zs.drop vs.length).toArray := by
  rw [← Array.foldl_toList, Array.toList_zipIdx]
  exact fold_setL vs 0 o pre zs (by omega) hl
theorem take_splice (L v : List Value) (a s M : Nat) (hv : v.length = s) (h : a + s ≤ M) (hM : M ≤ L.length) : (L.take a ++ v ++ L.drop (a + s)).take M = (L.take M).take a ++ v ++ (L.take M).drop (a + s) := by
  have hK : (L.take M).length = M := by rw [List.length_take]; omega
  have hL : L.take M ++ L.drop M = L := List.take_append_drop M L
  generalize L.take M = K at *
  generalize L.drop M = R at *
  subst hL
  have e1 : (K ++ R).take a = K.take a := List.take_append_of_le_length (by omega)
  have e2 : (K ++ R).drop (a + s) = K.drop (a + s) ++ R := List.drop_append_of_le_length (by omega)
  rw [e1, e2, ← List.append_assoc]
  rw [List.take_append_of_le_length (by simp only [List.length_append, List.length_take, List.length_drop]; omega), List.take_of_length_le (by simp only [List.length_append, List.length_take, List.length_drop]; omega)]
variable {α : Type} {f : α → List Value} {g : α → Value} {sz : Nat}
def numberedR (g : α → Value) : Nat → List α → List (Nat × Value)
  | _, [] => []
  | i, x :: r => (i, g x) :: numberedR g (i + 1) r
theorem fill_numR (hg : ∀ x, (g x).cells = (f x).toArray) (hf : ∀ x, (f x).length = sz) : ∀ (xs : List α) (k : Nat) (pre zs : List Value), pre.length = k * sz → zs.length = xs.length * sz → Instr.fill (fun i => some (i * sz, sz)) (pre ++ zs).toArray (numberedR g k xs) = some (pre ++ xs.flatMap f).toArray
  | [], k, pre, zs, hp, h => by
    have : zs = [] := List.eq_nil_of_length_eq_zero (by simpa using h)
    subst this; simp [numberedR, Instr.fill]
  | x :: r, k, pre, zs, hp, h => by
    have hzs : sz ≤ zs.length := by rw [h, List.length_cons, Nat.add_mul]; omega
    have ih := fill_numR hg hf r (k + 1) (pre ++ f x) (zs.drop sz) (by rw [List.length_append, hp, hf, Nat.add_mul]; omega) (by rw [List.length_drop, h, List.length_cons, Nat.add_mul]; omega)
    unfold numberedR Instr.fill
    have e := fold_set (f x) (k * sz) pre zs hp (by rw [hf]; exact hzs)
    rw [hf] at e
    have h0 : ¬ ((f x).toArray.size ≠ sz ∨ k * sz + (f x).toArray.size > (pre ++ zs).toArray.size) := by
      simp only [List.size_toArray, hf, List.length_append]; omega
    simp only [hg]
    rw [if_neg (by simpa using h0)]
    refine (congrArg (fun a => Instr.fill (fun i => some (i * sz, sz)) a (numberedR g (k + 1) r)) e).trans ?_
    rw [ih]; simp
end fill

section steps
variable {α : Type} {f : α → List Value} {g : α → Value} {sz : Nat} {P : Program} {ops : Array Oper} {Q : Exit → Act → World → Prop} {rest : List Oper} {n d : Nat} {E : Env} {op : Op} {ty T T' e : TypeId} {pos : String} {after : Array Edge} {w : World} {x y : Operand} {p a : Option Addr} {m c m' c' bytes : Nat} {xs ys : List α} {B : Nat} {F : List Nat} {i : Int}
/-- make([]T, l), T a struct -/
theorem s_maker {kl kc : IntKind} {l : Int} (z : α) (hf : ∀ x, (f x).length = sz) (hT : SliceOf P T e sz bytes) (hz : ZeroV P e (f z)) (hl : opd n E x = .int kl l) (hc : opd n E y = .int kc l) (h0 : 0 ≤ l) (hb : l * bytes ≤ 140737488355328) (hm : l ≤ 1099511627776)
    (k : ∀ p F w', Ext w w' → Own w' p l.toNat l.toNat e sz ((List.replicate l.toNat z).flatMap f) F → Fr w.heap.size F → Lt F w'.heap.size → WL P ops Q rest (mk n (upd E d (.slice p l.toNat l.toNat))) w') :
    WL P ops Q (⟨some d, .makeSlice T x y, ty, pos, after, none⟩ :: rest) (mk n E) w := by
  obtain ⟨j, rfl⟩ : ∃ j : Nat, l = j := ⟨l.toNat, by omega⟩
  have hjb : j * bytes ≤ 140737488355328 := Int.ofNat_le.1 (by rw [Int.natCast_mul]; exact hb)
  refine s_make (l := j) hT hz hl hc (by omega) (by omega) fun p F w' h1 h2 h3 h4 => ?_
  rw [made_rows hf] at h2
  exact k p F w' h1 h2 h3 h4
theorem s_bsr {l : Nat} {parts : List (Nat × Operand)} {zs : List Value} (hg : ∀ x, (g x).cells = (f x).toArray) (hf : ∀ x, (f x).length = sz) (hT : SliceOf P T e sz bytes) (hz : ZeroV P e zs) (hp : Pts n E parts (numberedR g 0 xs)) (hl : Nat.ble (l * sz) 4096 = true) (hn : Nat.ble 1 (l * sz) = true) (hxs : xs.length = l)
    (k : ∀ p F w', Ext w w' → Own w' p l l e sz (xs.flatMap f) F → Fr w.heap.size F → Lt F w'.heap.size → WL P ops Q rest (mk n (upd E d (.slice p l l))) w') :
    WL P ops Q (⟨some d, .buildSlice T l parts.toArray, ty, pos, after, none⟩ :: rest) (mk n E) w := by
  unfold Pts at hp
  have := Nat.le_of_ble_eq_true hl
  have hf2 := fill_numR hg hf xs 0 [] ((Array.range (l * sz)).map (zs.toArray[· % zs.toArray.size]!)).toList (by simp) (by simp [hxs])
  simp only [List.nil_append, Array.toArray_toList] at hf2
  exact s_bs hT hz (by omega) (by rw [hp]; exact hf2) (by rw [rows_length hf, hxs]) hn k
/-- append(s, ys...) -/
theorem s_appr {zs : List Value} (hf : ∀ x, (f x).length = sz) (h1 : ∀ x, ∀ u ∈ f x, u.oneCell' = true) (hz0 : 0 < sz) (hT : SliceOf P T e sz bytes) (hz : ZeroV P e zs) (hzl : zs.length = sz) (hx : opd n E x = .slice p m c) (hy : opd n E y = .slice a m' c') (ho : Own w p m c e sz (xs.flatMap f) F) (hs : Sl w a m' c' sz (ys.flatMap f)) (fr : Fr B F) (hB : B ≤ w.heap.size)
    (hb : (m + m') * bytes ≤ 140737488355328) (hm : m + m' ≤ 1099511627776)
    (k : ∀ p' c' F' w', Exm F w w' → Own w' p' (xs ++ ys).length c' e sz ((xs ++ ys).flatMap f) F' → (xs ++ ys).length = m + m' → Grew w F F' → Fr B F' → Lt F' w'.heap.size → WL P ops Q rest (mk n (upd E d (.slice p' (xs ++ ys).length c'))) w') :
    WL P ops Q (⟨some d, .call { callee := .builtin .append, args := [x, y].toArray, argTypes := [T, T].toArray }, ty, pos, after, none⟩ :: rest) (mk n E) w := by
  refine s_app hT ⟨_, hz, hzl⟩ hx hy ho hs (fun u hu => ?_) hb (by omega) fun p' c'' F' w' h1 h2 h3 h4 => ?_
  · obtain ⟨x, _, hx⟩ := List.mem_flatMap.1 hu
    exact h1 x u hx
  · rw [← List.flatMap_append] at h2
    have hn := h2.nr hf hz0
    rw [hn] at h2 ⊢
    exact k p' c'' F' w' h1 h2 hn.symm h3 (h3.fr fr hB) h4
/-- a whole element stored -/
theorem s_stor {dst : Option Tmp} {v : α} (hf : ∀ x, (f x).length = sz) (h1 : ∀ x, ∀ u ∈ f x, u.oneCell' = true) (hd : dst = none) (hT : Sz P T sz) (hx : opd n E x = pt (blk p) (off p + i.toNat * sz)) (hy : opd n E y = .agg (f v).toArray) (hz : 0 < sz) (hs : Own w p m c e sz (xs.flatMap f) F) (h0 : 0 ≤ i) (hi : i < xs.length)
    (k : ∀ w', Exm F w w' → w'.heap.size = w.heap.size → Own w' p m c e sz ((xs.set i.toNat v).flatMap f) F → WL P ops Q rest (mk n E) w') :
    WL P ops Q (⟨dst, .store T x y, ty, pos, after, none⟩ :: rest) (mk n E) w := by
  have hm : m = xs.length := hs.nr hf hz
  have hlen := rows_length hf xs
  have hi2 : i.toNat < xs.length := by omega
  have hmul : i.toNat * sz + sz ≤ xs.length * sz := by rw [← Nat.succ_mul]; exact Nat.mul_le_mul_right _ hi2
  obtain ⟨hp, rfl, ho⟩ := hs.some_of (by omega)
  rw [ho, Nat.zero_add] at hx
  obtain ⟨h2, h3⟩ := id hs
  rcases h3 with ⟨rfl, _⟩ | ⟨g, cur, hF, hp', hg, hnc, hcm, hcs, htake⟩
  · omega
  · have hb : blk p = g := by rw [hp']; rfl
    rw [hb] at hx
    have e1 := run_sizeOf hT w
    have hcur : i.toNat * sz + sz ≤ cur.size := by
      rw [hcs]; exact Nat.le_trans hmul (Nat.mul_le_mul_right _ (by omega))
    have e2 := run_storeCells_at P g (i.toNat * sz) e (f v) 0 cur w hg (by rw [hf]; omega) (h1 v)
    simp only [Nat.add_zero] at e2
    refine sy (w' := w.setRow g (cur.toList.take (i.toNat * sz) ++ f v ++ cur.toList.drop (i.toNat * sz + (f v).length)).toArray) (fun dst pos after g' => ?_) hd ?_
    · simp only [execOp, eval_mk, hx, hy, pt, Instr.storeAt, Instr.sureAddr, storeVar, Value.cells, Sem.run_bind, Sem.run_pure, Result.andThen_ok, e1]
      simp only [List.size_toArray, hf, ne_eq, not_true_eq_false, if_false]
      simp [e2, hf]
    · refine k _ ⟨rfl, rfl, rfl, ?_, fun j _ hj => setRow_other w g j _ (by simpa [hb] using hj)⟩ ?_ ⟨?_, .inr ⟨g, _, by rw [hb], hp', setRow_heap w g cur _ e _ hg, hnc, hcm, ?_, ?_⟩⟩
      · simp
      · simp
      · rw [rows_length hf, List.length_set]; omega
      · simp only [List.size_toArray, List.length_append, List.length_take, List.length_drop, Array.length_toList, hf]
        omega
      · rw [← flat_set hf xs i.toNat v hi2, ← htake, hf]
        exact take_splice _ _ _ _ _ (hf v) (by rw [hm]; exact hmul) (by rw [Array.length_toList, hcs]; exact Nat.mul_le_mul_right _ hnc)
/-- a field of an element stored -/
theorem s_stof {dst : Option Tmp} {k : Nat} {u : Value} [Inhabited α] (v' : α) (hf : ∀ x, (f x).length = sz) (hd : dst = none) (hT : Sz P T 1) (hx : opd n E x = pt (blk p) (off p + i.toNat * sz + k)) (hy : opd n E y = u) (hu : u.cells = #[u]) (hu1 : u.oneCell' = true) (hs : Own w p m c e sz (xs.flatMap f) F) (h0 : 0 ≤ i) (hi : i < xs.length) (hk : k < sz) (hv : (f (xs.getD i.toNat default)).set k u = f v')
    (kk : ∀ w', Exm F w w' → w'.heap.size = w.heap.size → Own w' p m c e sz ((xs.set i.toNat v').flatMap f) F → WL P ops Q rest (mk n E) w') :
    WL P ops Q (⟨dst, .store T x y, ty, pos, after, none⟩ :: rest) (mk n E) w := by
  have hlen := rows_length hf xs
  have hi2 : i.toNat < xs.length := by omega
  have hmul : i.toNat * sz + sz ≤ xs.length * sz := by rw [← Nat.succ_mul]; exact Nat.mul_le_mul_right _ hi2
  refine s_sto (j := i.toNat * sz + k) hd hT hx hy hu hu1 hs (by omega) (by omega) fun w' h2 h3 h4 => kk w' h2 h3 ?_
  have e : (xs.flatMap f).set (i.toNat * sz + k) u = (xs.set i.toNat v').flatMap f := by
    rw [← flat_set hf xs i.toNat v' hi2, ← hv]
    have hr := row_at hf xs _ _ (get_some h0 hi)
    rw [← hr]
    generalize xs.flatMap f = L at *
    apply List.ext_getElem?
    intro j
    rw [List.getElem?_set]
    have hl1 : (L.take (i.toNat * sz)).length = i.toNat * sz := by rw [List.length_take]; omega
    have hl2 : ((L.drop (i.toNat * sz)).take sz).length = sz := by rw [List.length_take, List.length_drop]; omega
    rcases Nat.lt_or_ge j (i.toNat * sz) with h | h
    · rw [if_neg (by omega), List.append_assoc, List.getElem?_append_left (by omega), List.getElem?_take, if_pos h]
    · rcases Nat.lt_or_ge j (i.toNat * sz + sz) with h5 | h5
      · rw [List.getElem?_append_left (by rw [List.length_append, hl1, List.length_set, hl2]; exact h5), List.getElem?_append_right (by omega), hl1, List.getElem?_set]
        by_cases h6 : k = j - i.toNat * sz
        · subst h6
          rw [if_pos (by omega), if_pos rfl, if_pos (by omega), if_pos (by rw [hl2]; omega)]
        · rw [if_neg (by omega), if_neg h6, List.getElem?_take, if_pos (by omega), List.getElem?_drop]
          congr 1; omega
      · rw [if_neg (by omega), List.getElem?_append_right (by rw [List.length_append, hl1, List.length_set, hl2]; exact h5), List.length_append, hl1, List.length_set, hl2, List.getElem?_drop]
        congr 1; omega
  rw [e] at h4
  exact h4
end steps
end Go.Sx

namespace Go.Sx
open Go.RowKit
theorem Sl.kp {w w' : World} {b : Nat} {p : Option Addr} {n c sz : Nat} {cells : List Value} (h : Sl w p n c sz cells) (k : Exm [b] w w') (hb : 0 < n → Ap p b) : Sl w' p n c sz cells := by
  rcases Nat.eq_zero_or_pos n with h0 | h0
  · subst h0
    have hl : cells = [] := List.eq_nil_of_length_eq_zero (by have := h.len; omega)
    subst hl
    exact ⟨h.len, h.cap, h.mx, h.nil, fun a _ j v hv => by simp at hv⟩
  · exact h.ne k (hb h0)
/-- a slice reads the same after a step that turns only blocks from B on, if its own are below -/
theorem Sl.below {w w' : World} {M : List Nat} {B : Nat} {p : Option Addr} {n c sz : Nat} {cells : List Value} (h : Sl w p n c sz cells) (k : Exm M w w') (hM : Fr B M) (hb : 0 < n → ∀ a, p = some a → a.block < B) : Sl w' p n c sz cells := by
  rcases Nat.eq_zero_or_pos n with h0 | h0
  · subst h0
    have hl : cells = [] := List.eq_nil_of_length_eq_zero (by have := h.len; omega)
    subst hl
    exact ⟨h.len, h.cap, h.mx, h.nil, fun a _ j v hv => by simp at hv⟩
  · exact h.exm k fun b e a ha he => by have := hM b e; have := hb h0 a ha; omega
/-- the block of a slice with elements lies below B -/
def Bl (p : Option Addr) (n B : Nat) : Prop := 0 < n → ∀ a, p = some a → a.block < B
def Cu (w : World) (b B T : Nat) : Prop := ∃ p c xs i hh, Bx w b [.slice p (xs : List Int).length c, .int .i64 i, .int .i64 hh] T ∧ Sl w p xs.length c 1 (bc xs) ∧ (∀ x ∈ xs, 0 ≤ x ∧ x ≤ 255) ∧ Bl p xs.length B ∧ B ≤ b ∧ (0 ≤ i ∧ i ≤ xs.length) ∧ xs.length ≤ 1048576
section
variable {w w' : World} {b b' B T : Nat}
theorem Cu.ext (h : Cu w b B T) (k : Ext w w') : Cu w' b B T := by
  obtain ⟨p, c, xs, i, hh, h1, h2, h3⟩ := h
  exact ⟨p, c, xs, i, hh, h1.ext k, h2.ext k, h3⟩
theorem Cu.exm {M : List Nat} (h : Cu w b B T) (k : Exm M w w') (hM : b ∉ M) (f : Fr B M) : Cu w' b B T := by
  obtain ⟨p, c, xs, i, hh, h1, h2, h3, h4, h5⟩ := h
  exact ⟨p, c, xs, i, hh, h1.exm k hM, h2.below k f h4, h3, h4, h5⟩
theorem Cu.ne (h : Cu w b B T) (k : Exm [b'] w w') (hb : b ≠ b' ∧ B ≤ b') : Cu w' b B T := h.exm k (by simpa using hb.1) (Fr.one hb.2)
theorem Cu.lt (h : Cu w b B T) : B ≤ b ∧ b < w.heap.size := by
  obtain ⟨p, c, xs, i, hh, h1, h2, h3, h4, h5, h6, h7⟩ := h
  exact ⟨h5, (Array.getElem?_eq_some_iff.1 h1).1⟩
end
/-- bytes as a text -/
def strOf (xs : List Int) : ByteArray := ⟨(xs.map fun x => UInt8.ofNat x.toNat).toArray⟩
theorem strOf_size (xs : List Int) : (strOf xs).size = xs.length := by simp [strOf, ByteArray.size]
theorem wrap_u8 (a : Int) : IntKind.u8.wrap a = a % 256 := by simp [IntKind.wrap, IntKind.signed, IntKind.bits]
section
variable {P : Program} {ops : Array Oper} {Q : Exit → Act → World → Prop} {rest : List Oper} {n d : Nat} {E : Env} {op : Op} {ty T T' e : TypeId} {pos : String} {after : Array Edge} {w : World} {x y : Operand} {p : Option Addr} {m c bytes : Nat} {xs : List Int}
theorem x_tostr (hs : P.underlying T = some (.slice e)) (he : P.underlying e = some (.int .u8)) (hd : P.underlying T' = some .string) (hx : opd n E x = .slice p m c) (hS : Sl w p m c 1 (bc xs)) (hr : ∀ x ∈ xs, 0 ≤ x ∧ x ≤ 255) : X P n E (.convert T T' x) ty w (.string (strOf xs)) w := by
  have hm : m = xs.length := by have := hS.len; rw [bc_length] at this; omega
  intro dst pos after g
  have key : (convert T T' (.slice p m c)).run P w = .ok (.string (strOf xs)) w := by
    cases p with
    | none =>
      obtain ⟨rfl, rfl⟩ := hS.nil rfl
      have : xs = [] := List.eq_nil_of_length_eq_zero hm.symm
      subst this
      rw [run_convert_bytes_string w T T' e none 0 0 hs he hd]; rfl
    | some a =>
      have h := run_convert_bytes_back (P := P) w T T' e a c (xs.map fun x => UInt8.ofNat x.toNat) hs he hd (fun j hj => by
        have hj' : j < xs.length := by simpa using hj
        rw [hS.cell a rfl j (.int .u8 xs[j]) (by simp [bc, hj'])]
        have h2 := hr xs[j] (List.getElem_mem hj')
        have h3 : ((UInt8.ofNat xs[j].toNat).toNat : Int) = xs[j] := by
          rw [UInt8.toNat_ofNat']; omega
        simp; omega)
      rw [List.length_map] at h
      rw [hm]; exact h
  simp [execOp, eval_mk, hx, key]
def numberedb : Nat → List Int → List (Nat × Value)
  | _, [] => []
  | i, x :: r => (i, .int .u8 x) :: numberedb (i + 1) r
theorem fill_numb : ∀ (xs : List Int) (pre zs : List Value), zs.length = xs.length → Instr.fill (fun i => some (i * 1, 1)) (pre ++ zs).toArray (numberedb pre.length xs) = some (pre ++ bc xs).toArray
  | [], pre, zs, h => by
    have : zs = [] := List.eq_nil_of_length_eq_zero h
    subst this; simp [numberedb, Instr.fill, bc]
  | x :: r, pre, [], h => by simp at h
  | x :: r, pre, z :: zs, h => by
    have ih := fill_numb r (pre ++ [(Value.int .u8 x)]) zs (by simpa using h)
    unfold numberedb Instr.fill
    have e1 : (Value.int .u8 x).cells = #[.int .u8 x] := rfl
    simp only [e1, Nat.mul_one]
    rw [if_neg (by simp)]
    have e3 : (#[(.int .u8 x : Value)].zipIdx.foldl (fun cs (c, j) => cs.setIfInBounds (pre.length + j) c) (pre ++ z :: zs).toArray) = (pre ++ [(Value.int .u8 x)] ++ zs).toArray := by
      simp
    rw [e3]
    simpa [bc] using ih
theorem s_bsb {l : Nat} {parts : List (Nat × Operand)} (hT : SliceOf P T e 1 bytes) (hz : ZeroV P e [.int .u8 0]) (hp : Pts n E parts (numberedb 0 xs)) (hl : Nat.ble l 4096 = true) (hn : Nat.ble 1 l = true) (hxs : xs.length = l)
    (k : ∀ p F w', Ext w w' → Own w' p l l e 1 (bc xs) F → Fr w.heap.size F → Lt F w'.heap.size → WL P ops Q rest (mk n (upd E d (.slice p l l))) w') :
    WL P ops Q (⟨some d, .buildSlice T l parts.toArray, ty, pos, after, none⟩ :: rest) (mk n E) w := by
  unfold Pts at hp
  have := Nat.le_of_ble_eq_true hl
  have hf := fill_numb xs [] ((Array.range (l * 1)).map (#[(.int .u8 0 : Value)][· % 1]!)).toList (by simp [hxs])
  simp only [List.nil_append, List.length_nil, Array.toArray_toList] at hf
  exact s_bs hT hz (by omega) (by rw [hp]; exact hf) (by simp [bc, hxs]) (by simpa using hn) k
theorem Own.nb {w : World} {p : Option Addr} {n c : Nat} {e : TypeId} {xs : List Int} {F : List Nat} (h : Own w p n c e 1 (bc xs) F) : n = xs.length := by
  have := h.len; rw [bc_length] at this; omega
theorem bc_one {xs : List Int} : ∀ u ∈ bc xs, u.oneCell' = true := by
  intro u hu
  simp only [bc, List.mem_map] at hu
  obtain ⟨a, _, rfl⟩ := hu
  rfl
theorem bc_append (xs ys : List Int) : bc (xs ++ ys) = bc xs ++ bc ys := by simp [bc]
variable {F : List Nat} {B : Nat} {a : Option Addr} {m' c' : Nat} {ys : List Int}
/-- append(s, ys...) of bytes -/
theorem s_appb (hT : SliceOf P T e 1 bytes) (hz : ZeroV P e [.int .u8 0]) (hx : opd n E x = .slice p m c) (hy : opd n E y = .slice a m' c') (ho : Own w p m c e 1 (bc xs) F) (hs : Sl w a m' c' 1 (bc ys)) (f : Fr B F) (hB : B ≤ w.heap.size)
    (hb : (m + m') * bytes ≤ 140737488355328) (hm : m + m' ≤ 1099511627776)
    (k : ∀ p' c' F' w', Exm F w w' → Own w' p' (xs ++ ys).length c' e 1 (bc (xs ++ ys)) F' → (xs ++ ys).length = m + m' → Grew w F F' → Fr B F' → Lt F' w'.heap.size → WL P ops Q rest (mk n (upd E d (.slice p' (xs ++ ys).length c'))) w') :
    WL P ops Q (⟨some d, .call { callee := .builtin .append, args := [x, y].toArray, argTypes := [T, T].toArray }, ty, pos, after, none⟩ :: rest) (mk n E) w := by
  refine s_app hT ⟨_, hz, rfl⟩ hx hy ho hs bc_one hb (by omega) fun p' c'' F' w' h1 h2 h3 h4 => ?_
  rw [← bc_append] at h2
  have hn := h2.nb
  rw [hn] at h2 ⊢
  exact k p' c'' F' w' h1 h2 hn.symm h3 (h3.fr f hB) h4
end
end Go.Sx

namespace Go.Sx
open Go.RowKit
section
variable {P : Program} {n : Nat} {E : Env} {ty T T' : TypeId} {x y : Operand} {w : World}
/-- fields compared one behind the other -/
def FE (P : Program) (fs : List Field) (xs ys : Array Value) (p : Prop) [Decidable p] : Prop := ∀ d w, (Op.eqFields (d + 1) xs ys fs).run P w = .ok (decide p) w
def StEq (P : Program) (T : TypeId) (xs ys : List Value) (p : Prop) [Decidable p] : Prop :=
  ∃ fs, P.underlying T = some (.struct fs) ∧ P.stoodInHeld T = false ∧ P.eqGuardType P.depth T = false ∧ FE P fs.toList xs.toArray ys.toArray p
theorem StEq.run {xs ys : List Value} {p : Prop} [Decidable p] (h : StEq P T xs ys p) (w : World) : (Op.equalIn 10000 T (.agg xs.toArray) (.agg ys.toArray)).run P w = .ok (decide p) w := by
  obtain ⟨fs, hu, h2, h3, h4⟩ := h
  have hf : P.fieldsOf T = fs := by unfold Program.fieldsOf; rw [hu]
  rw [run_equalIn_struct w 9999 T _ _ (by rw [hf]; exact hu) h2, hf]
  exact h4 9998 w
end
theorem ok_one {P : Program} {W : World} {r : Reach} {base : Nat} {t e : TypeId} {v : Value} (hu : P.underlying t = some (.slice e)) (h : Value.okWide P W r base t v) : v.cells = #[v] := by
  unfold Value.okWide at h
  rw [hu] at h
  simp only at h
  cases v with
  | agg cs => unfold Cell.okWide at h; rw [hu] at h; simp only at h; unfold Cell.ok at h; rw [hu] at h; simp_all
  | _ => rfl
end Go.Sx

namespace Go.Sx
open Go.RowKit
def erow (x : Int × Int) : List Value := [.int .i64 x.1, .int .i64 x.2]
theorem erow_len (x : Int × Int) : (erow x).length = 2 := rfl
theorem erow_one (x : Int × Int) : ∀ u ∈ erow x, u.oneCell' = true := by
  intro u hu; simp only [erow, List.mem_cons, List.not_mem_nil, or_false] at hu; rcases hu with rfl | rfl <;> rfl
def prow (x : Int × Int × Int) : List Value := [.int .i64 x.1, .int .i64 x.2.1, .int .i64 x.2.2]
theorem prow_len (x : Int × Int × Int) : (prow x).length = 3 := rfl
theorem prow_one (x : Int × Int × Int) : ∀ u ∈ prow x, u.oneCell' = true := by
  intro u hu; simp only [prow, List.mem_cons, List.not_mem_nil, or_false] at hu; rcases hu with rfl | rfl | rfl <;> rfl
/-- a slice of numbers as it lies in memory -/
structure Li where
  p : Option Addr
  xs : List Int
  c : Nat
  F : List Nat
  deriving Inhabited
def Li.zero : Li := ⟨none, [], 0, []⟩
def lrow (x : Li) : List Value := [.slice x.p x.xs.length x.c]
theorem lrow_len (x : Li) : (lrow x).length = 1 := rfl
theorem lrow_one (x : Li) : ∀ u ∈ lrow x, u.oneCell' = true := by
  intro u hu; simp only [lrow, List.mem_cons, List.not_mem_nil, or_false] at hu; subst hu; rfl
/-- a block of levels as it lies in memory -/
structure Bk where
  mode : Int
  p : Option Addr
  lv : List Int
  c : Nat
  F : List Nat
  deriving Inhabited
def Bk.zero : Bk := ⟨0, none, [], 0, []⟩
def brow (x : Bk) : List Value := [.int .i64 x.mode, .slice x.p x.lv.length x.c]
theorem brow_len (x : Bk) : (brow x).length = 2 := rfl
theorem brow_one (x : Bk) : ∀ u ∈ brow x, u.oneCell' = true := by
  intro u hu; simp only [brow, List.mem_cons, List.not_mem_nil, or_false] at hu; rcases hu with rfl | rfl <;> rfl
structure Mk where
  eight : Bool
  p : Option Addr
  bs : List Bk
  c : Nat
  F : List Nat
  deriving Inhabited
def Mk.zero : Mk := ⟨false, none, [], 0, []⟩
def mrow (x : Mk) : List Value := [.bool x.eight, .slice x.p x.bs.length x.c]
theorem mrow_len (x : Mk) : (mrow x).length = 2 := rfl
theorem mrow_one (x : Mk) : ∀ u ∈ mrow x, u.oneCell' = true := by
  intro u hu; simp only [mrow, List.mem_cons, List.not_mem_nil, or_false] at hu; rcases hu with rfl | rfl <;> rfl
theorem getD_mem {α : Type} [Inhabited α] {xs : List α} {i : Int} (h0 : 0 ≤ i) (h1 : i < xs.length) : xs.getD i.toNat default ∈ xs := List.mem_of_getElem? (get_some h0 h1)

section
variable {P : Program} {n : Nat} {E : Env} {ty T T' e : TypeId} {x y z : Operand} {v : Value} {b o : Nat} {w : World} {cs : List Value}
theorem zcallv {f : FuncId} {l : List Operand} {ts : Array TypeId} {caps : List Value} {g : Operand} (hc : Callable P f) (hg : opd n E g = .func (.func f) #[] caps.toArray) {vs : List Value} (hv : l.map (opd n E) ++ caps = vs) :
    Z P n E (.call { callee := .value g, args := l.toArray, argTypes := ts }) ty f vs := by
  intro w dst pos after g'
  subst hv
  unfold execOp
  simp only [resolve, Deferred.ofValue, eval_mk, hg, invoke, Sem.run_bind, Sem.run_pure, Result.andThen_ok, List.map_toArray]
  simp only [Array.append_eq_append, List.append_toArray, Array.empty_append]
  rw [hc]
  simp
/-- a struct inside a block that is known whole -/
theorem x_loadIn {sz : Nat} (hT : Ag P T sz) (hx : opd n E x = pt b o) (hb : Bx w b cs T') (vs : List Value) (hl : vs.length = sz) (hv : (cs.drop o).take sz = vs) : X P n E (.load T x) ty w (.agg vs.toArray) w :=
  x_loadAg hT hx vs hl fun j u hu => by
    refine hb.cell ?_
    rw [← hv, List.getElem?_take] at hu
    split at hu
    · rw [List.getElem?_drop] at hu; exact hu
    · cases hu
end
section steps
variable {P : Program} {ops : Array Oper} {Q : Exit → Act → World → Prop} {rest : List Oper} {n d : Nat} {E : Env} {ty T T' e : TypeId} {pos : String} {after : Array Edge} {w : World} {v : Value} {x y : Operand} {cs : List Value} {b o : Nat}
theorem s_storeIn {dst : Option Tmp} {vs cs' : List Value} {sz : Nat} (hd : dst = none) (hT : Sz P T sz) (hx : opd n E x = pt b o) (hy : opd n E y = .agg vs.toArray) (hb : Bx w b cs T') (hl : vs.length = sz) (hl2 : o + sz ≤ cs.length) (h1 : vs.all (·.oneCell') = true) (hcs : cs.take o ++ vs ++ cs.drop (o + sz) = cs')
    (k : ∀ w', Exm [b] w w' → w'.heap.size = w.heap.size → Bx w' b cs' T' → WL P ops Q rest (mk n E) w') :
    WL P ops Q (⟨dst, .store T x y, ty, pos, after, none⟩ :: rest) (mk n E) w := by
  subst hcs
  have e1 := run_sizeOf hT w
  have e2 := run_storeCells_at P b o T' vs 0 cs.toArray w hb (by simp; omega) (by simpa using h1)
  simp only [Nat.add_zero] at e2
  refine sy (w' := w.setRow b (cs.take o ++ vs ++ cs.drop (o + sz)).toArray) (fun dst pos after g => ?_) hd ?_
  · simp only [execOp, eval_mk, hx, hy, pt, Instr.storeAt, Instr.sureAddr, storeVar, Value.cells, Sem.run_bind, Sem.run_pure, Result.andThen_ok, e1]
    simp only [List.size_toArray, hl, ne_eq, not_true_eq_false, if_false]
    simp [e2, hl]
  · refine k _ ⟨rfl, rfl, rfl, ?_, fun j _ hj => setRow_other w b j _ (by simpa using hj)⟩ ?_ (setRow_heap w b cs.toArray _ T' _ hb)
    · simp
    · simp
end steps
theorem x_eqnil {P : Program} {n : Nat} {E : Env} {ty T T' e : TypeId} {x y : Operand} {p : Option Addr} {m c m' c' : Nat} (hT : P.underlying T = some (.slice e)) (hx : opd n E x = .slice p m c) (hy : opd n E y = .slice none m' c') : X0 P n E (.binOp .eql T x y T') ty (.bool (decide (p = none))) :=
  x_bin hx hy (fun w => by unfold eqGuard; split <;> simp) fun w => by
    have key : (Op.equalIn (9999 + 1) T (.slice p m c) (.slice none m' c')).run P w = .ok p.isNone w := by
      generalize 9999 = d
      cases p <;> simp [Op.equalIn, run_underlying hT]
    simp only [binOp]
    simp only [Op.equal, Op.maxDepth]
    cases p <;> simp at key <;> simp [key]
section cuts
variable {α : Type} {f : α → List Value} {sz : Nat} {P : Program} {n : Nat} {E : Env} {ty T e : TypeId} {x lo hi : Operand} {w w' : World} {p : Option Addr} {m c bytes : Nat} {xs : List α} {k k' : IntKind} {l h : Int}
theorem flat_drop (hf : ∀ x, (f x).length = sz) : ∀ (xs : List α) (l : Nat), (xs.flatMap f).drop (l * sz) = (xs.drop l).flatMap f
  | xs, 0 => by simp
  | [], l + 1 => by simp
  | x :: xs, l + 1 => by
    rw [List.flatMap_cons, List.drop_append, hf, List.drop_of_length_le (by rw [hf, Nat.add_mul]; omega), List.nil_append, List.drop_succ_cons, ← flat_drop hf xs l]
    congr 1
    rw [Nat.add_mul]; omega
theorem flat_take (hf : ∀ x, (f x).length = sz) : ∀ (xs : List α) (l : Nat), (xs.flatMap f).take (l * sz) = (xs.take l).flatMap f
  | xs, 0 => by simp
  | [], l + 1 => by simp
  | x :: xs, l + 1 => by
    rw [List.flatMap_cons, List.take_append, hf, List.take_of_length_le (by rw [hf, Nat.add_mul]; omega), List.take_succ_cons, List.flatMap_cons, ← flat_take hf xs l]
    congr 2
    rw [Nat.add_mul]; omega
theorem Sl.cutr {l h : Nat} (hf : ∀ x, (f x).length = sz) (hs : Sl w p m c sz (xs.flatMap f)) (hm : m = xs.length) (h1 : l ≤ h) (h2 : h ≤ m) : Sl w (cutp p c l sz) ((xs.drop l).take (h - l)).length (c - l) sz (((xs.drop l).take (h - l)).flatMap f) := by
  have h3 := hs.cut h1 h2
  rw [flat_drop hf, flat_take hf] at h3
  have e : ((xs.drop l).take (h - l)).length = h - l := by rw [List.length_take, List.length_drop]; omega
  rw [e]; exact h3
theorem x_cutr (hT : SliceOf P T e sz bytes) (hs : Sl w' p m c sz (xs.flatMap f)) (hm : m = xs.length) (hx : opd n E x = .slice p m c) (hl : opd n E lo = .int k l) (hh : opd n E hi = .int k' h) (h0 : 0 ≤ l) (h1 : l ≤ h) (h2 : h ≤ m) : X0 P n E (.slice T x (some lo) (some hi) none) ty (.slice (cutp p c l.toNat sz) ((xs.drop l.toNat).take (h.toNat - l.toNat)).length (c - l.toNat)) := by
  have e : ((xs.drop l.toNat).take (h.toNat - l.toNat)).length = h.toNat - l.toNat := by rw [List.length_take, List.length_drop]; omega
  rw [e]; exact x_cut hT hx hl hh h0 h1 h2 hs.cap
theorem x_cuthr (hT : SliceOf P T e sz bytes) (hs : Sl w' p m c sz (xs.flatMap f)) (hm : m = xs.length) (hx : opd n E x = .slice p m c) (hh : opd n E hi = .int k' h) (h0 : 0 ≤ h) (h2 : h ≤ m) : X0 P n E (.slice T x none (some hi) none) ty (.slice (cutp p c 0 sz) ((xs.drop 0).take (h.toNat - 0)).length (c - 0)) := by
  have e : ((xs.drop 0).take (h.toNat - 0)).length = h.toNat := by rw [List.length_take, List.length_drop]; omega
  rw [e, Nat.sub_zero]; exact x_cuth hT hx hh h0 h2 hs.cap
theorem x_cutl {l : Int} (hT : SliceOf P T e sz bytes) (hx : opd n E x = .slice p m c) (hl : opd n E lo = .int k l) (h0 : 0 ≤ l) (h1 : l ≤ m) (hc : m ≤ c) : X0 P n E (.slice T x (some lo) none none) ty (.slice (cutp p c l.toNat sz) (m - l.toNat) (c - l.toNat)) := by
  intro w' dst pos after g
  obtain ⟨hu, hi'⟩ := hT
  have e1 : Sz P e sz := by
    unfold Sz
    obtain ⟨j, h2, h3⟩ := Option.map_eq_some_iff.1 hi'
    simp only [Prod.mk.injEq] at h3
    rw [h2]; simp [h3.1]
  have e2 := run_sizeOf e1 w'
  simp [execOp, eval_mk, hx, hl, Instr.sliceAt, run_underlying hu, Instr.slice, Instr.sliceBounds, Instr.sliceBound, asIntOf, h0, h1, e2, cutp]
theorem x_cutlr (hT : SliceOf P T e sz bytes) (hs : Sl w' p m c sz (xs.flatMap f)) (hm : m = xs.length) (hx : opd n E x = .slice p m c) (hl : opd n E lo = .int k l) (h0 : 0 ≤ l) (h1 : l ≤ m) : X0 P n E (.slice T x (some lo) none none) ty (.slice (cutp p c l.toNat sz) ((xs.drop l.toNat).take (m - l.toNat)).length (c - l.toNat)) := by
  have e : ((xs.drop l.toNat).take (m - l.toNat)).length = m - l.toNat := by rw [List.length_take, List.length_drop]; omega
  rw [e]; exact x_cutl hT hx hl h0 h1 hs.cap
end cuts
def irow (x : Int) : List Value := [.int .i64 x]
theorem irow_len (x : Int) : (irow x).length = 1 := rfl
theorem ic_rows (xs : List Int) : ic xs = xs.flatMap irow := (flat_ic xs).symm
def urow (x : Int) : List Value := [.int .u8 x]
theorem urow_len (x : Int) : (urow x).length = 1 := rfl
theorem bc_rows (xs : List Int) : bc xs = xs.flatMap urow := (flat_bc xs).symm
theorem Sl.r {w : World} {p : Option Addr} {n c : Nat} {xs : List Int} (h : Sl w p n c 1 (ic xs)) : Sl w p n c 1 (xs.flatMap irow) := by rw [← ic_rows]; exact h
theorem Sl.rb {w : World} {p : Option Addr} {n c : Nat} {xs : List Int} (h : Sl w p n c 1 (bc xs)) : Sl w p n c 1 (xs.flatMap urow) := by rw [← bc_rows]; exact h
theorem Sl.cuti {w : World} {p : Option Addr} {m c l h : Nat} {xs : List Int} (hs : Sl w p m c 1 (ic xs)) (h1 : l ≤ h) (h2 : h ≤ m) : Sl w (cutp p c l 1) ((xs.drop l).take (h - l)).length (c - l) 1 (ic ((xs.drop l).take (h - l))) := by
  rw [ic_rows]; exact hs.r.cutr irow_len hs.n h1 h2
theorem Sl.cutb {w : World} {p : Option Addr} {m c l h : Nat} {xs : List Int} (hs : Sl w p m c 1 (bc xs)) (hm : m = xs.length) (h1 : l ≤ h) (h2 : h ≤ m) : Sl w (cutp p c l 1) ((xs.drop l).take (h - l)).length (c - l) 1 (bc ((xs.drop l).take (h - l))) := by
  rw [bc_rows]; exact hs.rb.cutr urow_len hm h1 h2
end Go.Sx

namespace Go.Sx
open Go.RowKit
/-- how elements of a kind lie in memory, and what they own -/
structure Kind (α : Type) where
  f : α → List Value
  sz : Nat
  ft : α → List Nat
  own : World → α → Prop
  hf : ∀ x, (f x).length = sz
  h1 : ∀ x, ∀ u ∈ f x, u.oneCell' = true
  hz : 0 < sz
  exm : ∀ {M : List Nat} {w w' : World} {x : α}, own w x → Exm M w w' → Dj M (ft x) → own w' x
  lt : ∀ {w : World} {x : α}, own w x → Lt (ft x) w.heap.size
  nd : ∀ {w : World} {x : α}, own w x → (ft x).Nodup
section
variable {α : Type} {K : Kind α} {w w' : World} {e : TypeId} {p : Option Addr} {xs : List α} {c : Nat} {F : List Nat}
def OwN (K : Kind α) (w : World) (e : TypeId) (p : Option Addr) (xs : List α) (c : Nat) (F : List Nat) : Prop :=
  ∃ F0, Own w p xs.length c e K.sz (xs.flatMap K.f) F0 ∧ (∀ x ∈ xs, K.own w x) ∧ F = F0 ++ xs.flatMap K.ft ∧ F.Nodup
theorem mem_ft {x : α} {b : Nat} (hx : x ∈ xs) (hb : b ∈ K.ft x) : b ∈ xs.flatMap K.ft := List.mem_flatMap.2 ⟨x, hx, hb⟩
theorem OwN.exm {M : List Nat} (h : OwN K w e p xs c F) (k : Exm M w w') (hm : Dj M F) : OwN K w' e p xs c F := by
  obtain ⟨F0, h1, h2, rfl, h4⟩ := h
  exact ⟨F0, h1.exm k fun b hb hf => hm b hb (List.mem_append_left _ hf), fun x hx => K.exm (h2 x hx) k fun b hb hf => hm b hb (List.mem_append_right _ (mem_ft hx hf)), rfl, h4⟩
theorem OwN.ext (h : OwN K w e p xs c F) (k : Ext w w') : OwN K w' e p xs c F := h.exm k dj_nil
theorem OwN.ne {b : Nat} (h : OwN K w e p xs c F) (k : Exm [b] w w') (hb : b ∉ F) : OwN K w' e p xs c F := h.exm k (dj_one hb)
theorem OwN.lt (h : OwN K w e p xs c F) : Lt F w.heap.size := by
  obtain ⟨F0, h1, h2, rfl, h4⟩ := h
  refine h1.lt.app fun b hb => ?_
  obtain ⟨x, hx, hb⟩ := List.mem_flatMap.1 hb
  exact K.lt (h2 x hx) b hb
theorem OwN.nodup (h : OwN K w e p xs c F) : F.Nodup := h.choose_spec.2.2.2
theorem OwN.sl (h : OwN K w e p xs c F) : Sl w p xs.length c K.sz (xs.flatMap K.f) := h.choose_spec.1.sl
theorem OwN.inner (h : OwN K w e p xs c F) : ∀ x ∈ xs, K.own w x := h.choose_spec.2.1
theorem OwN.mx (h : OwN K w e p xs c F) : xs.length ≤ maxLen := h.choose_spec.1.mx
theorem OwN.nil : OwN K w e none [] 0 [] := ⟨[], Own.nil, by simp, by simp, by simp⟩
theorem OwN.ofOwn (h : Own w p 0 0 e K.sz [] F) : OwN K w e p [] 0 F := ⟨F, h, by simp, by simp, h.nodup⟩
/-- elements that own nothing yet -/
theorem OwN.ofZero {z : α} {l : Nat} (h : Own w p l c e K.sz ((List.replicate l z).flatMap K.f) F) (hz : K.own w z) (hf : K.ft z = []) : OwN K w e p (List.replicate l z) c F := by
  have h0 : ((List.replicate l z).flatMap K.ft) = [] := by
    rw [List.flatMap_eq_nil_iff]; intro x hx; rw [(List.mem_replicate.1 hx).2, hf]
  refine ⟨F, by rw [List.length_replicate]; exact h, fun x hx => by rw [(List.mem_replicate.1 hx).2]; exact hz, by rw [h0, List.append_nil], h.nodup⟩
theorem nodup_app {A B : List Nat} (h : (A ++ B).Nodup) : A.Nodup ∧ B.Nodup ∧ Dj A B := by
  rw [List.nodup_append] at h
  exact ⟨h.1, h.2.1, fun b hb hb2 => h.2.2 b hb b hb2 rfl⟩
theorem nodup_of {A B : List Nat} (h1 : A.Nodup) (h2 : B.Nodup) (h : Dj A B) : (A ++ B).Nodup := by
  rw [List.nodup_append]
  exact ⟨h1, h2, fun a ha b hb e => h a ha (e ▸ hb)⟩
theorem flat_get {xs : List α} {i : Nat} {x : α} (h : xs[i]? = some x) (g : α → List Nat) : ∃ A B, xs.flatMap g = A ++ g x ++ B ∧ ∀ y, (xs.set i y).flatMap g = A ++ g y ++ B := by
  induction xs generalizing i with
  | nil => simp at h
  | cons z zs ih =>
    cases i with
    | zero =>
      simp at h; subst h
      exact ⟨[], zs.flatMap g, by simp, fun y => by simp⟩
    | succ i =>
      obtain ⟨A, B, h1, h2⟩ := ih (i := i) (by simpa using h)
      exact ⟨g z ++ A, B, by simp [h1], fun y => by simp [h2, List.append_assoc]⟩
/-- what element i owns has nothing in common with the rest -/
theorem OwN.split {i : Nat} {x : α} (h : OwN K w e p xs c F) (hx : xs[i]? = some x) (j : Nat) (y : α) (hj : xs[j]? = some y) (hij : i ≠ j) : Dj (K.ft x) (K.ft y) := by
  obtain ⟨F0, h1, h2, rfl, h4⟩ := h
  have h5 := (nodup_app h4).2.1
  clear h1 h2 h4
  induction xs generalizing i j with
  | nil => simp at hx
  | cons z zs ih =>
    rw [List.flatMap_cons] at h5
    obtain ⟨a1, a2, a3⟩ := nodup_app h5
    cases i with
    | zero =>
      simp at hx; subst hx
      cases j with
      | zero => omega
      | succ j =>
        simp at hj
        exact fun b hb hb2 => a3 b hb (mem_ft (List.mem_of_getElem? hj) hb2)
    | succ i =>
      cases j with
      | zero =>
        simp at hj hx; subst hj
        exact fun b hb hb2 => a3 b hb2 (mem_ft (List.mem_of_getElem? hx) hb)
      | succ j => exact ih (i := i) (by simpa using hx) j (by simpa using hj) (by omega) a2
theorem OwN.sub {i : Nat} {x : α} (h : OwN K w e p xs c F) (hx : xs[i]? = some x) : ∀ b ∈ K.ft x, b ∈ F := by
  obtain ⟨F0, h1, h2, rfl, h4⟩ := h
  exact fun b hb => List.mem_append_right _ (mem_ft (List.mem_of_getElem? hx) hb)
/-- what an element owns is turned, and the element still lies there as it did -/
theorem OwN.turn {i : Nat} {x x' : α} (h : OwN K w e p xs c F) (hx : xs[i]? = some x) (k : Exm (K.ft x) w w') (ho : K.own w' x') (hf : K.f x' = K.f x) (hft : K.ft x' = K.ft x) : OwN K w' e p (xs.set i x') c F := by
  have hs := h.split hx
  obtain ⟨F0, h1, h2, rfl, h4⟩ := h
  have hi : i < xs.length := (List.getElem?_eq_some_iff.1 hx).1
  obtain ⟨A, B, e1, e2⟩ := flat_get hx K.ft
  obtain ⟨n1, n2, n3⟩ := nodup_app h4
  have hfl : (xs.set i x').flatMap K.f = xs.flatMap K.f := by
    have h5 := flat_set K.hf xs i x' hi
    rw [hf] at h5
    have h6 := flat_set K.hf xs i x hi
    have h7 : xs.set i x = xs := by
      apply List.ext_getElem?
      intro j
      rw [List.getElem?_set]
      split
      · rename_i hij; subst hij; first | (rw [hx]; done) | (rw [hx]; simp [hi])
      · rfl
    rw [← h5, h6, h7]
  refine ⟨F0, ?_, ?_, ?_, ?_⟩
  · rw [List.length_set, hfl]
    exact h1.exm k fun b hb hb2 => n3 b hb2 (mem_ft (List.mem_of_getElem? hx) hb)
  · intro y hy
    obtain ⟨j, hj⟩ := List.mem_iff_getElem?.1 hy
    rw [List.getElem?_set] at hj
    split at hj
    · rename_i hij
      subst hij
      simp [hi] at hj
      subst hj; exact ho
    · rename_i hij
      exact K.exm (h2 y (List.mem_of_getElem? hj)) k (hs j y hj hij)
  · rw [e2, hft, ← e1]
  · exact h4
end
section steps
variable {α : Type} {K : Kind α} {P : Program} {ops : Array Oper} {Q : Exit → Act → World → Prop} {rest : List Oper} {n d : Nat} {E : Env} {op : Op} {ty T T' e : TypeId} {pos : String} {after : Array Edge} {w : World} {x y : Operand} {p a : Option Addr} {m c m' c' bytes : Nat} {xs : List α} {B : Nat} {F : List Nat} {i : Int}
/-- append(s, x) -/
theorem s_appN {zs : List Value} {v : α} (hT : SliceOf P T e K.sz bytes) (hz : ZeroV P e zs) (hzl : zs.length = K.sz) (hx : opd n E x = .slice p m c) (hy : opd n E y = .slice a 1 c') (hm : m = xs.length) (ho : OwN K w e p xs c F) (hs : Sl w a 1 c' K.sz ([v].flatMap K.f)) (hv : K.own w v) (hdj : Dj (K.ft v) F) (fr : Fr B F) (hB : B ≤ w.heap.size) (fv : Fr B (K.ft v))
    (hb : (m + 1) * bytes ≤ 140737488355328) (hm2 : m + 1 ≤ 1099511627776)
    (k : ∀ p' c' F' w', Exm F w w' → OwN K w' e p' (xs ++ [v]) c' F' → Grew w (F ++ K.ft v) F' → Fr B F' → Lt F' w'.heap.size → WL P ops Q rest (mk n (upd E d (.slice p' (xs ++ [v]).length c'))) w') :
    WL P ops Q (⟨some d, .call { callee := .builtin .append, args := [x, y].toArray, argTypes := [T, T].toArray }, ty, pos, after, none⟩ :: rest) (mk n E) w := by
  subst hm
  obtain ⟨F0, h1, h2, rfl, h4⟩ := id ho
  refine s_appr K.hf K.h1 K.hz hT hz hzl hx hy h1 hs (fun b hb => fr b (List.mem_append_left _ hb)) hB hb hm2 fun p' c'' F1 w' e1 e2 _ e3 e4 e5 => ?_
  obtain ⟨n1, n2, n3⟩ := nodup_app h4
  have l1 := ho.lt
  have l2 := K.lt hv
  have hx0 : ∀ y ∈ xs, K.own w' y := fun y hy => K.exm (h2 y hy) e1 fun b hb hb2 => n3 b hb (mem_ft hy hb2)
  have hv' : K.own w' v := K.exm hv e1 fun b hb hb2 => hdj b hb2 (List.mem_append_left _ hb)
  have o' : OwN K w' e p' (xs ++ [v]) c'' (F1 ++ (xs ++ [v]).flatMap K.ft) := by
    refine ⟨F1, e2, ?_, rfl, ?_⟩
    · intro y hy
      rcases List.mem_append.1 hy with h | h
      · exact hx0 y h
      · simp at h; subst h; exact hv'
    · rw [List.flatMap_append]
      refine nodup_of e2.nodup (nodup_of n2 (by simpa using K.nd hv) fun b hb hb2 => ?_) fun b hb hb2 => ?_
      · exact hdj b (by simpa using hb2) (List.mem_append_right _ hb)
      · rcases e3 b hb with h | h
        · rcases List.mem_append.1 hb2 with h' | h'
          · exact n3 b h h'
          · exact hdj b (by simpa using h') (List.mem_append_left _ h)
        · rcases List.mem_append.1 hb2 with h' | h'
          · have := l1 b (List.mem_append_right _ h'); omega
          · have := l2 b (by simpa using h'); omega
  refine k p' c'' _ w' (Exm.withinL Exm.rfl' e1 fun b hb => List.mem_append_left _ hb) o' (fun b hb => ?_) (fun b hb => ?_) o'.lt
  · simp only [List.flatMap_append, List.mem_append] at hb ⊢
    rcases hb with h | h | h
    · rcases e3 b h with h | h
      · exact .inl (.inl (.inl h))
      · exact .inr h
    · exact .inl (.inl (.inr h))
    · exact .inl (.inr (by simpa using h))
  · simp only [List.flatMap_append, List.mem_append] at hb
    rcases hb with h | h | h
    · exact e4 b h
    · exact fr b (List.mem_append_right _ h)
    · exact fv b (by simpa using h)
end steps
/-- blocks of levels -/
def Kb (TI : TypeId) : Kind Bk where
  f := brow
  sz := 2
  ft := Bk.F
  own := fun w b => Own w b.p b.lv.length b.c TI 1 (ic b.lv) b.F
  hf := brow_len
  h1 := brow_one
  hz := by decide
  exm := fun h k d => h.exm k d
  lt := fun h => h.lt
  nd := fun h => h.nodup
/-- macroblocks -/
def Km (TB TI : TypeId) : Kind Mk where
  f := mrow
  sz := 2
  ft := Mk.F
  own := fun w b => OwN (Kb TI) w TB b.p b.bs b.c b.F
  hf := mrow_len
  h1 := mrow_one
  hz := by decide
  exm := fun h k d => h.exm k d
  lt := fun h => h.lt
  nd := fun h => h.nodup
/-- rows of a matrix -/
def Kl (TI : TypeId) : Kind Li where
  f := lrow
  sz := 1
  ft := Li.F
  own := fun w b => Own w b.p b.xs.length b.c TI 1 (ic b.xs) b.F
  hf := lrow_len
  h1 := lrow_one
  hz := by decide
  exm := fun h k d => h.exm k d
  lt := fun h => h.lt
  nd := fun h => h.nodup
/-- what they say, wherever they lie -/
def Bk.pl (b : Bk) : Int × List Int := (b.mode, b.lv)
def Mk.pl (m : Mk) : Bool × List (Int × List Int) := (m.eight, m.bs.map Bk.pl)
/-- blocks that can be read -/
def RdBs (w : World) (p : Option Addr) (bs : List Bk) (c : Nat) : Prop := Sl w p bs.length c 2 (bs.flatMap brow) ∧ ∀ b ∈ bs, Sl w b.p b.lv.length b.c 1 (ic b.lv)
theorem RdBs.ext {w w' : World} {p : Option Addr} {bs : List Bk} {c : Nat} (h : RdBs w p bs c) (k : Ext w w') : RdBs w' p bs c := ⟨h.1.ext k, fun b hb => (h.2 b hb).ext k⟩
theorem OwN.rd {w : World} {TI e : TypeId} {p : Option Addr} {bs : List Bk} {c : Nat} {F : List Nat} (h : OwN (Kb TI) w e p bs c F) : RdBs w p bs c := ⟨h.sl, fun b hb => (h.inner b hb).sl⟩
def RdMs (w : World) (p : Option Addr) (ms : List Mk) (c : Nat) : Prop := Sl w p ms.length c 2 (ms.flatMap mrow) ∧ ∀ m ∈ ms, RdBs w m.p m.bs m.c
theorem RdMs.ext {w w' : World} {p : Option Addr} {ms : List Mk} {c : Nat} (h : RdMs w p ms c) (k : Ext w w') : RdMs w' p ms c := ⟨h.1.ext k, fun b hb => (h.2 b hb).ext k⟩
theorem OwN.rdm {w : World} {TB TI e : TypeId} {p : Option Addr} {ms : List Mk} {c : Nat} {F : List Nat} (h : OwN (Km TB TI) w e p ms c F) : RdMs w p ms c := ⟨h.sl, fun m hm => (h.inner m hm).rd⟩
/-- a slice that can be read, with the block that it lies in -/
def Rdf (w : World) (p : Option Addr) (n c sz : Nat) (cells : List Value) (F : List Nat) : Prop := Sl w p n c sz cells ∧ (0 < n → ∀ a, p = some a → a.block ∈ F) ∧ Lt F w.heap.size
section rdf
variable {w w' : World} {p : Option Addr} {n c sz : Nat} {cells : List Value} {F : List Nat} {e : TypeId}
theorem Rdf.exm {M : List Nat} (h : Rdf w p n c sz cells F) (k : Exm M w w') (hm : Dj M F) : Rdf w' p n c sz cells F := by
  obtain ⟨h1, h2, h3⟩ := h
  refine ⟨?_, h2, h3.mono k.size⟩
  rcases Nat.eq_zero_or_pos n with h0 | h0
  · subst h0
    have hl : cells = [] := List.eq_nil_of_length_eq_zero (by have := h1.len; omega)
    subst hl
    exact ⟨h1.len, h1.cap, h1.mx, h1.nil, fun a _ j v hv => by simp at hv⟩
  · exact h1.exm k fun b hb a ha he => hm b hb (he ▸ h2 h0 a ha)
theorem Rdf.ext (h : Rdf w p n c sz cells F) (k : Ext w w') : Rdf w' p n c sz cells F := h.exm k dj_nil
theorem Rdf.ne {b : Nat} (h : Rdf w p n c sz cells F) (k : Exm [b] w w') (hb : b ∉ F) : Rdf w' p n c sz cells F := h.exm k (dj_one hb)
theorem Rdf.lt (h : Rdf w p n c sz cells F) : Lt F w.heap.size := h.2.2
theorem Rdf.sl (h : Rdf w p n c sz cells F) : Sl w p n c sz cells := h.1
theorem Own.rdf (h : Own w p n c e sz cells F) : Rdf w p n c sz cells F := by
  refine ⟨h.sl, fun h0 a ha => ?_, h.lt⟩
  rcases h.2 with ⟨rfl, _⟩ | ⟨g, cur, rfl, rfl, _⟩
  · omega
  · cases ha; simp
theorem cutp_block {p : Option Addr} {c l sz : Nat} {a : Addr} (h : cutp p c l sz = some a) : ∃ b, p = some b ∧ b.block = a.block := by
  unfold cutp at h
  split at h
  · exact ⟨a, h, rfl⟩
  · cases p with
    | none => cases h
    | some b =>
      simp only [Option.map_some, Option.some.injEq] at h
      refine ⟨b, rfl, ?_⟩
      rw [← h]; unfold Addr.add; split <;> rfl
theorem Rdf.cuti {xs : List Int} {l k : Nat} (h : Rdf w p n c 1 (ic xs) F) (h1 : l ≤ k) (h2 : k ≤ n) : Rdf w (cutp p c l 1) ((xs.drop l).take (k - l)).length (c - l) 1 (ic ((xs.drop l).take (k - l))) F := by
  refine ⟨h.1.cuti h1 h2, fun h0 a ha => ?_, h.lt⟩
  obtain ⟨b, hb, he⟩ := cutp_block ha
  rw [List.length_take] at h0
  rw [← he]; exact h.2.1 (by omega) b hb
end rdf
theorem seven {φ : Li → Prop} {a b c d e f g : Li} (h1 : φ a) (h2 : φ b) (h3 : φ c) (h4 : φ d) (h5 : φ e) (h6 : φ f) (h7 : φ g) : ∀ x ∈ [a, b, c, d, e, f, g], φ x := by
  intro x hx
  simp only [List.mem_cons, List.not_mem_nil, or_false] at hx
  rcases hx with rfl | rfl | rfl | rfl | rfl | rfl | rfl <;> assumption
/-- a block among a law's arguments -/
def GoodB (W : World) (b : Bk) : Prop := Sl W b.p b.lv.length b.c 1 (ic b.lv) ∧ b.lv.length ≤ maxLen ∧ (-9223372036854775808 ≤ b.mode ∧ b.mode ≤ 9223372036854775807) ∧ (∀ x ∈ b.lv, -9223372036854775808 ≤ x ∧ x ≤ 9223372036854775807)
def GoodM (W : World) (m : Mk) : Prop := Sl W m.p m.bs.length m.c 2 (m.bs.flatMap brow) ∧ m.bs.length ≤ maxLen ∧ ∀ b ∈ m.bs, GoodB W b
theorem GoodM.rd {W : World} {m : Mk} (h : GoodM W m) : RdBs W m.p m.bs m.c := ⟨h.1, fun b hb => (h.2.2 b hb).1⟩
end Go.Sx

namespace Go.Sx
open Go.RowKit
section
variable {E : Env} {i1 i2 i3 i4 i5 i6 i7 i8 i9 i10 i11 i12 i13 i14 i15 : Nat} {v1 v2 v3 v4 v5 v6 v7 v8 v9 v10 v11 v12 v13 v14 v15 : Value}
theorem upd_self9 (h1 : E i1 = v1) (h2 : E i2 = v2) (h3 : E i3 = v3) (h4 : E i4 = v4) (h5 : E i5 = v5) (h6 : E i6 = v6) (h7 : E i7 = v7) (h8 : E i8 = v8) (h9 : E i9 = v9) : E = upd (upd (upd (upd (upd (upd (upd (upd (upd E i1 v1) i2 v2) i3 v3) i4 v4) i5 v5) i6 v6) i7 v7) i8 v8) i9 v9 := by rw [← upd_self8 h1 h2 h3 h4 h5 h6 h7 h8, ← upd_self h9]
theorem upd_self10 (h1 : E i1 = v1) (h2 : E i2 = v2) (h3 : E i3 = v3) (h4 : E i4 = v4) (h5 : E i5 = v5) (h6 : E i6 = v6) (h7 : E i7 = v7) (h8 : E i8 = v8) (h9 : E i9 = v9) (h10 : E i10 = v10) : E = upd (upd (upd (upd (upd (upd (upd (upd (upd (upd E i1 v1) i2 v2) i3 v3) i4 v4) i5 v5) i6 v6) i7 v7) i8 v8) i9 v9) i10 v10 := by rw [← upd_self9 h1 h2 h3 h4 h5 h6 h7 h8 h9, ← upd_self h10]
theorem upd_self11 (h1 : E i1 = v1) (h2 : E i2 = v2) (h3 : E i3 = v3) (h4 : E i4 = v4) (h5 : E i5 = v5) (h6 : E i6 = v6) (h7 : E i7 = v7) (h8 : E i8 = v8) (h9 : E i9 = v9) (h10 : E i10 = v10) (h11 : E i11 = v11) : E = upd (upd (upd (upd (upd (upd (upd (upd (upd (upd (upd E i1 v1) i2 v2) i3 v3) i4 v4) i5 v5) i6 v6) i7 v7) i8 v8) i9 v9) i10 v10) i11 v11 := by rw [← upd_self10 h1 h2 h3 h4 h5 h6 h7 h8 h9 h10, ← upd_self h11]
theorem upd_self12 (h1 : E i1 = v1) (h2 : E i2 = v2) (h3 : E i3 = v3) (h4 : E i4 = v4) (h5 : E i5 = v5) (h6 : E i6 = v6) (h7 : E i7 = v7) (h8 : E i8 = v8) (h9 : E i9 = v9) (h10 : E i10 = v10) (h11 : E i11 = v11) (h12 : E i12 = v12) : E = upd (upd (upd (upd (upd (upd (upd (upd (upd (upd (upd (upd E i1 v1) i2 v2) i3 v3) i4 v4) i5 v5) i6 v6) i7 v7) i8 v8) i9 v9) i10 v10) i11 v11) i12 v12 := by rw [← upd_self11 h1 h2 h3 h4 h5 h6 h7 h8 h9 h10 h11, ← upd_self h12]
theorem upd_self13 (h1 : E i1 = v1) (h2 : E i2 = v2) (h3 : E i3 = v3) (h4 : E i4 = v4) (h5 : E i5 = v5) (h6 : E i6 = v6) (h7 : E i7 = v7) (h8 : E i8 = v8) (h9 : E i9 = v9) (h10 : E i10 = v10) (h11 : E i11 = v11) (h12 : E i12 = v12) (h13 : E i13 = v13) : E = upd (upd (upd (upd (upd (upd (upd (upd (upd (upd (upd (upd (upd E i1 v1) i2 v2) i3 v3) i4 v4) i5 v5) i6 v6) i7 v7) i8 v8) i9 v9) i10 v10) i11 v11) i12 v12) i13 v13 := by rw [← upd_self12 h1 h2 h3 h4 h5 h6 h7 h8 h9 h10 h11 h12, ← upd_self h13]
end
theorem cutp_zero {g c : Nat} : cutp (some ⟨g, 0, none⟩) c 0 1 = some ⟨g, 0, none⟩ := by
  unfold cutp
  split
  · rfl
  · simp [Addr.add]
theorem Own.cut0 {w : World} {p : Option Addr} {n c : Nat} {e : TypeId} {cells : List Value} {F : List Nat} (h : Own w p n c e 1 cells F) : Own w (cutp p c 0 1) 0 (c - 0) e 1 (ic []) F := by
  obtain ⟨h1, h2⟩ := h
  rcases h2 with ⟨rfl, rfl, rfl, h3⟩ | ⟨g, cur, rfl, rfl, hg, hnc, hcm, hcs, htake⟩
  · exact ⟨rfl, .inl ⟨rfl, rfl, rfl, fun _ => rfl⟩⟩
  · refine ⟨rfl, .inr ⟨g, cur, rfl, cutp_zero, hg, Nat.zero_le _, hcm, hcs, by simp [ic]⟩⟩
/-- slices of numbers that can be read -/
def RdL (w : World) (p : Option Addr) (n c : Nat) (ls : List Li) : Prop := Sl w p n c 1 (ls.flatMap lrow) ∧ ∀ x ∈ ls, Sl w x.p x.xs.length x.c 1 (ic x.xs)
theorem RdL.ext {w w' : World} {p : Option Addr} {n c : Nat} {ls : List Li} (h : RdL w p n c ls) (k : Ext w w') : RdL w' p n c ls := ⟨h.1.ext k, fun x hx => (h.2 x hx).ext k⟩
section
variable {P : Program} {n : Nat} {E : Env} {ty T : TypeId} {x hi : Operand}
theorem x_makeFunc {fn : Fn} {l : List Operand} {vs : List Value} (hv : l.map (opd n E) = vs) : X0 P n E (.makeFunc fn #[] l.toArray) ty (.func fn #[] vs.toArray) := by
  intro w dst pos after g
  subst hv
  simp [execOp, eval_mk, Instr.makeFunc]
end
theorem three {α : Type} {φ : α → Prop} {a b c : α} (h1 : φ a) (h2 : φ b) (h3 : φ c) : ∀ x ∈ [a, b, c], φ x := by
  intro x hx
  simp only [List.mem_cons, List.not_mem_nil, or_false] at hx
  rcases hx with rfl | rfl | rfl <;> assumption
end Go.Sx

namespace Go.Sx
open Go.RowKit
section
variable {α : Type} [Inhabited α] {K : Kind α} {P : Program} {ops : Array Oper} {Q : Exit → Act → World → Prop} {rest : List Oper} {n d : Nat} {E : Env} {op : Op} {ty T T' e : TypeId} {pos : String} {after : Array Edge} {w : World} {x y : Operand} {p : Option Addr} {c : Nat} {xs : List α} {F : List Nat} {i : Int}
/-- a field of an element stored -/
theorem s_stofN {dst : Option Tmp} {k : Nat} {u : Value} (v' : α) (hd : dst = none) (hT : Sz P T 1) (hx : opd n E x = pt (blk p) (off p + i.toNat * K.sz + k)) (hy : opd n E y = u) (hu : u.cells = #[u]) (hu1 : u.oneCell' = true) (hs : OwN K w e p xs c F) (h0 : 0 ≤ i) (hi : i < xs.length) (hk : k < K.sz) (hv : (K.f (xs.getD i.toNat default)).set k u = K.f v') (hft : K.ft v' = K.ft (xs.getD i.toNat default)) (hown : ∀ w', K.own w' (xs.getD i.toNat default) → K.own w' v')
    (kk : ∀ w', Exm F w w' → w'.heap.size = w.heap.size → OwN K w' e p (xs.set i.toNat v') c F → WL P ops Q rest (mk n E) w') :
    WL P ops Q (⟨dst, .store T x y, ty, pos, after, none⟩ :: rest) (mk n E) w := by
  obtain ⟨F0, h1, h2, rfl, h4⟩ := id hs
  refine s_stof v' K.hf hd hT hx hy hu hu1 h1 h0 hi hk hv fun w' e1 e2 e3 => ?_
  have hi2 : i.toNat < xs.length := by omega
  have hg := get_some h0 hi
  obtain ⟨n1, n2, n3⟩ := nodup_app h4
  have hex : ∀ z ∈ xs, K.own w' z := fun z hz => K.exm (h2 z hz) e1 fun b hb hb2 => n3 b hb (mem_ft hz hb2)
  obtain ⟨A, B, f1, f2⟩ := flat_get hg K.ft
  refine kk w' (Exm.withinL Exm.rfl' e1 fun b hb => List.mem_append_left _ hb) e2 ⟨F0, by rw [List.length_set]; exact e3, ?_, by rw [f2, hft, ← f1], h4⟩
  intro z hz
  obtain ⟨j, hj⟩ := List.mem_iff_getElem?.1 hz
  rw [List.getElem?_set] at hj
  split at hj
  · rename_i hij
    simp at hj
    rw [← hj]
    exact hown w' (hex _ (List.mem_of_getElem? hg))
  · exact hex _ (List.mem_of_getElem? hj)
end
/-- a struct built with a struct of six cells at its head -/
theorem fill6 {a b c d e f g z1 z2 z3 z4 z5 z6 : Value} : Instr.fill (#[(0, 6), (6, 1)][·]?) [z1, z2, z3, z4, z5, z6, g].toArray [(0, .agg [a, b, c, d, e, f].toArray)] = some [a, b, c, d, e, f, g].toArray := by
  simp [Instr.fill, Value.cells]
theorem fr_app {B : Nat} {F G : List Nat} (h : Fr B F) (k : Fr B G) : Fr B (F ++ G) := fun b hb => (List.mem_append.1 hb).elim (h b) (k b)
theorem nin_app {b : Nat} {F G : List Nat} (h : b ∉ F) (k : b ∉ G) : b ∉ F ++ G := fun hb => (List.mem_append.1 hb).elim h k
theorem OwN.sln {α : Type} {K : Kind α} {w : World} {e : TypeId} {p : Option Addr} {xs : List α} {c m : Nat} {F : List Nat} (h : OwN K w e p xs c F) (hm : m = xs.length) : Sl w p m c K.sz (xs.flatMap K.f) := hm ▸ h.sl
theorem getD_set1 {α : Type} [Inhabited α] {xs : List α} {i : Nat} (hi : i < xs.length) (v : α) (j : Nat) : (xs.set i v).getD j default = if i = j then v else xs.getD j default := by
  simp only [List.getD_eq_getElem?_getD, List.getElem?_set]
  split
  · rfl
  · rfl
/-- a slice of slices of one's own while one element is out for growing -/
def OwH {α : Type} (K : Kind α) (w : World) (e : TypeId) (p : Option Addr) (xs : List α) (c : Nat) (F : List Nat) (r : Nat) : Prop :=
  ∃ F0, Own w p xs.length c e K.sz (xs.flatMap K.f) F0 ∧ (∀ (j : Nat) (y : α), xs[j]? = some y → r ≠ j → K.own w y) ∧ F = F0 ++ xs.flatMap K.ft ∧ F.Nodup ∧ (∀ (i j : Nat) (x y : α), xs[i]? = some x → xs[j]? = some y → i ≠ j → Dj (K.ft x) (K.ft y))
section
variable {α : Type} {K : Kind α} {w w' : World} {e : TypeId} {p : Option Addr} {xs : List α} {c r : Nat} {F : List Nat}
theorem OwH.exm {M : List Nat} (h : OwH K w e p xs c F r) (k : Exm M w w') (hm : Dj M F) : OwH K w' e p xs c F r := by
  obtain ⟨F0, h1, h2, rfl, h4, h5⟩ := h
  exact ⟨F0, h1.exm k fun b hb hf => hm b hb (List.mem_append_left _ hf), fun j y hj hr => K.exm (h2 j y hj hr) k fun b hb hf => hm b hb (List.mem_append_right _ (mem_ft (List.mem_of_getElem? hj) hf)), rfl, h4, h5⟩
theorem OwH.ext (h : OwH K w e p xs c F r) (k : Ext w w') : OwH K w' e p xs c F r := h.exm k dj_nil
theorem OwH.ne {b : Nat} (h : OwH K w e p xs c F r) (k : Exm [b] w w') (hb : b ∉ F) : OwH K w' e p xs c F r := h.exm k (dj_one hb)
theorem OwH.sl (h : OwH K w e p xs c F r) : Sl w p xs.length c K.sz (xs.flatMap K.f) := h.choose_spec.1.sl
theorem OwN.hole {x : α} (h : OwN K w e p xs c F) (hx : xs[r]? = some x) (k : Exm (K.ft x) w w') : OwH K w' e p xs c F r := by
  have hs := fun (i j : Nat) (x y : α) (hi : xs[i]? = some x) (hj : xs[j]? = some y) (hij : i ≠ j) => h.split hi j y hj hij
  obtain ⟨F0, h1, h2, rfl, h4⟩ := h
  obtain ⟨n1, n2, n3⟩ := nodup_app h4
  exact ⟨F0, h1.exm k fun b hb hb2 => n3 b hb2 (mem_ft (List.mem_of_getElem? hx) hb), fun j y hj hr => K.exm (h2 y (List.mem_of_getElem? hj)) k (hs r j x y hx hj hr), rfl, h4, hs⟩
end
section
variable {α : Type} [Inhabited α] {K : Kind α} {P : Program} {ops : Array Oper} {Q : Exit → Act → World → Prop} {rest : List Oper} {n d : Nat} {E : Env} {op : Op} {ty T T' e e0 : TypeId} {pos : String} {after : Array Edge} {w w0 : World} {x y : Operand} {p : Option Addr} {c : Nat} {F : List Nat} {i : Int} {B bytes : Nat}
/-- append to an element that is a slice of numbers -/
theorem s_appH {ls : List Li} {a : Option Addr} {m' c' : Nat} {ys : List Int} (hT : SliceOf P T e 1 bytes) (hz : ZeroV P e [.int .i64 0]) (ho : OwN (Kl e) w e0 p ls c F) (h0 : 0 ≤ i) (hi : i < ls.length) (hx : opd n E x = .slice (ls.getD i.toNat default).p (ls.getD i.toNat default).xs.length (ls.getD i.toNat default).c) (hy : opd n E y = .slice a m' c') (hs : Sl w a m' c' 1 (ic ys)) (f : Fr B F) (hB : B ≤ w.heap.size)
    (hb : ((ls.getD i.toNat default).xs.length + m') * bytes ≤ 140737488355328) (hm : (ls.getD i.toNat default).xs.length + m' ≤ 1099511627776)
    (k : ∀ p' c' F' w', Exm F w w' → OwH (Kl e) w' e0 p ls c F i.toNat → Own w' p' ((ls.getD i.toNat default).xs ++ ys).length c' e 1 (ic ((ls.getD i.toNat default).xs ++ ys)) F' → Grew w (ls.getD i.toNat default).F F' → Fr B F' → Lt F' w'.heap.size → Lt F w.heap.size → WL P ops Q rest (mk n (upd E d (.slice p' ((ls.getD i.toNat default).xs ++ ys).length c'))) w') :
    WL P ops Q (⟨some d, .call { callee := .builtin .append, args := [x, y].toArray, argTypes := [T, T].toArray }, ty, pos, after, none⟩ :: rest) (mk n E) w := by
  have hg := get_some h0 hi
  have hsub := ho.sub hg
  refine s_appi hT hz hx hy (ho.inner _ (List.mem_of_getElem? hg)) hs (fun b hb => f b (hsub b hb)) hB hb hm fun p' c'' F' w' h1 h2 h3 h4 h5 h6 => ?_
  exact k p' c'' F' w' (Exm.withinL Exm.rfl' h1 hsub) (ho.hole hg h1) h2 h4 h5 h6 ho.lt
/-- the grown element put back -/
theorem s_stoH {dst : Option Tmp} {ls : List α} {u : Value} {v : α} (hd : dst = none) (hT : Sz P T 1) (hx : opd n E x = pt (blk p) (off p + i.toNat * K.sz)) (hy : opd n E y = u) (hu : u.cells = #[u]) (hu1 : u.oneCell' = true) (hk1 : K.sz = 1) (hfv : K.f v = [u]) (hs : OwH K w e p ls c F i.toNat) (hv : K.own w v) (hg : Grew w0 (K.ft (ls.getD i.toNat default)) (K.ft v)) (hF : Lt F w0.heap.size) (h0 : 0 ≤ i) (hi : i < ls.length)
    (k : ∀ w' F', Exm F w w' → w'.heap.size = w.heap.size → OwN K w' e p (ls.set i.toNat v) c F' → (∀ b ∈ F', b ∈ F ∨ b ∈ K.ft v) → WL P ops Q rest (mk n E) w') :
    WL P ops Q (⟨dst, .store T x y, ty, pos, after, none⟩ :: rest) (mk n E) w := by
  obtain ⟨F0, h1, h2, rfl, h4, h5⟩ := id hs
  have hi2 : i.toNat < ls.length := by omega
  have hget := get_some h0 hi
  have hset : (K.f (ls.getD i.toNat default)).set 0 u = K.f v := by
    have hl := K.hf (ls.getD i.toNat default)
    rw [hk1] at hl
    match hq : K.f (ls.getD i.toNat default), hl with
    | [z], _ => rw [hfv]; rfl
  refine s_stof (k := 0) v K.hf hd hT (by rw [hx]; rfl) hy hu hu1 h1 h0 hi (by rw [hk1]; decide) hset fun w' e1 e2 e3 => ?_
  obtain ⟨A, B, f1, f2⟩ := flat_get hget K.ft
  obtain ⟨n1, n2, n3⟩ := nodup_app h4
  rw [f1] at n2 n3
  obtain ⟨n4, n5, n6⟩ := nodup_app n2
  obtain ⟨n7, n8, n9⟩ := nodup_app n4
  have hvd : ∀ b ∈ K.ft v, b ∈ F0 ++ ls.flatMap K.ft → b ∈ K.ft (ls.getD i.toNat default) := fun b hb hb2 => (hg b hb).resolve_right fun h => by have := hF b hb2; omega
  have hv' : K.own w' v := K.exm hv e1 fun b hb hb2 => by
    have h6 := hvd b hb2 (List.mem_append_left _ hb)
    exact n3 b hb (List.mem_append.2 (.inl (List.mem_append.2 (.inr h6))))
  refine k w' (F0 ++ (ls.set i.toNat v).flatMap K.ft) (Exm.withinL Exm.rfl' e1 fun b hb => List.mem_append_left _ hb) e2 ⟨F0, by rw [List.length_set]; exact e3, ?_, rfl, ?_⟩ ?_
  · intro z hz
    obtain ⟨j, hj⟩ := List.mem_iff_getElem?.1 hz
    rw [List.getElem?_set] at hj
    split at hj
    · simp at hj; rw [← hj]; exact hv'
    · rename_i hij
      exact K.exm (h2 j z hj hij) e1 fun b hb hb2 => n3 b hb (by rw [← f1]; exact mem_ft (List.mem_of_getElem? hj) hb2)
  · rw [f2]
    have hA : ∀ b ∈ K.ft v, b ∈ A → False := fun b hb hb2 => by
      have h6 := hvd b hb (by rw [f1]; simp [hb2])
      exact n9 b hb2 h6
    have hB : ∀ b ∈ K.ft v, b ∈ B → False := fun b hb hb2 => by
      have h6 := hvd b hb (by rw [f1]; simp [hb2])
      exact n6 b (List.mem_append.2 (.inr h6)) hb2
    have h0 : ∀ b ∈ K.ft v, b ∈ F0 → False := fun b hb hb2 => by
      have h6 := hvd b hb (List.mem_append_left _ hb2)
      exact n3 b hb2 (List.mem_append.2 (.inl (List.mem_append.2 (.inr h6))))
    refine nodup_of n1 (nodup_of (nodup_of n7 (K.nd hv) fun b hb hb2 => hA b hb2 hb) n5 (dj_app (fun b hb hb2 => n6 b (List.mem_append_left _ hb) hb2) fun b hb hb2 => hB b hb hb2)) (fun b hb hb2 => ?_)
    simp only [List.mem_append] at hb2
    rcases hb2 with (h | h) | h
    · exact n3 b hb (by simp [h])
    · exact h0 b h hb
    · exact n3 b hb (by simp [h])
  · intro b hb
    rcases List.mem_append.1 hb with h | h
    · exact .inl (List.mem_append_left _ h)
    · rw [f2] at h
      simp only [List.mem_append] at h
      rcases h with (h | h) | h
      · exact .inl (List.mem_append_right _ (by rw [f1]; simp [h]))
      · exact .inr h
      · exact .inl (List.mem_append_right _ (by rw [f1]; simp [h]))
end
end Go.Sx

namespace Go.Sx
open Go.RowKit
theorem Rdf.sub {w : World} {p : Option Addr} {n c sz : Nat} {cells : List Value} {F G : List Nat} (h : Rdf w p n c sz cells F) (hs : ∀ b ∈ F, b ∈ G) (hG : Lt G w.heap.size) : Rdf w p n c sz cells G := ⟨h.1, fun h0 a ha => hs _ (h.2.1 h0 a ha), hG⟩
theorem Rdf.cutg {α : Type} {w : World} {p : Option Addr} {n c sz : Nat} {F : List Nat} {f : α → List Value} {xs : List α} {l k : Nat} (hf : ∀ x, (f x).length = sz) (h : Rdf w p n c sz (xs.flatMap f) F) (hm : n = xs.length) (h1 : l ≤ k) (h2 : k ≤ n) : Rdf w (cutp p c l sz) ((xs.drop l).take (k - l)).length (c - l) sz (((xs.drop l).take (k - l)).flatMap f) F := by
  refine ⟨h.1.cutr hf hm h1 h2, fun h0 a ha => ?_, h.lt⟩
  obtain ⟨b, hb, he⟩ := cutp_block ha
  rw [List.length_take, List.length_drop] at h0
  rw [← he]; exact h.2.1 (by omega) b hb
def RdBF (w : World) (p : Option Addr) (bs : List Bk) (c : Nat) (F : List Nat) : Prop := Rdf w p bs.length c 2 (bs.flatMap brow) F ∧ ∀ b ∈ bs, Rdf w b.p b.lv.length b.c 1 (ic b.lv) F
section
variable {w w' : World} {p : Option Addr} {bs : List Bk} {c : Nat} {F : List Nat}
theorem RdBF.exm {M : List Nat} (h : RdBF w p bs c F) (k : Exm M w w') (hm : Dj M F) : RdBF w' p bs c F := ⟨h.1.exm k hm, fun b hb => (h.2 b hb).exm k hm⟩
theorem RdBF.ext (h : RdBF w p bs c F) (k : Ext w w') : RdBF w' p bs c F := h.exm k dj_nil
theorem RdBF.ne {b : Nat} (h : RdBF w p bs c F) (k : Exm [b] w w') (hb : b ∉ F) : RdBF w' p bs c F := h.exm k (dj_one hb)
theorem RdBF.lt (h : RdBF w p bs c F) : Lt F w.heap.size := h.1.lt
theorem RdBF.sl (h : RdBF w p bs c F) : Sl w p bs.length c 2 (bs.flatMap brow) := h.1.1
theorem RdBF.rd (h : RdBF w p bs c F) : RdBs w p bs c := ⟨h.1.1, fun b hb => (h.2 b hb).1⟩
theorem OwN.rdbf {T e : TypeId} (h : OwN (Kb T) w e p bs c F) : RdBF w p bs c F := by
  have hl := h.lt
  obtain ⟨F0, h1, h2, rfl, h4⟩ := h
  exact ⟨h1.rdf.sub (fun b hb => List.mem_append_left _ hb) hl, fun x hx => Rdf.sub (Own.rdf (h2 x hx)) (fun b hb => List.mem_append_right _ (mem_ft hx hb)) hl⟩
theorem RdBF.cut (h : RdBF w p bs c F) {k : Nat} (hk : k ≤ bs.length) : RdBF w (cutp p c 0 2) ((bs.drop 0).take (k - 0)) (c - 0) F :=
  ⟨h.1.cutg brow_len rfl (Nat.zero_le _) hk, fun b hb => h.2 b (List.mem_of_mem_drop (List.mem_of_mem_take hb))⟩
end
theorem pick6 {a b c d e f x : Int} (h : ∃ j : Nat, j < [a, b, c, d, e, f].length ∧ x = [a, b, c, d, e, f].getD j 0) : x = a ∨ x = b ∨ x = c ∨ x = d ∨ x = e ∨ x = f := by
  obtain ⟨j, hj, rfl⟩ := h
  match j, hj with
  | 0, _ => exact .inl rfl
  | 1, _ => exact .inr (.inl rfl)
  | 2, _ => exact .inr (.inr (.inl rfl))
  | 3, _ => exact .inr (.inr (.inr (.inl rfl)))
  | 4, _ => exact .inr (.inr (.inr (.inr (.inl rfl))))
  | 5, _ => exact .inr (.inr (.inr (.inr (.inr rfl))))
  | j + 6, h => simp at h; omega
section
variable {P : Program} {ops : Array Oper} {Q : Exit → Act → World → Prop} {rest : List Oper} {n : Nat} {E : Env} {ty T TI e : TypeId} {pos : String} {after : Array Edge} {w : World} {x y : Operand} {p : Option Addr} {c : Nat} {bs : List Bk} {F : List Nat}
theorem s_stoiB {dst : Option Tmp} {i j v : Int} (hd : dst = none) (hT : Sz P T 1) (hx : opd n E x = pt (blk (bs.getD i.toNat default).p) (off (bs.getD i.toNat default).p + j.toNat * 1)) (hy : opd n E y = .int .i64 v) (ho : OwN (Kb TI) w e p bs c F) (h0 : 0 ≤ i) (hi : i < bs.length) (j0 : 0 ≤ j) (hj : j < (bs.getD i.toNat default).lv.length)
    (k : ∀ w', Exm F w w' → w'.heap.size = w.heap.size → OwN (Kb TI) w' e p (bs.set i.toNat { (bs.getD i.toNat default) with lv := (bs.getD i.toNat default).lv.set j.toNat v }) c F → WL P ops Q rest (mk n E) w') :
    WL P ops Q (⟨dst, .store T x y, ty, pos, after, none⟩ :: rest) (mk n E) w := by
  have hg := get_some h0 hi
  have hin : Own w (bs.getD i.toNat default).p (bs.getD i.toNat default).lv.length (bs.getD i.toNat default).c TI 1 (ic (bs.getD i.toNat default).lv) (bs.getD i.toNat default).F := ho.inner _ (List.mem_of_getElem? hg)
  refine s_stoi hd hT hx hy hin j0 hj fun w' e1 e2 e3 => ?_
  refine k w' (Exm.withinL Exm.rfl' e1 (ho.sub hg)) e2 (ho.turn hg e1 ?_ ?_ rfl)
  · show Own w' (bs.getD i.toNat default).p ((bs.getD i.toNat default).lv.set j.toNat v).length (bs.getD i.toNat default).c TI 1 (ic ((bs.getD i.toNat default).lv.set j.toNat v)) (bs.getD i.toNat default).F
    rw [List.length_set]; exact e3
  · show [Value.int .i64 (bs.getD i.toNat default).mode, .slice (bs.getD i.toNat default).p ((bs.getD i.toNat default).lv.set j.toNat v).length (bs.getD i.toNat default).c] = _
    rw [List.length_set]; rfl
end
/-- macroblocks that can be read, with what they lie in -/
def RdMF (w : World) (p : Option Addr) (ms : List Mk) (c : Nat) (F : List Nat) : Prop := Rdf w p ms.length c 2 (ms.flatMap mrow) F ∧ ∀ m ∈ ms, RdBF w m.p m.bs m.c F
theorem RdBF.sub {w : World} {p : Option Addr} {bs : List Bk} {c : Nat} {F G : List Nat} (h : RdBF w p bs c F) (hs : ∀ b ∈ F, b ∈ G) (hG : Lt G w.heap.size) : RdBF w p bs c G := ⟨h.1.sub hs hG, fun b hb => (h.2 b hb).sub hs hG⟩
section
variable {w w' : World} {p : Option Addr} {ms : List Mk} {c : Nat} {F : List Nat}
theorem RdMF.exm {M : List Nat} (h : RdMF w p ms c F) (k : Exm M w w') (hm : Dj M F) : RdMF w' p ms c F := ⟨h.1.exm k hm, fun b hb => (h.2 b hb).exm k hm⟩
theorem RdMF.ext (h : RdMF w p ms c F) (k : Ext w w') : RdMF w' p ms c F := h.exm k dj_nil
theorem RdMF.ne {b : Nat} (h : RdMF w p ms c F) (k : Exm [b] w w') (hb : b ∉ F) : RdMF w' p ms c F := h.exm k (dj_one hb)
theorem RdMF.lt (h : RdMF w p ms c F) : Lt F w.heap.size := h.1.lt
theorem RdMF.sl (h : RdMF w p ms c F) : Sl w p ms.length c 2 (ms.flatMap mrow) := h.1.1
theorem RdMF.rdm (h : RdMF w p ms c F) : RdMs w p ms c := ⟨h.1.1, fun m hm => (h.2 m hm).rd⟩
theorem OwN.rdmf {T TB e : TypeId} (h : OwN (Km TB T) w e p ms c F) : RdMF w p ms c F := by
  have hl := h.lt
  obtain ⟨F0, h1, h2, rfl, h4⟩ := h
  exact ⟨h1.rdf.sub (fun b hb => List.mem_append_left _ hb) hl, fun x hx => RdBF.sub (OwN.rdbf (h2 x hx)) (fun b hb => List.mem_append_right _ (mem_ft hx hb)) hl⟩
theorem RdMF.cutl (h : RdMF w p ms c F) {l : Nat} (hl : l ≤ ms.length) : RdMF w (cutp p c l 2) ((ms.drop l).take (ms.length - l)) (c - l) F :=
  ⟨h.1.cutg mrow_len rfl hl (Nat.le_refl _), fun b hb => h.2 b (List.mem_of_mem_drop (List.mem_of_mem_take hb))⟩
end
section
variable {P : Program} {ops : Array Oper} {Q : Exit → Act → World → Prop} {rest : List Oper} {n : Nat} {E : Env} {ty T TI TB e : TypeId} {pos : String} {after : Array Edge} {w : World} {x y : Operand} {p : Option Addr} {c : Nat} {ms : List Mk} {F G : List Nat}
/-- a macroblock stored that is only read -/
theorem s_stoMX {dst : Option Tmp} {i : Int} {v : Mk} (hd : dst = none) (hT : Sz P T 2) (hx : opd n E x = pt (blk p) (off p + i.toNat * 2)) (hy : opd n E y = .agg (mrow v).toArray) (ho : OwN (Km TB TI) w e p ms c F) (hv : RdBF w v.p v.bs v.c G) (hg : Dj F G) (h0 : 0 ≤ i) (hi : i < ms.length)
    (k : ∀ w', Exm F w w' → w'.heap.size = w.heap.size → RdMF w' p (ms.set i.toNat v) c (F ++ G) → WL P ops Q rest (mk n E) w') :
    WL P ops Q (⟨dst, .store T x y, ty, pos, after, none⟩ :: rest) (mk n E) w := by
  have hlt := ho.lt
  have hgt := hv.lt
  obtain ⟨F0, h1, h2, rfl, h4⟩ := ho
  obtain ⟨n1, n2, n3⟩ := nodup_app h4
  refine s_stor (v := v) mrow_len mrow_one hd hT hx hy (by decide) h1 h0 hi fun w' e1 e2 e3 => ?_
  have hlt2 : Lt ((F0 ++ ms.flatMap (Km TB TI).ft) ++ G) w'.heap.size := fun b hb => by
    rw [e2]
    rcases List.mem_append.1 hb with h | h
    · exact hlt b h
    · exact hgt b h
  refine k w' (Exm.withinL Exm.rfl' e1 fun b hb => List.mem_append_left _ hb) e2 ⟨by rw [List.length_set]; exact Rdf.sub e3.rdf (fun b hb => List.mem_append_left _ (List.mem_append_left _ hb)) hlt2, fun m hm => ?_⟩
  rcases List.mem_or_eq_of_mem_set hm with h | h
  · have h5 : OwN (Kb TI) w TB m.p m.bs m.c m.F := h2 m h
    have hin : OwN (Kb TI) w' TB m.p m.bs m.c m.F := h5.exm e1 fun b hb hf => n3 b hb (mem_ft (K := Km TB TI) h hf)
    exact RdBF.sub hin.rdbf (fun b hb => List.mem_append_left _ (List.mem_append_right _ (mem_ft (K := Km TB TI) h hb))) hlt2
  · rw [h]
    exact RdBF.sub (hv.exm e1 fun b hb hf => hg b (List.mem_append_left _ hb) hf) (fun b hb => List.mem_append_right _ hb) hlt2
end
end Go.Sx

namespace Go.Sx
section
variable {P : Program} {n : Nat} {E : Env} {ty : TypeId} {x : Operand} {k : IntKind} {a : Int} {p : Option Addr} {m c : Nat}
theorem xmI (h : opd n E x = .int k a) : X0 P n E (.move x) ty (.int k a) := x_move h
theorem xaI (h : opd n E x = .int k a) : X0 P n E (.assign x) ty (.int k a) := x_assign h
theorem xmS (h : opd n E x = .slice p m c) : X0 P n E (.move x) ty (.slice p m c) := x_move h
theorem xaS (h : opd n E x = .slice p m c) : X0 P n E (.assign x) ty (.slice p m c) := x_assign h
end
end Go.Sx
