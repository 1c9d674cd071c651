/- A small stepping calculus over the kit's weakest preconditions: frames as functions, one lemma per operation. -/
import Derived.WalkKit
import Derived.Deep.MidRow
import Derived.Deep.Quiet
namespace Go.Sx
open Go.RowKit

abbrev Env := Nat → Value

def upd (E : Env) (i : Nat) (v : Value) : Env := fun j => bif Nat.beq j i then v else E j
def ofArgs (l : List Value) : Env := fun i => l.getD i undef
def mk (n : Nat) (E : Env) : Act := ⟨Array.ofFn (fun i : Fin n => E i), []⟩
def opd (n : Nat) (E : Env) : Operand → Value
  | .tmp t => bif Nat.blt t n then E t else undef
  | .const v => v
  | .global g => .pointer (some ⟨g, 0, none⟩)
  | .func f => .func (.func f) #[] #[]

theorem getD_mk (n : Nat) (E : Env) (t : Nat) : (mk n E).tmps.getD t undef = (bif Nat.blt t n then E t else undef) := by
  unfold mk
  by_cases h : t < n
  · have h2 : Nat.blt t n = true := by simpa using h
    rw [h2]
    simp [Array.getD, h]
  · have h2 : Nat.blt t n = false := by cases hh : Nat.blt t n with
      | false => rfl
      | true => exact absurd (by simpa using hh) h
    rw [h2]
    simp [Array.getD, h]

theorem eval_mk (n : Nat) (E : Env) : (mk n E).eval = opd n E := by
  funext x
  cases x with
  | tmp t => exact getD_mk n E t
  | const v => rfl
  | global g => rfl
  | func f => rfl

theorem put_mk (n : Nat) (E : Env) (d : Nat) (v : Value) : (mk n E).put (some d) v = mk n (upd E d v) := by
  unfold mk Act.put
  refine congrArg (Act.mk · []) ?_
  apply Array.ext
  · simp
  · intro i h1 h2
    have hi : i < n := by simpa using h2
    rw [Array.getElem_setIfInBounds (by simpa using hi), Array.getElem_ofFn]
    simp only [Array.getElem_ofFn, upd]
    by_cases h : d = i
    · subst h; simp
    · have hb : Nat.beq i d = false := by
        cases hh : Nat.beq i d with
        | false => rfl
        | true => exact absurd (Nat.eq_of_beq_eq_true hh).symm h
      rw [hb]
      simp [h]

theorem put_mk_none (n : Nat) (E : Env) (v : Value) : (mk n E).put none v = mk n E := rfl

theorem upd_self {E : Env} {i : Nat} {v : Value} (h : E i = v) : E = upd E i v := by
  funext j
  unfold upd
  cases hh : Nat.beq j i with
  | false => rfl
  | true => rw [Nat.eq_of_beq_eq_true hh, h]; rfl

theorem enter_eq (n : Nat) (l : List Value) (h : l.length ≤ n) : (⟨l.toArray ++ Array.replicate (n - l.toArray.size) undef, []⟩ : Act) = mk n (ofArgs l) := by
  unfold mk ofArgs
  congr 1
  apply Array.ext
  · simp; omega
  · intro i h1 h2
    have hi : i < n := by simpa using h2
    simp only [Array.getElem_ofFn]
    by_cases hl : i < l.length
    · rw [Array.getElem_append_left (by simpa using hl)]
      simp [List.getD, hl]
    · rw [Array.getElem_append_right (by simpa using hl)]
      simp [List.getD, hl]

/-- Enter a function. -/
theorem enter {P : Program} {f : FuncId} {fn : Func} {c : Code} {l : List Value} {w : World} {R : Ending → World → Prop} {n : Nat}
    (hf : P.funcs[f]? = some fn) (hb : fn.body = some c) (hn : fn.ntmps = n) (hl : Nat.ble l.length n = true)
    (h : c.wp P (bodyPost P fn R) (mk n (ofArgs l)) w) : Calls P f l.toArray w R := by
  refine calls_of_wp hf hb ?_
  rw [hn, enter_eq n l (Nat.le_of_ble_eq_true hl)]
  exact h

/-- the slot of operation j of a list -/
def dstAt : List Oper → Nat → Option Tmp
  | [], _ => none
  | o :: _, 0 => o.dst
  | _ :: l, j + 1 => dstAt l j
theorem dstAt_eq : ∀ (l : List Oper) (j : Nat), dstAt l j = (l[j]?).bind (·.dst)
  | [], _ => by simp [dstAt]
  | _ :: _, 0 => by simp [dstAt]
  | _ :: l, j + 1 => by simp [dstAt, dstAt_eq l j]

theorem wanted_mk (l : List Oper) (n : Nat) (E : Env) (j d : Nat) (b want : Bool) (hd : dstAt l j = some d) (hn : Nat.blt d n = true) (hv : E d = .bool b) (dst : Option Tmp) (op : Op) (ty : TypeId) (pos : String) (after : Array Edge) :
    Region.wanted ⟨dst, op, ty, pos, after, some (j, want)⟩ (yielded l.toArray (mk n E).tmps) = (b == want) := by
  have hlt : d < n := by simpa using hn
  rw [dstAt_eq] at hd
  unfold Region.wanted yielded mk
  simp [hd, hlt, hv]

theorem wanted_un (l : List Oper) (n : Nat) (E : Env) (j d : Nat) (want : Bool) (hd : dstAt l j = some d) (hn : Nat.blt d n = true) (hv : E d = undef) (dst : Option Tmp) (op : Op) (ty : TypeId) (pos : String) (after : Array Edge) :
    Region.wanted ⟨dst, op, ty, pos, after, some (j, want)⟩ (yielded l.toArray (mk n E).tmps) = false := by
  have hlt : d < n := by simpa using hn
  rw [dstAt_eq] at hd
  unfold Region.wanted yielded mk
  simp [hd, hlt, hv, undef]

/-- What an operation does in this frame and world. -/
def X (P : Program) (n : Nat) (E : Env) (op : Op) (ty : TypeId) (w : World) (v : Value) (w' : World) : Prop :=
  ∀ dst pos after g, (execOp (mk n E).eval ⟨dst, op, ty, pos, after, g⟩).run P w = .ok (.value v) w'
/-- The same in whatever world, which it leaves alone. -/
def X0 (P : Program) (n : Nat) (E : Env) (op : Op) (ty : TypeId) (v : Value) : Prop := ∀ w, X P n E op ty w v w
/-- An operation without a value. -/
def Y (P : Program) (n : Nat) (E : Env) (op : Op) (ty : TypeId) (w : World) (w' : World) : Prop :=
  ∀ dst pos after g, (execOp (mk n E).eval ⟨dst, op, ty, pos, after, g⟩).run P w = .ok .skip w'
/-- An operation that enters a function. -/
def Z (P : Program) (n : Nat) (E : Env) (op : Op) (ty : TypeId) (f : FuncId) (vs : List Value) : Prop :=
  ∀ w dst pos after g, (execOp (mk n E).eval ⟨dst, op, ty, pos, after, g⟩).run P w = .ok (.enter f vs.toArray) w

/-- the rest of a region, closed to the elaborator -/
structure WL (P : Program) (ops : Array Oper) (Q : Exit → Act → World → Prop) (l : List Oper) (a : Act) (w : World) : Prop where
  out : wpList P ops Q l a w

section steps
variable {P : Program} {ops : Array Oper} {Q : Exit → Act → World → Prop} {rest : List Oper} {n d : Nat} {E : Env} {op : Op} {ty : TypeId} {pos : String} {after : Array Edge} {w w' : World} {v : Value}

theorem st (hx : X P n E op ty w v w') (k : WL P ops Q rest (mk n (upd E d v)) w') : WL P ops Q (⟨some d, op, ty, pos, after, none⟩ :: rest) (mk n E) w := by
  refine ⟨wpList_plain rfl fun K hK => ?_⟩
  unfold Oper.wp
  rw [hx]
  simp only [Oper.upon, put_mk]
  exact hK _ _ k.out

theorem s0 (hx : X0 P n E op ty v) (k : WL P ops Q rest (mk n (upd E d v)) w) : WL P ops Q (⟨some d, op, ty, pos, after, none⟩ :: rest) (mk n E) w := st (hx w) k

theorem sy {dst : Option Tmp} (hx : Y P n E op ty w w') (hd : dst = none) (k : WL P ops Q rest (mk n E) w') : WL P ops Q (⟨dst, op, ty, pos, after, none⟩ :: rest) (mk n E) w := by
  refine ⟨wpList_plain rfl fun K hK => ?_⟩
  unfold Oper.wp
  rw [hx]
  simp only [Oper.upon, hd, put_mk_none]
  exact hK _ _ k.out

/-- a test whose outcome parts the walk -/
theorem sb {p : Prop} [Decidable p] (hx : X0 P n E op ty (.bool (decide p))) (kt : p → WL P ops Q rest (mk n (upd E d (.bool true))) w) (kf : ¬ p → WL P ops Q rest (mk n (upd E d (.bool false))) w) :
    WL P ops Q (⟨some d, op, ty, pos, after, none⟩ :: rest) (mk n E) w := by
  refine s0 hx ?_
  by_cases h : p
  · rw [decide_eq_true h]; exact kt h
  · rw [decide_eq_false h]; exact kf h

/-- the guard says yes: as without one -/
theorem gt {l : List Oper} {j dj : Nat} {want b : Bool} {dst : Option Tmp} (hd : dstAt l j = some dj) (hn : Nat.blt dj n = true) (hv : E dj = .bool b) (hb : (b == want) = true)
    (k : WL P l.toArray Q (⟨dst, op, ty, pos, after, none⟩ :: rest) (mk n E) w) : WL P l.toArray Q (⟨dst, op, ty, pos, after, some (j, want)⟩ :: rest) (mk n E) w := by
  refine ⟨?_⟩
  have k := k.out
  unfold wpList at k ⊢
  rw [wanted_mk l n E j dj b want hd hn hv, hb]
  exact k

/-- the guard says no -/
theorem gf {l : List Oper} {j dj : Nat} {want b : Bool} (hd : dstAt l j = some dj) (hn : Nat.blt dj n = true) (hv : E dj = .bool b) (hb : (b == want) = false)
    (k : WL P l.toArray Q rest (mk n (upd E d undef)) w) : WL P l.toArray Q (⟨some d, op, ty, pos, after, some (j, want)⟩ :: rest) (mk n E) w := by
  refine ⟨?_⟩
  unfold wpList
  rw [wanted_mk l n E j dj b want hd hn hv, hb, put_mk]
  exact k.out

/-- the guard itself was passed over -/
theorem gu {l : List Oper} {j dj : Nat} {want : Bool} (hd : dstAt l j = some dj) (hn : Nat.blt dj n = true) (hv : E dj = undef)
    (k : WL P l.toArray Q rest (mk n (upd E d undef)) w) : WL P l.toArray Q (⟨some d, op, ty, pos, after, some (j, want)⟩ :: rest) (mk n E) w := by
  refine ⟨?_⟩
  unfold wpList
  rw [wanted_un l n E j dj want hd hn hv, put_mk]
  exact k.out
end steps

/-- of what was there nothing has turned but the blocks M -/
structure Exm (M : List Nat) (w w' : World) : Prop where
  os : w'.os = w.os
  tape : w'.tape = w.tape
  output : w'.output = w.output
  size : w.heap.size ≤ w'.heap.size
  block : ∀ k, k < w.heap.size → k ∉ M → w'.heap[k]? = w.heap[k]?
abbrev Ext := Exm []
theorem Exm.rfl' {M : List Nat} {w : World} : Exm M w w := ⟨rfl, rfl, rfl, Nat.le_refl _, fun _ _ _ => rfl⟩
theorem Exm.tr {M : List Nat} {a b c : World} (h : Exm M a b) (k : Exm M b c) : Exm M a c :=
  ⟨k.os.trans h.os, k.tape.trans h.tape, k.output.trans h.output, Nat.le_trans h.size k.size, fun i hi hm => (k.block i (Nat.lt_of_lt_of_le hi h.size) hm).trans (h.block i hi hm)⟩
theorem Exm.up {M : List Nat} {a b : World} (h : Ext a b) : Exm M a b := ⟨h.os, h.tape, h.output, h.size, fun i hi _ => h.block i hi (by simp)⟩
/-- a step that turns block b, which was not there at the start -/
theorem Exm.fresh {M : List Nat} {b : Nat} {w0 w w' : World} (h : Exm M w0 w) (k : Exm [b] w w') (hb : w0.heap.size ≤ b) : Exm M w0 w' :=
  ⟨k.os.trans h.os, k.tape.trans h.tape, k.output.trans h.output, Nat.le_trans h.size k.size, fun i hi hm => (k.block i (Nat.lt_of_lt_of_le hi h.size) (by simp; omega)).trans (h.block i hi hm)⟩
/-- a step that turns a block of M -/
theorem Exm.within {M : List Nat} {b : Nat} {w0 w w' : World} (h : Exm M w0 w) (k : Exm [b] w w') (hb : b ∈ M) : Exm M w0 w' :=
  ⟨k.os.trans h.os, k.tape.trans h.tape, k.output.trans h.output, Nat.le_trans h.size k.size, fun i hi hm => (k.block i (Nat.lt_of_lt_of_le hi h.size) (by simp; exact fun e => hm (e ▸ hb))).trans (h.block i hi hm)⟩
theorem Exm.alloc {M : List Nat} (w : World) (o : Obj) : Exm M w (w.alloc o) := ⟨rfl, rfl, rfl, by simp, fun k hk _ => Below.heap_alloc w o k hk⟩
theorem Exm.drew {M : List Nat} (w : World) : Exm M w w.drew := ⟨rfl, rfl, rfl, Nat.le_refl _, fun _ _ _ => rfl⟩
theorem Exm.below {w w' : World} (h : Ext w w') : Below w.heap.size w w' := ⟨h.os, h.tape, h.output, h.size, fun k hk => h.block k hk (by simp)⟩
theorem Exm.of_below {w w' : World} (h : Below w.heap.size w w') : Ext w w' := ⟨h.os, h.tape, h.output, h.size, fun k hk _ => h.block k hk⟩
theorem Exm.of_grown {w w' : World} {b : Nat} (h : w.grownBy w' (some b)) : Exm [b] w w' := ⟨h.os, h.tape, h.output, h.size, fun k hk hn => h.block k hk (by simpa using hn)⟩
theorem Exm.of_grown0 {w w' : World} (h : w.grownBy w' none) : Ext w w' := ⟨h.os, h.tape, h.output, h.size, fun k hk _ => h.block k hk (by simp)⟩

def Ret (w : World) (v : Value) : Ending → World → Prop := fun e w' => e = .returned v ∧ Ext w w'
def RetP (w : World) (φ : Value → World → Prop) : Ending → World → Prop := fun e w' => ∃ v, e = .returned v ∧ Ext w w' ∧ φ v w'

section calls
variable {P : Program} {ops : Array Oper} {Q : Exit → Act → World → Prop} {rest : List Oper} {n d : Nat} {E : Env} {op : Op} {ty : TypeId} {pos : String} {after : Array Edge} {w : World} {v : Value} {f : FuncId} {vs : List Value}

/-- a call by its contract -/
theorem sc {R : Ending → World → Prop} (hz : Z P n E op ty f vs) (hc : Calls P f vs.toArray w R) (hr : ∀ e w', R e w' → ∃ v, e = .returned v)
    (k : ∀ v w', R (.returned v) w' → WL P ops Q rest (mk n (upd E d v)) w') : WL P ops Q (⟨some d, op, ty, pos, after, none⟩ :: rest) (mk n E) w := by
  refine ⟨wpList_plain rfl fun K hK => ?_⟩
  unfold Oper.wp
  rw [hz]
  simp only [Oper.upon, put_mk]
  refine hc.mono fun e w' h => ?_
  obtain ⟨v, rfl⟩ := hr e w' h
  exact hK _ _ (k v w' h).out

theorem sr (hz : Z P n E op ty f vs) (hc : Calls P f vs.toArray w (Ret w v)) (k : ∀ w', Ext w w' → WL P ops Q rest (mk n (upd E d v)) w') :
    WL P ops Q (⟨some d, op, ty, pos, after, none⟩ :: rest) (mk n E) w :=
  sc hz hc (fun _ _ h => ⟨v, h.1⟩) fun v' w' h => by
    obtain ⟨h1, h2⟩ := h
    cases h1
    exact k w' h2

theorem srb {p : Prop} [Decidable p] (hz : Z P n E op ty f vs) (hc : Calls P f vs.toArray w (Ret w (.bool (decide p)))) (kt : p → ∀ w', Ext w w' → WL P ops Q rest (mk n (upd E d (.bool true))) w')
    (kf : ¬ p → ∀ w', Ext w w' → WL P ops Q rest (mk n (upd E d (.bool false))) w') :
    WL P ops Q (⟨some d, op, ty, pos, after, none⟩ :: rest) (mk n E) w := by
  refine sr hz hc fun w' hw => ?_
  by_cases h : p
  · rw [decide_eq_true h]; exact kt h w' hw
  · rw [decide_eq_false h]; exact kf h w' hw

theorem sp {φ : Value → World → Prop} (hz : Z P n E op ty f vs) (hc : Calls P f vs.toArray w (RetP w φ)) (k : ∀ v w', Ext w w' → φ v w' → WL P ops Q rest (mk n (upd E d v)) w') :
    WL P ops Q (⟨some d, op, ty, pos, after, none⟩ :: rest) (mk n E) w :=
  sc hz hc (fun _ _ h => ⟨h.choose, h.choose_spec.1⟩) fun v' w' h => by
    obtain ⟨v, h1, h2, h3⟩ := h
    cases h1
    exact k v' w' h2 h3
end calls

/-- function f is there, and is entered when it is called -/
def Callable (P : Program) (f : FuncId) : Prop := ∀ args w, (callFunc f args).run P w = .ok (.enter f args) w
theorem callable {P : Program} {f : FuncId} {fn : Func} (hf : P.funcs[f]? = some fn) (hn : (fn.name == "runtime.NumGoroutine") = false) (hb : fn.body.isNone = false) : Callable P f := by
  intro args w
  unfold callFunc
  simp only [Sem.run_bind, run_program, Result.andThen_ok, hf, hn, hb, Bool.false_eq_true, if_false, Sem.run_pure]

theorem zcall {P : Program} {n : Nat} {E : Env} {ty : TypeId} {f : FuncId} {l : List Operand} {ts : Array TypeId} (hc : Callable P f) {vs : List Value} (hv : l.map (opd n E) = vs) :
    Z P n E (.call { callee := .value (.func f), args := l.toArray, argTypes := ts }) ty f vs := by
  intro w dst pos after g
  subst hv
  unfold execOp
  simp only [resolve, Deferred.ofValue, eval_mk, opd, invoke, Sem.run_bind, Sem.run_pure, Result.andThen_ok, List.map_toArray]
  rw [hc]
  simp

section code
variable {P : Program} {Q Q' : Exit → Act → World → Prop} {n : Nat} {E : Env} {w : World} {x y c : Code} {a : Act}
theorem c_reg {id : Nat} {l : List Oper} (h : WL P l.toArray Q l a w) : (Code.region id l.toArray false).wp P Q a w := wp_region_lit h.out
theorem c_end {ops : Array Oper} (h : Q .normal a w) : WL P ops Q [] a w := ⟨h⟩
theorem c_skipn (h : Q .normal a w) : Code.skip.wp P Q a w := wp_skip h
theorem n_then {N : Act → World → Prop} (h : N a w) : Exit.then N Q .normal a w := h
theorem n_block {id : Nat} (h : Q .normal a w) : Exit.inBlock id Q .normal a w := h
theorem r_then {N : Act → World → Prop} (h : Q .ret a w) : Exit.then N Q .ret a w := h
theorem r_block {id : Nat} (h : Q .ret a w) : Exit.inBlock id Q .ret a w := h
theorem e_then {N : Act → World → Prop} {i : Nat} (h : Q (.exit i) a w) : Exit.then N Q (.exit i) a w := h
theorem e_here {i : Nat} (h : Q .normal a w) : Exit.inBlock i Q (.exit i) a w := by simpa [Exit.inBlock] using h
theorem c_true {t : Operand} (hc : opd n E t = .bool true) (h : x.wp P Q (mk n E) w) : (Code.cond t x y).wp P Q (mk n E) w := wp_cond_true (by rw [eval_mk]; exact hc) h
theorem c_false {t : Operand} (hc : opd n E t = .bool false) (h : y.wp P Q (mk n E) w) : (Code.cond t x y).wp P Q (mk n E) w := wp_cond_false (by rw [eval_mk]; exact hc) h
/-- cut a sequence: what holds between its halves -/
theorem c_mid (M : Env → World → Prop) (hx : x.wp P (Exit.then (fun a w => ∃ E, a = mk n E ∧ M E w) Q) (mk n E) w) (hy : ∀ E w, M E w → y.wp P Q (mk n E) w) : (Code.seq x y).wp P Q (mk n E) w := by
  refine wp_seq (wp_mono hx ?_)
  intro e a w h
  cases e with
  | normal => obtain ⟨E, rfl, hm⟩ := h; exact hy E w hm
  | _ => exact h

/-- a loop, with a ghost -/
theorem c_loop {γ : Type} (μ : γ → Nat) (I : γ → Env → World → Prop) (g0 : γ) (h0 : I g0 E w)
    (round : ∀ g E w, I g E w → c.wp P (Exit.then (fun a' w' => ∃ g' E', a' = mk n E' ∧ μ g' < μ g ∧ I g' E' w') Q) (mk n E) w) : (Code.loop c).wp P Q (mk n E) w := by
  intro b k cs
  have key : ∀ m g E w, μ g = m → I g E w → ∃ e a' w', Q e a' w' ∧ Arrives P (lone (b.at (mk n E) (.code c :: .inLoop c :: k)) cs w) b k cs e a' w' := by
    intro m
    induction m using Nat.strongRecOn with
    | _ m ih =>
      intro g E w hm hI
      obtain ⟨e, a₁, w₁, hq, harr⟩ := round g E w hI b (.inLoop c :: k) cs
      cases e with
      | normal =>
        obtain ⟨g', E', rfl, hlt, hI'⟩ := hq
        obtain ⟨e₂, a₂, w₂, hq₂, harr₂⟩ := ih (μ g') (hm ▸ hlt) g' E' w₁ rfl hI'
        exact ⟨e₂, a₂, w₂, hq₂, .of_steps (Steps.trans harr (.one step_inLoop)) harr₂⟩
      | exit id => exact ⟨_, a₁, w₁, hq, .pass (x := .inLoop c) rfl (fun _ _ => .inl (by simp)) harr⟩
      | goto l => exact ⟨_, a₁, w₁, hq, .pass (x := .inLoop c) rfl (fun _ _ => .inl (by simp)) harr⟩
      | ret => exact ⟨_, a₁, w₁, hq, .pass (x := .inLoop c) rfl (fun _ _ => .inl (by simp)) harr⟩
      | panic ch => exact ⟨_, a₁, w₁, hq, .pass (x := .inLoop c) rfl (fun _ _ => .inl (by simp)) harr⟩
      | outgrown => exact ⟨_, a₁, w₁, hq, .pass (x := .inLoop c) rfl (fun _ _ => .inl (by simp)) harr⟩
  obtain ⟨e, a', w', hq, harr⟩ := key _ g0 E w rfl h0
  exact ⟨e, a', w', hq, .of_steps (.one step_loop) harr⟩

theorem c_round {γ : Type} {μ : γ → Nat} {I : γ → Env → World → Prop} {g g' : γ} (hμ : μ g' < μ g) (hI : I g' E w) :
    Exit.then (fun a' w' => ∃ g' E', a' = mk n E' ∧ μ g' < μ g ∧ I g' E' w') Q .normal (mk n E) w := ⟨g', E, rfl, hμ, hI⟩
end code

section finish
variable {P : Program} {fn : Func} {R : Ending → World → Prop} {n : Nat} {E : Env} {w : World} {v : Value}
theorem f_ret {t : Nat} (hr : fn.results = #[.tmp t]) (hv : opd n E (.tmp t) = v) (h : R (.returned v) w) : bodyPost P fn R .ret (mk n E) w := by
  refine bodyPost_ret (results_tmp hr _ _ _) rfl ?_
  rw [getD_mk]; subst hv; exact h
theorem f_end0 (hr : fn.results = #[]) (h : R (.returned (.tuple #[])) w) : bodyPost P fn R .normal (mk n E) w :=
  bodyPost_end (results_none hr _ _ _) rfl h
end finish
end Go.Sx
