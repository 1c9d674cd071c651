/- Rows of structs by their shape; calls of function values; parts of structs in memory. -/
import Derived.Test.YtglepnbcplldeaaSxC
namespace Go.Sx
open Go.RowKit
def erow (x : Int × Int) : List Value := [.int .i64 x.1, .int .i64 x.2]
theorem erow_len (x : Int × Int) : (erow x).length = 2 := rfl
theorem erow_one (x : Int × Int) : ∀ u ∈ erow x, u.oneCell' = true := by
  intro u hu; simp only [erow, List.mem_cons, List.not_mem_nil, or_false] at hu; rcases hu with rfl | rfl <;> rfl
def prow (x : Int × Int × Int) : List Value := [.int .i64 x.1, .int .i64 x.2.1, .int .i64 x.2.2]
theorem prow_len (x : Int × Int × Int) : (prow x).length = 3 := rfl
theorem prow_one (x : Int × Int × Int) : ∀ u ∈ prow x, u.oneCell' = true := by
  intro u hu; simp only [prow, List.mem_cons, List.not_mem_nil, or_false] at hu; rcases hu with rfl | rfl | rfl <;> rfl
/-- a slice of numbers as it lies in memory -/
structure Li where
  p : Option Addr
  xs : List Int
  c : Nat
  F : List Nat
  deriving Inhabited
def Li.zero : Li := ⟨none, [], 0, []⟩
def lrow (x : Li) : List Value := [.slice x.p x.xs.length x.c]
theorem lrow_len (x : Li) : (lrow x).length = 1 := rfl
theorem lrow_one (x : Li) : ∀ u ∈ lrow x, u.oneCell' = true := by
  intro u hu; simp only [lrow, List.mem_cons, List.not_mem_nil, or_false] at hu; subst hu; rfl
/-- a block of levels as it lies in memory -/
structure Bk where
  mode : Int
  p : Option Addr
  lv : List Int
  c : Nat
  F : List Nat
  deriving Inhabited
def Bk.zero : Bk := ⟨0, none, [], 0, []⟩
def brow (x : Bk) : List Value := [.int .i64 x.mode, .slice x.p x.lv.length x.c]
theorem brow_len (x : Bk) : (brow x).length = 2 := rfl
theorem brow_one (x : Bk) : ∀ u ∈ brow x, u.oneCell' = true := by
  intro u hu; simp only [brow, List.mem_cons, List.not_mem_nil, or_false] at hu; rcases hu with rfl | rfl <;> rfl
structure Mk where
  eight : Bool
  p : Option Addr
  bs : List Bk
  c : Nat
  F : List Nat
  deriving Inhabited
def Mk.zero : Mk := ⟨false, none, [], 0, []⟩
def mrow (x : Mk) : List Value := [.bool x.eight, .slice x.p x.bs.length x.c]
theorem mrow_len (x : Mk) : (mrow x).length = 2 := rfl
theorem mrow_one (x : Mk) : ∀ u ∈ mrow x, u.oneCell' = true := by
  intro u hu; simp only [mrow, List.mem_cons, List.not_mem_nil, or_false] at hu; rcases hu with rfl | rfl <;> rfl
theorem getD_mem {α : Type} [Inhabited α] {xs : List α} {i : Int} (h0 : 0 ≤ i) (h1 : i < xs.length) : xs.getD i.toNat default ∈ xs := List.mem_of_getElem? (get_some h0 h1)

section
variable {P : Program} {n : Nat} {E : Env} {ty T T' e : TypeId} {x y z : Operand} {v : Value} {b o : Nat} {w : World} {cs : List Value}
theorem zcallv {f : FuncId} {l : List Operand} {ts : Array TypeId} {caps : List Value} {g : Operand} (hc : Callable P f) (hg : opd n E g = .func (.func f) #[] caps.toArray) {vs : List Value} (hv : l.map (opd n E) ++ caps = vs) :
    Z P n E (.call { callee := .value g, args := l.toArray, argTypes := ts }) ty f vs := by
  intro w dst pos after g'
  subst hv
  unfold execOp
  simp only [resolve, Deferred.ofValue, eval_mk, hg, invoke, Sem.run_bind, Sem.run_pure, Result.andThen_ok, List.map_toArray]
  simp only [Array.append_eq_append, List.append_toArray, Array.empty_append]
  rw [hc]
  simp
/-- a field of a struct that is at hand -/
def FieldV (P : Program) (T : TypeId) (i off : Nat) (ft : TypeId) : Prop := ∃ fs f, P.underlying T = some (.struct fs) ∧ fs[i]? = some f ∧ f.offset = off ∧ f.type = ft
theorem x_field {i off : Nat} {cs : List Value} {ft : TypeId} (hS : FieldV P T i off ft) (hT : Sc P ft) (hx : opd n E x = .agg cs.toArray) (hv : cs[off]? = some v) : X0 P n E (.field T x i) ty v := by
  intro w dst pos after g
  obtain ⟨fs, f, h1, h2, rfl, rfl⟩ := hS
  have e := part_sc (xs := cs.toArray) (w := w) hT (by simpa using hv)
  simp [execOp, eval_mk, hx, Instr.field, run_underlying h1, h2, asAgg, e]
/-- a struct inside a block that is known whole -/
theorem x_loadIn {sz : Nat} (hT : Ag P T sz) (hx : opd n E x = pt b o) (hb : Bx w b cs T') (vs : List Value) (hl : vs.length = sz) (hv : (cs.drop o).take sz = vs) : X P n E (.load T x) ty w (.agg vs.toArray) w :=
  x_loadAg hT hx vs hl fun j u hu => by
    refine hb.cell ?_
    rw [← hv, List.getElem?_take] at hu
    split at hu
    · rw [List.getElem?_drop] at hu; exact hu
    · cases hu
end
section steps
variable {P : Program} {ops : Array Oper} {Q : Exit → Act → World → Prop} {rest : List Oper} {n d : Nat} {E : Env} {ty T T' e : TypeId} {pos : String} {after : Array Edge} {w : World} {v : Value} {x y : Operand} {cs : List Value} {b o : Nat}
theorem s_storeIn {dst : Option Tmp} {vs cs' : List Value} {sz : Nat} (hd : dst = none) (hT : Sz P T sz) (hx : opd n E x = pt b o) (hy : opd n E y = .agg vs.toArray) (hb : Bx w b cs T') (hl : vs.length = sz) (hl2 : o + sz ≤ cs.length) (h1 : vs.all (·.oneCell') = true) (hcs : cs.take o ++ vs ++ cs.drop (o + sz) = cs')
    (k : ∀ w', Exm [b] w w' → w'.heap.size = w.heap.size → Bx w' b cs' T' → WL P ops Q rest (mk n E) w') :
    WL P ops Q (⟨dst, .store T x y, ty, pos, after, none⟩ :: rest) (mk n E) w := by
  subst hcs
  have e1 := run_sizeOf hT w
  have e2 := run_storeCells_at P b o T' vs 0 cs.toArray w hb (by simp; omega) (by simpa using h1)
  simp only [Nat.add_zero] at e2
  refine sy (w' := w.setRow b (cs.take o ++ vs ++ cs.drop (o + sz)).toArray) (fun dst pos after g => ?_) hd ?_
  · simp only [execOp, eval_mk, hx, hy, pt, Instr.storeAt, Instr.sureAddr, storeVar, Value.cells, Sem.run_bind, Sem.run_pure, Result.andThen_ok, e1]
    simp only [List.size_toArray, hl, ne_eq, not_true_eq_false, if_false]
    simp [e2, hl]
  · refine k _ ⟨rfl, rfl, rfl, ?_, fun j _ hj => setRow_other w b j _ (by simpa using hj)⟩ ?_ (setRow_heap w b cs.toArray _ T' _ hb)
    · simp
    · simp
end steps
end Go.Sx
