/- Memory: boxes, slices, loads, stores. -/
import Derived.Test.YtepnknffaecbdaaVSx3
import Derived.Laws.MakeOwn
namespace Go.Sx
open Go.RowKit

def pt (b o : Nat) : Value := .pointer (some ⟨b, o, none⟩)

/-- block b holds these cells -/
def Bx (w : World) (b : Nat) (cs : List Value) (T : TypeId) : Prop := w.heap[b]? = some (.cells cs.toArray T (0, 0))
theorem Bx.lt {w : World} {b : Nat} {cs : List Value} {T : TypeId} (h : Bx w b cs T) : b < w.heap.size := (Array.getElem?_eq_some_iff.1 h).1
theorem Bx.exm {M : List Nat} {w w' : World} {b : Nat} {cs : List Value} {T : TypeId} (h : Bx w b cs T) (k : Exm M w w') (hb : b ∉ M) : Bx w' b cs T := (k.block b h.lt hb).trans h
theorem Bx.ext {w w' : World} {b : Nat} {cs : List Value} {T : TypeId} (h : Bx w b cs T) (k : Ext w w') : Bx w' b cs T := h.exm k (by simp)
theorem Bx.ne {w w' : World} {b b' : Nat} {cs : List Value} {T : TypeId} (h : Bx w b cs T) (k : Exm [b'] w w') (hb : b ≠ b') : Bx w' b cs T := h.exm k (by simpa using hb)
theorem Bx.cell {w : World} {b o : Nat} {cs : List Value} {T : TypeId} {v : Value} (h : Bx w b cs T) (hv : cs[o]? = some v) : w.cell? ⟨b, o, none⟩ = some v := by
  rw [cell_of_row w b o cs.toArray T (0, 0) h]; simpa using hv
theorem Bx.frozen {w : World} {b o : Nat} {cs : List Value} {T : TypeId} (h : Bx w b cs T) : w.frozen? ⟨b, o, none⟩ = false := by
  unfold Bx at h
  simp [World.frozen?, h]

/-- facts on types -/
def Sc (P : Program) (T : TypeId) : Prop := ∃ d, P.underlying T = some d ∧ (match d with | .struct _ | .array _ _ => False | _ => True)
def Ag (P : Program) (T : TypeId) (sz : Nat) : Prop := (∃ fs, P.underlying T = some (.struct fs)) ∧ (P.info? T).map (·.size) = some sz
def Sz (P : Program) (T : TypeId) (sz : Nat) : Prop := (P.info? T).map (·.size) = some sz
def ZeroV (P : Program) (T : TypeId) (cs : List Value) : Prop := ((P.info? T).bind (·.zero)).map (·.cells) = some cs.toArray
def FieldAt (P : Program) (T : TypeId) (i off : Nat) : Prop := ∃ fs f, P.underlying T = some (.struct fs) ∧ fs[i]? = some f ∧ f.offset = off ∧ ∃ k, Sz P f.type (k + 1)
def SliceOf (P : Program) (T e : TypeId) (sz bytes : Nat) : Prop := P.underlying T = some (.slice e) ∧ (P.info? e).map (fun i => (i.size, i.bytes)) = some (sz, bytes)

section
variable {P : Program} {n : Nat} {E : Env} {ty T T' : TypeId} {x y z : Operand} {v : Value} {b o : Nat} {w : World} {cs : List Value}

theorem run_isAgg_sc (h : Sc P T) (w : World) : (isAgg T).run P w = .ok false w := by
  obtain ⟨d, h1, h2⟩ := h
  unfold isAgg
  rw [Sem.run_bind, run_underlying h1]
  cases d <;> simp at h2 ⊢
theorem run_isAgg_ag {sz : Nat} (h : Ag P T sz) (w : World) : (isAgg T).run P w = .ok true w := by
  obtain ⟨⟨fs, h1⟩, h2⟩ := h
  unfold isAgg
  rw [Sem.run_bind, run_underlying h1]
  simp
theorem run_sizeOf {sz : Nat} (h : Sz P T sz) (w : World) : (sizeOf T).run P w = .ok sz w := by
  unfold Sz at h
  obtain ⟨i, h1, h2⟩ := Option.map_eq_some_iff.1 h
  simp [sizeOf, typeInfo, h1, h2]

theorem x_load (hT : Sc P T) (hx : opd n E x = pt b o) (hc : w.cell? ⟨b, o, none⟩ = some v) : X P n E (.load T x) ty w v w := by
  intro dst pos after g
  simp [execOp, eval_mk, hx, pt, Instr.loadAt, Instr.sureAddr, loadVar, run_isAgg_sc hT, hc]
theorem x_loadB (hT : Sc P T) (hx : opd n E x = pt b o) (hb : Bx w b cs T') (hv : cs[o]? = some v) : X P n E (.load T x) ty w v w := x_load hT hx (hb.cell hv)
theorem x_loadAg {sz : Nat} (hT : Ag P T sz) (hx : opd n E x = pt b o) (vs : List Value) (hl : vs.length = sz) (hc : ∀ j u, vs[j]? = some u → w.cell? ⟨b, o + j, none⟩ = some u) : X P n E (.load T x) ty w (.agg vs.toArray) w := by
  intro dst pos after g
  have h1 := run_sizeOf (P := P) (T := T) (sz := sz) hT.2 w
  have h2 := run_loadCells_list (P := P) (w := w) ⟨b, o, none⟩ vs (fun j u hu => by rw [Addr.add_lit]; exact hc j u hu)
  rw [hl] at h2
  simp [execOp, eval_mk, hx, pt, Instr.loadAt, Instr.sureAddr, loadVar, run_isAgg_ag hT, h1, h2]
theorem x_loadAgB {sz : Nat} (hT : Ag P T sz) (hx : opd n E x = pt b 0) (hb : Bx w b cs T') (hl : cs.length = sz) : X P n E (.load T x) ty w (.agg cs.toArray) w :=
  x_loadAg hT hx cs hl fun j u hu => by rw [Nat.zero_add]; exact hb.cell hu

theorem x_fieldAddr {i off : Nat} (hS : FieldAt P T i off) (hx : opd n E x = pt b o) : X0 P n E (.fieldAddr T x i) ty (pt b (o + off)) := by
  intro w dst pos after g
  obtain ⟨fs, f, h1, h2, rfl, k, hk⟩ := hS
  simp [execOp, eval_mk, hx, pt, Instr.fieldAt, Instr.sureAddr, run_underlying h1, h2, fieldPlace, run_sizeOf hk, Addr.add_lit]
end

section steps
variable {P : Program} {ops : Array Oper} {Q : Exit → Act → World → Prop} {rest : List Oper} {n d : Nat} {E : Env} {ty T T' : TypeId} {pos : String} {after : Array Edge} {w : World} {v : Value} {x y : Operand} {cs : List Value} {b o : Nat}

/-- a new variable with this value -/
theorem s_box (hx : opd n E x = v) (hc : v.cells = cs.toArray) (k : ∀ b w', w.heap.size ≤ b → b < w'.heap.size → Ext w w' → Bx w' b cs T → WL P ops Q rest (mk n (upd E d (pt b 0))) w') :
    WL P ops Q (⟨some d, .box T x, ty, pos, after, none⟩ :: rest) (mk n E) w := by
  refine st (w' := w.alloc (.cells cs.toArray T)) (v := pt w.heap.size 0) (fun dst pos after g => ?_) (k _ _ (Nat.le_refl _) (by simp) (Exm.alloc _ _) (heap_alloc_new w _))
  simp [execOp, eval_mk, hx, Instr.box, newVar, newRow, hc, pt]
theorem s_alloc (hz : ZeroV P T cs) (k : ∀ b w', w.heap.size ≤ b → b < w'.heap.size → Ext w w' → Bx w' b cs T → WL P ops Q rest (mk n (upd E d (pt b 0))) w') :
    WL P ops Q (⟨some d, .alloc T, ty, pos, after, none⟩ :: rest) (mk n E) w := by
  refine st (w' := w.alloc (.cells cs.toArray T)) (v := pt w.heap.size 0) (fun dst pos after g => ?_) (k _ _ (Nat.le_refl _) (by simp) (Exm.alloc _ _) (heap_alloc_new w _))
  unfold ZeroV at hz
  obtain ⟨z, h1, h2⟩ := Option.map_eq_some_iff.1 hz
  obtain ⟨i, h3, h4⟩ := Option.bind_eq_some_iff.1 h1
  simp [execOp, Instr.alloc, zeroValue, typeInfo, h3, h4, newVar, newRow, h2, pt]

theorem y_store (hT : Sz P T 1) (hx : opd n E x = pt b o) (hy : opd n E y = v) (hv : v.cells = #[v]) (h1 : v.oneCell' = true) (hc : (w.cell? ⟨b, o, none⟩).isSome = true) (hf : w.frozen? ⟨b, o, none⟩ = false) :
    Y P n E (.store T x y) ty w (w.setCell ⟨b, o, none⟩ v) := by
  intro dst pos after g
  have e1 := run_sizeOf hT w
  have e2 := run_store P w ⟨b, o, none⟩ v .plain h1
  obtain ⟨u, hu⟩ := Option.isSome_iff_exists.1 hc
  simp [execOp, eval_mk, hx, hy, pt, Instr.storeAt, Instr.sureAddr, storeVar, hv, e1, storeCells, Addr.add_lit, e2, hu, hf]

theorem heap_setCell_bx (hb : Bx w b cs T) : Bx (w.setCell ⟨b, o, none⟩ v) b (cs.set o v) T := by
  unfold Bx at *
  rw [heap_setCell_same w b o cs.toArray T v hb]
  simp
theorem exm_setCell : Exm [b] w (w.setCell ⟨b, o, none⟩ v) := ⟨rfl, rfl, rfl, by simp [World.setCell], fun k _ hk => heap_setCell_other w _ k v (by simpa using hk)⟩

/-- a store into a block that is known whole -/
theorem s_store {dst : Option Tmp} {cs' : List Value} (hd : dst = none) (hT : Sz P T 1) (hx : opd n E x = pt b o) (hy : opd n E y = v) (hv : v.cells = #[v]) (h1 : v.oneCell' = true) (hb : Bx w b cs T') (ho : Nat.blt o cs.length = true) (hcs : cs.set o v = cs')
    (k : ∀ w', Exm [b] w w' → w'.heap.size = w.heap.size → Bx w' b cs' T' → WL P ops Q rest (mk n E) w') :
    WL P ops Q (⟨dst, .store T x y, ty, pos, after, none⟩ :: rest) (mk n E) w := by
  subst hcs
  have ho' : o < cs.length := by simpa using ho
  exact sy (y_store hT hx hy hv h1 (by rw [hb.cell (List.getElem?_eq_getElem ho')]; rfl) hb.frozen) hd (k _ exm_setCell (by simp [World.setCell]) (heap_setCell_bx hb))

/-- a whole value into a block that is known whole -/
theorem s_storeAg {dst : Option Tmp} {vs : List Value} {sz : Nat} (hd : dst = none) (hT : Sz P T sz) (hx : opd n E x = pt b 0) (hy : opd n E y = .agg vs.toArray) (hb : Bx w b cs T') (hl : vs.length = sz) (hl2 : cs.length = sz) (h1 : vs.all (·.oneCell') = true)
    (k : ∀ w', Exm [b] w w' → w'.heap.size = w.heap.size → Bx w' b vs T' → WL P ops Q rest (mk n E) w') :
    WL P ops Q (⟨dst, .store T x y, ty, pos, after, none⟩ :: rest) (mk n E) w := by
  have e1 := run_sizeOf hT w
  have e2 := run_storeCells_at P b 0 T' vs 0 cs.toArray w hb (by simp; omega) (by simpa using h1)
  simp only [Nat.add_zero, Nat.zero_add, List.take_zero, List.nil_append] at e2
  refine sy (w' := w.setRow b (vs ++ cs.drop vs.length).toArray) (fun dst pos after g => ?_) hd ?_
  · have h3 : (⟨b, 0, none⟩ : Addr) = ⟨b, 0, none⟩ := rfl
    simp only [execOp, eval_mk, hx, hy, pt, Instr.storeAt, Instr.sureAddr, storeVar, Value.cells, Sem.run_bind, Sem.run_pure, Result.andThen_ok, e1]
    simp only [List.size_toArray, hl, ne_eq, not_true_eq_false, if_false]
    simp [e2, hl]
  · have h4 : cs.drop vs.length = [] := by apply List.drop_eq_nil_of_le; omega
    rw [h4, List.append_nil]
    refine k _ ⟨rfl, rfl, rfl, ?_, fun j _ hj => setRow_other w b j _ (by simpa using hj)⟩ ?_ (setRow_heap w b cs.toArray _ T' _ hb)
    · simp
    · simp
end steps

section finish
variable {P : Program} {fn : Func} {R : Ending → World → Prop} {n : Nat} {E : Env} {w : World} {v : Value}

def roOf (tmps : Array Value) : ResultVar → Sem Value
  | .tmp t => pure (tmps.getD t undef)
  | .cell a t => do loadVar t (← asAddr (tmps.getD a undef))
theorem results_ro (fn : Func) (tmps : Array Value) : results fn tmps = (do let vs ← fn.results.mapM (roOf tmps); pure (if h : vs.size = 1 then vs[0] else .tuple vs)) := by
  unfold results roOf
  rfl
/-- what a result reads as -/
def Ro (P : Program) (n : Nat) (E : Env) (w : World) (r : ResultVar) (v : Value) : Prop := (roOf (mk n E).tmps r).run P w = .ok v w
theorem ro_tmp {t : Nat} (h : opd n E (.tmp t) = v) : Ro P n E w (.tmp t) v := by
  show (pure ((mk n E).tmps.getD t undef) : Sem Value).run P w = .ok v w
  rw [getD_mk]
  subst h; rfl
theorem ro_cell {t : Nat} {T T' : TypeId} {b sz : Nat} {cs : List Value} (h : opd n E (.tmp t) = pt b 0) (hT : Ag P T sz) (hb : Bx w b cs T') (hl : cs.length = sz) : Ro P n E w (.cell t T) (.agg cs.toArray) := by
  have h0 : (mk n E).tmps.getD t undef = pt b 0 := by rw [getD_mk]; exact h
  have h1 := run_sizeOf (P := P) (T := T) (sz := sz) hT.2 w
  have h2 := run_loadCells_list (P := P) (w := w) ⟨b, 0, none⟩ cs (fun j u hu => by rw [Addr.add_lit]; rw [Nat.zero_add]; exact hb.cell hu)
  rw [hl] at h2
  unfold Ro roOf
  simp [h0, pt, asAddr, loadVar, run_isAgg_ag hT, h1, h2]
theorem f_rets1 {r1 : ResultVar} {v1 : Value} (hr : fn.results = #[r1]) (h1 : Ro P n E w r1 v1) (h : R (.returned v1) w) : bodyPost P fn R .ret (mk n E) w := by
  refine bodyPost_ret (v := v1) ?_ rfl h
  unfold Ro at h1
  rw [results_ro, hr, List.mapM_toArray]
  simp [List.mapM_cons, List.mapM_nil, h1]
theorem f_retc {t : Nat} {T T' : TypeId} {b sz : Nat} {cs : List Value} (hr : fn.results = #[.cell t T]) (h0 : opd n E (.tmp t) = pt b 0) (hT : Ag P T sz) (hb : Bx w b cs T') (hl : cs.length = sz) (h : R (.returned (.agg cs.toArray)) w) : bodyPost P fn R .ret (mk n E) w :=
  f_rets1 hr (ro_cell h0 hT hb hl) h
theorem f_rets2 {r1 r2 : ResultVar} {v1 v2 : Value} (hr : fn.results = #[r1, r2]) (h1 : Ro P n E w r1 v1) (h2 : Ro P n E w r2 v2) (h : R (.returned (.tuple #[v1, v2])) w) : bodyPost P fn R .ret (mk n E) w := by
  refine bodyPost_ret (v := .tuple #[v1, v2]) ?_ rfl h
  unfold Ro at h1 h2
  rw [results_ro, hr, List.mapM_toArray]
  simp [List.mapM_cons, List.mapM_nil, Sem.run_bind, h1, h2]
end finish

theorem np_normal {Q : Exit → Act → World → Prop} {a : Act} {w : World} (h : Q .normal a w) : NoPanic Q .normal a w := h

section
variable {E : Env} {i1 i2 i3 i4 i5 i6 i7 i8 : Nat} {v1 v2 v3 v4 v5 v6 v7 v8 : Value}
theorem upd_self2 (h1 : E i1 = v1) (h2 : E i2 = v2) : E = upd (upd E i1 v1) i2 v2 := by rw [← upd_self h1, ← upd_self h2]
theorem upd_self3 (h1 : E i1 = v1) (h2 : E i2 = v2) (h3 : E i3 = v3) : E = upd (upd (upd E i1 v1) i2 v2) i3 v3 := by rw [← upd_self2 h1 h2, ← upd_self h3]
theorem upd_self4 (h1 : E i1 = v1) (h2 : E i2 = v2) (h3 : E i3 = v3) (h4 : E i4 = v4) : E = upd (upd (upd (upd E i1 v1) i2 v2) i3 v3) i4 v4 := by rw [← upd_self3 h1 h2 h3, ← upd_self h4]
theorem upd_self5 (h1 : E i1 = v1) (h2 : E i2 = v2) (h3 : E i3 = v3) (h4 : E i4 = v4) (h5 : E i5 = v5) : E = upd (upd (upd (upd (upd E i1 v1) i2 v2) i3 v3) i4 v4) i5 v5 := by rw [← upd_self4 h1 h2 h3 h4, ← upd_self h5]
theorem upd_self6 (h1 : E i1 = v1) (h2 : E i2 = v2) (h3 : E i3 = v3) (h4 : E i4 = v4) (h5 : E i5 = v5) (h6 : E i6 = v6) : E = upd (upd (upd (upd (upd (upd E i1 v1) i2 v2) i3 v3) i4 v4) i5 v5) i6 v6 := by rw [← upd_self5 h1 h2 h3 h4 h5, ← upd_self h6]
theorem upd_self7 (h1 : E i1 = v1) (h2 : E i2 = v2) (h3 : E i3 = v3) (h4 : E i4 = v4) (h5 : E i5 = v5) (h6 : E i6 = v6) (h7 : E i7 = v7) : E = upd (upd (upd (upd (upd (upd (upd E i1 v1) i2 v2) i3 v3) i4 v4) i5 v5) i6 v6) i7 v7 := by rw [← upd_self6 h1 h2 h3 h4 h5 h6, ← upd_self h7]
theorem upd_self8 (h1 : E i1 = v1) (h2 : E i2 = v2) (h3 : E i3 = v3) (h4 : E i4 = v4) (h5 : E i5 = v5) (h6 : E i6 = v6) (h7 : E i7 = v7) (h8 : E i8 = v8) : E = upd (upd (upd (upd (upd (upd (upd (upd E i1 v1) i2 v2) i3 v3) i4 v4) i5 v5) i6 v6) i7 v7) i8 v8 := by rw [← upd_self7 h1 h2 h3 h4 h5 h6 h7, ← upd_self h8]
end
end Go.Sx
