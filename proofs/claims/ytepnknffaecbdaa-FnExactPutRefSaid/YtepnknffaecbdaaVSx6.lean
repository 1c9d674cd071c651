/- Slices: read, made, stored into, appended to, cut. -/
import Derived.Test.YtepnknffaecbdaaVSx5
import Derived.Deep.AppendSrc
import Derived.Laws.OwnMore
namespace Go.Sx
open Go.RowKit

def blk (p : Option Addr) : Nat := match p with | some a => a.block | none => 0
def off (p : Option Addr) : Nat := match p with | some a => a.off | none => 0
/-- its block, if it has one, is not b -/
def Ap (p : Option Addr) (b : Nat) : Prop := ∀ a, p = some a → a.block ≠ b
theorem Ap.no {b : Nat} : Ap none b := fun _ e => by cases e
/-- blocks from B on; blocks below B; two lists of blocks without a block in common -/
def Fr (B : Nat) (F : List Nat) : Prop := ∀ b ∈ F, B ≤ b
def Lt (F : List Nat) (B : Nat) : Prop := ∀ b ∈ F, b < B
def Dj (F G : List Nat) : Prop := ∀ b ∈ F, b ∉ G
section blocks
variable {B B' b lo hi lo2 hi2 : Nat} {F G H : List Nat}
theorem Fr.mono (h : Fr B F) (hb : B' ≤ B) : Fr B' F := fun b e => Nat.le_trans hb (h b e)
theorem Lt.mono (h : Lt F B) (hb : B ≤ B') : Lt F B' := fun b e => Nat.lt_of_lt_of_le (h b e) hb
theorem Fr.no : Fr B [] := fun _ e => by cases e
theorem Lt.no : Lt [] B := fun _ e => by cases e
theorem Fr.one (h : B ≤ b) : Fr B [b] := fun c e => by simp at e; omega
theorem Lt.one (h : b < B) : Lt [b] B := fun c e => by simp at e; omega
theorem Fr.app (h : Fr B F) (k : Fr B G) : Fr B (F ++ G) := fun c e => (List.mem_append.1 e).elim (h c) (k c)
theorem Lt.app (h : Lt F B) (k : Lt G B) : Lt (F ++ G) B := fun c e => (List.mem_append.1 e).elim (h c) (k c)
theorem nin_of (f : Fr lo F) (g : Lt F hi) (h : b < lo ∨ hi ≤ b) : b ∉ F := fun e => by have := f b e; have := g b e; omega
theorem dj_of (f : Fr lo F) (g : Lt F hi) (f2 : Fr lo2 G) (g2 : Lt G hi2) (h : hi ≤ lo2 ∨ hi2 ≤ lo) : Dj F G := fun b e e2 => by have := f b e; have := g b e; have := f2 b e2; have := g2 b e2; omega
theorem Dj.symm (h : Dj F G) : Dj G F := fun b e e2 => h b e2 e
theorem dj_nil : Dj [] G := fun b e => by cases e
theorem dj_nil' : Dj F [] := fun b _ e => by cases e
theorem dj_one (h : b ∉ G) : Dj [b] G := fun c e => by simp at e; subst e; exact h
theorem dj_app (h : Dj F H) (k : Dj G H) : Dj (F ++ G) H := fun c e => (List.mem_append.1 e).elim (h c) (k c)
/-- G has come out of F: its blocks are F's, or new -/
def Grew (w : World) (F G : List Nat) : Prop := ∀ b ∈ G, b ∈ F ∨ w.heap.size ≤ b
theorem Grew.fr {w : World} (h : Grew w F G) (f : Fr B F) (hB : B ≤ w.heap.size) : Fr B G := fun b e => (h b e).elim (f b) fun k => Nat.le_trans hB k
theorem Grew.nin {w : World} (h : Grew w F G) (k : b ∉ F) (hb : b < w.heap.size) : b ∉ G := fun e => (h b e).elim k fun k => by omega
theorem Grew.dj {w : World} (h : Grew w F G) (k : Dj H F) (g : Lt H B) (hB : B ≤ w.heap.size) : Dj H G := fun b e => h.nin (k b e) (by have := g b e; omega)
end blocks
/-- a step that turns blocks that were not there at the start -/
theorem Exm.freshL {M F : List Nat} {w0 w w' : World} {B : Nat} (h : Exm M w0 w) (k : Exm F w w') (f : Fr B F) (hB : w0.heap.size ≤ B) : Exm M w0 w' :=
  ⟨k.os.trans h.os, k.tape.trans h.tape, k.output.trans h.output, Nat.le_trans h.size k.size, fun i hi hm => (k.block i (Nat.lt_of_lt_of_le hi h.size) (fun e => by have := f i e; omega)).trans (h.block i hi hm)⟩
/-- a step that turns blocks of M -/
theorem Exm.withinL {M F : List Nat} {w0 w w' : World} (h : Exm M w0 w) (k : Exm F w w') (hF : ∀ b ∈ F, b ∈ M) : Exm M w0 w' :=
  ⟨k.os.trans h.os, k.tape.trans h.tape, k.output.trans h.output, Nat.le_trans h.size k.size, fun i hi hm => (k.block i (Nat.lt_of_lt_of_le hi h.size) (fun e => hm (hF i e))).trans (h.block i hi hm)⟩

/-- a slice of n elements of sz cells that reads as these cells -/
structure Sl (w : World) (p : Option Addr) (n c sz : Nat) (cells : List Value) : Prop where
  len : cells.length = n * sz
  cap : n ≤ c
  mx : c ≤ maxLen
  nil : p = none → n = 0 ∧ c = 0
  cell : ∀ a, p = some a → ∀ j v, cells[j]? = some v → w.cell? (a.add j) = some v

theorem Sl.exm {M : List Nat} {w w' : World} {p : Option Addr} {n c sz : Nat} {cells : List Value} (h : Sl w p n c sz cells) (k : Exm M w w') (hm : ∀ b ∈ M, Ap p b) : Sl w' p n c sz cells := by
  refine ⟨h.len, h.cap, h.mx, h.nil, fun a ha j v hv => ?_⟩
  have h1 := h.cell a ha j v hv
  have h2 := World.block_lt_of_cell? w (a.add j) h1
  have hb : (a.add j).block = a.block := by unfold Addr.add; split <;> rfl
  rw [World.cell?_of_block (w := w) (k.block _ h2 (fun hin => hm _ hin a ha hb.symm))]
  exact h1
theorem Sl.ext {w w' : World} {p : Option Addr} {n c sz : Nat} {cells : List Value} (h : Sl w p n c sz cells) (k : Ext w w') : Sl w' p n c sz cells := h.exm k (by simp)
theorem Sl.ne {b : Nat} {w w' : World} {p : Option Addr} {n c sz : Nat} {cells : List Value} (h : Sl w p n c sz cells) (k : Exm [b] w w') (hb : Ap p b) : Sl w' p n c sz cells := h.exm k (by simpa using hb)
theorem Sl.nil' {w : World} {sz : Nat} : Sl w none 0 0 sz [] := ⟨by simp, Nat.le_refl _, by simp [maxLen], fun _ => ⟨rfl, rfl⟩, fun _ h => by cases h⟩
theorem Sl.ptr {w : World} {p : Option Addr} {n c sz : Nat} {cells : List Value} (h : Sl w p n c sz cells) (hn : 0 < cells.length) : ∃ b o, p = some ⟨b, o, none⟩ := by
  cases p with
  | none =>
    have := (h.nil rfl).1
    have h2 := h.len
    subst this
    simp at h2
    rw [h2] at hn
    simp at hn
  | some a =>
    have h1 := h.cell a rfl 0 _ (List.getElem?_eq_getElem hn)
    obtain ⟨b, o, sp⟩ := a
    refine ⟨b, o, ?_⟩
    unfold Addr.add at h1
    rw [if_pos rfl] at h1
    unfold World.cell? at h1
    split at h1
    · split at h1
      · cases h1
      · rename_i hs
        cases sp with
        | none => rfl
        | some x => simp at hs
    · cases h1
theorem Sl.at {w : World} {p : Option Addr} {n c sz : Nat} {cells : List Value} (h : Sl w p n c sz cells) {j : Nat} {v : Value} (hv : cells[j]? = Option.some v) : w.cell? ⟨blk p, off p + j, none⟩ = some v := by
  have hlt : j < cells.length := (List.getElem?_eq_some_iff.1 hv).1
  obtain ⟨b, o, rfl⟩ := h.ptr (by omega)
  have h1 := h.cell _ rfl j v hv
  rw [Addr.add_lit] at h1
  exact h1
theorem Sl.lt {w : World} {p : Option Addr} {n c sz : Nat} {cells : List Value} (h : Sl w p n c sz cells) (hn : 0 < cells.length) : blk p < w.heap.size := by
  have := h.at (List.getElem?_eq_getElem hn)
  exact World.block_lt_of_cell? w _ this

/-- a slice of the call's own; F are its blocks -/
def Own (w : World) (p : Option Addr) (n c : Nat) (e : TypeId) (sz : Nat) (cells : List Value) (F : List Nat) : Prop :=
  cells.length = n * sz ∧ ((n = 0 ∧ c = 0 ∧ F = [] ∧ (p = none → c = 0)) ∨ ∃ g cur, F = [g] ∧ p = some ⟨g, 0, none⟩ ∧ w.heap[g]? = some (.cells cur e (0, 0)) ∧ n ≤ c ∧ c ≤ maxLen ∧ cur.size = c * sz ∧ cur.toList.take (n * sz) = cells)

section own
variable {w w' : World} {p : Option Addr} {n c sz : Nat} {e : TypeId} {cells : List Value} {F : List Nat}
theorem Own.nil : Own w none 0 0 e sz [] [] := ⟨by simp, .inl ⟨rfl, rfl, rfl, fun _ => rfl⟩⟩
theorem Own.none' : Own w p 0 0 e sz [] [] := ⟨by simp, .inl ⟨rfl, rfl, rfl, fun _ => rfl⟩⟩
theorem Own.exm {M : List Nat} (h : Own w p n c e sz cells F) (k : Exm M w w') (hm : Dj M F) : Own w' p n c e sz cells F := by
  obtain ⟨h1, h2⟩ := h
  refine ⟨h1, ?_⟩
  rcases h2 with h2 | ⟨g, cur, rfl, rfl, hg, r⟩
  · exact .inl h2
  · refine .inr ⟨g, cur, rfl, rfl, ?_, r⟩
    rw [k.block g (Array.getElem?_eq_some_iff.1 hg).1 (fun hin => hm g hin (by simp))]
    exact hg
theorem Own.ext (h : Own w p n c e sz cells F) (k : Ext w w') : Own w' p n c e sz cells F := h.exm k dj_nil
theorem Own.ne {b : Nat} (h : Own w p n c e sz cells F) (k : Exm [b] w w') (hb : b ∉ F) : Own w' p n c e sz cells F := h.exm k (dj_one hb)
theorem Own.lt (h : Own w p n c e sz cells F) : Lt F w.heap.size := by
  intro b hb
  rcases h.2 with ⟨_, _, rfl, _⟩ | ⟨g, cur, rfl, rfl, hg, _⟩
  · cases hb
  · simp at hb; subst hb; exact (Array.getElem?_eq_some_iff.1 hg).1
theorem Own.len (h : Own w p n c e sz cells F) : cells.length = n * sz := h.1
theorem Own.mx (h : Own w p n c e sz cells F) : n ≤ maxLen := by
  rcases h.2 with ⟨rfl, rfl, _⟩ | ⟨_, _, _, _, _, h1, h2, _⟩ <;> omega
theorem Own.nodup (h : Own w p n c e sz cells F) : F.Nodup := by
  rcases h.2 with ⟨_, _, rfl, _⟩ | ⟨g, cur, rfl, _⟩ <;> simp
theorem Own.sl (h : Own w p n c e sz cells F) : Sl w p n c sz cells := by
  obtain ⟨h1, h2⟩ := h
  rcases h2 with ⟨rfl, rfl, _, _⟩ | ⟨g, cur, rfl, rfl, hg, hnc, hcm, hs, ht⟩
  · have : cells = [] := List.eq_nil_of_length_eq_zero (by simpa using h1)
    subst this
    exact ⟨by simp, Nat.le_refl _, by simp [maxLen], fun _ => ⟨rfl, rfl⟩, fun _ _ j v h => by simp at h⟩
  · refine ⟨h1, hnc, hcm, (fun h => by cases h), fun a ha j v hv => ?_⟩
    cases ha
    rw [Addr.add_lit, Nat.zero_add, cell_of_row w g j cur e (0, 0) hg]
    rw [← ht, List.getElem?_take] at hv
    split at hv
    · simpa using hv
    · cases hv
theorem Own.stored {j : Nat} {v : Value} (h : Own w p n c e sz cells F) (hj : j < cells.length) : Own (w.setCell ⟨blk p, off p + j, none⟩ v) p n c e sz (cells.set j v) F := by
  obtain ⟨h1, h2⟩ := h
  refine ⟨by simpa using h1, ?_⟩
  rcases h2 with ⟨rfl, rfl, _, _⟩ | ⟨g, cur, rfl, rfl, hg, hnc, hcm, hs, ht⟩
  · simp at h1; subst h1; simp at hj
  · refine .inr ⟨g, cur.setIfInBounds j v, rfl, rfl, ?_, hnc, hcm, by simpa using hs, ?_⟩
    · show (w.setCell ⟨g, 0 + j, none⟩ v).heap[g]? = _
      rw [Nat.zero_add]
      exact heap_setCell_same w g j cur e v hg
    · rw [← ht]
      simp only [Array.toList_setIfInBounds]
      rw [List.take_set]
theorem Own.frozen {j : Nat} (h : Own w p n c e sz cells F) : w.frozen? ⟨blk p, off p + j, none⟩ = false ∨ cells = [] := by
  rcases h.2 with ⟨rfl, _⟩ | ⟨g, cur, rfl, rfl, hg, _⟩
  · exact .inr (List.eq_nil_of_length_eq_zero (by simpa using h.1))
  · left
    simp [World.frozen?, blk, hg]
theorem Own.some_of (h : Own w p n c e sz cells F) (hn : 0 < cells.length) : p = some ⟨blk p, 0, none⟩ ∧ F = [blk p] ∧ off p = 0 := by
  rcases h.2 with ⟨rfl, _, _⟩ | ⟨g, cur, rfl, rfl, _⟩
  · have := h.1; simp at this; rw [this] at hn; simp at hn
  · exact ⟨rfl, rfl, rfl⟩
theorem Own.ap {b : Nat} (h : Own w p n c e sz cells F) (hn : 0 < cells.length) (hb : b ∉ F) : Ap p b := by
  obtain ⟨h1, h2, h3⟩ := h.some_of hn
  intro a ha he
  rw [h1] at ha; cases ha
  rw [h2] at hb; exact hb (by simp; exact he.symm)
end own

section ops
variable {P : Program} {n : Nat} {E : Env} {ty T T' e : TypeId} {x y z : Operand} {v : Value} {w : World} {p : Option Addr} {m c sz bytes : Nat} {cells : List Value} {k : IntKind} {i : Int}

theorem x_idx (hT : SliceOf P T e sz bytes) (hx : opd n E x = .slice p m c) (hy : opd n E y = .int k i) (hs : Sl w p m c sz cells) (hz : 0 < sz) (h0 : 0 ≤ i) (h1 : i < m) : X0 P n E (.indexAddr T x y) ty (pt (blk p) (off p + i.toNat * sz)) := by
  intro w' dst pos after g
  have hm : 0 < m := by omega
  have hl : 0 < cells.length := by rw [hs.len]; exact Nat.mul_pos hm hz
  obtain ⟨b, o, rfl⟩ := hs.ptr hl
  obtain ⟨hu, hi⟩ := hT
  have e1 : Sz P e sz := by
    unfold Sz
    obtain ⟨j, h2, h3⟩ := Option.map_eq_some_iff.1 hi
    simp only [Prod.mk.injEq] at h3
    rw [h2]; simp [h3.1]
  have e2 := run_sizeOf e1 w'
  simp [execOp, eval_mk, hx, hy, Instr.indexAt, asIntOf, run_underlying hu, h0, h1, e2, Addr.add_lit, pt, blk, off]

/-- a load of one cell of an element -/
theorem x_ldc {o j : Nat} (hT : Sc P T) (hx : opd n E x = pt (blk p) o) (hs : Sl w p m c sz cells) (ho : o = off p + j) (hv : cells[j]? = some v) : X P n E (.load T x) ty w v w := by
  subst ho
  exact x_load hT hx (hs.at hv)
end ops

section steps
variable {P : Program} {ops : Array Oper} {Q : Exit → Act → World → Prop} {rest : List Oper} {n d : Nat} {E : Env} {ty T T' e : TypeId} {pos : String} {after : Array Edge} {w : World} {v : Value} {x y : Operand} {p : Option Addr} {m c sz bytes : Nat} {cells : List Value} {F : List Nat}

/-- a store into one cell of a slice of the call's own -/
theorem s_sto {dst : Option Tmp} {o j : Nat} (hd : dst = none) (hT : Sz P T 1) (hx : opd n E x = pt (blk p) o) (hy : opd n E y = v) (hv : v.cells = #[v]) (h1 : v.oneCell' = true) (hs : Own w p m c e sz cells F) (ho : o = off p + j) (hj : j < cells.length)
    (k : ∀ w', Exm F w w' → w'.heap.size = w.heap.size → Own w' p m c e sz (cells.set j v) F → WL P ops Q rest (mk n E) w') :
    WL P ops Q (⟨dst, .store T x y, ty, pos, after, none⟩ :: rest) (mk n E) w := by
  subst ho
  have h2 := hs.sl.at (List.getElem?_eq_getElem hj)
  have h3 : cells ≠ [] := fun h => by subst h; simp at hj
  have h4 := (hs.some_of (by omega)).2.1
  refine sy (y_store hT hx hy hv h1 (by rw [h2]; rfl) (hs.frozen.resolve_right h3)) hd (k _ ?_ (by simp [World.setCell]) (hs.stored hj))
  rw [h4]; exact exm_setCell

theorem Own.ofRow {base : Nat} {p : Option Addr} {n c : Nat} (h : w.ownsRow base e sz (.slice p n c) n cells) : ∃ F, Own w p n c e sz cells F ∧ Fr base F := by
  obtain ⟨h1, h2⟩ := h
  rcases h2 with ⟨h2, h3⟩ | ⟨g, cap, cur, h2, hb, hg, h3, h4, h5, h6⟩
  · simp only [Value.slice.injEq] at h2
    obtain ⟨rfl, rfl, rfl⟩ := h2
    exact ⟨[], ⟨h1, .inl ⟨rfl, rfl, rfl, fun _ => rfl⟩⟩, Fr.no⟩
  · simp only [Value.slice.injEq] at h2
    obtain ⟨rfl, _, rfl⟩ := h2
    exact ⟨[g], ⟨h1, .inr ⟨g, cur, rfl, rfl, hg, h3, h4, h5, h6⟩⟩, Fr.one hb⟩

/-- make([]T, l) -/
theorem s_make {kl kc : IntKind} {l : Nat} {zs : List Value} (hT : SliceOf P T e sz bytes) (hz : ZeroV P e zs) (hl : opd n E x = .int kl (l : Int)) (hc : opd n E y = .int kc (l : Int)) (hb : l * bytes ≤ 281474976710656) (hm : l ≤ 9223372036854775807)
    (k : ∀ p F w', Ext w w' → Own w' p l l e sz (madeCells zs.toArray (l * sz)).toList F → Fr w.heap.size F → Lt F w'.heap.size → WL P ops Q rest (mk n (upd E d (.slice p l l))) w') :
    WL P ops Q (⟨some d, .makeSlice T x y, ty, pos, after, none⟩ :: rest) (mk n E) w := by
  obtain ⟨hu, hi⟩ := hT
  obtain ⟨i, h2, h3⟩ := Option.map_eq_some_iff.1 hi
  simp only [Prod.mk.injEq] at h3
  unfold ZeroV at hz
  rw [h2] at hz
  obtain ⟨zv, h4, h5⟩ := Option.map_eq_some_iff.1 hz
  obtain ⟨w', hr, ho, hg⟩ := run_make_full (P := P) w w.heap.size T e i zv sz hu h2 (by simpa using h4) h3.1 kl kc l (by rw [h3.2, Nat.mul_comm]; exact hb) (by simpa [maxLen] using hm) (Nat.le_refl _)
  obtain ⟨F, ho, hF⟩ := Own.ofRow ho
  have hx := Exm.of_grown0 hg
  refine st (w' := w') (v := .slice (some ⟨w.heap.size, 0, none⟩) l l) (fun dst pos after g => ?_) (k _ F _ hx (by rw [h5] at ho; exact ho) hF ho.lt)
  simp [execOp, eval_mk, hl, hc, hr]

/-- append(s, x...) onto a slice of the call's own -/
theorem s_appG {news : List Value} {m' : Nat} {T2 : TypeId} {vy : Value} (hT : SliceOf P T e sz bytes) (hz : ∃ zs, ZeroV P e zs ∧ zs.length = sz) (hx : opd n E x = .slice p m c) (hy : opd n E y = vy) (ho : Own w p m c e sz cells F) (hnl : news.length = m' * sz) (h1 : ∀ u ∈ news, u.oneCell' = true)
    (hgrow : ∀ (i : TypeInfo) (z : Value) (olds : List Value), P.info? e = some i → i.zero = some z → i.size = sz → i.bytes = bytes → c < m + m' → (Builtin.firstCells i.size m (.slice p m c)).run P w.drew = .ok olds.toArray w.drew →
      (Builtin.append_ #[T, T2] ty #[.slice p m c, vy]).run P w = .ok (.slice (some ⟨w.heap.size, 0, none⟩) (m + m') (grownCap w (m + m') c e)) (w.drew.alloc (.cells ((olds ++ news).toArray ++ Builtin.zeroCells z.cells (grownCap w (m + m') c e - (m + m'))) e)))
    (hroom : ∀ (i : TypeInfo) (g : Nat) (cur : Array Value), P.info? e = some i → i.size = sz → p = some ⟨g, 0, none⟩ → w.heap[g]? = some (.cells cur e (0, 0)) → m + m' ≤ c → m * i.size + news.length ≤ cur.size →
      (Builtin.append_ #[T, T2] ty #[.slice p m c, vy]).run P w = .ok (.slice p (m + m') c) (w.setRow g (cur.toList.take (m * i.size) ++ news ++ cur.toList.drop (m * i.size + news.length)).toArray))
    (hnone : ∀ i : TypeInfo, P.info? e = some i → i.size = sz → m = 0 → c = 0 → m' = 0 → (Builtin.append_ #[T, T2] ty #[.slice p m c, vy]).run P w = .ok (.slice p 0 0) w)
    (hm : m + m' ≤ 9223372036854775807)
    (k : ∀ p' c' F' w', Exm F w w' → Own w' p' (m + m') c' e sz (cells ++ news) F' → Grew w F F' → Lt F' w'.heap.size → WL P ops Q rest (mk n (upd E d (.slice p' (m + m') c'))) w') :
    WL P ops Q (⟨some d, .call { callee := .builtin .append, args := [x, y].toArray, argTypes := [T, T2].toArray }, ty, pos, after, none⟩ :: rest) (mk n E) w := by
  obtain ⟨hu, hi⟩ := hT
  obtain ⟨i, h2, h3⟩ := Option.map_eq_some_iff.1 hi
  simp only [Prod.mk.injEq] at h3
  obtain ⟨zs, hz, hzl⟩ := hz
  unfold ZeroV at hz
  rw [h2] at hz
  obtain ⟨zv, h4, h5⟩ := Option.map_eq_some_iff.1 hz
  simp only [Option.bind_some] at h4
  obtain ⟨hs1, hs2⟩ := h3
  have hzs : zv.cells.size = i.size := by rw [h5, hs1]; simpa using hzl
  have go : ∀ v' w', (Builtin.append_ #[T, T2] ty #[.slice p m c, vy]).run P w = .ok v' w' → WL P ops Q rest (mk n (upd E d v')) w' →
      WL P ops Q (⟨some d, .call { callee := .builtin .append, args := [x, y].toArray, argTypes := [T, T2].toArray }, ty, pos, after, none⟩ :: rest) (mk n E) w := by
    intro v' w' hr hk
    refine st (w' := w') (v := v') (fun dst pos after g => ?_) hk
    simp [execOp, eval_mk, hx, hy, resolve, invoke, builtin, hr]
  have hlen : (cells ++ news).length = (m + m') * sz := by rw [List.length_append, ho.len, hnl, Nat.add_mul]
  have k2 : ∀ p' c' F' w', Exm F w w' → Own w' p' (m + m') c' e sz (cells ++ news) F' → Grew w F F' → WL P ops Q rest (mk n (upd E d (.slice p' (m + m') c'))) w' := fun p' c' F' w' a b c => k p' c' F' w' a b c b.lt
  -- a new row
  have grow : ∀ (hg : c < m + m') (hold : (Builtin.firstCells i.size m (.slice p m c)).run P w.drew = .ok cells.toArray w.drew), WL P ops Q (⟨some d, .call { callee := .builtin .append, args := [x, y].toArray, argTypes := [T, T2].toArray }, ty, pos, after, none⟩ :: rest) (mk n E) w := by
    intro hg hold
    refine go _ _ (hgrow i zv cells h2 h4 hs1 hs2 hg hold) (k2 _ _ [w.heap.size] _ ⟨rfl, rfl, rfl, by simp, fun j hj _ => Below.heap_alloc w.drew _ j hj⟩ ⟨hlen, .inr ⟨w.heap.size, _, rfl, rfl, heap_alloc_new w.drew _, grownCap_ge _ _ _ _, grownCap_le_maxLen _ _ _ _ (by simpa [maxLen] using hm), ?_, ?_⟩⟩ (fun b hb => .inr (by simp at hb; omega)))
    · have hge := grownCap_ge w (m + m') c e
      simp only [Array.size_append, List.size_toArray, hlen, size_zeroCells, hzs, hs1, ← Nat.add_mul]
      congr 1
      omega
    · simp only [Array.toList_append]
      rw [← hlen]
      exact List.take_left
  rcases ho.2 with ⟨rfl, rfl, rfl, _⟩ | ⟨g, cur, rfl, rfl, hg, hnc, hcm, hcs, htake⟩
  · have hx0 : cells = [] := List.eq_nil_of_length_eq_zero (by simpa using ho.len)
    subst hx0
    by_cases hm0 : m' = 0
    · subst hm0
      have hn : news = [] := List.eq_nil_of_length_eq_zero (by simpa using hnl)
      subst hn
      exact go (.slice p 0 0) w (hnone i h2 hs1 rfl rfl rfl) (k2 p 0 [] w Exm.rfl' Own.none' (fun b hb => .inl hb))
    · refine grow (by omega) ?_
      cases p with
      | none => exact run_firstCells_none _ _ _ _ _
      | some a => exact run_firstCells_some _ _ _ _ _ _ _ (by simp) (fun j u hj => by simp at hj)
  · by_cases hroom' : m + m' ≤ c
    · have hfit2 : m * i.size + news.length ≤ cur.size := by rw [hs1, hnl, hcs, ← Nat.add_mul]; exact Nat.mul_le_mul_right _ hroom'
      refine go _ _ (hroom i g cur h2 hs1 rfl hg hroom' hfit2) (k2 _ _ _ _ ⟨rfl, rfl, rfl, by simp, fun j _ hj => setRow_other w g j _ (by simpa using hj)⟩ ⟨hlen, .inr ⟨g, _, rfl, rfl, setRow_heap w g cur _ e _ hg, hroom', hcm, ?_, ?_⟩⟩ (fun b hb => .inl hb))
      · rw [hs1, hnl] at hfit2
        simp only [List.size_toArray, List.length_append, List.length_take, List.length_drop, Array.length_toList, hs1, hnl]
        omega
      · rw [hs1, htake, ← hlen]
        exact List.take_left
    · exact grow (by omega) (run_firstCells_some _ _ _ _ _ _ _ (by rw [hs1]; exact ho.len) (fun j u hj => by simpa using ho.sl.cell _ rfl j u hj))
theorem s_app {a : Option Addr} {m' c' : Nat} {news : List Value} (hT : SliceOf P T e sz bytes) (hz : ∃ zs, ZeroV P e zs ∧ zs.length = sz) (hx : opd n E x = .slice p m c) (hy : opd n E y = .slice a m' c') (ho : Own w p m c e sz cells F) (hs : Sl w a m' c' sz news) (h1 : ∀ u ∈ news, u.oneCell' = true)
    (hb : (m + m') * bytes ≤ 140737488355328) (hm : m + m' ≤ 9223372036854775807)
    (k : ∀ p' c' F' w', Exm F w w' → Own w' p' (m + m') c' e sz (cells ++ news) F' → Grew w F F' → Lt F' w'.heap.size → WL P ops Q rest (mk n (upd E d (.slice p' (m + m') c'))) w') :
    WL P ops Q (⟨some d, .call { callee := .builtin .append, args := [x, y].toArray, argTypes := [T, T].toArray }, ty, pos, after, none⟩ :: rest) (mk n E) w := by
  obtain ⟨hu, hi⟩ := id hT
  have hsrc : ∀ i : TypeInfo, i.size = sz → Src P i.size T (.slice a m' c') m' news w := by
    rintro i rfl
    cases a with
    | none =>
      obtain ⟨rfl, rfl⟩ := hs.nil rfl
      have : news = [] := List.eq_nil_of_length_eq_zero (by simpa using hs.len)
      subst this
      exact Src.ofNil w hu 0
    | some q => exact Src.ofSlice w hu q m' c' news hs.len (fun j u hj => hs.cell q rfl j u hj) h1
  refine s_appG hT hz hx hy ho hs.len h1 (fun i z olds h2 h4 h5 h6 hg hold => ?_) (fun i g cur h2 h5 hp hg hr hf => ?_) (fun i h2 h5 hm0 hc0 hn0 => ?_) hm k
  · exact run_append_grow_src (P := P) w T T ty e i z hu h2 h4 p m c olds hold (.slice a m' c') m' news (hsrc i h5) hg (by omega) (by rw [h6]; exact growslice_fits hg hb)
  · subst hp
    cases a with
    | none =>
      obtain ⟨rfl, rfl⟩ := hs.nil rfl
      have : news = [] := List.eq_nil_of_length_eq_zero (by simpa using hs.len)
      subst this
      have hs0 := hsrc i h5
      have e1 : w.setRow g (List.take (m * i.size) cur.toList ++ [] ++ List.drop (m * i.size + ([] : List Value).length) cur.toList).toArray = w := by
        simp only [List.append_nil, List.length_nil, Nat.add_zero, List.take_append_drop, Array.toArray_toList]
        exact setRow_self w g cur e (0, 0) hg
      rw [e1]
      have hr0 : m ≤ c := by omega
      simp [Builtin.append_, run_underlying hu, sizeOf, typeInfo, h2, hs0.len, hs0.cells, hr0, storeCells]
    | some q => subst h5; exact run_append_room (P := P) w T ty e i hu h2 g m c cur hg q m' c' news hs.len (fun j u hj => hs.cell q rfl j u hj) h1 hr hf
  · subst hm0 hc0 hn0
    have hs0 := hsrc i h5
    have hn : news = [] := List.eq_nil_of_length_eq_zero (by simpa using hs.len)
    subst hn
    cases p <;> simp [Builtin.append_, run_underlying hu, sizeOf, typeInfo, h2, hs0.len, hs0.cells, storeCells]

/-- a slice written out, of one-cell values -/
theorem s_bs {vs : List Value} {l : Nat} {parts : List (Nat × Operand)} {zs : List Value} (hT : SliceOf P T e sz bytes) (hz : ZeroV P e zs) (hl : l * sz ≤ 16777216) (hp : Instr.fill (fun i => some (i * sz, sz)) ((Array.range (l * sz)).map (zs.toArray[· % zs.toArray.size]!)) (parts.map fun q => (q.1, opd n E q.2)) = some vs.toArray) (hvs : vs.length = l * sz) (h0 : Nat.ble 1 (l * sz) = true)
    (k : ∀ p F w', Ext w w' → Own w' p l l e sz vs F → Fr w.heap.size F → Lt F w'.heap.size → WL P ops Q rest (mk n (upd E d (.slice p l l))) w') :
    WL P ops Q (⟨some d, .buildSlice T l parts.toArray, ty, pos, after, none⟩ :: rest) (mk n E) w := by
  obtain ⟨hu, hi⟩ := hT
  obtain ⟨i, h2, h3⟩ := Option.map_eq_some_iff.1 hi
  simp only [Prod.mk.injEq] at h3
  unfold ZeroV at hz
  rw [h2] at hz
  obtain ⟨zv, h4, h5⟩ := Option.map_eq_some_iff.1 hz
  simp only [Option.bind_some] at h4
  have hne : ¬ (l * sz = 0) := by have := Nat.le_of_ble_eq_true h0; omega
  have e1 : Sz P e sz := by unfold Sz; rw [h2]; simp [h3.1]
  have e2 := run_sizeOf e1 w
  have hlt : ¬ (16777216 < l * sz) := by omega
  refine st (w' := w.alloc (.cells vs.toArray e)) (v := .slice (some ⟨w.heap.size, 0, none⟩) l l) (fun dst pos after g => ?_) (k _ [w.heap.size] _ (Exm.alloc _ _) ⟨hvs, .inr ⟨w.heap.size, vs.toArray, rfl, rfl, heap_alloc_new w _, Nat.le_refl _, ?_, by simpa using hvs, ?_⟩⟩ (Fr.one (Nat.le_refl _)) (Lt.one (by simp)))
  · simp only [execOp, eval_mk, Instr.buildSlice, Sem.run_bind, run_underlying hu, Result.andThen_ok, e2]
    have hp2 : Instr.fill (fun i => some (i * sz, sz)) ((Array.range (l * sz)).map (zv.cells[· % zv.cells.size]!)) (parts.map fun x => (x.1, opd n E x.2)) = some vs.toArray := by
      rw [h5]; exact hp
    simp [hne, zeroValue, typeInfo, h2, h4, hp2, newRow, hlt]
  · rcases Nat.eq_zero_or_pos sz with h | h
    · subst h; simp at hne
    · have : l ≤ l * sz := Nat.le_mul_of_pos_right _ h
      simp [maxLen]; omega
  · simp only []
    rw [← hvs]; simp
end steps

section cut
variable {P : Program} {n : Nat} {E : Env} {ty T e : TypeId} {x lo hi : Operand} {w : World} {p : Option Addr} {m c sz bytes : Nat} {cells : List Value} {k k' : IntKind} {l h : Int}
/-- where x[l:] of a slice begins -/
def cutp (p : Option Addr) (c l sz : Nat) : Option Addr := if c = l then p else p.map (·.add (l * sz))
theorem Sl.cut {l h : Nat} (hs : Sl w p m c sz cells) (h1 : l ≤ h) (h2 : h ≤ m) : Sl w (cutp p c l sz) (h - l) (c - l) sz ((cells.drop (l * sz)).take ((h - l) * sz)) := by
  have hcap := hs.cap
  have hlen := hs.len
  refine ⟨?_, by omega, by have := hs.mx; omega, fun hp => ?_, fun a ha j v hv => ?_⟩
  · rw [List.length_take, List.length_drop, hlen, ← Nat.sub_mul]
    exact Nat.min_eq_left (Nat.mul_le_mul_right _ (by omega))
  · unfold cutp at hp
    split at hp
    · have := hs.nil hp; omega
    · cases p with
      | none => have := hs.nil rfl; omega
      | some q => cases hp
  · unfold cutp at ha
    have hv' : cells[l * sz + j]? = some v := by
      rw [List.getElem?_take] at hv
      split at hv
      · rwa [List.getElem?_drop] at hv
      · cases hv
    split at ha
    · rename_i hc
      have : h - l = 0 := by omega
      rw [this] at hv; simp at hv
    · cases p with
      | none => cases ha
      | some q =>
        simp only [Option.map_some, Option.some.injEq] at ha
        subst ha
        have h3 := hs.cell q rfl _ v hv'
        obtain ⟨b, o, hq⟩ := hs.ptr (by have := (List.getElem?_eq_some_iff.1 hv').1; omega)
        cases hq
        rw [Addr.add_lit] at h3 ⊢
        rw [Addr.add_lit]
        simpa [Nat.add_assoc] using h3
theorem x_cuth (hT : SliceOf P T e sz bytes) (hx : opd n E x = .slice p m c) (hh : opd n E hi = .int k' h) (h0 : 0 ≤ h) (h2 : h ≤ m) (hc : m ≤ c) : X0 P n E (.slice T x none (some hi) none) ty (.slice (cutp p c 0 sz) h.toNat c) := by
  intro w' dst pos after g
  obtain ⟨hu, hi'⟩ := hT
  have e1 : Sz P e sz := by
    unfold Sz
    obtain ⟨j, h2, h3⟩ := Option.map_eq_some_iff.1 hi'
    simp only [Prod.mk.injEq] at h3
    rw [h2]; simp [h3.1]
  have e2 := run_sizeOf e1 w'
  have h3 : h ≤ c := by omega
  have h4 : cutp p c 0 sz = p := by
    unfold cutp
    split
    · rfl
    · cases p <;> simp [Addr.add]
  rw [h4]
  have h5 : (if c = 0 then p else p.map (·.add (0 * sz))) = p := h4
  simp [execOp, eval_mk, hx, hh, Instr.sliceAt, run_underlying hu, Instr.slice, Instr.sliceBounds, Instr.sliceBound, asIntOf, h0, h3, e2]
  cases p <;> simp [Addr.add]
end cut

/-- integers -/
def ic (xs : List Int) : List Value := xs.map (.int .i64)
theorem ic_length (xs : List Int) : (ic xs).length = xs.length := by simp [ic]
theorem ic_get {xs : List Int} {i : Int} (h0 : 0 ≤ i) (h1 : i < xs.length) : (ic xs)[i.toNat]? = some (.int .i64 (xs.getD i.toNat 0)) := by
  have : i.toNat < xs.length := by omega
  simp [ic, List.getD, this]
theorem ic_one {xs : List Int} : ∀ u ∈ ic xs, u.oneCell' = true := by
  intro u hu
  simp only [ic, List.mem_map] at hu
  obtain ⟨a, _, rfl⟩ := hu
  rfl
theorem ic_append (xs ys : List Int) : ic (xs ++ ys) = ic xs ++ ic ys := by simp [ic]
theorem ic_set (xs : List Int) (j : Nat) (a : Int) : (ic xs).set j (.int .i64 a) = ic (xs.set j a) := by simp [ic]
theorem Sl.n {w : World} {p : Option Addr} {n c : Nat} {xs : List Int} (h : Sl w p n c 1 (ic xs)) : n = xs.length := by
  have := h.len; rw [ic_length] at this; omega
theorem x_ldi {P : Program} {n : Nat} {E : Env} {ty T : TypeId} {x : Operand} {w : World} {p : Option Addr} {m c : Nat} {xs : List Int} {i : Int} (hT : Sc P T) (hx : opd n E x = pt (blk p) (off p + i.toNat * 1)) (hs : Sl w p m c 1 (ic xs)) (h0 : 0 ≤ i) (h1 : i < xs.length) : X P n E (.load T x) ty w (.int .i64 (xs.getD i.toNat 0)) w :=
  x_ldc hT hx hs (by omega) (ic_get h0 h1)
end Go.Sx
