/- Plain numbers: symbols out of caches; edges drawn together. -/
import Derived.Test.YtdnckakaoageoaaPlA
import Derived.Test.YtdnckakaoageoaaPl5
namespace Go.Pl
theorem peek_place {s : ByteArray} {c : Ca} {n : Int} (h : okN s c n) : caOk s (peekC s c n) ∧ 8 * (peekC s c n).pos - (peekC s c n).hv = 8 * c.pos - c.hv := by
  have e : peekC s c n = readyOf s c n := by unfold peekC; rw [if_pos h]
  rw [e]; exact ⟨ready_ok h.1, ready_place s c n⟩
theorem fs_skip {s : ByteArray} {c : Ca} {n : Int} (h : caOk s c) (hn : 1 ≤ n ∧ n ≤ 7) : (skOk s (peekC s c 7) n ↔ 8 * c.pos - c.hv + n ≤ 8 * s.size) ∧ (skOk s (peekC s c 7) n → settleOf s (skC s (peekC s c 7) n) = settledAt s (8 * c.pos - c.hv + n)) := by
  have hk : okN s c 7 := ⟨h, by omega, by omega⟩
  have hp := peek_place hk
  have hin := place_in h
  have h2 := sk_iff (c := peekC s c 7) (n := n) ⟨hp.1, by omega, by omega⟩
  rw [hp.2] at h2
  refine ⟨?_, fun h3 => ?_⟩
  · rw [h2]
    constructor
    · intro h4; have := h4.2.2; rw [remOf_in hin] at this; omega
    · intro h4; exact ⟨hin, by omega, by rw [remOf_in hin]; omega⟩
  · have h4 := sk_ok h3
    unfold settleOf; rw [if_pos h4.1, h4.2, hp.2]
theorem fs_peek {s : ByteArray} {c : Ca} (h : caOk s c) : peekV s c 7 = fsIx s c ∧ 0 ≤ peekV s c 7 ∧ peekV s c 7 < 128 := by
  have hk : okN s c 7 := ⟨h, by omega, by omega⟩
  have h7 := bits7 s (8 * c.pos - c.hv)
  have e : peekV s c 7 = bitsOf s (8 * c.pos - c.hv) 7 := by unfold peekV; rw [if_pos hk]; rfl
  rw [e]; refine ⟨?_, h7.1, h7.2⟩
  unfold fsIx; omega
/-- the bounds of an edge -/
def alphaOf (q : Int) : Int := if 0 ≤ q ∧ q ≤ 51 then q + 4 else 0
def betaOf (q : Int) : Int := if 0 ≤ q ∧ q ≤ 51 then q / 3 + 2 else 0
def pixOk (xs : List Int) : Prop := ∀ j : Nat, j < xs.length → 0 ≤ xs.getD j 0 ∧ xs.getD j 0 ≤ 255
def edgeC (a b c d q : Int) : Prop := ((0 ≤ a ∧ a ≤ 255) ∧ (0 ≤ b ∧ b ≤ 255) ∧ (0 ≤ c ∧ c ≤ 255) ∧ (0 ≤ d ∧ d ≤ 255)) ∧ (b - c < alphaOf q ∧ c - b < alphaOf q) ∧ (a - b < betaOf q ∧ b - a < betaOf q) ∧ (d - c < betaOf q ∧ c - d < betaOf q)
instance (a b c d q : Int) : Decidable (edgeC a b c d q) := by unfold edgeC; infer_instance
def clip (x : Int) : Int := max 0 (min x 255)
def edgeD (a b c d q : Int) : Int := max (-(q / 4 + 1)) (min ((4 * (c - b) + (a - d) + 4) / 8) (q / 4 + 1))
def edgeL (a b c d q : Int) : Int := if edgeC a b c d q then clip (b + edgeD a b c d q) else b
def edgeR (a b c d q : Int) : Int := if edgeC a b c d q then clip (c - edgeD a b c d q) else c
theorem clip_range (x : Int) : 0 ≤ clip x ∧ clip x ≤ 255 := by unfold clip; omega
theorem edge_range {a b c d q : Int} (hb : 0 ≤ b ∧ b ≤ 255) (hc : 0 ≤ c ∧ c ≤ 255) : (0 ≤ edgeL a b c d q ∧ edgeL a b c d q ≤ 255) ∧ (0 ≤ edgeR a b c d q ∧ edgeR a b c d q ≤ 255) := by
  unfold edgeL edgeR
  constructor
  · split
    · exact clip_range _
    · exact hb
  · split
    · exact clip_range _
    · exact hc
/-- an edge at a place, a step apart -/
def eg (q : Int) (xs : List Int) (e : Int × Int) : List Int :=
  (xs.set (e.1 - e.2).toNat (edgeL (xs.getD (e.1 - 2 * e.2).toNat 0) (xs.getD (e.1 - e.2).toNat 0) (xs.getD e.1.toNat 0) (xs.getD (e.1 + e.2).toNat 0) q)).set e.1.toNat
    (edgeR (xs.getD (e.1 - 2 * e.2).toNat 0) (xs.getD (e.1 - e.2).toNat 0) (xs.getD e.1.toNat 0) (xs.getD (e.1 + e.2).toNat 0) q)
def egs (q : Int) (xs : List Int) (l : List (Int × Int)) : List Int := l.foldl (eg q) xs
theorem eg_def (q : Int) (xs : List Int) (e : Int × Int) : eg q xs e = (xs.set (e.1 - e.2).toNat (edgeL (xs.getD (e.1 - 2 * e.2).toNat 0) (xs.getD (e.1 - e.2).toNat 0) (xs.getD e.1.toNat 0) (xs.getD (e.1 + e.2).toNat 0) q)).set e.1.toNat (edgeR (xs.getD (e.1 - 2 * e.2).toNat 0) (xs.getD (e.1 - e.2).toNat 0) (xs.getD e.1.toNat 0) (xs.getD (e.1 + e.2).toNat 0) q) := rfl
theorem eg_length (q : Int) (xs : List Int) (e : Int × Int) : (eg q xs e).length = xs.length := by simp [eg]
theorem egs_length (q : Int) (l : List (Int × Int)) : ∀ xs : List Int, (egs q xs l).length = xs.length := by
  induction l with
  | nil => intro xs; rfl
  | cons e l ih => intro xs; show (egs q (eg q xs e) l).length = _; rw [ih, eg_length]
theorem egs_snoc (q : Int) (xs : List Int) (l : List (Int × Int)) (e : Int × Int) : egs q xs (l ++ [e]) = eg q (egs q xs l) e := by simp [egs]
theorem egs_app (q : Int) (xs : List Int) (l m : List (Int × Int)) : egs q xs (l ++ m) = egs q (egs q xs l) m := by simp [egs]
theorem set_getD_ne {xs : List Int} {i j : Nat} {v : Int} (h : j ≠ i) : (xs.set j v).getD i 0 = xs.getD i 0 := by
  simp only [List.getD_eq_getElem?_getD, List.getElem?_set, if_neg h]
theorem eg_get {q : Int} {xs : List Int} {e : Int × Int} {i : Nat} (h1 : (e.1 - e.2).toNat ≠ i) (h2 : e.1.toNat ≠ i) : (eg q xs e).getD i 0 = xs.getD i 0 := by
  unfold eg; rw [set_getD_ne h2, set_getD_ne h1]
/-- edges over places that have nothing in common -/
def Dis (e f : Int × Int) : Prop := ∀ i, i = (e.1 - 2 * e.2).toNat ∨ i = (e.1 - e.2).toNat ∨ i = e.1.toNat ∨ i = (e.1 + e.2).toNat → ∀ j, j = (f.1 - 2 * f.2).toNat ∨ j = (f.1 - f.2).toNat ∨ j = f.1.toNat ∨ j = (f.1 + f.2).toNat → i ≠ j
theorem eg_comm {q : Int} {xs : List Int} {e f : Int × Int} (h : Dis e f) : eg q (eg q xs e) f = eg q (eg q xs f) e := by
  have h1 := fun i hi => eg_get (q := q) (xs := xs) (e := e) (i := i) (h _ (.inr (.inl rfl)) i hi) (h _ (.inr (.inr (.inl rfl))) i hi)
  have h2 := fun i hi => eg_get (q := q) (xs := xs) (e := f) (i := i) (h i hi _ (.inr (.inl rfl))).symm (h i hi _ (.inr (.inr (.inl rfl)))).symm
  have d1 := h _ (.inr (.inl rfl)) _ (.inr (.inl rfl))
  have d2 := h _ (.inr (.inl rfl)) _ (.inr (.inr (.inl rfl)))
  have d3 := h _ (.inr (.inr (.inl rfl))) _ (.inr (.inl rfl))
  have d4 := h _ (.inr (.inr (.inl rfl))) _ (.inr (.inr (.inl rfl)))
  rw [eg_def q (eg q xs e) f, eg_def q (eg q xs f) e, h1 _ (.inl rfl), h1 _ (.inr (.inl rfl)), h1 _ (.inr (.inr (.inl rfl))), h1 _ (.inr (.inr (.inr rfl))),
    h2 _ (.inl rfl), h2 _ (.inr (.inl rfl)), h2 _ (.inr (.inr (.inl rfl))), h2 _ (.inr (.inr (.inr rfl))), eg_def q xs e, eg_def q xs f]
  generalize edgeL (xs.getD (f.1 - 2 * f.2).toNat 0) (xs.getD (f.1 - f.2).toNat 0) (xs.getD f.1.toNat 0) (xs.getD (f.1 + f.2).toNat 0) q = A
  generalize edgeR (xs.getD (f.1 - 2 * f.2).toNat 0) (xs.getD (f.1 - f.2).toNat 0) (xs.getD f.1.toNat 0) (xs.getD (f.1 + f.2).toNat 0) q = B
  generalize edgeL (xs.getD (e.1 - 2 * e.2).toNat 0) (xs.getD (e.1 - e.2).toNat 0) (xs.getD e.1.toNat 0) (xs.getD (e.1 + e.2).toNat 0) q = C
  generalize edgeR (xs.getD (e.1 - 2 * e.2).toNat 0) (xs.getD (e.1 - e.2).toNat 0) (xs.getD e.1.toNat 0) (xs.getD (e.1 + e.2).toNat 0) q = D
  apply List.ext_getElem?
  intro i
  simp only [List.getElem?_set, List.length_set]
  by_cases a1 : f.1.toNat = i <;> by_cases a2 : (f.1 - f.2).toNat = i <;> by_cases a3 : e.1.toNat = i <;> by_cases a4 : (e.1 - e.2).toNat = i <;> simp_all
theorem egs_one {q : Int} {e : Int × Int} : ∀ {m : List (Int × Int)} {xs : List Int}, (∀ f ∈ m, Dis e f) → egs q (eg q xs e) m = eg q (egs q xs m) e
  | [], xs, _ => rfl
  | f :: m, xs, h => by
    show egs q (eg q (eg q xs e) f) m = eg q (egs q (eg q xs f) m) e
    rw [eg_comm (h f (List.mem_cons_self ..)), egs_one fun g hg => h g (List.mem_cons_of_mem _ hg)]
theorem egs_comm {q : Int} : ∀ {l m : List (Int × Int)} {xs : List Int}, (∀ e ∈ l, ∀ f ∈ m, Dis e f) → egs q (egs q xs l) m = egs q (egs q xs m) l
  | [], m, xs, _ => rfl
  | e :: l, m, xs, h => by
    show egs q (egs q (eg q xs e) l) m = egs q (eg q (egs q xs m) e) l
    rw [egs_comm fun g hg => h g (List.mem_cons_of_mem _ hg), egs_one (h e (List.mem_cons_self ..))]
theorem pix_set {xs : List Int} {i : Nat} {v : Int} (h : pixOk xs) (hv : 0 ≤ v ∧ v ≤ 255) : pixOk (xs.set i v) := fun j hj => by
  rw [List.length_set] at hj
  by_cases hij : i = j
  · subst hij; simp only [List.getD_eq_getElem?_getD, List.getElem?_set, if_pos hj]; exact hv
  · rw [set_getD_ne hij]; exact h j hj
theorem pix_get {xs : List Int} (h : pixOk xs) (j : Nat) : 0 ≤ xs.getD j 0 ∧ xs.getD j 0 ≤ 255 := by
  rcases Nat.lt_or_ge j xs.length with h1 | h1
  · exact h j h1
  · rw [List.getD_eq_getElem?_getD, List.getElem?_eq_none h1]; simp
theorem eg_pix {q : Int} {xs : List Int} {e : Int × Int} (h : pixOk xs) : pixOk (eg q xs e) := by
  have hr := edge_range (a := xs.getD (e.1 - 2 * e.2).toNat 0) (d := xs.getD (e.1 + e.2).toNat 0) (q := q) (pix_get h (e.1 - e.2).toNat) (pix_get h e.1.toNat)
  exact pix_set (pix_set h hr.1) hr.2
theorem egs_pix {q : Int} : ∀ {l : List (Int × Int)} {xs : List Int}, pixOk xs → pixOk (egs q xs l)
  | [], _, h => h
  | _ :: l, _, h => egs_pix (l := l) (eg_pix h)
/-- a place that no edge turns -/
theorem egs_get {q : Int} {i : Nat} : ∀ {l : List (Int × Int)} {xs : List Int}, (∀ e ∈ l, (e.1 - e.2).toNat ≠ i ∧ e.1.toNat ≠ i) → (egs q xs l).getD i 0 = xs.getD i 0
  | [], _, _ => rfl
  | e :: l, xs, h => by
    show (egs q (eg q xs e) l).getD i 0 = _
    rw [egs_get fun g hg => h g (List.mem_cons_of_mem _ hg), eg_get (h e (List.mem_cons_self ..)).1 (h e (List.mem_cons_self ..)).2]
/-- edges of a row, between columns -/
def vRow (W y : Int) (k : Nat) : List (Int × Int) := (List.range k).map fun i : Nat => (y * W + (8 + 8 * (i : Int)), 1)
def vRows (W a : Int) (n : Nat) : List (Int × Int) := (List.range n).flatMap fun j : Nat => vRow W (a + (j : Int)) (W / 8 - 1).toNat
/-- edges between rows -/
def hRow (W y : Int) (k : Nat) : List (Int × Int) := (List.range k).map fun i : Nat => (y * W + (i : Int), W)
theorem vRow_zero (W y : Int) : vRow W y 0 = [] := rfl
theorem vRow_succ (W y : Int) (k : Nat) : vRow W y (k + 1) = vRow W y k ++ [(y * W + (8 + 8 * (k : Int)), 1)] := by simp [vRow, List.range_succ]
theorem vRows_succ (W a : Int) (n : Nat) : vRows W a (n + 1) = vRows W a n ++ vRow W (a + (n : Int)) (W / 8 - 1).toNat := by simp [vRows, List.range_succ]
theorem hRow_succ (W y : Int) (k : Nat) : hRow W y (k + 1) = hRow W y k ++ [(y * W + (k : Int), W)] := by simp [hRow, List.range_succ]
theorem vRows_add (W a : Int) (m : Nat) : ∀ n : Nat, vRows W a (m + n) = vRows W a m ++ vRows W (a + (m : Int)) n
  | 0 => by simp [vRows]
  | n + 1 => by
    rw [show m + (n + 1) = (m + n) + 1 by omega, vRows_succ, vRows_add W a m n, vRows_succ, List.append_assoc, show a + ((m + n : Nat) : Int) = a + (m : Int) + (n : Int) by omega]
theorem vRow_mem {W y : Int} {k : Nat} {e : Int × Int} (h : e ∈ vRow W y k) : ∃ i : Nat, i < k ∧ e = (y * W + (8 + 8 * (i : Int)), 1) := by
  simp only [vRow, List.mem_map, List.mem_range] at h
  obtain ⟨i, hi, rfl⟩ := h; exact ⟨i, hi, rfl⟩
theorem vRows_mem {W a : Int} {n : Nat} {e : Int × Int} (h : e ∈ vRows W a n) : ∃ j i : Nat, j < n ∧ i < (W / 8 - 1).toNat ∧ e = ((a + (j : Int)) * W + (8 + 8 * (i : Int)), 1) := by
  simp only [vRows, List.mem_flatMap, List.mem_range] at h
  obtain ⟨j, hj, h⟩ := h
  obtain ⟨i, hi, rfl⟩ := vRow_mem h
  exact ⟨j, i, hj, hi, rfl⟩
theorem hRow_mem {W y : Int} {k : Nat} {e : Int × Int} (h : e ∈ hRow W y k) : ∃ i : Nat, i < k ∧ e = (y * W + (i : Int), W) := by
  simp only [hRow, List.mem_map, List.mem_range] at h
  obtain ⟨i, hi, rfl⟩ := h; exact ⟨i, hi, rfl⟩
/-- rows of edges between rows, every eighth -/
def hRows (W : Int) (n : Nat) : List (Int × Int) := (List.range n).flatMap fun j : Nat => hRow W (8 * ((j : Int) + 1)) W.toNat
theorem hRows_succ (W : Int) (n : Nat) : hRows W (n + 1) = hRows W n ++ hRow W (8 * ((n : Int) + 1)) W.toNat := by simp [hRows, List.range_succ]
theorem hRows_mem {W : Int} {n : Nat} {e : Int × Int} (h : e ∈ hRows W n) : ∃ j i : Nat, j < n ∧ i < W.toNat ∧ e = (8 * ((j : Int) + 1) * W + (i : Int), W) := by
  simp only [hRows, List.mem_flatMap, List.mem_range] at h
  obtain ⟨j, hj, h⟩ := h
  obtain ⟨i, hi, rfl⟩ := hRow_mem h
  exact ⟨j, i, hj, hi, rfl⟩
/-- edges between rows ahead, and edges between columns from a row on, have nothing in common -/
theorem hv_dis {W a : Int} (hW : 8 ≤ W) {n m : Nat} (ha : 8 * (n : Int) + 8 ≤ a) {e f : Int × Int} (he : e ∈ hRows W n) (hf : f ∈ vRows W a m) : Dis e f := by
  obtain ⟨j, i, hj, hi, rfl⟩ := hRows_mem he
  obtain ⟨k, x, hk, hx, rfl⟩ := vRows_mem hf
  have e1 : (8 * ((j : Int) + 1) + 2) * W ≤ a * W := Int.mul_le_mul_of_nonneg_right (by omega) (by omega)
  have e2 : a * W ≤ (a + (k : Int)) * W := Int.mul_le_mul_of_nonneg_right (by omega) (by omega)
  have e3 : 0 ≤ 8 * ((j : Int) + 1) * W := Int.mul_nonneg (by omega) (by omega)
  rw [Int.add_mul (8 * ((j : Int) + 1)) 2 W] at e1
  intro u hu v hv
  simp only at hu hv
  generalize (a + (k : Int)) * W = A at *
  generalize 8 * ((j : Int) + 1) * W = B at *
  omega
/-- one frame filtered in rows of eight, in turn -/
def dbR (q W : Int) (xs : List Int) : Nat → List Int
  | 0 => xs
  | r + 1 => if r = 0 then egs q (dbR q W xs 0) (vRows W 0 8) else egs q (egs q (dbR q W xs r) (vRows W (8 * (r : Int)) 8)) (hRow W (8 * (r : Int)) W.toNat)
def dbAll (q W : Int) (xs : List Int) (r : Nat) : List Int := egs q (egs q xs (vRows W 0 (8 * r))) (hRows W (r - 1))
theorem db_eq {q W : Int} (hW : 8 ≤ W) (xs : List Int) : ∀ r : Nat, dbR q W xs r = dbAll q W xs r
  | 0 => by simp [dbR, dbAll, hRows, vRows, egs]
  | 1 => by simp [dbR, dbAll, hRows, egs]
  | r + 2 => by
    have ih := db_eq (q := q) hW xs (r + 1)
    rw [dbR, if_neg (by omega), ih]
    unfold dbAll
    rw [show r + 1 - 1 = r by omega, show r + 2 - 1 = r + 1 by omega, egs_comm (l := hRows W r) (m := vRows W (8 * ((r + 1 : Nat) : Int)) 8) fun e he f hf => hv_dis hW (by omega) he hf,
      hRows_succ, egs_app, show 8 * (r + 2) = 8 * (r + 1) + 8 by omega, vRows_add, egs_app, show (0 : Int) + ((8 * (r + 1) : Nat) : Int) = 8 * ((r + 1 : Nat) : Int) by omega, show (8 : Int) * ((r : Int) + 1) = 8 * ((r + 1 : Nat) : Int) by omega]
/-- a right frame -/
def frOk (W H : Int) (xs : List Int) : Prop := sidesOk W H ∧ (xs.length : Int) = W * H ∧ pixOk xs
theorem frOk_egs {W H q : Int} {xs : List Int} (l : List (Int × Int)) : frOk W H xs → frOk W H (egs q xs l) := fun h => ⟨h.1, by rw [egs_length]; exact h.2.1, egs_pix h.2.2⟩
end Go.Pl
