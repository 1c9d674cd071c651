/- Plain numbers and lists, with no program in sight. -/
import Derived.Test.YtepnknffaecbdaaVPlU
/- Plain numbers: what lies around a block, predictions, blocks set into frames. -/
namespace Go.Pl
def fitsF (W H : Int) (xs : List Int) (x y n : Int) : Prop := frOk W H xs ∧ (n = 4 ∨ n = 8) ∧ (0 ≤ x ∧ x ≤ W - n) ∧ (0 ≤ y ∧ y ≤ H - n) ∧ x % n = 0 ∧ y % n = 0
theorem pix_in {W H a b : Int} {xs : List Int} (h : frOk W H xs) (ha : 0 ≤ a ∧ a ≤ H - 1) (hb : 0 ≤ b ∧ b ≤ W - 1) : 0 ≤ a * W ∧ a * W ≤ 1024 ∧ 0 ≤ a * W + b ∧ a * W + b < xs.length := by
  obtain ⟨h1, h2, h3, h4, h5⟩ := fr_geo h
  have h6 := sides_mul h.1
  have h7 : 0 ≤ a * W := Int.mul_nonneg ha.1 (by omega)
  have h8 : a * W ≤ (H - 1) * W := Int.mul_le_mul_of_nonneg_right ha.2 (by omega)
  rw [Int.sub_mul, Int.one_mul, Int.mul_comm H W] at h8
  omega
/-- what lies above -/
def topV (W x y n : Int) (xs pr : List Int) (i : Nat) : Int := if y = 0 then 128 else if (i : Int) < n ∨ (y % 8 = 0 ∧ x + i < W) then xs.getD ((y - 1) * W + x + i).toNat 0 else pr.getD ((i : Int) - 1).toNat 0
def topK (W x y n : Int) (xs : List Int) : Nat → List Int
  | 0 => []
  | i + 1 => topK W x y n xs i ++ [topV W x y n xs (topK W x y n xs i) i]
theorem topK_length (W x y n : Int) (xs : List Int) (i : Nat) : (topK W x y n xs i).length = i := by
  induction i with
  | zero => rfl
  | succ i ih => simp only [topK, List.length_append, ih, List.length_cons, List.length_nil]
theorem pix_snoc {l : List Int} {v : Int} (h : pixOk l) (hv : 0 ≤ v ∧ v ≤ 255) : pixOk (l ++ [v]) := by
  intro j hj
  rw [List.length_append] at hj
  by_cases h2 : j < l.length
  · have := h j h2
    rw [List.getD_eq_getElem?_getD, List.getElem?_append_left h2, ← List.getD_eq_getElem?_getD]; exact this
  · have e : j = l.length := by simp at hj; omega
    subst e
    rw [List.getD_eq_getElem?_getD, List.getElem?_append_right (Nat.le_refl _)]; simpa using hv
theorem topV_range {W x y n : Int} {xs pr : List Int} {i : Nat} (h : pixOk xs) (hp : pixOk pr) : 0 ≤ topV W x y n xs pr i ∧ topV W x y n xs pr i ≤ 255 := by
  unfold topV
  split
  · omega
  · split
    · exact pix_get h _
    · exact pix_get hp _
theorem topK_pix {W x y n : Int} {xs : List Int} (h : pixOk xs) (i : Nat) : pixOk (topK W x y n xs i) := by
  induction i with
  | zero => intro j hj; simp [topK] at hj
  | succ i ih => exact pix_snoc ih (topV_range h ih)
/-- what lies on the left, and at the corner -/
def leftV (W x y : Int) (xs : List Int) (i : Nat) : Int := if 0 < x then xs.getD ((y + i) * W + x - 1).toNat 0 else 128
def leftK (W x y : Int) (xs : List Int) (k : Nat) : List Int := (List.range k).map (leftV W x y xs)
theorem leftK_length (W x y : Int) (xs : List Int) (k : Nat) : (leftK W x y xs k).length = k := by simp [leftK]
theorem leftK_succ (W x y : Int) (xs : List Int) (k : Nat) : leftK W x y xs (k + 1) = leftK W x y xs k ++ [leftV W x y xs k] := by simp [leftK, List.range_succ]
theorem leftV_range {W x y : Int} {xs : List Int} {i : Nat} (h : pixOk xs) : 0 ≤ leftV W x y xs i ∧ leftV W x y xs i ≤ 255 := by
  unfold leftV; split
  · exact pix_get h _
  · omega
theorem leftK_pix {W x y : Int} {xs : List Int} (h : pixOk xs) (i : Nat) : pixOk (leftK W x y xs i) := by
  induction i with
  | zero => intro j hj; simp [leftK] at hj
  | succ i ih => rw [leftK_succ]; exact pix_snoc ih (leftV_range h)
def cornV (W x y : Int) (xs : List Int) : Int := if 0 < x ∧ 0 < y then xs.getD ((y - 1) * W + x - 1).toNat 0 else 128
theorem cornV_range {W x y : Int} {xs : List Int} (h : pixOk xs) : 0 ≤ cornV W x y xs ∧ cornV W x y xs ≤ 255 := by
  unfold cornV; split
  · exact pix_get h _
  · omega
def nbOk (ts ls : List Int) (cr n : Int) : Prop := (n = 4 ∨ n = 8) ∧ (ts.length : Int) = 2 * n ∧ (ls.length : Int) = n ∧ pixOk ts ∧ pixOk ls ∧ (0 ≤ cr ∧ cr ≤ 255)
theorem nb_ok {W H x y n : Int} {xs : List Int} (h : fitsF W H xs x y n) : nbOk (topK W x y n xs (2 * n).toNat) (leftK W x y xs n.toNat) (cornV W x y xs) n := by
  have hp := h.1.2.2
  have hn := h.2.1
  exact ⟨hn, by rw [topK_length]; omega, by rw [leftK_length]; omega, topK_pix hp _, leftK_pix hp _, cornV_range hp⟩
/-- the mean -/
def sumK (l : List Int) (k : Nat) : Int := sumN (fun i => l.getD i 0) k
theorem sumK_range {l : List Int} (h : pixOk l) (k : Nat) : 0 ≤ sumK l k ∧ sumK l k ≤ 255 * k := by
  induction k with
  | zero => simp [sumK, sumN]
  | succ k ih =>
    have := pix_get h k
    unfold sumK at *
    simp only [sumN]; omega
def mC (ht hl : Bool) (n : Int) : Int := (if ht then n else 0) + (if hl then n else 0)
def mS (ts ls : List Int) (ht hl : Bool) (n : Int) : Int := (if ht then sumK ts n.toNat else 0) + (if hl then sumK ls n.toNat else 0)
def meanV (ts ls : List Int) (ht hl : Bool) (n : Int) : Int := if mC ht hl n = 0 then 128 else (mS ts ls ht hl n + mC ht hl n / 2) / mC ht hl n
theorem mC_range {n : Int} (ht hl : Bool) (h : n = 4 ∨ n = 8) : mC ht hl n = 0 ∨ mC ht hl n = n ∨ mC ht hl n = 2 * n := by
  unfold mC; cases ht <;> cases hl <;> simp <;> omega
theorem mS_range {n : Int} {ts ls : List Int} (ht hl : Bool) (h : n = 4 ∨ n = 8) (h1 : pixOk ts) (h2 : pixOk ls) : 0 ≤ mS ts ls ht hl n ∧ mS ts ls ht hl n ≤ 255 * mC ht hl n := by
  have h3 := sumK_range h1 n.toNat
  have h4 := sumK_range h2 n.toNat
  unfold mC mS; cases ht <;> cases hl <;> simp <;> omega
theorem mean_range {n : Int} {ts ls : List Int} (ht hl : Bool) (h : n = 4 ∨ n = 8) (h1 : pixOk ts) (h2 : pixOk ls) : 0 ≤ meanV ts ls ht hl n ∧ meanV ts ls ht hl n ≤ 255 := by
  have h3 := mC_range ht hl h
  have h4 := mS_range (n := n) ht hl h h1 h2
  unfold meanV
  generalize mC ht hl n = c at *
  generalize mS ts ls ht hl n = s at *
  split
  · omega
  · have : c = 4 ∨ c = 8 ∨ c = 16 := by omega
    rcases this with rfl | rfl | rfl <;> omega
theorem mean_tt {n : Int} (ts ls : List Int) (h : n = 4 ∨ n = 8) : meanV ts ls true true n = (sumK ts n.toNat + sumK ls n.toNat + n) / (2 * n) := by
  have e : mC true true n = 2 * n := by simp [mC]; omega
  unfold meanV
  rw [if_neg (by omega), e]
  simp only [mS, if_true]
  congr 1; omega
theorem mean_tf {n : Int} (ts ls : List Int) (h : n = 4 ∨ n = 8) : meanV ts ls true false n = (sumK ts n.toNat + n / 2) / n := by
  have e : mC true false n = n := by simp [mC]
  unfold meanV
  rw [if_neg (by omega), e]
  simp [mS]
theorem mean_ft {n : Int} (ts ls : List Int) (h : n = 4 ∨ n = 8) : meanV ts ls false true n = (sumK ls n.toNat + n / 2) / n := by
  have e : mC false true n = n := by simp [mC]
  unfold meanV
  rw [if_neg (by omega), e]
  simp [mS]
theorem mean_ff {n : Int} (ts ls : List Int) : meanV ts ls false false n = 128 := by
  unfold meanV; rw [if_pos (by simp [mC])]
/-- the border, and predictions -/
def borderL (ts ls : List Int) (cr n : Int) : List Int := ls.reverse ++ [cr] ++ ts.take n.toNat
theorem border_length {ts ls : List Int} {cr n : Int} (h : nbOk ts ls cr n) : ((borderL ts ls cr n).length : Int) = 2 * n + 1 := by
  obtain ⟨h1, h2, h3, _⟩ := h
  simp only [borderL, List.length_append, List.length_reverse, List.length_cons, List.length_nil, List.length_take]; omega
theorem pix_mem {a : List Int} : pixOk a ↔ ∀ v ∈ a, 0 ≤ v ∧ v ≤ 255 := by
  constructor
  · intro h v hv
    obtain ⟨j, hj, rfl⟩ := List.mem_iff_getElem.1 hv
    have := h j hj
    rwa [List.getD_eq_getElem?_getD, List.getElem?_eq_getElem hj, Option.getD_some] at this
  · intro h j hj
    rw [List.getD_eq_getElem?_getD, List.getElem?_eq_getElem hj, Option.getD_some]
    exact h _ (List.getElem_mem hj)
theorem border_pix {ts ls : List Int} {cr n : Int} (h : nbOk ts ls cr n) : pixOk (borderL ts ls cr n) := by
  obtain ⟨_, _, _, h4, h5, h6⟩ := h
  rw [pix_mem] at h4 h5 ⊢
  intro v hv
  simp only [borderL, List.mem_append, List.mem_reverse, List.mem_cons, List.not_mem_nil, or_false] at hv
  rcases hv with (hv | rfl) | hv
  · exact h5 v hv
  · exact h6
  · exact h4 v (List.mem_of_mem_take hv)
def soft (a b c : Int) : Int := (a + 2 * b + c + 2) / 4
def predV (m : Int) (ts ls : List Int) (cr : Int) (ht hl : Bool) (n x y : Int) : Int :=
  if m = 0 then meanV ts ls ht hl n
  else if m = 1 then ts.getD x.toNat 0
  else if m = 2 then ls.getD y.toNat 0
  else if m = 3 then clip (ls.getD y.toNat 0 + ts.getD x.toNat 0 - cr)
  else if m = 4 then soft (ts.getD (x + y).toNat 0) (ts.getD (min (x + y + 1) (2 * n - 1)).toNat 0) (ts.getD (min (x + y + 2) (2 * n - 1)).toNat 0)
  else soft ((borderL ts ls cr n).getD (x - y + n - 1).toNat 0) ((borderL ts ls cr n).getD (x - y + n).toNat 0) ((borderL ts ls cr n).getD (x - y + n + 1).toNat 0)
theorem predV_range {m : Int} {ts ls : List Int} {cr : Int} {ht hl : Bool} {n x y : Int} (h : nbOk ts ls cr n) : 0 ≤ predV m ts ls cr ht hl n x y ∧ predV m ts ls cr ht hl n x y ≤ 255 := by
  have hb := border_pix h
  have h4 := h.2.2.2.1
  have h5 := h.2.2.2.2.1
  unfold predV
  split
  · exact mean_range ht hl h.1 h4 h5
  · split
    · exact pix_get h4 _
    · split
      · exact pix_get h5 _
      · split
        · unfold clip; omega
        · split
          · have a1 := pix_get h4 (x + y).toNat
            have a2 := pix_get h4 (min (x + y + 1) (2 * n - 1)).toNat
            have a3 := pix_get h4 (min (x + y + 2) (2 * n - 1)).toNat
            unfold soft; omega
          · have a1 := pix_get hb (x - y + n - 1).toNat
            have a2 := pix_get hb (x - y + n).toNat
            have a3 := pix_get hb (x - y + n + 1).toNat
            unfold soft; omega
def predK (m : Int) (ts ls : List Int) (cr : Int) (ht hl : Bool) (n : Int) (k : Nat) : List Int := (List.range k).map fun i : Nat => predV m ts ls cr ht hl n ((i : Int) % n) ((i : Int) / n)
def predL (m : Int) (ts ls : List Int) (cr : Int) (ht hl : Bool) (n : Int) : List Int := predK m ts ls cr ht hl n (n * n).toNat
theorem predK_length (m : Int) (ts ls : List Int) (cr : Int) (ht hl : Bool) (n : Int) (k : Nat) : (predK m ts ls cr ht hl n k).length = k := by simp [predK]
theorem predK_succ (m : Int) (ts ls : List Int) (cr : Int) (ht hl : Bool) (n : Int) (k : Nat) : predK m ts ls cr ht hl n (k + 1) = predK m ts ls cr ht hl n k ++ [predV m ts ls cr ht hl n ((k : Int) % n) ((k : Int) / n)] := by simp [predK, List.range_succ]
theorem predK_row {m : Int} {ts ls : List Int} {cr : Int} {ht hl : Bool} {n x y : Nat} (hx : x < n) : predK m ts ls cr ht hl n (y * n + (x + 1)) = predK m ts ls cr ht hl n (y * n + x) ++ [predV m ts ls cr ht hl n x y] := by
  rw [← Nat.add_assoc, predK_succ, ← Int.natCast_emod, ← Int.natCast_ediv, (qdiv hx).1, (qdiv hx).2]
theorem pix_map {k : Nat} {f : Nat → Int} (h : ∀ i, 0 ≤ f i ∧ f i ≤ 255) : pixOk ((List.range k).map f) := by
  rw [pix_mem]; intro v hv
  obtain ⟨i, _, rfl⟩ := List.mem_map.1 hv
  exact h i
theorem predL_pix {m : Int} {ts ls : List Int} {cr : Int} {ht hl : Bool} {n : Int} (h : nbOk ts ls cr n) : pixOk (predL m ts ls cr ht hl n) := pix_map fun _ => predV_range h
/-- a prediction and what is left -/
def recK (p r : List Int) (k : Nat) : List Int := (List.range k).map fun i : Nat => clip (p.getD i 0 + max (-1000000) (min 1000000 (r.getD i 0)))
def recL (p r : List Int) : List Int := recK p r p.length
theorem recK_length (p r : List Int) (k : Nat) : (recK p r k).length = k := by simp [recK]
theorem recK_succ (p r : List Int) (k : Nat) : recK p r (k + 1) = recK p r k ++ [clip (p.getD k 0 + max (-1000000) (min 1000000 (r.getD k 0)))] := by simp [recK, List.range_succ]
theorem recL_pix (p r : List Int) : pixOk (recL p r) := pix_map fun _ => by unfold clip; omega
/-- a block set -/
def setAt (W x y n : Int) (k : Nat) : Nat := ((y + (k : Int) / n) * W + x + (k : Int) % n).toNat
def setK (W x y n : Int) (l xs : List Int) : Nat → List Int
  | 0 => xs
  | k + 1 => (setK W x y n l xs k).set (setAt W x y n k) (l.getD k 0)
theorem setK_length (W x y n : Int) (l xs : List Int) (k : Nat) : (setK W x y n l xs k).length = xs.length := by
  induction k with
  | zero => rfl
  | succ k ih => simp only [setK]; rw [List.length_set, ih]
/-- blocks put -/
def nbPred (W x y n m : Int) (xs : List Int) : List Int := predL m (topK W x y n xs (2 * n).toNat) (leftK W x y xs n.toNat) (cornV W x y xs) (decide (0 < y)) (decide (0 < x)) n
def setsOk (W H : Int) (xs : List Int) (x y q : Int) (byp : Bool) (m : Int) (ys : List Int) : Prop := 0 < (residual q byp ys).length ∧ (0 ≤ m ∧ m ≤ 5) ∧ fitsF W H xs x y (sideOf ys.length)
instance (W H : Int) (xs : List Int) (x y n : Int) : Decidable (fitsF W H xs x y n) := by unfold fitsF; infer_instance
instance (W H : Int) (xs : List Int) (x y q : Int) (byp : Bool) (m : Int) (ys : List Int) : Decidable (setsOk W H xs x y q byp m ys) := by unfold setsOk; infer_instance
def putV (W x y q : Int) (byp : Bool) (m : Int) (ys xs : List Int) : List Int := setK W x y (sideOf ys.length) (recL (nbPred W x y (sideOf ys.length) m xs) (residual q byp ys)) xs ys.length
def putL (W H : Int) (xs : List Int) (x y q : Int) (byp : Bool) (m : Int) (ys : List Int) : List Int := if setsOk W H xs x y q byp m ys then putV W x y q byp m ys xs else xs
/-- the length of what levels come to -/
theorem scaled_fits {l : List Int} {q : Int} (h : levelsOk l) (hq : 0 ≤ q ∧ q ≤ 51) : fitsW (scaled l q) l.length := by
  refine ⟨scaled_len h hq, fun j hj => ?_⟩
  unfold scaled
  rw [if_pos ⟨h, by have := stepOf_le hq; omega⟩]
  have h1 := mul3 (levels_any h j) (stepOf_rng q) (normAt_range (sideOf l.length) j)
  rw [scaled_len h hq] at hj
  have e : (scaledK l q l.length).getD j 0 = l.getD j 0 * stepOf q * normAt (sideOf l.length) j := by
    simp [scaledK, List.getD, hj]
  rw [e]; omega
theorem residual_len {q : Int} {byp : Bool} {l : List Int} (h : levelsOk l ∧ 0 ≤ q ∧ q ≤ 51) : (residual q byp l).length = l.length := by
  have hs := levels_size h.1
  have hp := placed_len h.1
  have hf := scaled_fits (placed_ok h.1) h.2
  rw [hp] at hf
  have key : ∀ (M : Nat → Nat → Int) (n : Nat), (n = 4 ∨ n = 8) → l.length = n * n → (rounded (prodG M (scaled (placed l) q) n)).length = l.length := by
    intro M n hn hl
    have e : prodG M (scaled (placed l) q) n = prodL M (scaled (placed l) q) n := if_pos (by rw [← hl]; exact hf)
    have e2 : (prodL M (scaled (placed l) q) n).length = l.length := by rw [prodL_length, hl]
    rw [e]
    unfold rounded
    rw [e2, if_neg (by unfold sideOf; rcases hn with rfl | rfl <;> rw [hl] <;> decide), rndK_length]
  unfold residual
  rw [if_pos h]
  split
  · exact hp
  · split
    · next h16 => exact key mAt 4 (.inl rfl) h16
    · exact key hEnt 8 (.inr rfl) (by omega)
theorem residual_pos {q : Int} {byp : Bool} {l : List Int} (h : 0 < (residual q byp l).length) : (levelsOk l ∧ 0 ≤ q ∧ q ≤ 51) ∧ (residual q byp l).length = l.length := by
  by_cases h2 : levelsOk l ∧ 0 ≤ q ∧ q ≤ 51
  · exact ⟨h2, residual_len h2⟩
  · rw [residual_no h2] at h; simp at h
theorem sumK_take {l : List Int} {j k : Nat} (h : k ≤ j) : sumK (l.take j) k = sumK l k := by
  unfold sumK
  refine sumN_congr fun i hi => ?_
  simp only [List.getD_eq_getElem?_getD, List.getElem?_take, if_pos (show i < j by omega)]
theorem pix_take {l : List Int} (h : pixOk l) (k : Nat) : pixOk (l.take k) := by
  rw [pix_mem] at *; exact fun v hv => h v (List.mem_of_mem_take hv)
theorem cut0 (l : List Int) (k : Nat) : (l.drop 0).take (k - 0) = l.take k := by simp
theorem sumK_succ (l : List Int) (k : Nat) : sumK l (k + 1) = sumK l k + l.getD k 0 := rfl
theorem cells4 {n : Int} {k : Nat} (hn : n = 4 ∨ n = 8) (hk : (k : Int) < n * n) : (0 ≤ (k : Int) / n ∧ (k : Int) / n ≤ n - 1) ∧ (0 ≤ (k : Int) % n ∧ (k : Int) % n ≤ n - 1) := by
  rcases hn with rfl | rfl <;> omega
/-- a list turned round, pair by pair -/
def rvK (l : List Int) : Nat → List Int
  | 0 => l
  | i + 1 => ((rvK l i).set i ((rvK l i).getD (l.length - 1 - i) 0)).set (l.length - 1 - i) ((rvK l i).getD i 0)
theorem rvK_length (l : List Int) (i : Nat) : (rvK l i).length = l.length := by
  induction i with
  | zero => rfl
  | succ i ih => simp only [rvK, List.length_set]; exact ih
theorem rvK_all {l : List Int} (h : l.length = 4 ∨ l.length = 8) {i : Nat} (hi : 2 * i = l.length) : rvK l i = l.reverse := by
  rcases h with h | h
  · obtain rfl : i = 2 := by omega
    match l, h with
    | [a, b, c, d], _ => rfl
  · obtain rfl : i = 4 := by omega
    match l, h with
    | [a, b, c, d, e, f, g, h], _ => rfl
/-- reversed from the end -/
def backK (l : List Int) : Nat → List Int
  | 0 => []
  | i + 1 => backK l i ++ [l.getD (l.length - 1 - i) 0]
theorem backK_length (l : List Int) (i : Nat) : (backK l i).length = i := by
  induction i with
  | zero => rfl
  | succ i ih => simp only [backK, List.length_append, ih, List.length_cons, List.length_nil]
theorem backK_all {l : List Int} (h : l.length = 4 ∨ l.length = 8) {i : Nat} (hi : i = l.length) : backK l i = l.reverse := by
  subst hi
  rcases h with h | h
  · match l, h with
    | [a, b, c, d], _ => rfl
  · match l, h with
    | [a, b, c, d, e, f, g, h], _ => rfl
end Go.Pl
