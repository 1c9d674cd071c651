/- Plain numbers and lists, with no program in sight. -/
import Derived.Test.YtepnknffaecbdaaVPlV
/- Plain numbers: macroblocks read. -/
namespace Go.Pl
structure Rm where
  a : Int
  code : Int
  bs : List (Int × List Int)
end Go.Pl
namespace Go.Pl
end Go.Pl

/- Plain numbers: streams read. -/
namespace Go.Pl
structure Pm where
  a : Int
  code : Int
  ms : List PM
end Go.Pl

/- Plain numbers: scans, steps, transforms. -/
namespace Go.Pl
/-- sums, term by term -/
def accP (T : Nat → Nat → Int) (q : Nat) : Nat → Int
  | 0 => 0
  | i + 1 => accP T q i + T q i
/-- sums place by place: the first q0 are done, the next has i terms -/
def accS (T : Nat → Nat → Int) (N n q0 i : Nat) : List Int := (List.range N).map fun q => if q < q0 then accP T q n else if q = q0 then accP T q i else 0
def accL (T : Nat → Nat → Int) (N n : Nat) : List Int := (List.range N).map fun q => accP T q n
theorem accS_length (T : Nat → Nat → Int) (N n q0 i : Nat) : (accS T N n q0 i).length = N := by simp [accS]
theorem accL_length (T : Nat → Nat → Int) (N n : Nat) : (accL T N n).length = N := by simp [accL]
theorem accS_zero (T : Nat → Nat → Int) (N n : Nat) : accS T N n 0 0 = List.replicate N 0 := by
  have e : ∀ q ∈ List.range N, (if q < 0 then accP T q n else if q = 0 then accP T q 0 else 0) = 0 := by
    intro q _
    rw [if_neg (Nat.not_lt_zero q)]; split <;> rfl
  unfold accS
  rw [List.map_congr_left e, List.map_const', List.length_range]
theorem accS_next (T : Nat → Nat → Int) (N n q0 : Nat) : accS T N n q0 n = accS T N n (q0 + 1) 0 := by
  unfold accS
  refine List.map_congr_left fun q _ => ?_
  by_cases h : q < q0
  · rw [if_pos h, if_pos (by omega)]
  · rw [if_neg h]
    by_cases h2 : q = q0
    · rw [if_pos h2, if_pos (by omega)]
    · rw [if_neg h2, if_neg (by omega)]
      split <;> rfl
theorem accS_end (T : Nat → Nat → Int) {N n q0 i : Nat} (h : N ≤ q0) : accS T N n q0 i = accL T N n := by
  unfold accS accL
  refine List.map_congr_left fun q hq => ?_
  rw [if_pos (by have := List.mem_range.1 hq; omega)]
theorem accS_get (T : Nat → Nat → Int) {N n q0 i : Nat} (h : q0 < N) : (accS T N n q0 i).getD q0 0 = accP T q0 i := by
  simp [accS, List.getD, h]
theorem accL_get (T : Nat → Nat → Int) {N n q : Nat} (h : q < N) : (accL T N n).getD q 0 = accP T q n := by
  simp [accL, List.getD, h]
theorem accS_set (T : Nat → Nat → Int) {N n q0 i : Nat} {v : Int} (h : q0 < N) (hv : v = accP T q0 i + T q0 i) : (accS T N n q0 i).set q0 v = accS T N n q0 (i + 1) := by
  apply List.ext_getElem?
  intro j
  rw [List.getElem?_set, accS_length]
  unfold accS
  by_cases hj : j < N
  · rw [List.getElem?_map, List.getElem?_map, List.getElem?_range hj]
    by_cases e : q0 = j
    · subst e; rw [if_pos rfl, if_pos hj]; simp [accP, hv]
    · rw [if_neg e]
      simp only [Option.map_some]
      congr 1
      rw [if_neg (c := j = q0) (by omega), if_neg (c := j = q0) (by omega)]
  · rw [List.getElem?_eq_none (by simp; omega)]
    by_cases e : q0 = j
    · omega
    · rw [if_neg e, List.getElem?_eq_none (by simp; omega)]
theorem accP_range {T : Nat → Nat → Int} {q : Nat} {B : Int} {n : Nat} (h : ∀ j, j < n → -B ≤ T q j ∧ T q j ≤ B) : -((n : Int) * B) ≤ accP T q n ∧ accP T q n ≤ (n : Int) * B := by
  induction n with
  | zero => simp [accP]
  | succ n ih =>
    have h1 := ih fun j hj => h j (by omega)
    have h2 := h n (by omega)
    have e : ((n + 1 : Nat) : Int) * B = (n : Int) * B + B := by rw [show ((n + 1 : Nat) : Int) = (n : Int) + 1 by omega, Int.add_mul, Int.one_mul]
    simp only [accP]; omega
theorem qdiv {r n k : Nat} (hk : k < n) : (r * n + k) / n = r ∧ (r * n + k) % n = k := by
  have hn : 0 < n := by omega
  refine ⟨?_, ?_⟩
  · rw [Nat.mul_comm, Nat.mul_add_div hn, Nat.div_eq_of_lt hk, Nat.add_zero]
  · rw [Nat.mul_comm, Nat.mul_add_mod, Nat.mod_eq_of_lt hk]
theorem q_lt {r n k : Nat} (hr : r < n) (hk : k < n) : r * n + k < n * n := by
  have h : (r + 1) * n ≤ n * n := Nat.mul_le_mul_right n hr
  rw [Nat.add_mul, Nat.one_mul] at h; omega
/-- a matrix times a block times its transpose -/
def mt (m : List (List Int)) (r i : Nat) : Int := (m.getD r []).getD i 0
def T1 (M : Nat → Nat → Int) (l : List Int) (n q j : Nat) : Int := M (q / n) j * l.getD (j * n + q % n) 0
def T2 (M : Nat → Nat → Int) (h : List Int) (n q j : Nat) : Int := h.getD (q / n * n + j) 0 * M (q % n) j
def halfL (M : Nat → Nat → Int) (l : List Int) (n : Nat) : List Int := accL (T1 M l n) (n * n) n
def prodL (M : Nat → Nat → Int) (l : List Int) (n : Nat) : List Int := accL (T2 M (halfL M l n) n) (n * n) n
def smallMt (M : Nat → Nat → Int) (n : Nat) : Prop := ∀ r i, r < n → i < n → -2 ≤ M r i ∧ M r i ≤ 2
def inW (l : List Int) (B : Int) : Prop := ∀ i : Nat, -B ≤ l.getD i 0 ∧ l.getD i 0 ≤ B
theorem mul_small {a b B : Int} (ha : -2 ≤ a ∧ a ≤ 2) (hb : -B ≤ b ∧ b ≤ B) : -(2 * B) ≤ a * b ∧ a * b ≤ 2 * B := by
  obtain rfl | rfl | rfl | rfl | rfl : a = -2 ∨ a = -1 ∨ a = 0 ∨ a = 1 ∨ a = 2 := by omega
  all_goals omega
theorem T1_range {M : Nat → Nat → Int} {l : List Int} {n q j : Nat} (hm : smallMt M n) (hl : inW l 1000000000) (hq : q < n * n) (hj : j < n) : -2000000000 ≤ T1 M l n q j ∧ T1 M l n q j ≤ 2000000000 := by
  have h1 := hm (q / n) j (Nat.div_lt_of_lt_mul hq) hj
  have h2 := mul_small h1 (hl (j * n + q % n))
  unfold T1; omega
theorem half_range {M : Nat → Nat → Int} {l : List Int} {n : Nat} (hm : smallMt M n) (hl : inW l 1000000000) (hn : n ≤ 8) : inW (halfL M l n) 16000000000 := by
  intro i
  by_cases hi : i < n * n
  · unfold halfL; rw [accL_get _ hi]
    have h := accP_range (T := T1 M l n) (q := i) (B := 2000000000) (n := n) fun j hj => T1_range hm hl hi hj
    omega
  · rw [List.getD_eq_getElem?_getD, List.getElem?_eq_none (by unfold halfL; rw [accL_length]; omega)]; simp
theorem T2_range {M : Nat → Nat → Int} {h : List Int} {n q j : Nat} (hm : smallMt M n) (hl : inW h 16000000000) (hj : j < n) : -32000000000 ≤ T2 M h n q j ∧ T2 M h n q j ≤ 32000000000 := by
  have h1 := hm (q % n) j (Nat.mod_lt _ (by omega)) hj
  have h2 := mul_small h1 (hl (q / n * n + j))
  unfold T2; rw [Int.mul_comm]; omega
/-- both matrices -/
def matA : List (List Int) := [[1, 1, 1, 1], [2, 1, -1, -2], [1, -1, -1, 1], [1, -2, 2, -1]]
def pop3 (x : Nat) : Nat := x % 2 + x / 2 % 2 + x / 4 % 2
def hEnt (r k : Nat) : Int := 1 - 2 * (((pop3 (r &&& k) : Nat) : Int) % 2)
def mAt (r k : Nat) : Int := mt matA k r
theorem mAt_small : smallMt mAt 4 := by
  intro r i hr hi
  obtain rfl | rfl | rfl | rfl : r = 0 ∨ r = 1 ∨ r = 2 ∨ r = 3 := by omega
  all_goals (obtain rfl | rfl | rfl | rfl : i = 0 ∨ i = 1 ∨ i = 2 ∨ i = 3 := by omega) <;> decide
theorem hEnt_small : smallMt hEnt 8 := by
  intro r i hr hi
  unfold hEnt; omega
theorem hEnt_comm (r k : Nat) : hEnt r k = hEnt k r := by unfold hEnt; rw [Nat.and_comm]
/-- tables row by row -/
def tabU (M : Nat → Nat → Int) (n r k : Nat) : List (List Int) := (List.range n).map fun j => if j < r then (List.range n).map (M j) else if j = r then (List.range k).map (M j) else []
def tabM (M : Nat → Nat → Int) (n : Nat) : List (List Int) := (List.range n).map fun r => (List.range n).map (M r)
theorem tabU_length (M : Nat → Nat → Int) (n r k : Nat) : (tabU M n r k).length = n := by simp [tabU]
theorem tabU_zero (M : Nat → Nat → Int) (n : Nat) : tabU M n 0 0 = List.replicate n [] := by
  have e : ∀ j ∈ List.range n, (if j < 0 then (List.range n).map (M j) else if j = 0 then (List.range 0).map (M j) else []) = [] := by
    intro j _
    rw [if_neg (Nat.not_lt_zero j)]; split <;> rfl
  unfold tabU
  rw [List.map_congr_left e, List.map_const', List.length_range]
theorem tabU_next (M : Nat → Nat → Int) (n r : Nat) : tabU M n r n = tabU M n (r + 1) 0 := by
  unfold tabU
  refine List.map_congr_left fun j _ => ?_
  by_cases h : j < r
  · rw [if_pos h, if_pos (by omega)]
  · rw [if_neg h]
    by_cases h2 : j = r
    · rw [if_pos h2, if_pos (by omega)]
    · rw [if_neg h2, if_neg (by omega)]
      split <;> rfl
theorem tabU_end (M : Nat → Nat → Int) {n r k : Nat} (h : n ≤ r) : tabU M n r k = tabM M n := by
  unfold tabU tabM
  refine List.map_congr_left fun j hj => ?_
  rw [if_pos (by have := List.mem_range.1 hj; omega)]
theorem tabU_get (M : Nat → Nat → Int) {n r k : Nat} (h : r < n) : (tabU M n r k).getD r [] = (List.range k).map (M r) := by
  simp [tabU, List.getD, h]
theorem tabM_get (M : Nat → Nat → Int) {n r : Nat} (h : r < n) : (tabM M n).getD r [] = (List.range n).map (M r) := by
  simp [tabM, List.getD, h]
theorem tabU_set (M : Nat → Nat → Int) {n r k : Nat} {v : Int} (h : r < n) (hv : v = M r k) : (tabU M n r k).set r ((tabU M n r k).getD r [] ++ [v]) = tabU M n r (k + 1) := by
  rw [tabU_get M h]
  apply List.ext_getElem?
  intro j
  rw [List.getElem?_set, tabU_length]
  unfold tabU
  by_cases hj : j < n
  · rw [List.getElem?_map, List.getElem?_map, List.getElem?_range hj]
    by_cases e : r = j
    · subst e; rw [if_pos rfl, if_pos hj]; simp [hv, List.range_succ]
    · rw [if_neg e]
      simp only [Option.map_some]
      congr 1
      rw [if_neg (c := j = r) (by omega), if_neg (c := j = r) (by omega)]
  · rw [List.getElem?_eq_none (by simp; omega)]
    by_cases e : r = j
    · omega
    · rw [if_neg e, List.getElem?_eq_none (by simp; omega)]
theorem row_get (M : Nat → Nat → Int) {n r i : Nat} (hi : i < n) : ((List.range n).map (M r)).getD i 0 = M r i := by simp [List.getD, hi]
theorem T1_at {M : Nat → Nat → Int} {l : List Int} {n r k i : Nat} (hk : k < n) : T1 M l n (r * n + k) i = M r i * l.getD (i * n + k) 0 := by
  unfold T1; rw [(qdiv hk).1, (qdiv hk).2]
theorem T2_at {M : Nat → Nat → Int} {h : List Int} {n r k i : Nat} (hk : k < n) : T2 M h n (r * n + k) i = h.getD (r * n + i) 0 * M k i := by
  unfold T2; rw [(qdiv hk).1, (qdiv hk).2]
/-- a matrix laid flat, filled column by column -/
def colS (R : Nat → Nat → Int) (n r i : Nat) : List Int := (List.range (n * n)).map fun q => if q % n < r ∨ (q % n = r ∧ q / n < i) then R (q % n) (q / n) else 0
def flatM (M : Nat → Nat → Int) (n : Nat) : List Int := (List.range (n * n)).map fun q => M (q / n) (q % n)
theorem colS_length (R : Nat → Nat → Int) (n r i : Nat) : (colS R n r i).length = n * n := by simp [colS]
theorem flatM_length (M : Nat → Nat → Int) (n : Nat) : (flatM M n).length = n * n := by simp [flatM]
theorem flatM_get (M : Nat → Nat → Int) {n r k : Nat} (hr : r < n) (hk : k < n) : (flatM M n).getD (r * n + k) 0 = M r k := by
  have := q_lt hr hk
  simp only [flatM, List.getD_eq_getElem?_getD, List.getElem?_map, List.getElem?_range this, Option.map_some, Option.getD_some]
  rw [(qdiv hk).1, (qdiv hk).2]
theorem colS_zero (R : Nat → Nat → Int) (n : Nat) : colS R n 0 0 = List.replicate (n * n) 0 := by
  have e : ∀ q ∈ List.range (n * n), (if q % n < 0 ∨ (q % n = 0 ∧ q / n < 0) then R (q % n) (q / n) else 0) = 0 := by
    intro q _; rw [if_neg (fun h => h.elim (Nat.not_lt_zero _) fun h => Nat.not_lt_zero _ h.2)]
  unfold colS
  rw [List.map_congr_left e, List.map_const', List.length_range]
theorem colS_next (R : Nat → Nat → Int) (n r : Nat) : colS R n r n = colS R n (r + 1) 0 := by
  unfold colS
  refine List.map_congr_left fun q hq => ?_
  have h1 : q / n < n := Nat.div_lt_of_lt_mul (List.mem_range.1 hq)
  generalize q / n = A at *
  generalize q % n = B at *
  by_cases h : B < r ∨ B = r
  · rw [if_pos (by omega), if_pos (by omega)]
  · rw [if_neg (by omega), if_neg (by omega)]
theorem colS_end (R : Nat → Nat → Int) {n r : Nat} (h : n ≤ r) : colS R n r 0 = flatM (fun a b => R b a) n := by
  unfold colS flatM
  refine List.map_congr_left fun q hq => ?_
  have h0 : 0 < n := by
    rcases Nat.eq_zero_or_pos n with h | h
    · subst h; simp at hq
    · exact h
  have h1 := Nat.mod_lt q h0
  rw [if_pos (by omega)]
theorem colS_set (R : Nat → Nat → Int) {n r i : Nat} {v : Int} (hr : r < n) (hi : i < n) (hv : v = R r i) : (colS R n r i).set (i * n + r) v = colS R n r (i + 1) := by
  have hq := q_lt hi hr
  apply List.ext_getElem?
  intro j
  rw [List.getElem?_set, colS_length]
  unfold colS
  by_cases hj : j < n * n
  · rw [List.getElem?_map, List.getElem?_map, List.getElem?_range hj]
    by_cases e : i * n + r = j
    · subst e; rw [if_pos rfl, if_pos hj]; simp only [Option.map_some]; rw [(qdiv hr).1, (qdiv hr).2, if_pos (by omega), hv]
    · rw [if_neg e]
      simp only [Option.map_some]
      congr 1
      have hne : ¬ (j % n = r ∧ j / n = i) := fun h => e (by rw [← h.1, ← h.2, Nat.mul_comm]; exact Nat.div_add_mod j n)
      by_cases h : j % n < r ∨ (j % n = r ∧ j / n < i)
      · rw [if_pos h, if_pos (by omega)]
      · rw [if_neg h, if_neg (by omega)]
  · rw [List.getElem?_eq_none (by simp; omega)]
    by_cases e : i * n + r = j
    · omega
    · rw [if_neg e, List.getElem?_eq_none (by simp; omega)]
/-- rows by the size -/
def RW (n r i : Nat) : Int := if n = 4 then mt matA r i else hEnt r i
def MW (n a b : Nat) : Int := RW n b a
theorem MW_4 : MW 4 = mAt := by funext a b; rfl
theorem MW_8 : MW 8 = hEnt := by
  funext a b
  show (if (8 : Nat) = 4 then mt matA b a else hEnt b a) = hEnt a b
  rw [if_neg (by decide)]; exact hEnt_comm b a
theorem MW_small {n : Nat} (h : n = 4 ∨ n = 8) : smallMt (MW n) n := by
  rcases h with rfl | rfl
  · rw [MW_4]; exact mAt_small
  · rw [MW_8]; exact hEnt_small
/-- signs bit by bit -/
def sg (b : Nat) : Int := 1 - 2 * (((pop3 b : Nat) : Int) % 2)
theorem sg_half : ∀ b : Fin 8, (b.1 % 2 = 1 → sg (b.1 / 2) = - sg b.1) ∧ (b.1 % 2 = 0 → sg (b.1 / 2) = sg b.1) := by decide
theorem sg_step {b : Nat} (h : b ≤ 7) : (b % 2 = 1 → sg (b / 2) = - sg b) ∧ (b % 2 = 0 → sg (b / 2) = sg b) := sg_half ⟨b, by omega⟩
theorem sg_zero : sg 0 = 1 := by decide
/-- the order of a scan -/
def scCell (n : Int) (d k : Nat) : List Int :=
  if (if (d : Int) % 2 = 0 then (d : Int) - k else k) < n ∧ (d : Int) - (if (d : Int) % 2 = 0 then (d : Int) - k else k) < n then [((d : Int) - (if (d : Int) % 2 = 0 then (d : Int) - k else k)) * n + (if (d : Int) % 2 = 0 then (d : Int) - k else k)] else []
theorem scE {n : Int} {d k : Nat} (h : (d : Int) % 2 = 0) : scCell n d k = if (d : Int) - k < n ∧ (d : Int) - ((d : Int) - k) < n then [((d : Int) - ((d : Int) - k)) * n + ((d : Int) - k)] else [] := by
  unfold scCell; rw [if_pos h]
theorem scO {n : Int} {d k : Nat} (h : ¬ (d : Int) % 2 = 0) : scCell n d k = if (k : Int) < n ∧ (d : Int) - k < n then [((d : Int) - k) * n + k] else [] := by
  unfold scCell; rw [if_neg h]
theorem scE2 {n : Int} {d k : Nat} (h : (d : Int) % 2 = 0) : scCell n d k = if (d : Int) - k < n ∧ (k : Int) < n then [(k : Int) * n + ((d : Int) - k)] else [] := by
  rw [scE h, show (d : Int) - ((d : Int) - k) = k by omega]
def scRow (n : Int) (d k : Nat) : List Int := (List.range k).flatMap (scCell n d)
def scN (n : Int) (d : Nat) : List Int := (List.range d).flatMap fun d => scRow n d (d + 1)
def scanOf (n : Int) : List Int := if n = 4 ∨ n = 8 then scN n (2 * n - 1).toNat else []
theorem scRow_succ (n : Int) (d k : Nat) : scRow n d (k + 1) = scRow n d k ++ scCell n d k := by simp [scRow, List.range_succ, List.flatMap_append]
theorem scN_succ (n : Int) (d : Nat) : scN n (d + 1) = scN n d ++ scRow n d (d + 1) := by simp [scN, List.range_succ, List.flatMap_append]
theorem scCell_len (n : Int) (d k : Nat) : (scCell n d k).length ≤ 1 := by
  by_cases h : (d : Int) % 2 = 0
  · rw [scE h]; split <;> simp
  · rw [scO h]; split <;> simp
theorem scRow_len (n : Int) (d k : Nat) : (scRow n d k).length ≤ k := by
  induction k with
  | zero => simp [scRow]
  | succ k ih => have := scCell_len n d k; rw [scRow_succ, List.length_append]; omega
theorem scN_len (n : Int) {d : Nat} (h : d ≤ 15) : (scN n d).length ≤ 16 * d := by
  induction d with
  | zero => simp [scN]
  | succ d ih => have := scRow_len n d (d + 1); have := ih (by omega); rw [scN_succ, List.length_append]; omega
theorem scan_no {n : Int} (h : ¬ (n = 4 ∨ n = 8)) : scanOf n = [] := if_neg h
theorem scan_yes {n : Int} {d : Nat} (h : n = 4 ∨ n = 8) (hd : (d : Int) = 2 * n - 1) : scanOf n = scN n d := by
  unfold scanOf; rw [if_pos h, show (2 * n - 1).toNat = d by omega]
def permL (l : List Int) (N : Nat) : Prop := l.length = N ∧ ∀ i : Nat, i < N → 0 ≤ l.getD i 0 ∧ l.getD i 0 < N
instance (l : List Int) (N : Nat) : Decidable (permL l N) := by unfold permL; infer_instance
theorem scan_perm4 : permL (scanOf 4) 16 := by decide
theorem scan_perm8 : permL (scanOf 8) 64 := by decide
theorem scan_facts {N : Nat} {k : Nat} (h : k < (scanOf (sideOf N)).length) : (scanOf (sideOf N)).length = N ∧ (N = 16 ∨ N = 64) ∧ 0 ≤ (scanOf (sideOf N)).getD k 0 ∧ (scanOf (sideOf N)).getD k 0 < N := by
  unfold sideOf at *
  by_cases h1 : (N : Int) = 16
  · rw [if_pos h1] at h ⊢
    obtain rfl : N = 16 := by omega
    have := scan_perm4
    exact ⟨this.1, .inl rfl, this.2 k (by rw [this.1] at h; exact h)⟩
  · rw [if_neg h1] at h ⊢
    by_cases h2 : (N : Int) = 64
    · rw [if_pos h2] at h ⊢
      obtain rfl : N = 64 := by omega
      have := scan_perm8
      exact ⟨this.1, .inr rfl, this.2 k (by rw [this.1] at h; exact h)⟩
    · rw [if_neg h2] at h ⊢
      rw [scan_no (by omega)] at h; simp at h
theorem scan_len {N : Nat} (h : N = 16 ∨ N = 64) : (scanOf (sideOf N)).length = N := by
  rcases h with rfl | rfl
  · exact scan_perm4.1
  · exact scan_perm8.1
def plK (o l : List Int) (N : Nat) : Nat → List Int
  | 0 => List.replicate N 0
  | k + 1 => (plK o l N k).set (o.getD k 0).toNat (l.getD k 0)
def placed (l : List Int) : List Int := plK (scanOf (sideOf l.length)) l (scanOf (sideOf l.length)).length (scanOf (sideOf l.length)).length
theorem plK_length (o l : List Int) (N k : Nat) : (plK o l N k).length = N := by
  induction k with
  | zero => simp [plK]
  | succ k ih => simp only [plK]; rw [List.length_set]; exact ih
/-- steps and norms -/
theorem stepOf_le {q : Int} (h : 0 ≤ q ∧ q ≤ 51) : 1 ≤ stepOf q ∧ stepOf q ≤ 448 := by
  have : ∀ k : Nat, k ≤ 51 → 1 ≤ stepOf k ∧ stepOf k ≤ 448 := by decide
  have h1 := this q.toNat (by omega)
  rw [show ((q.toNat : Nat) : Int) = q by omega] at h1
  exact h1
theorem stepOf_no {q : Int} (h : ¬ (0 ≤ q ∧ q ≤ 51)) : stepOf q = 0 := if_neg h
theorem stepOf_rng (q : Int) : 0 ≤ stepOf q ∧ stepOf q ≤ 448 := by
  by_cases h : 0 ≤ q ∧ q ≤ 51
  · have := stepOf_le h; omega
  · rw [stepOf_no h]; omega
def normAt (n i : Int) : Int := if (n = 4 ∨ n = 8) ∧ 0 ≤ i ∧ i ≤ n * n - 1 then (if n = 8 then 1 else if i / 4 % 2 + i % 4 % 2 = 0 then 100 else if i / 4 % 2 + i % 4 % 2 = 2 then 16 else 40) else 0
theorem normAt_range (n i : Int) : 0 ≤ normAt n i ∧ normAt n i ≤ 100 := by
  unfold normAt; split
  · split
    · omega
    · split
      · omega
      · split <;> omega
  · omega
def scaledK (l : List Int) (q : Int) (k : Nat) : List Int := (List.range k).map fun i : Nat => l.getD i 0 * stepOf q * normAt (sideOf l.length) i
def scaled (l : List Int) (q : Int) : List Int := if levelsOk l ∧ stepOf q ≠ 0 then scaledK l q l.length else []
theorem scaledK_succ (l : List Int) (q : Int) (k : Nat) : scaledK l q (k + 1) = scaledK l q k ++ [l.getD k 0 * stepOf q * normAt (sideOf l.length) k] := by simp [scaledK, List.range_succ]
theorem scaledK_length (l : List Int) (q : Int) (k : Nat) : (scaledK l q k).length = k := by simp [scaledK]
/-- rounding -/
def clampW (v : Int) : Int := max (-1000000000000) (min 1000000000000 v)
def rndE (N : Int) (v : Int) : Int := if N = 16 then (clampW v + 800) / 1600 else (clampW v + 32) / 64
def rndK (l : List Int) (k : Nat) : List Int := (List.range k).map fun i : Nat => rndE l.length (l.getD i 0)
def rounded (l : List Int) : List Int := if sideOf l.length = 0 then [] else rndK l l.length
theorem rndK_succ (l : List Int) (k : Nat) : rndK l (k + 1) = rndK l k ++ [rndE l.length (l.getD k 0)] := by simp [rndK, List.range_succ]
theorem rnd_i {N b v : Int} (h : (N = 16 ∧ b = 1600) ∨ (¬ N = 16 ∧ b = 64)) : (max (-1000000000000) (min v 1000000000000) + b / 2) / b = rndE N v := by
  rw [Int.min_comm]
  rcases h with ⟨h, rfl⟩ | ⟨h, rfl⟩
  · unfold rndE clampW; rw [if_pos h]; rfl
  · unfold rndE clampW; rw [if_neg h]; rfl
theorem rndK_length (l : List Int) (k : Nat) : (rndK l k).length = k := by simp [rndK]
theorem plK_range {o l : List Int} {N : Nat} {B : Int} (hB : 0 ≤ B) (h : ∀ i : Nat, -B ≤ l.getD i 0 ∧ l.getD i 0 ≤ B) (k : Nat) : ∀ i : Nat, -B ≤ (plK o l N k).getD i 0 ∧ (plK o l N k).getD i 0 ≤ B := by
  induction k with
  | zero =>
    intro i
    have e : (plK o l N 0).getD i 0 = 0 := by show (List.replicate N (0 : Int)).getD i 0 = 0; rw [List.getD_eq_getElem?_getD, List.getElem?_replicate]; split <;> rfl
    rw [e]; omega
  | succ k ih =>
    intro i
    simp only [plK, List.getD_eq_getElem?_getD, List.getElem?_set]
    split
    · split
      · have := h k; rw [List.getD_eq_getElem?_getD] at this; simpa using this
      · simp; omega
    · have := ih i; rw [List.getD_eq_getElem?_getD] at this; exact this
theorem levels_any {l : List Int} (h : levelsOk l) (i : Nat) : -16383 ≤ l.getD i 0 ∧ l.getD i 0 ≤ 16383 := by
  by_cases hi : i < l.length
  · exact h.1 i hi
  · rw [List.getD_eq_getElem?_getD, List.getElem?_eq_none (by omega)]; simp
theorem levels_size {l : List Int} (h : levelsOk l) : l.length = 16 ∨ l.length = 64 := by have := side_len h.2; omega
theorem placed_len {l : List Int} (h : levelsOk l) : (placed l).length = l.length := by
  unfold placed; rw [plK_length, scan_len (levels_size h)]
theorem placed_ok {l : List Int} (h : levelsOk l) : levelsOk (placed l) := by
  refine ⟨fun j _ => plK_range (by decide) (levels_any h) _ j, ?_⟩
  rw [placed_len h]; exact h.2
/-- inverse transforms, for blocks of the right size whose numbers are not too big -/
def fitsW (l : List Int) (N : Nat) : Prop := l.length = N ∧ allIn (-1000000000) 1000000000 l
instance (l : List Int) (N : Nat) : Decidable (fitsW l N) := by unfold fitsW; infer_instance
theorem fits_inW {l : List Int} {N : Nat} (h : fitsW l N) : inW l 1000000000 := by
  intro i
  by_cases hi : i < l.length
  · exact h.2 i hi
  · rw [List.getD_eq_getElem?_getD, List.getElem?_eq_none (by omega)]; simp
def prodG (M : Nat → Nat → Int) (l : List Int) (n : Nat) : List Int := if fitsW l (n * n) then prodL M l n else []
theorem prodL_length (M : Nat → Nat → Int) (l : List Int) (n : Nat) : (prodL M l n).length = n * n := accL_length _ _ _
theorem prodG_le (M : Nat → Nat → Int) (l : List Int) (n : Nat) : (prodG M l n).length ≤ n * n := by
  unfold prodG; split
  · rw [prodL_length]; exact Nat.le_refl _
  · simp
/-- what levels come to -/
def residual (q : Int) (byp : Bool) (l : List Int) : List Int :=
  if levelsOk l ∧ 0 ≤ q ∧ q ≤ 51 then (if byp = true then placed l else if l.length = 16 then rounded (prodG mAt (scaled (placed l) q) 4) else rounded (prodG hEnt (scaled (placed l) q) 8)) else []
theorem scaled_len {l : List Int} {q : Int} (h : levelsOk l) (hq : 0 ≤ q ∧ q ≤ 51) : (scaled l q).length = l.length := by
  unfold scaled; rw [if_pos ⟨h, by have := stepOf_le hq; omega⟩, scaledK_length]
theorem scaled_no {l : List Int} {q : Int} (h : ¬ (levelsOk l ∧ stepOf q ≠ 0)) : scaled l q = [] := if_neg h
theorem mul3 {a b c : Int} (ha : -16383 ≤ a ∧ a ≤ 16383) (hb : 0 ≤ b ∧ b ≤ 448) (hc : 0 ≤ c ∧ c ≤ 100) : (-7339584 ≤ a * b ∧ a * b ≤ 7339584) ∧ (-733958400 ≤ a * b * c ∧ a * b * c ≤ 733958400) := by
  have h1 : -(16383 * b) ≤ a * b ∧ a * b ≤ 16383 * b := by
    constructor
    · have := Int.mul_le_mul_of_nonneg_right (show -16383 ≤ a by omega) hb.1; omega
    · exact Int.mul_le_mul_of_nonneg_right ha.2 hb.1
  have h2 : -(7339584 * c) ≤ a * b * c ∧ a * b * c ≤ 7339584 * c := by
    constructor
    · have := Int.mul_le_mul_of_nonneg_right (show -7339584 ≤ a * b by omega) hc.1; omega
    · exact Int.mul_le_mul_of_nonneg_right (show a * b ≤ 7339584 by omega) hc.1
  omega
theorem residual_no {q : Int} {byp : Bool} {l : List Int} (h : ¬ (levelsOk l ∧ 0 ≤ q ∧ q ≤ 51)) : residual q byp l = [] := if_neg h
theorem residual_le (q : Int) (byp : Bool) (l : List Int) : (residual q byp l).length ≤ 64 := by
  unfold residual; split
  · next h =>
    have hs := levels_size h.1
    split
    · rw [placed_len h.1]; omega
    · have hr : ∀ x : List Int, x.length ≤ 64 → (rounded x).length ≤ 64 := by
        intro x hx; unfold rounded; split
        · simp
        · rw [rndK_length]; exact hx
      have hp : ∀ (M : Nat → Nat → Int) (x : List Int) (n : Nat), n * n ≤ 64 → (prodG M x n).length ≤ 64 := by
        intro M x n hn; unfold prodG; split
        · rw [prodL_length]; exact hn
        · simp
      split
      · exact hr _ (hp _ _ 4 (by decide))
      · exact hr _ (hp _ _ 8 (by decide))
  · simp
end Go.Pl

/- Plain numbers: products by sums and differences; sizes of blocks. -/
namespace Go.Pl
/-- sums -/
def sumN (f : Nat → Int) : Nat → Int
  | 0 => 0
  | k + 1 => sumN f k + f k
theorem sumN_congr {f g : Nat → Int} {n : Nat} (h : ∀ j, j < n → f j = g j) : sumN f n = sumN g n := by
  induction n with
  | zero => rfl
  | succ n ih => simp only [sumN]; rw [ih fun j hj => h j (by omega), h n (by omega)]
end Go.Pl
