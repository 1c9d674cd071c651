/- Plain numbers and lists, with no program in sight. -/
import Derived.Test.YtdnckakaoageoaaVPlV
/- Plain numbers: macroblocks read. -/
namespace Go.Pl
structure Rm where
  a : Int
  code : Int
  bs : List (Int × List Int)
end Go.Pl
namespace Go.Pl
end Go.Pl

/- Plain numbers: streams read. -/
namespace Go.Pl
structure Pm where
  a : Int
  code : Int
  ms : List PM
end Go.Pl

/- Plain numbers: scans, steps, transforms. -/
namespace Go.Pl
def T2 (M : Nat → Nat → Int) (h : List Int) (n q j : Nat) : Int := h.getD (q / n * n + j) 0 * M (q % n) j
def tabM (M : Nat → Nat → Int) (n : Nat) : List (List Int) := (List.range n).map fun r => (List.range n).map (M r)
theorem tabM_get (M : Nat → Nat → Int) {n r : Nat} (h : r < n) : (tabM M n).getD r [] = (List.range n).map (M r) := by
  simp [tabM, List.getD, h]
theorem row_get (M : Nat → Nat → Int) {n r i : Nat} (hi : i < n) : ((List.range n).map (M r)).getD i 0 = M r i := by simp [List.getD, hi]
def permL (l : List Int) (N : Nat) : Prop := l.length = N ∧ ∀ i : Nat, i < N → 0 ≤ l.getD i 0 ∧ l.getD i 0 < N
instance (l : List Int) (N : Nat) : Decidable (permL l N) := by unfold permL; infer_instance
/-- inverse transforms, for blocks of the right size whose numbers are not too big -/
def fitsW (l : List Int) (N : Nat) : Prop := l.length = N ∧ allIn (-1000000000) 1000000000 l
instance (l : List Int) (N : Nat) : Decidable (fitsW l N) := by unfold fitsW; infer_instance
end Go.Pl

/- Plain numbers: products by sums and differences; sizes of blocks. -/
namespace Go.Pl
/-- how many bits a block has -/
def pairSum (ps : List (Int × Int)) : Nat → Int
  | 0 => 0
  | k + 1 => pairSum ps k + (ueSize (ps.getD k default).1 + ueSize (numOf (ps.getD k default).2))
theorem pairSum_rng (ps : List (Int × Int)) (k : Nat) : 0 ≤ pairSum ps k ∧ pairSum ps k ≤ 62 * k := by
  induction k with
  | zero => simp [pairSum]
  | succ k ih =>
    have h1 := ueSize_range (ps.getD k default).1
    have h2 := ueSize_range (numOf (ps.getD k default).2)
    simp only [pairSum]; omega
def cnt0 (L : Int) (k : Nat) : Int := if 0 < k then L + 1 + ueSize ((k : Int) - 1) else L + 1
theorem cnt0_rng {L : Int} {k : Nat} (h : 0 ≤ L ∧ L ≤ 7) : 0 ≤ cnt0 L k ∧ cnt0 L k ≤ 39 := by
  have := ueSize_range ((k : Int) - 1)
  unfold cnt0; split <;> omega
theorem pair_count {p : Int × Int} (h : pairOk p) : ((pairBits p).length : Int) = ueSize p.1 + ueSize (numOf p.2) := by
  obtain ⟨h1, h2, h3⟩ := h
  have h4 : 0 ≤ numOf p.2 ∧ numOf p.2 ≤ 65534 := by unfold numOf; split <;> (try split) <;> omega
  have h5 := ueBits_len (n := p.1) (by omega)
  have h6 := ueBits_len h4
  unfold pairBits
  rw [List.length_append]; omega
theorem flat_count {ps : List (Int × Int)} (h : ∀ k : Nat, k < ps.length → pairOk (ps.getD k default)) : ∀ k : Nat, k ≤ ps.length → (((ps.take k).flatMap pairBits).length : Int) = pairSum ps k := by
  intro k
  induction k with
  | zero => intro _; simp [pairSum]
  | succ k ih =>
    intro hk
    have h1 := pair_count (h k (by omega))
    have h2 := ih (by omega)
    rw [flat_take_succ _ _ (by omega), List.length_append]
    simp only [pairSum]; omega
theorem block_count {m n : Int} {ys xs : List Int} (h : blockOk m ys xs n) : ((blockBits m ys xs n).length : Int) = cnt0 (xs.getD m.toNat 0) (pairsOf ys).length + pairSum (pairsOf ys) (pairsOf ys).length := by
  have h1 := symBits_len h.2.1
  have h2 := pairs_len ys
  unfold blockBits levelBits cnt0
  rw [if_pos h, List.length_append]
  by_cases h0 : (pairsOf ys).length = 0
  · rw [if_pos h0, if_neg (by omega), h0]
    simp only [pairSum, List.length_cons, List.length_nil]; omega
  · have h3 := ueBits_len (n := ((pairsOf ys).length : Int) - 1) (by omega)
    have h4 := flat_count (ps := pairsOf ys) (fun k hk => pairs_get k hk) (pairsOf ys).length (Nat.le_refl _)
    rw [List.take_length] at h4
    rw [if_neg h0, if_pos (by omega)]
    simp only [List.length_append, List.length_cons, List.length_nil]; omega
end Go.Pl
