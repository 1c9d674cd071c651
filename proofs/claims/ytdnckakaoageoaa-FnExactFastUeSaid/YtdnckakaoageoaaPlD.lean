/- Plain numbers: frames filtered. -/
import Derived.Test.YtdnckakaoageoaaPlC
namespace Go.Pl
def allIn (lo hi : Int) (xs : List Int) : Prop := ∀ j : Nat, j < xs.length → lo ≤ xs.getD j 0 ∧ xs.getD j 0 ≤ hi
instance (lo hi : Int) (xs : List Int) : Decidable (allIn lo hi xs) := by unfold allIn; infer_instance
theorem four_in {lo hi a b c d : Int} : allIn lo hi [a, b, c, d] ↔ (lo ≤ a ∧ a ≤ hi) ∧ (lo ≤ b ∧ b ≤ hi) ∧ (lo ≤ c ∧ c ≤ hi) ∧ (lo ≤ d ∧ d ≤ hi) := by
  constructor
  · intro h; exact ⟨h 0 (by simp), h 1 (by simp), h 2 (by simp), h 3 (by simp)⟩
  · rintro ⟨h0, h1, h2, h3⟩ j hj
    match j, hj with
    | 0, _ => exact h0
    | 1, _ => exact h1
    | 2, _ => exact h2
    | 3, _ => exact h3
    | n + 4, h => simp at h; omega
theorem floor_eq {a b : Int} (hb : 0 < b) : (if a.tmod b < 0 then a.tdiv b - 1 else a.tdiv b) = a / b := by
  rcases Int.lt_or_le a 0 with h | h
  · obtain ⟨c, rfl⟩ : ∃ c, a = -c := ⟨-a, by omega⟩
    have hc : 0 ≤ c := by omega
    rw [Int.neg_tdiv, Int.neg_tmod, Int.tdiv_eq_ediv_of_nonneg hc, Int.tmod_eq_emod_of_nonneg hc]
    have h1 := Int.mul_ediv_add_emod c b
    have h2 := Int.emod_nonneg c (show b ≠ 0 by omega)
    have h3 := Int.emod_lt_of_pos c hb
    have h4 : c / b * b = b * (c / b) := Int.mul_comm _ _
    split
    · refine ((div_iff hb).2 ?_).symm
      rw [Int.sub_mul, Int.neg_mul, h4, Int.one_mul]
      generalize b * (c / b) = z at *
      omega
    · refine ((div_iff hb).2 ?_).symm
      rw [Int.neg_mul, h4]
      generalize b * (c / b) = z at *
      omega
  · rw [Int.tdiv_eq_ediv_of_nonneg h, Int.tmod_eq_emod_of_nonneg h, if_neg]
    have := Int.emod_nonneg a (show b ≠ 0 by omega)
    omega
theorem floor_up {a b : Int} (hb : 0 < b) : -((-a + b - 1) / b) = a / b := by
  have h1 := (div_iff (v := -a + b - 1) (q := (-a + b - 1) / b) hb).1 rfl
  refine ((div_iff hb).2 ?_).symm
  rw [Int.neg_mul]
  generalize (-a + b - 1) / b * b = z at *
  omega
theorem tdiv_range {a b : Int} (hb : 0 < b) (h : -9223372036854775807 ≤ a ∧ a ≤ 9223372036854775807) : -9223372036854775807 ≤ a.tdiv b ∧ a.tdiv b ≤ 9223372036854775807 := by
  rcases Int.lt_or_le a 0 with h1 | h1
  · obtain ⟨c, rfl⟩ : ∃ c, a = -c := ⟨-a, by omega⟩
    have hc : 0 ≤ c := by omega
    rw [Int.neg_tdiv, Int.tdiv_eq_ediv_of_nonneg hc]
    have h3 : 0 ≤ c / b := Int.ediv_nonneg hc (by omega)
    have h4 : c / b ≤ c := Int.ediv_le_self _ hc
    omega
  · rw [Int.tdiv_eq_ediv_of_nonneg h1]
    have h3 : 0 ≤ a / b := Int.ediv_nonneg h1 (by omega)
    have h4 : a / b ≤ a := Int.ediv_le_self _ h1
    omega
theorem tdiv_small {a b : Int} (hb : 0 < b) (h : -4611686018427387904 ≤ a ∧ a ≤ 4611686018427387904) : -4611686018427387904 ≤ a.tdiv b := by
  rcases Int.lt_or_le a 0 with h1 | h1
  · obtain ⟨c, rfl⟩ : ∃ c, a = -c := ⟨-a, by omega⟩
    have hc : 0 ≤ c := by omega
    rw [Int.neg_tdiv, Int.tdiv_eq_ediv_of_nonneg hc]
    have h4 : c / b ≤ c := Int.ediv_le_self _ hc
    omega
  · rw [Int.tdiv_eq_ediv_of_nonneg h1]
    have h3 : 0 ≤ a / b := Int.ediv_nonneg h1 (by omega)
    omega
theorem alpha_pos (q : Int) : 0 < alphaOf q ↔ 0 ≤ q ∧ q ≤ 51 := by unfold alphaOf; split <;> omega
theorem alpha_range (q : Int) : 0 ≤ alphaOf q ∧ alphaOf q ≤ 55 := by unfold alphaOf; split <;> omega
def fqOk (W H q : Int) (xs : List Int) : Prop := frOk W H xs ∧ 0 ≤ q ∧ q ≤ 51
instance (W H q : Int) (xs : List Int) : Decidable (fqOk W H q xs) := by unfold fqOk; infer_instance
def vertOf (W H q r : Int) (xs : List Int) : List Int := if fqOk W H q xs ∧ 0 ≤ r ∧ r ≤ H / 8 - 1 then egs q xs (vRows W (8 * r) 8) else xs
def horOf (W H q r : Int) (xs : List Int) : List Int := if fqOk W H q xs ∧ 1 ≤ r ∧ r ≤ H / 8 - 1 then egs q xs (hRow W (8 * r) W.toNat) else xs
def dbOf (W H q : Int) (xs : List Int) : List Int := if fqOk W H q xs then dbAll q W xs (H / 8).toNat else xs
theorem vertOf_length (W H q r : Int) (xs : List Int) : (vertOf W H q r xs).length = xs.length := by unfold vertOf; split <;> simp [egs_length]
theorem horOf_length (W H q r : Int) (xs : List Int) : (horOf W H q r xs).length = xs.length := by unfold horOf; split <;> simp [egs_length]
theorem dbOf_length (W H q : Int) (xs : List Int) : (dbOf W H q xs).length = xs.length := by unfold dbOf dbAll; split <;> simp [egs_length]
theorem fq_egs {W H q : Int} {xs : List Int} (l : List (Int × Int)) (h : fqOk W H q xs) : fqOk W H q (egs q xs l) := ⟨frOk_egs l h.1, h.2⟩
theorem fq_dbR {W H q : Int} {xs : List Int} (h : fqOk W H q xs) : ∀ r : Nat, fqOk W H q (dbR q W xs r)
  | 0 => by rw [dbR]; exact h
  | r + 1 => by
    rw [dbR]; split
    · exact fq_egs _ (fq_dbR h 0)
    · exact fq_egs _ (fq_egs _ (fq_dbR h r))
theorem dbR_step {W H q : Int} {xs : List Int} (h : fqOk W H q xs) {r : Nat} (hr : (r : Int) < H / 8) : horOf W H q r (vertOf W H q r (dbR q W xs r)) = dbR q W xs (r + 1) := by
  have h1 := fq_dbR h r
  have e : vertOf W H q r (dbR q W xs r) = egs q (dbR q W xs r) (vRows W (8 * (r : Int)) 8) := by unfold vertOf; rw [if_pos ⟨h1, by omega, by omega⟩]
  rw [e, dbR]
  by_cases h0 : r = 0
  · subst h0
    rw [if_pos rfl]; unfold horOf; rw [if_neg (fun h5 => by have := h5.2.1; omega)]; rfl
  · rw [if_neg h0]; unfold horOf; rw [if_pos ⟨fq_egs _ h1, by omega, by omega⟩]
theorem db_spec {W H q : Int} {xs : List Int} (h : fqOk W H q xs) {r : Nat} (hr : (r : Int) = H / 8) : dbR q W xs r = dbOf W H q xs := by
  unfold dbOf; rw [if_pos h, db_eq h.1.1.1.1, show (H / 8).toNat = r by omega]
theorem db_impl {W H q : Int} {xs : List Int} (h : fqOk W H q xs) {j : Nat} (hj : 8 * ((j : Int) + 1) = H) : egs q (egs q xs (vRows W 0 (H - 0).toNat)) (hRows W j) = dbOf W H q xs := by
  unfold dbOf dbAll; rw [if_pos h, show (H - 0).toNat = 8 * (H / 8).toNat by omega, show (H / 8).toNat - 1 = j by omega]
theorem vert_yes {W H q r : Int} {xs : List Int} (h : fqOk W H q xs) (h0 : 0 ≤ r) (h1 : r ≤ H / 8 - 1) : vertOf W H q r xs = egs q xs (vRows W (8 * r) (8 * r + 8 - 8 * r).toNat) := by
  unfold vertOf; rw [if_pos ⟨h, h0, h1⟩, show (8 * r + 8 - 8 * r).toNat = 8 by omega]
theorem vert_no {W H q r : Int} {xs : List Int} (h : ¬ (fqOk W H q xs ∧ 0 ≤ r ∧ r ≤ H / 8 - 1)) : vertOf W H q r xs = xs := by unfold vertOf; rw [if_neg h]
theorem hor_yes {W H q r : Int} {xs : List Int} (h : fqOk W H q xs) (h0 : 1 ≤ r) (h1 : r ≤ H / 8 - 1) : horOf W H q r xs = egs q xs (hRow W (8 * r) W.toNat) := by
  unfold horOf; rw [if_pos ⟨h, h0, h1⟩]
theorem hor_no {W H q r : Int} {xs : List Int} (h : ¬ (fqOk W H q xs ∧ 1 ≤ r ∧ r ≤ H / 8 - 1)) : horOf W H q r xs = xs := by unfold horOf; rw [if_neg h]
theorem db_no {W H q : Int} {xs : List Int} (h : ¬ fqOk W H q xs) : dbOf W H q xs = xs := by unfold dbOf; rw [if_neg h]
theorem sides_mul {W H : Int} (h : sidesOk W H) : 64 ≤ W * H ∧ W * H ≤ 1024 := by
  obtain ⟨h1, h2, _⟩ := h
  have e1 := Int.mul_le_mul h1.2 h2.2 (by omega) (by omega)
  have e2 := Int.mul_le_mul h1.1 h2.1 (by omega) (by omega)
  omega
/-- the geometry of a right frame -/
theorem fr_geo {W H : Int} {xs : List Int} (h : frOk W H xs) : (8 ≤ W ∧ W ≤ 32) ∧ (8 ≤ H ∧ H ≤ 32) ∧ W % 8 = 0 ∧ H % 8 = 0 ∧ (xs.length : Int) = W * H := ⟨h.1.1, h.1.2.1, h.1.2.2.1, h.1.2.2.2, h.2.1⟩
theorem row_in {W H y n : Int} (hW : 8 ≤ W ∧ W ≤ 32) (hn : n = W * H) (h0 : 0 ≤ y) (h1 : y ≤ H - 1) : 0 ≤ y * W ∧ y * W + W ≤ n ∧ y * W + W ≤ n := by
  have e1 := Int.mul_le_mul_of_nonneg_right (show y + 1 ≤ H by omega) (show 0 ≤ W by omega)
  have e2 := Int.mul_nonneg h0 (show 0 ≤ W by omega)
  rw [Int.add_mul, Int.one_mul, Int.mul_comm H W] at e1
  omega
theorem rows_in {W H y n : Int} (hW : 8 ≤ W ∧ W ≤ 32) (hn : n = W * H) (h0 : 2 ≤ y) (h1 : y ≤ H - 2) : 2 * W ≤ y * W ∧ y * W + 2 * W ≤ n := by
  have e1 := Int.mul_le_mul_of_nonneg_right (show y + 2 ≤ H by omega) (show 0 ≤ W by omega)
  have e2 := Int.mul_le_mul_of_nonneg_right h0 (show 0 ≤ W by omega)
  rw [Int.add_mul, Int.mul_comm H W] at e1
  omega
/-- places in rows that are not filtered -/
theorem vert_keep {W H q r : Int} {xs : List Int} {i : Nat} (hW : 8 ≤ W ∧ W ≤ 32) (hi : (i : Int) / W < 8 * r ∨ 8 * r + 8 ≤ (i : Int) / W) : (vertOf W H q r xs).getD i 0 = xs.getD i 0 := by
  unfold vertOf; split
  · next h5 =>
    have hr := h5.2.1
    refine egs_get fun e he => ?_
    obtain ⟨j, x, hj, hx, rfl⟩ := vRows_mem he
    have hd := (div_iff (v := (i : Int)) (q := (i : Int) / W) (show 0 < W by omega)).1 rfl
    have h0 := Int.mul_nonneg (show 0 ≤ 8 * r + (j : Int) by omega) (show 0 ≤ W by omega)
    simp only
    rcases hi with h1 | h1
    · have e1 := Int.mul_le_mul_of_nonneg_right (show (i : Int) / W + 1 ≤ 8 * r + (j : Int) by omega) (show 0 ≤ W by omega)
      rw [Int.add_mul ((i : Int) / W), Int.one_mul] at e1
      generalize (8 * r + (j : Int)) * W = A at *
      generalize (i : Int) / W * W = B at *
      omega
    · have e1 := Int.mul_le_mul_of_nonneg_right (show 8 * r + (j : Int) + 1 ≤ (i : Int) / W by omega) (show 0 ≤ W by omega)
      rw [Int.add_mul (8 * r + (j : Int)), Int.one_mul] at e1
      generalize (8 * r + (j : Int)) * W = A at *
      generalize (i : Int) / W * W = B at *
      omega
  · rfl
theorem hor_keep {W H q r : Int} {xs : List Int} {i : Nat} (hW : 8 ≤ W ∧ W ≤ 32) (hi : (i : Int) / W < 8 * r - 1 ∨ 8 * r < (i : Int) / W) : (horOf W H q r xs).getD i 0 = xs.getD i 0 := by
  unfold horOf; split
  · next h5 =>
    refine egs_get fun e he => ?_
    obtain ⟨x, hx, rfl⟩ := hRow_mem he
    have hd := (div_iff (v := (i : Int)) (q := (i : Int) / W) (show 0 < W by omega)).1 rfl
    have h0 := Int.mul_le_mul_of_nonneg_right (show 1 ≤ 8 * r by omega) (show 0 ≤ W by omega)
    rw [Int.one_mul] at h0
    simp only
    rcases hi with h1 | h1
    · have e1 := Int.mul_le_mul_of_nonneg_right (show (i : Int) / W + 2 ≤ 8 * r by omega) (show 0 ≤ W by omega)
      rw [Int.add_mul ((i : Int) / W)] at e1
      generalize 8 * r * W = A at *
      generalize (i : Int) / W * W = B at *
      omega
    · have e1 := Int.mul_le_mul_of_nonneg_right (show 8 * r + 1 ≤ (i : Int) / W by omega) (show 0 ≤ W by omega)
      rw [Int.add_mul (8 * r), Int.one_mul] at e1
      generalize 8 * r * W = A at *
      generalize (i : Int) / W * W = B at *
      omega
  · rfl
end Go.Pl
