/- Plain numbers: lists of bits, the bytes that they make, codes of numbers. -/
import Derived.Test.YtdnckakaoageoaaPl5
import Derived.Test.YtdnckakaoageoaaSxB
namespace Go.Pl
open Go.Sx
/-- the w low bits of n, the highest first -/
def bitsl (n : Int) : Nat → List Int
  | 0 => []
  | w + 1 => n / 2 ^ w % 2 :: bitsl n w
theorem bitsl_length (n : Int) (w : Nat) : (bitsl n w).length = w := by induction w with
  | zero => rfl
  | succ w ih => simp [bitsl, ih]
def bitOk (w n : Int) : Prop := (0 ≤ w ∧ w ≤ 48) ∧ 0 ≤ n ∧ n / 2 ^ w.toNat = 0
instance (w n : Int) : Decidable (bitOk w n) := by unfold bitOk; infer_instance
def bitsIn (n w : Int) : List Int := if bitOk w n then bitsl n w.toNat else []
theorem bitsIn_len (n w : Int) : (bitsIn n w).length ≤ 48 ∧ (bitOk w n → ((bitsIn n w).length : Int) = w) := by
  unfold bitsIn; split
  · rename_i h; rw [bitsl_length]; obtain ⟨⟨h1, h2⟩, _⟩ := h; omega
  · simp; intro h; contradiction
/-- are all of them bits? -/
def isBits (b : List Int) : Prop := ∀ x ∈ b, x = 0 ∨ x = 1
instance (b : List Int) : Decidable (isBits b) := by unfold isBits; infer_instance
theorem bitsl_bits (n : Int) (w : Nat) : isBits (bitsl n w) := by
  induction w with
  | zero => intro x hx; cases hx
  | succ w ih =>
    intro x hx
    simp only [bitsl, List.mem_cons] at hx
    rcases hx with rfl | hx
    · omega
    · exact ih x hx
theorem bitsIn_bits (n w : Int) : isBits (bitsIn n w) := by
  unfold bitsIn; split
  · exact bitsl_bits _ _
  · intro x hx; cases hx
theorem isBits_app {a b : List Int} : isBits (a ++ b) ↔ isBits a ∧ isBits b := by
  unfold isBits; simp only [List.mem_append]
  exact ⟨fun h => ⟨fun x hx => h x (.inl hx), fun x hx => h x (.inr hx)⟩, fun h x hx => hx.elim (h.1 x) (h.2 x)⟩
theorem isBits_get {b : List Int} (h : isBits b) (i : Nat) : b.getD i 0 = 0 ∨ b.getD i 0 = 1 := by
  rw [List.getD_eq_getElem?_getD]
  cases hh : b[i]? with
  | none => left; rfl
  | some v => exact h v (List.mem_of_getElem? hh)
theorem isBits_take {b : List Int} (h : isBits b) (n : Nat) : isBits (b.take n) := fun x hx => h x (List.mem_of_mem_take hx)
theorem isBits_drop {b : List Int} (h : isBits b) (n : Nat) : isBits (b.drop n) := fun x hx => h x (List.mem_of_mem_drop hx)
theorem isBits_upto {b : List Int} (h : ∀ j : Nat, j < b.length → b.getD j 0 = 0 ∨ b.getD j 0 = 1) : isBits b := fun x hx => by
  obtain ⟨j, hj, rfl⟩ := List.mem_iff_getElem.1 hx
  have := h j hj
  simpa [List.getD, hj] using this
/-- bits as a number -/
def numl : List Int → Int
  | [] => 0
  | x :: r => x * 2 ^ r.length + numl r
theorem numl_app (a b : List Int) : numl (a ++ b) = numl a * 2 ^ b.length + numl b := by
  induction a with
  | nil => simp [numl]
  | cons x r ih =>
    simp only [List.cons_append, numl, ih, List.length_append]
    rw [Int.pow_add, Int.add_mul, Int.mul_assoc]; omega
theorem numl_snoc (a : List Int) (x : Int) : numl (a ++ [x]) = numl a * 2 + x := by rw [numl_app]; simp [numl]
theorem numl_range {b : List Int} (h : isBits b) : 0 ≤ numl b ∧ numl b < 2 ^ b.length := by
  induction b with
  | nil => simp [numl]
  | cons x r ih =>
    have h1 := ih fun y hy => h y (List.mem_cons_of_mem _ hy)
    have h2 := h x (by simp)
    have hp := two_pow_pos r.length
    simp only [numl, List.length_cons, two_pow_succ]
    rcases h2 with rfl | rfl <;> omega
theorem numl_get {b : List Int} (h : isBits b) (i : Nat) (hi : i < b.length) : numl b / 2 ^ (b.length - 1 - i) % 2 = b.getD i 0 := by
  induction b generalizing i with
  | nil => simp at hi
  | cons x r ih =>
    have hr : isBits r := fun y hy => h y (List.mem_cons_of_mem _ hy)
    have h1 := numl_range hr
    have h2 := h x (by simp)
    cases i with
    | zero =>
      simp only [numl, List.length_cons, Nat.add_sub_cancel, Nat.sub_zero, List.getD_cons_zero]
      have hp := two_pow_pos r.length
      rw [Int.add_comm, Int.add_mul_ediv_right _ _ (by omega), Int.ediv_eq_zero_of_lt h1.1 h1.2]
      rcases h2 with rfl | rfl <;> rfl
    | succ i =>
      simp only [List.length_cons] at hi
      have h3 := ih hr i (by omega)
      simp only [numl, List.length_cons, List.getD_cons_succ]
      rw [← h3]
      have e1 : r.length + 1 - 1 - (i + 1) = r.length - 1 - i := by omega
      rw [e1]
      obtain ⟨m, hm⟩ : ∃ m, r.length = (r.length - 1 - i) + (m + 1) := ⟨i, by omega⟩
      have e2 : x * 2 ^ r.length = (x * 2 ^ m * 2) * 2 ^ (r.length - 1 - i) := by
        conv => lhs; rw [hm, Int.pow_add, Int.pow_succ]
        rw [Int.mul_comm (2 ^ (r.length - 1 - i)), ← Int.mul_assoc, ← Int.mul_assoc]
      have hp := two_pow_pos (r.length - 1 - i)
      rw [e2, Int.add_comm, Int.add_mul_ediv_right _ _ (by omega)]
      generalize x * 2 ^ m = y
      omega
/-- the bytes of bits -/
def bytesl (b : List Int) : List Int := (List.range (b.length / 8)).map fun j => numl ((b.drop (8 * j)).take 8)
def packs (b : List Int) : ByteArray := strOf (bytesl b)
theorem bytesl_length (b : List Int) : (bytesl b).length = b.length / 8 := by simp [bytesl]
theorem packs_size (b : List Int) : (packs b).size = b.length / 8 := by unfold packs; rw [strOf_size, bytesl_length]
theorem strOf_byte {xs : List Int} (h : ∀ x ∈ xs, 0 ≤ x ∧ x ≤ 255) (i : Nat) : (((strOf xs).data.toList.getD i 0).toNat : Int) = xs.getD i 0 := by
  simp only [strOf, List.getD_eq_getElem?_getD, List.getElem?_map]
  cases hh : xs[i]? with
  | none => simp
  | some v =>
    have := h v (List.mem_of_getElem? hh)
    simp only [Option.map_some, Option.getD_some]
    rw [UInt8.toNat_ofNat']
    omega
theorem bytesl_range {b : List Int} (h : isBits b) : ∀ x ∈ bytesl b, 0 ≤ x ∧ x ≤ 255 := by
  intro x hx
  obtain ⟨j, _, rfl⟩ := List.mem_map.1 hx
  have h1 := numl_range (isBits_take (isBits_drop h (8 * j)) 8)
  have h2 := two_pow_le (n := ((b.drop (8 * j)).take 8).length) (m := 8) (by rw [List.length_take]; omega)
  have e : (2 : Int) ^ 8 = 256 := rfl
  rw [e] at h2
  omega
theorem bitAt_packs {b : List Int} (h : isBits b) (i : Nat) (hi : i < 8 * (b.length / 8)) : bitAt (packs b) i = b.getD i 0 := by
  have hs : (packs b).size = b.length / 8 := packs_size b
  rw [bitAt_in (by rw [hs]; omega)]
  unfold packs
  have e1 : ((i : Int) / 8).toNat = i / 8 := by omega
  rw [e1, strOf_byte (bytesl_range h)]
  have hj : i / 8 < b.length / 8 := by omega
  have e2 : (bytesl b).getD (i / 8) 0 = numl ((b.drop (8 * (i / 8))).take 8) := by
    simp only [bytesl, List.getD_eq_getElem?_getD, List.getElem?_map, List.getElem?_range hj, Option.map_some, Option.getD_some]
  have hl : ((b.drop (8 * (i / 8))).take 8).length = 8 := by rw [List.length_take, List.length_drop]; omega
  rw [e2]
  have h3 := numl_get (isBits_take (isBits_drop h (8 * (i / 8))) 8) (i % 8) (by rw [hl]; omega)
  rw [hl] at h3
  have e3 : (7 - (i : Int) % 8).toNat = 8 - 1 - i % 8 := by omega
  rw [e3, h3]
  simp only [List.getD_eq_getElem?_getD, List.getElem?_take, List.getElem?_drop]
  rw [if_pos (by omega)]
  congr 2; omega
/-- the bytes of the first k bits -/
def byP (b : List Int) (k : Nat) : List Int := (List.range (b.length / 8)).map fun j => numl ((b.drop (8 * j)).take (min 8 (k - 8 * j))) * 2 ^ (8 - min 8 (k - 8 * j))
theorem byP_length (b : List Int) (k : Nat) : (byP b k).length = b.length / 8 := by simp [byP]
theorem byP_zero (b : List Int) : byP b 0 = List.replicate (b.length / 8) 0 := by
  apply List.ext_getElem
  · simp [byP]
  · intro i h1 h2; simp [byP, numl]
theorem byP_get {b : List Int} {k j : Nat} (hj : j < b.length / 8) : (byP b k).getD j 0 = numl ((b.drop (8 * j)).take (min 8 (k - 8 * j))) * 2 ^ (8 - min 8 (k - 8 * j)) := by
  simp only [byP, List.getD_eq_getElem?_getD, List.getElem?_map, List.getElem?_range hj, Option.map_some, Option.getD_some]
theorem byP_range {b : List Int} (h : isBits b) (k j : Nat) : 0 ≤ (byP b k).getD j 0 ∧ (byP b k).getD j 0 ≤ 255 := by
  by_cases hj : j < b.length / 8
  · rw [byP_get hj]
    have h1 := numl_range (isBits_take (isBits_drop h (8 * j)) (min 8 (k - 8 * j)))
    generalize hs : min 8 (k - 8 * j) = s at *
    have hs8 : s ≤ 8 := by omega
    have hl : ((b.drop (8 * j)).take s).length = s := by rw [List.length_take, List.length_drop]; omega
    rw [hl] at h1
    have hp := two_pow_pos (8 - s)
    have e : (2 : Int) ^ s * 2 ^ (8 - s) = 256 := by rw [← Int.pow_add, show s + (8 - s) = 8 by omega]; rfl
    have h2 : (numl ((b.drop (8 * j)).take s) + 1) * 2 ^ (8 - s) ≤ 2 ^ s * 2 ^ (8 - s) := Int.mul_le_mul_of_nonneg_right (by omega) (by omega)
    have h3 := Int.mul_nonneg h1.1 (Int.le_of_lt hp)
    rw [e, Int.add_mul] at h2
    omega
  · have : (byP b k).getD j 0 = 0 := by
      simp only [List.getD_eq_getElem?_getD]; rw [List.getElem?_eq_none (by rw [byP_length]; omega)]; rfl
    rw [this]; omega
theorem byP_mult (b : List Int) (k : Nat) (hk : k / 8 < b.length / 8) : (byP b k).getD (k / 8) 0 = numl ((b.drop (8 * (k / 8))).take (k % 8)) * 2 ^ (8 - k % 8) := by
  rw [byP_get hk, show min 8 (k - 8 * (k / 8)) = k % 8 by omega]
theorem byP_succ (b : List Int) (k : Nat) (hk : k / 8 < b.length / 8) : byP b (k + 1) = (byP b k).set (k / 8) ((byP b k).getD (k / 8) 0 + b.getD k 0 * 2 ^ (7 - k % 8)) := by
  apply List.ext_getElem?
  intro i
  rw [List.getElem?_set, byP_length]
  by_cases hi : i < b.length / 8
  · have e : ∀ m, (byP b m)[i]? = some (numl ((b.drop (8 * i)).take (min 8 (m - 8 * i))) * 2 ^ (8 - min 8 (m - 8 * i))) := fun m => by
      simp only [byP, List.getElem?_map, List.getElem?_range hi, Option.map_some]
    by_cases hik : k / 8 = i
    · subst hik
      rw [if_pos rfl, if_pos hk, e, byP_mult b k hk]
      have e1 : min 8 (k + 1 - 8 * (k / 8)) = k % 8 + 1 := by omega
      rw [e1, List.take_add_one]
      have e2 : (b.drop (8 * (k / 8)))[k % 8]? = some (b.getD k 0) := by
        rw [List.getElem?_drop, List.getD_eq_getElem?_getD, show 8 * (k / 8) + k % 8 = k by omega, List.getElem?_eq_getElem (by omega)]; rfl
      rw [e2, Option.toList_some, numl_snoc]
      have e3 : 8 - k % 8 = (7 - k % 8) + 1 := by omega
      have e4 : 8 - (k % 8 + 1) = 7 - k % 8 := by omega
      rw [e3, e4, two_pow_succ]
      generalize (2 : Int) ^ (7 - k % 8) = q
      rw [Int.add_mul, Int.mul_assoc]
    · rw [if_neg hik, e, e]
      have e1 : min 8 (k + 1 - 8 * i) = min 8 (k - 8 * i) := by omega
      rw [e1]
  · have e : ∀ m, (byP b m)[i]? = none := fun m => List.getElem?_eq_none (by rw [byP_length]; omega)
    by_cases hik : k / 8 = i
    · omega
    · rw [if_neg hik, e, e]
theorem byP_end {b : List Int} {k : Nat} (h : 8 * (b.length / 8) ≤ k) : byP b k = bytesl b := by
  unfold byP bytesl
  apply List.map_congr_left
  intro j hj
  rw [List.mem_range] at hj
  have e : min 8 (k - 8 * j) = 8 := by omega
  rw [e]; simp
def byOk (b : List Int) : Prop := isBits b ∧ b.length % 8 = 0
instance (b : List Int) : Decidable (byOk b) := by unfold byOk; infer_instance
def bytesStr (b : List Int) : ByteArray := if byOk b then packs b else ⟨#[]⟩
/-- all bits of a text -/
def bitsS (s : ByteArray) : List Int := (List.range (8 * s.size)).map (fun i : Nat => bitAt s (i : Int))
theorem bitsS_length (s : ByteArray) : (bitsS s).length = 8 * s.size := by simp [bitsS]
theorem bitsl_bitsOf {s : ByteArray} {a : Int} : ∀ (n : Nat), 0 ≤ a → a + n ≤ 8 * s.size → bitsl (bitsOf s a n) n = (List.range n).map fun i : Nat => bitAt s (a + i) := by
  have key : ∀ (n m : Nat), 0 ≤ a → a + ((n + m : Nat) : Int) ≤ 8 * s.size → ∀ q : Int, bitsl (q * 2 ^ n + bitsOf s (a + m) n) n = (List.range n).map fun i : Nat => bitAt s (a + m + i) := by
    intro n
    induction n with
    | zero => intros; rfl
    | succ n ih =>
      intro m h0 h1 q
      rw [List.range_succ_eq_map]
      simp only [bitsl, List.map_cons, List.map_map]
      have hb := bitAt_in0 (s := s) (i := a + m) (by omega)
      have hf := bitsOf_first s (a + m) n
      rw [Int.max_eq_left hb.1] at hf
      have hr := bitsOf_range s (a + m + 1) n
      have hp := two_pow_pos n
      have e1 : q * 2 ^ (n + 1) + bitsOf s (a + m) (n + 1) = (q * 2 + bitAt s (a + m)) * 2 ^ n + bitsOf s (a + ((m + 1 : Nat) : Int)) n := by
        rw [hf, two_pow_succ, Int.add_mul, Int.mul_assoc, show a + ((m + 1 : Nat) : Int) = a + m + 1 by omega]; omega
      congr 1
      · rw [e1, Int.add_comm, Int.add_mul_ediv_right _ _ (by omega), Int.ediv_eq_zero_of_lt (by rw [show a + ((m + 1 : Nat) : Int) = a + m + 1 by omega]; exact hr.1) (by rw [show a + ((m + 1 : Nat) : Int) = a + m + 1 by omega]; exact hr.2)]
        simp; omega
      · rw [e1, ih (m + 1) h0 (by omega)]
        apply List.map_congr_left
        intro i _
        simp only [Function.comp]
        congr 1; omega
  intro n h0 h1
  have := key n 0 h0 (by simpa using h1) 0
  simpa using this
theorem bitsS_cut {s : ByteArray} {a n : Nat} (h : a + n ≤ 8 * s.size) : ((bitsS s).drop a).take n = (List.range n).map fun i : Nat => bitAt s ((a : Int) + i) := by
  apply List.ext_getElem
  · simp [bitsS_length]; omega
  · intro i h1 h2
    simp [bitsS]
/-- how many zeros lead the code of n -/
def lz (n : Int) : Int := ((n + 1).toNat.log2 : Nat)
theorem lz_spec {n : Int} (h : 0 ≤ n) : 2 ^ (lz n).toNat ≤ n + 1 ∧ n + 1 < 2 ^ ((lz n).toNat + 1) := by
  have h1 := Nat.log2_self_le (n := (n + 1).toNat) (by omega)
  have h2 := Nat.lt_log2_self (n := (n + 1).toNat)
  unfold lz
  simp only [Int.toNat_natCast]
  have e1 : ((2 ^ (n + 1).toNat.log2 : Nat) : Int) = 2 ^ (n + 1).toNat.log2 := by simp
  have e2 : ((2 ^ ((n + 1).toNat.log2 + 1) : Nat) : Int) = 2 ^ ((n + 1).toNat.log2 + 1) := by simp
  rw [← e1, ← e2]
  omega
theorem lz_uniq {n : Int} {z : Nat} (h : 0 ≤ n) (h1 : 2 ^ z ≤ n + 1) (h2 : n + 1 < 2 ^ (z + 1)) : lz n = z := by
  obtain ⟨h3, h4⟩ := lz_spec h
  have h0 : 0 ≤ lz n := by unfold lz; omega
  rcases Nat.lt_trichotomy (lz n).toNat z with h5 | h5 | h5
  · have := two_pow_le (n := (lz n).toNat + 1) (m := z) (by omega); omega
  · omega
  · have := two_pow_le (n := z + 1) (m := (lz n).toNat) (by omega); omega
theorem lz_range {n : Int} (h : 0 ≤ n ∧ n ≤ 65534) : 0 ≤ lz n ∧ lz n ≤ 15 := by
  obtain ⟨h3, h4⟩ := lz_spec h.1
  have h0 : 0 ≤ lz n := by unfold lz; omega
  refine ⟨h0, ?_⟩
  rcases Int.lt_or_le 15 (lz n) with h5 | h5
  · have := two_pow_le (n := 16) (m := (lz n).toNat) (by omega)
    have e : (2 : Int) ^ 16 = 65536 := rfl
    omega
  · exact h5
/-- the length of a number's code -/
def ueSize (n : Int) : Int := if 0 ≤ n ∧ n ≤ 65534 then 2 * lz n + 1 else 0
end Go.Pl
