/- Plain numbers: what is written is read. -/
import Derived.Test.YtdnckakaoageoaaPl8
import Derived.Lib.Tables
namespace Go.Pl
open Go.Sx
theorem len8_all : ∀ i : Fin 256, (Go.Lib.len8tab.data.toList.getD i.1 0).toNat = if i.1 = 0 then 0 else i.1.log2 + 1 := by decide +kernel
theorem len_small {x : Int} (h : 1 ≤ x ∧ x ≤ 255) : ((Go.Lib.len8tab.data.toList.getD x.toNat 0).toNat : Int) = lz (x - 1) + 1 := by
  have h1 := len8_all ⟨x.toNat, by omega⟩
  simp only at h1
  rw [h1, if_neg (by omega)]
  unfold lz
  rw [show x - 1 + 1 = x by omega]; omega
theorem lz_256 {x : Int} (h : 256 ≤ x ∧ x ≤ 65535) : lz (x - 1) = lz (x / 256 - 1) + 8 := by
  obtain ⟨h1, h2⟩ := lz_spec (n := x / 256 - 1) (by omega)
  have h0 : 0 ≤ lz (x / 256 - 1) := by unfold lz; omega
  obtain ⟨z, hz⟩ : ∃ z : Nat, lz (x / 256 - 1) = z := ⟨(lz (x / 256 - 1)).toNat, by omega⟩
  rw [hz] at h1 h2 ⊢
  have e : lz (x - 1) = ((z + 8 : Nat) : Int) := by
    refine lz_uniq (by omega) ?_ ?_
    · rw [Int.pow_add]; rw [Int.toNat_natCast] at h1; show 2 ^ z * 256 ≤ _; omega
    · rw [show z + 8 + 1 = z + 1 + 8 by omega, Int.pow_add]; rw [Int.toNat_natCast] at h2; show _ < 2 ^ (z + 1) * 256; omega
  rw [e]; omega
theorem mod_two {q r P : Int} (h0 : 0 ≤ r) (h1 : r < P) : (q * P + r) % (2 * P) = q % 2 * P + r := by
  have hb : 0 ≤ q % 2 * P ∧ q % 2 * P ≤ P := by
    rcases (show q % 2 = 0 ∨ q % 2 = 1 by omega) with hh | hh <;> rw [hh] <;> omega
  have e : q * P + r = (q % 2 * P + r) + q / 2 * (2 * P) := by
    have h2 : q = q / 2 * 2 + q % 2 := by omega
    conv => lhs; rw [h2]
    rw [Int.add_mul, Int.mul_assoc]; omega
  rw [e, Int.add_mul_emod_self_right, Int.emod_eq_of_lt (by omega) (by omega)]
theorem numl_bitsl {n : Int} (w : Nat) : numl (bitsl n w) = n % 2 ^ w := by
  induction w with
  | zero => simp [bitsl, numl, Int.emod_one]
  | succ w ih =>
    simp only [bitsl, numl, ih, bitsl_length, two_pow_succ]
    have hp := two_pow_pos w
    rw [← mod_two (Int.emod_nonneg n (by omega)) (Int.emod_lt_of_pos n hp)]
    congr 1
    rw [Int.mul_comm]; exact Int.mul_ediv_add_emod n (2 ^ w)
/-- bits read from bytes -/
theorem bitsOf_packs {B : List Int} (h : isBits B) (a : Nat) : ∀ n : Nat, a + n ≤ 8 * (B.length / 8) → bitsOf (packs B) a n = numl ((B.drop a).take n)
  | 0, _ => by simp [bitsOf, numl]
  | n + 1, hn => by
    have ih := bitsOf_packs h a n (by omega)
    simp only [bitsOf]
    rw [ih, show ((a : Int) + (n : Int)) = ((a + n : Nat) : Int) by omega, bitAt_packs h (a + n) (by omega)]
    have hx : 0 ≤ B.getD (a + n) 0 := by have := isBits_get h (a + n); omega
    rw [Int.max_eq_left hx, List.take_add_one]
    have e : (B.drop a)[n]? = some (B.getD (a + n) 0) := by
      rw [List.getElem?_drop, List.getD_eq_getElem?_getD, List.getElem?_eq_getElem (by omega)]; rfl
    rw [e, Option.toList_some, numl_snoc]
theorem zc_eq {s : ByteArray} : ∀ (z f : Nat) (a : Int), (∀ i : Nat, i < z → bitAt s (a + i) = 0) → bitAt s (a + z) ≠ 0 → z < f → zc s a f = z
  | 0, f, a, _, h1, _ => by
    rw [zc_stop (Or.inl (by simpa using h1))]
  | z + 1, f, a, h0, h1, hz => by
    have h2 := h0 0 (by omega)
    rw [zc_step (by simpa using h2) (by omega), zc_eq z (f - 1) (a + 1) (fun i hi => by have := h0 (i + 1) (by omega); rw [← this]; congr 1; omega) (by rw [show a + 1 + (z : Int) = a + ((z + 1 : Nat) : Int) by omega]; exact h1) (by omega)]
/-- the code of a number -/
def ueBits (n : Int) : List Int := if 0 ≤ n ∧ n ≤ 65534 then bitsIn (n + 1) (ueSize n) else []
theorem ueBits_eq {n : Int} (h : 0 ≤ n ∧ n ≤ 65534) : ueBits n = bitsl (n + 1) (2 * (lz n).toNat + 1) := by
  have h1 := lz_range h
  obtain ⟨h2, h3⟩ := lz_spec h.1
  have e : ueSize n = 2 * lz n + 1 := by unfold ueSize; rw [if_pos h]
  have h4 := two_pow_le (n := (lz n).toNat + 1) (m := (2 * lz n + 1).toNat) (by omega)
  unfold ueBits bitsIn
  rw [if_pos h, e, if_pos ⟨by omega, by omega, Int.ediv_eq_zero_of_lt (by omega) (by omega)⟩, show (2 * lz n + 1).toNat = 2 * (lz n).toNat + 1 by omega]
theorem ueBits_len {n : Int} (h : 0 ≤ n ∧ n ≤ 65534) : ((ueBits n).length : Int) = ueSize n := by
  have h1 := lz_range h
  rw [ueBits_eq h, bitsl_length]; unfold ueSize; rw [if_pos h]; omega
theorem ueBits_bits (n : Int) : isBits (ueBits n) := by
  unfold ueBits; split
  · exact bitsIn_bits _ _
  · intro x hx; cases hx
theorem ueBits_no {n : Int} (h : ¬ (0 ≤ n ∧ n ≤ 65534)) : ueBits n = [] := by unfold ueBits; rw [if_neg h]
theorem ueSize_no {n : Int} (h : ¬ (0 ≤ n ∧ n ≤ 65534)) : ueSize n = 0 := by unfold ueSize; rw [if_neg h]
theorem bitsl_get {n : Int} : ∀ {w i : Nat}, i < w → (bitsl n w).getD i 0 = n / 2 ^ (w - 1 - i) % 2
  | 0, _, h => by omega
  | w + 1, 0, _ => by simp [bitsl]
  | w + 1, i + 1, h => by
    simp only [bitsl, List.getD_cons_succ]
    rw [bitsl_get (by omega), show w + 1 - 1 - (i + 1) = w - 1 - i by omega]
/-- a number is read from its code, whatever follows -/
theorem ue_read {B R : List Int} {a : Nat} {n : Int} (h : isBits B) (h8 : B.length % 8 = 0) (hn : 0 ≤ n ∧ n ≤ 65534) (hB : B.drop a = ueBits n ++ R) (ha : a ≤ B.length) :
    ueOk (packs B) a ∧ zerosOf (packs B) a = lz n ∧ ueAt (packs B) a = a + ueSize n ∧ ueV (packs B) a = n ∧ ueE (packs B) a = 0 := by
  have hz := lz_range hn
  obtain ⟨h2, h3⟩ := lz_spec hn.1
  have hl := ueBits_len hn
  have hse : ueSize n = 2 * lz n + 1 := by unfold ueSize; rw [if_pos hn]
  have hlen : (B.drop a).length = (ueBits n).length + R.length := by rw [hB, List.length_append]
  rw [List.length_drop] at hlen
  have hsz : (packs B).size = B.length / 8 := packs_size B
  have hget : ∀ i : Nat, i < (ueBits n).length → bitAt (packs B) ((a : Int) + i) = (n + 1) / 2 ^ (2 * (lz n).toNat - i) % 2 := by
    intro i hi
    rw [show (a : Int) + (i : Int) = ((a + i : Nat) : Int) by omega, bitAt_packs h (a + i) (by omega)]
    have e1 : B.getD (a + i) 0 = (B.drop a).getD i 0 := by simp only [List.getD_eq_getElem?_getD, List.getElem?_drop]
    rw [e1, hB]
    have e2 : (ueBits n ++ R).getD i 0 = (ueBits n).getD i 0 := by simp only [List.getD_eq_getElem?_getD]; rw [List.getElem?_append_left hi]
    rw [e2, ueBits_eq hn, bitsl_get (by rw [ueBits_eq hn, bitsl_length] at hi; exact hi)]
    rw [show 2 * (lz n).toNat + 1 - 1 - i = 2 * (lz n).toNat - i by omega]
  have hrem : remOf (packs B) a = B.length - a := by rw [remOf_in (by rw [hsz]; omega), hsz]; omega
  have hzz : zerosOf (packs B) a = lz n := by
    unfold zerosOf
    rw [hrem, zc_eq (lz n).toNat _ _ (fun i hi => ?_) ?_ (by omega)]
    · omega
    · rw [hget (lz n).toNat (by omega), show 2 * (lz n).toNat - (lz n).toNat = (lz n).toNat by omega]
      have h5 : (n + 1) / 2 ^ (lz n).toNat = 1 := by
        rw [div_iff (two_pow_pos _)]
        rw [two_pow_succ] at h3; omega
      rw [h5]; decide
    · rw [hget i (by omega)]
      have h4 := two_pow_le (n := (lz n).toNat + 1) (m := 2 * (lz n).toNat - i) (by omega)
      rw [Int.ediv_eq_zero_of_lt (by omega) (by omega)]; rfl
  have hrb : rbOk (packs B) a (2 * zerosOf (packs B) a + 1) := ⟨by rw [hsz]; omega, by omega, by rw [hrem]; omega⟩
  have hok : ueOk (packs B) a := ⟨by omega, hrb⟩
  refine ⟨hok, hzz, ?_, ?_, ?_⟩
  · unfold ueAt; rw [if_pos hok]; omega
  · unfold ueV; rw [if_pos hok, hzz]
    rw [bitsOf_packs h a _ (by omega), hB, show (2 * lz n + 1).toNat = (ueBits n).length by omega, List.take_left, ueBits_eq hn, numl_bitsl, Int.emod_eq_of_lt (by omega) ?_]
    · omega
    · have h4 := two_pow_le (n := (lz n).toNat + 1) (m := 2 * (lz n).toNat + 1) (by omega); omega
  · unfold ueE; rw [if_neg (by omega), if_pos hrb]
/-- filled up to whole bytes -/
def pad8 (b : List Int) : List Int := b ++ List.replicate ((8 - b.length % 8) % 8) 0
theorem pad8_len (b : List Int) : (pad8 b).length % 8 = 0 ∧ b.length ≤ (pad8 b).length ∧ (pad8 b).length ≤ b.length + 7 := by
  unfold pad8; rw [List.length_append, List.length_replicate]; omega
theorem pad8_bits {b : List Int} : isBits (pad8 b) ↔ isBits b := by
  unfold pad8; rw [isBits_app]
  exact ⟨fun h => h.1, fun h => ⟨h, fun x hx => .inl (List.eq_of_mem_replicate hx)⟩⟩
def stopped (b : List Int) : ByteArray := bytesStr (pad8 (b ++ [1]))
theorem stopped_yes {b : List Int} (h : isBits b) : stopped b = packs (pad8 (b ++ [1])) := by
  unfold stopped bytesStr
  rw [if_pos ⟨pad8_bits.2 (isBits_app.2 ⟨h, fun x hx => by simp at hx; omega⟩), (pad8_len _).1⟩]
theorem stopped_no {b : List Int} (h : ¬ isBits b) : stopped b = ⟨#[]⟩ := by
  unfold stopped bytesStr
  rw [if_neg fun h1 => h (isBits_app.1 (pad8_bits.1 h1.1)).1]
theorem stopped_size (b : List Int) : (stopped b).size ≤ (b.length + 8) / 8 := by
  unfold stopped bytesStr
  split
  · rw [packs_size]
    have := (pad8_len (b ++ [1])).2.2
    rw [List.length_append] at this
    simp only [List.length_cons, List.length_nil] at this
    omega
  · show 0 ≤ _; omega
/-- levels and their numbers -/
def levelOf (n : Int) : Int := if n < 0 then 0 else if n % 2 = 0 then n / 2 + 1 else -(n / 2 + 1)
def numOf (v : Int) : Int := if 0 < v then 2 * v - 2 else if v < 0 then -2 * v - 1 else -1
theorem num_level {n : Int} (h : 0 ≤ n) : numOf (levelOf n) = n ∧ levelOf n ≠ 0 := by
  unfold levelOf
  rw [if_neg (by omega)]
  by_cases h2 : n % 2 = 0
  · rw [if_pos h2]; unfold numOf; rw [if_pos (by omega)]; omega
  · rw [if_neg h2]; unfold numOf; rw [if_neg (by omega), if_pos (by omega)]; omega
theorem ueSize_range (n : Int) : 0 ≤ ueSize n ∧ ueSize n ≤ 31 := by
  unfold ueSize; split
  · rename_i h; have := lz_range h; omega
  · omega
theorem pad8_app (a b : List Int) : ∃ R, pad8 (a ++ b) = a ++ R := ⟨b ++ List.replicate ((8 - (a ++ b).length % 8) % 8) 0, by unfold pad8; rw [List.append_assoc]⟩
theorem ue_stopped {n : Int} (h : 0 ≤ n ∧ n ≤ 65534) : ueE (stopped (ueBits n)) 0 = 0 ∧ ueV (stopped (ueBits n)) 0 = n ∧ ueAt (stopped (ueBits n)) 0 = (ueBits n).length := by
  obtain ⟨R, hR⟩ := pad8_app (ueBits n) [1]
  have hb : isBits (pad8 (ueBits n ++ [1])) := pad8_bits.2 (isBits_app.2 ⟨ueBits_bits n, fun x hx => by simp at hx; omega⟩)
  have h1 := ue_read (a := 0) hb (pad8_len _).1 h (by rw [List.drop_zero]; exact hR) (Nat.zero_le _)
  rw [stopped_yes (ueBits_bits n)]
  have hl := ueBits_len h
  refine ⟨h1.2.2.2.2, h1.2.2.2.1, ?_⟩
  have := h1.2.2.1
  rw [show ((0 : Nat) : Int) = 0 from rfl] at this
  omega
end Go.Pl
