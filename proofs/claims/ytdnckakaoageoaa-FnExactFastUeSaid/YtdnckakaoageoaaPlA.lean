/- Plain numbers: tables of symbols. -/
import Derived.Test.YtdnckakaoageoaaPl9
namespace Go.Pl
open Go.Sx
def symEnt (l : List Int) (i : Nat) : Int × Int := (l.getD (symOf l i) 0, (symOf l i : Int))
def symTab (l : List Int) : List (Int × Int) := if codeOk l then (List.range 128).map (symEnt l) else []
theorem symTab_no {l : List Int} (h : ¬ codeOk l) : symTab l = [] := by unfold symTab; rw [if_neg h]
theorem symTab_yes {l : List Int} (h : codeOk l) : symTab l = (List.range 128).map (symEnt l) := by unfold symTab; rw [if_pos h]
theorem symTab_len {l : List Int} (h : codeOk l) : (symTab l).length = 128 := by rw [symTab_yes h, List.length_map, List.length_range]
theorem symTab_get {l : List Int} (h : codeOk l) {i : Nat} (hi : i < 128) : (symTab l).getD i default = symEnt l i := by
  rw [symTab_yes h]; simp [List.getD, hi]
/-- seven bits in one byte -/
theorem byte7 {k : Nat} (hk : k < 128) : (strOf [IntKind.u8.wrap ((k : Int) * 2)]).size = 1 ∧ bitsOf (strOf [IntKind.u8.wrap ((k : Int) * 2)]) 0 7 = k := by
  have hw : IntKind.u8.wrap ((k : Int) * 2) = (k : Int) * 2 := by rw [wrap_u8]; omega
  rw [hw]
  have hs : (strOf [(k : Int) * 2]).size = 1 := by rw [strOf_size]; rfl
  refine ⟨hs, ?_⟩
  have h1 := bitsOf_byte (strOf [(k : Int) * 2]) 0 (by rw [hs]; decide)
  rw [show (8 : Int) * 0 = 0 from rfl] at h1
  have h2 := strOf_byte (xs := [(k : Int) * 2]) (fun x hx => by simp at hx; omega) (0 : Int).toNat
  rw [h2] at h1
  have h3 := bitsOf_div (strOf [(k : Int) * 2]) 0 7 1
  rw [show 7 + 1 = 8 from rfl, h1] at h3
  rw [← h3]
  show (k : Int) * 2 / 2 ^ 1 = k
  omega
theorem sym_byte {l : List Int} (h : codeOk l) {k : Nat} (hk : k < 128) : rsOk (strOf [IntKind.u8.wrap ((k : Int) * 2)]) 0 l ∧ symAt (strOf [IntKind.u8.wrap ((k : Int) * 2)]) 0 l = symOf l k := by
  obtain ⟨h1, h2⟩ := byte7 hk
  have e : symAt (strOf [IntKind.u8.wrap ((k : Int) * 2)]) 0 l = symOf l k := by unfold symAt; rw [h2]
  have h3 := codeOk_at h (symOf l k)
  refine ⟨⟨h, ?_⟩, e⟩
  rw [e]
  exact ⟨by rw [h1]; omega, by omega, by rw [remOf_in (by rw [h1]; omega), h1]; omega⟩
theorem sym_byteE {l : List Int} (h : codeOk l) {k : Nat} (hk : k < 128) : (rsAt (strOf [IntKind.u8.wrap ((k : Int) * 2)]) 0 l, rsV (strOf [IntKind.u8.wrap ((k : Int) * 2)]) 0 l) = symEnt l k := by
  obtain ⟨h1, h2⟩ := sym_byte h hk
  unfold rsAt rsV symEnt
  rw [if_pos h1, if_pos h1, h2]
  congr 1; omega
/-- the table filled symbol by symbol -/
def symF (l : List Int) (m k : Nat) (v : Nat) : Int × Int :=
  if symOf l v < m ∨ (symOf l v = m ∧ (v : Int) < (codesOf l).getD m 0 * 2 ^ (7 - l.getD m 0).toNat + k) then symEnt l v else (0, 0)
def symT (l : List Int) (m k : Nat) : List (Int × Int) := (List.range 128).map (symF l m k)
theorem symT_length (l : List Int) (m k : Nat) : (symT l m k).length = 128 := by simp [symT]
theorem hit_iff {l : List Int} (m : Nat) (v : Int) : cHit l (codesOf l) m v ↔ (codesOf l).getD m 0 * 2 ^ (7 - l.getD m 0).toNat ≤ v ∧ v < (codesOf l).getD m 0 * 2 ^ (7 - l.getD m 0).toNat + 2 ^ (7 - l.getD m 0).toNat := by
  unfold cHit; exact div_iff (two_pow_pos _)
theorem sym_hit {l : List Int} (h : codeOk l) {v : Nat} (hv : v < 128) : (symOf l v < 6 ∧ 1 ≤ l.getD (symOf l v) 0) ∧ cHit l (codesOf l) (symOf l v) v := symOf_hit h (by omega) (by omega)
theorem symT_zero {l : List Int} (h : codeOk l) : symT l 0 0 = List.replicate 128 (0, 0) := by
  have e : ∀ v ∈ List.range 128, symF l 0 0 v = (0, 0) := by
    intro v hv
    have h1 := sym_hit h (List.mem_range.1 hv)
    have h2 := (hit_iff (symOf l v) v).1 h1.2
    unfold symF
    rw [if_neg]
    rintro (h3 | ⟨h3, h4⟩)
    · omega
    · rw [h3] at h2; omega
  unfold symT
  rw [List.map_congr_left e, List.map_const']
  rfl
theorem symT_end {l : List Int} (h : codeOk l) : symT l 6 0 = symTab l := by
  rw [symTab_yes h]
  unfold symT
  refine List.map_congr_left fun v hv => ?_
  have h1 := sym_hit h (List.mem_range.1 hv)
  unfold symF; rw [if_pos (.inl h1.1.1)]
theorem symT_next {l : List Int} (h : codeOk l) {m k : Nat} (hk : l.getD m 0 = 0 ∨ (k : Int) = 2 ^ (7 - l.getD m 0).toNat) : symT l m k = symT l (m + 1) 0 := by
  unfold symT
  refine List.map_congr_left fun v hv => ?_
  have h1 := sym_hit h (List.mem_range.1 hv)
  have h2 := (hit_iff (symOf l v) v).1 h1.2
  unfold symF
  have e : (symOf l v < m ∨ (symOf l v = m ∧ (v : Int) < (codesOf l).getD m 0 * 2 ^ (7 - l.getD m 0).toNat + k)) ↔ (symOf l v < m + 1 ∨ (symOf l v = m + 1 ∧ (v : Int) < (codesOf l).getD (m + 1) 0 * 2 ^ (7 - l.getD (m + 1) 0).toNat + ((0 : Nat) : Int))) := by
    constructor
    · rintro (h3 | ⟨h3, h4⟩)
      · left; omega
      · left; omega
    · rintro (h3 | ⟨h3, h4⟩)
      · by_cases h5 : symOf l v = m
        · right
          refine ⟨h5, ?_⟩
          rw [h5] at h2 h1
          rcases hk with hk | hk
          · omega
          · rw [hk]; exact h2.2
        · left; omega
      · rw [h3] at h2; omega
  simp only [e]
theorem symT_set {l : List Int} (h : codeOk l) {m k : Nat} (hm : m < 6 ∧ 1 ≤ l.getD m 0) (hk : (k : Int) < 2 ^ (7 - l.getD m 0).toNat) :
    ((codesOf l).getD m 0 * 2 ^ (7 - l.getD m 0).toNat + k).toNat < 128 ∧ (symT l m k).set ((codesOf l).getD m 0 * 2 ^ (7 - l.getD m 0).toNat + k).toNat (l.getD m 0, (m : Int)) = symT l m (k + 1) := by
  have hr := code_range h hm
  rw [Int.add_mul, Int.one_mul] at hr
  have hp := two_pow_pos (7 - l.getD m 0).toNat
  have hn : 0 ≤ (codesOf l).getD m 0 * 2 ^ (7 - l.getD m 0).toNat := Int.mul_nonneg hr.1 (by omega)
  obtain ⟨x, hx⟩ : ∃ x : Nat, (x : Int) = (codesOf l).getD m 0 * 2 ^ (7 - l.getD m 0).toNat + k := ⟨((codesOf l).getD m 0 * 2 ^ (7 - l.getD m 0).toNat + k).toNat, by omega⟩
  have hx2 : ((codesOf l).getD m 0 * 2 ^ (7 - l.getD m 0).toNat + k).toNat = x := by omega
  rw [hx2]
  have hx128 : x < 128 := by omega
  refine ⟨hx128, ?_⟩
  have hsym : symOf l x = m := symOf_eq h (by omega) (by omega) hm ((hit_iff m x).2 ⟨by omega, by omega⟩)
  apply List.ext_getElem?
  intro i
  rw [List.getElem?_set, symT_length]
  unfold symT
  by_cases hi : i < 128
  · rw [List.getElem?_map, List.getElem?_map, List.getElem?_range hi]
    by_cases hxi : x = i
    · subst hxi
      rw [if_pos rfl, if_pos hx128]
      simp only [Option.map_some]
      unfold symF
      rw [if_pos (.inr ⟨hsym, by omega⟩)]
      unfold symEnt; rw [hsym]
    · rw [if_neg hxi]
      simp only [Option.map_some]
      congr 1
      unfold symF
      have e : (symOf l i < m ∨ (symOf l i = m ∧ (i : Int) < (codesOf l).getD m 0 * 2 ^ (7 - l.getD m 0).toNat + k)) ↔ (symOf l i < m ∨ (symOf l i = m ∧ (i : Int) < (codesOf l).getD m 0 * 2 ^ (7 - l.getD m 0).toNat + ((k + 1 : Nat) : Int))) := by omega
      simp only [e]
  · rw [List.getElem?_eq_none (by simp; omega)]
    by_cases hxi : x = i
    · omega
    · rw [if_neg hxi, List.getElem?_eq_none (by simp; omega)]
/-- a symbol is read from its code, whatever follows -/
theorem sym_read {B R l : List Int} {a : Nat} {m : Int} (h : isBits B) (h8 : B.length % 8 = 0) (hm : symOk l m) (hB : B.drop a = symBits l m ++ R) (ha : a ≤ B.length) :
    rsOk (packs B) a l ∧ rsAt (packs B) a l = a + l.getD m.toNat 0 ∧ rsV (packs B) a l = m ∧ rsE (packs B) a l = 0 := by
  have hl := symBits_len hm
  have hc := codeOk_at hm.1 m.toNat
  have h1 : m.toNat < 6 ∧ 1 ≤ l.getD m.toNat 0 := ⟨by have := hm.2.1; omega, by have := hm.2.2; omega⟩
  have hr := code_range2 hm.1 h1
  have hlen : (B.drop a).length = (symBits l m).length + R.length := by rw [hB, List.length_append]
  rw [List.length_drop] at hlen
  have hsz : (packs B).size = B.length / 8 := packs_size B
  have hb : bitsOf (packs B) a (l.getD m.toNat 0).toNat = (codesOf l).getD m.toNat 0 := by
    rw [bitsOf_packs h a _ (by omega), hB, show (l.getD m.toNat 0).toNat = (symBits l m).length by omega, List.take_left, symBits_yes hm]
    unfold bitsIn
    rw [if_pos ⟨by omega, hr.1, Int.ediv_eq_zero_of_lt hr.1 hr.2⟩, numl_bitsl, Int.emod_eq_of_lt hr.1 hr.2]
  have hs : symAt (packs B) a l = m.toNat := rs_at hm.1 h1 hb
  have hok : rsOk (packs B) a l := ⟨hm.1, by rw [hs]; exact ⟨by rw [hsz]; omega, by omega, by rw [remOf_in (by rw [hsz]; omega), hsz]; omega⟩⟩
  refine ⟨hok, ?_, ?_, ?_⟩
  · unfold rsAt; rw [if_pos hok, hs]
  · unfold rsV; rw [if_pos hok, hs]; have := hm.2.1; omega
  · unfold rsE; rw [if_pos hm.1, if_pos hok]
theorem sym_stopped {l : List Int} {m : Int} (hm : symOk l m) : rsE (stopped (symBits l m)) 0 l = 0 ∧ rsV (stopped (symBits l m)) 0 l = m ∧ rsAt (stopped (symBits l m)) 0 l = l.getD m.toNat 0 := by
  obtain ⟨R, hR⟩ := pad8_app (symBits l m) [1]
  have hsb : isBits (symBits l m) := by rw [symBits_yes hm]; exact bitsIn_bits _ _
  have hb : isBits (pad8 (symBits l m ++ [1])) := pad8_bits.2 (isBits_app.2 ⟨hsb, fun x hx => by simp at hx; omega⟩)
  have h1 := sym_read (a := 0) hb (pad8_len _).1 hm (by rw [List.drop_zero]; exact hR) (Nat.zero_le _)
  rw [stopped_yes hsb]
  refine ⟨h1.2.2.2, h1.2.2.1, ?_⟩
  have := h1.2.1
  rw [show ((0 : Nat) : Int) = 0 from rfl] at this
  omega
/-- a symbol out of a cache, by a table -/
def fsIx (s : ByteArray) (c : Ca) : Nat := (bitsOf s (8 * c.pos - c.hv) 7).toNat
def fsE (s : ByteArray) (c : Ca) (t : List (Int × Int)) : Int :=
  if ¬ caOk s c then 1 else if t.length ≠ 128 ∨ ¬ (1 ≤ (t.getD (fsIx s c) default).1 ∧ (t.getD (fsIx s c) default).1 ≤ 7) then 4
  else if 8 * c.pos - c.hv + (t.getD (fsIx s c) default).1 > 8 * s.size then 1 else 0
def fsC (s : ByteArray) (c : Ca) (t : List (Int × Int)) : Ca := if fsE s c t = 0 then settledAt s (8 * c.pos - c.hv + (t.getD (fsIx s c) default).1) else c
def fsV (s : ByteArray) (c : Ca) (t : List (Int × Int)) : Int := if fsE s c t = 0 then (t.getD (fsIx s c) default).2 else 0
theorem fsE_bad {s : ByteArray} {c : Ca} {t : List (Int × Int)} (h : ¬ caOk s c) : fsE s c t = 1 := by unfold fsE; rw [if_pos h]
theorem fsE_code {s : ByteArray} {c : Ca} {t : List (Int × Int)} (h : caOk s c) (h1 : t.length ≠ 128 ∨ ¬ (1 ≤ (t.getD (fsIx s c) default).1 ∧ (t.getD (fsIx s c) default).1 ≤ 7)) : fsE s c t = 4 := by unfold fsE; rw [if_neg (fun h2 => h2 h), if_pos h1]
theorem fsE_short {s : ByteArray} {c : Ca} {t : List (Int × Int)} (h : caOk s c) (h1 : t.length = 128) (h2 : 1 ≤ (t.getD (fsIx s c) default).1 ∧ (t.getD (fsIx s c) default).1 ≤ 7) (h3 : 8 * c.pos - c.hv + (t.getD (fsIx s c) default).1 > 8 * s.size) : fsE s c t = 1 := by
  unfold fsE; rw [if_neg (fun h4 => h4 h), if_neg (by rintro (h4 | h4); exact h4 h1; exact h4 h2), if_pos h3]
theorem fsE_yes {s : ByteArray} {c : Ca} {t : List (Int × Int)} (h : caOk s c) (h1 : t.length = 128) (h2 : 1 ≤ (t.getD (fsIx s c) default).1 ∧ (t.getD (fsIx s c) default).1 ≤ 7) (h3 : ¬ 8 * c.pos - c.hv + (t.getD (fsIx s c) default).1 > 8 * s.size) : fsE s c t = 0 := by
  unfold fsE; rw [if_neg (fun h4 => h4 h), if_neg (by rintro (h4 | h4); exact h4 h1; exact h4 h2), if_neg h3]
end Go.Pl
