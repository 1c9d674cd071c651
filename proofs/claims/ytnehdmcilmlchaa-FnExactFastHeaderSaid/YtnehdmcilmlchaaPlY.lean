/- Plain numbers and lists, with no program in sight. -/
import Derived.Test.YtnehdmcilmlchaaPlX
import Derived.Test.YtnehdmcilmlchaaSxF
/- Plain numbers: tables of symbols. -/
namespace Go.Pl
open Go.Sx
def symEnt (l : List Int) (i : Nat) : Int × Int := (l.getD (symOf l i) 0, (symOf l i : Int))
def symTab (l : List Int) : List (Int × Int) := if codeOk l then (List.range 128).map (symEnt l) else []
theorem symTab_no {l : List Int} (h : ¬ codeOk l) : symTab l = [] := by unfold symTab; rw [if_neg h]
theorem symTab_yes {l : List Int} (h : codeOk l) : symTab l = (List.range 128).map (symEnt l) := by unfold symTab; rw [if_pos h]
theorem symTab_len {l : List Int} (h : codeOk l) : (symTab l).length = 128 := by rw [symTab_yes h, List.length_map, List.length_range]
theorem symTab_get {l : List Int} (h : codeOk l) {i : Nat} (hi : i < 128) : (symTab l).getD i default = symEnt l i := by
  rw [symTab_yes h]; simp [List.getD, hi]
/-- seven bits in one byte -/
theorem byte7 {k : Nat} (hk : k < 128) : (strOf [IntKind.u8.wrap ((k : Int) * 2)]).size = 1 ∧ bitsOf (strOf [IntKind.u8.wrap ((k : Int) * 2)]) 0 7 = k := by
  have hw : IntKind.u8.wrap ((k : Int) * 2) = (k : Int) * 2 := by rw [wrap_u8]; omega
  rw [hw]
  have hs : (strOf [(k : Int) * 2]).size = 1 := by rw [strOf_size]; rfl
  refine ⟨hs, ?_⟩
  have h1 := bitsOf_byte (strOf [(k : Int) * 2]) 0 (by rw [hs]; decide)
  rw [show (8 : Int) * 0 = 0 from rfl] at h1
  have h2 := strOf_byte (xs := [(k : Int) * 2]) (fun x hx => by simp at hx; omega) (0 : Int).toNat
  rw [h2] at h1
  have h3 := bitsOf_div (strOf [(k : Int) * 2]) 0 7 1
  rw [show 7 + 1 = 8 from rfl, h1] at h3
  rw [← h3]
  show (k : Int) * 2 / 2 ^ 1 = k
  omega
theorem sym_byte {l : List Int} (h : codeOk l) {k : Nat} (hk : k < 128) : rsOk (strOf [IntKind.u8.wrap ((k : Int) * 2)]) 0 l ∧ symAt (strOf [IntKind.u8.wrap ((k : Int) * 2)]) 0 l = symOf l k := by
  obtain ⟨h1, h2⟩ := byte7 hk
  have e : symAt (strOf [IntKind.u8.wrap ((k : Int) * 2)]) 0 l = symOf l k := by unfold symAt; rw [h2]
  have h3 := codeOk_at h (symOf l k)
  refine ⟨⟨h, ?_⟩, e⟩
  rw [e]
  exact ⟨by rw [h1]; omega, by omega, by rw [remOf_in (by rw [h1]; omega), h1]; omega⟩
theorem sym_byteE {l : List Int} (h : codeOk l) {k : Nat} (hk : k < 128) : (rsAt (strOf [IntKind.u8.wrap ((k : Int) * 2)]) 0 l, rsV (strOf [IntKind.u8.wrap ((k : Int) * 2)]) 0 l) = symEnt l k := by
  obtain ⟨h1, h2⟩ := sym_byte h hk
  unfold rsAt rsV symEnt
  rw [if_pos h1, if_pos h1, h2]
  congr 1; omega
/-- the table filled symbol by symbol -/
def symF (l : List Int) (m k : Nat) (v : Nat) : Int × Int :=
  if symOf l v < m ∨ (symOf l v = m ∧ (v : Int) < (codesOf l).getD m 0 * 2 ^ (7 - l.getD m 0).toNat + k) then symEnt l v else (0, 0)
def symT (l : List Int) (m k : Nat) : List (Int × Int) := (List.range 128).map (symF l m k)
theorem symT_length (l : List Int) (m k : Nat) : (symT l m k).length = 128 := by simp [symT]
theorem hit_iff {l : List Int} (m : Nat) (v : Int) : cHit l (codesOf l) m v ↔ (codesOf l).getD m 0 * 2 ^ (7 - l.getD m 0).toNat ≤ v ∧ v < (codesOf l).getD m 0 * 2 ^ (7 - l.getD m 0).toNat + 2 ^ (7 - l.getD m 0).toNat := by
  unfold cHit; exact div_iff (two_pow_pos _)
theorem sym_hit {l : List Int} (h : codeOk l) {v : Nat} (hv : v < 128) : (symOf l v < 6 ∧ 1 ≤ l.getD (symOf l v) 0) ∧ cHit l (codesOf l) (symOf l v) v := symOf_hit h (by omega) (by omega)
theorem symT_zero {l : List Int} (h : codeOk l) : symT l 0 0 = List.replicate 128 (0, 0) := by
  have e : ∀ v ∈ List.range 128, symF l 0 0 v = (0, 0) := by
    intro v hv
    have h1 := sym_hit h (List.mem_range.1 hv)
    have h2 := (hit_iff (symOf l v) v).1 h1.2
    unfold symF
    rw [if_neg]
    rintro (h3 | ⟨h3, h4⟩)
    · omega
    · rw [h3] at h2; omega
  unfold symT
  rw [List.map_congr_left e, List.map_const']
  rfl
theorem symT_end {l : List Int} (h : codeOk l) : symT l 6 0 = symTab l := by
  rw [symTab_yes h]
  unfold symT
  refine List.map_congr_left fun v hv => ?_
  have h1 := sym_hit h (List.mem_range.1 hv)
  unfold symF; rw [if_pos (.inl h1.1.1)]
theorem symT_next {l : List Int} (h : codeOk l) {m k : Nat} (hk : l.getD m 0 = 0 ∨ (k : Int) = 2 ^ (7 - l.getD m 0).toNat) : symT l m k = symT l (m + 1) 0 := by
  unfold symT
  refine List.map_congr_left fun v hv => ?_
  have h1 := sym_hit h (List.mem_range.1 hv)
  have h2 := (hit_iff (symOf l v) v).1 h1.2
  unfold symF
  have e : (symOf l v < m ∨ (symOf l v = m ∧ (v : Int) < (codesOf l).getD m 0 * 2 ^ (7 - l.getD m 0).toNat + k)) ↔ (symOf l v < m + 1 ∨ (symOf l v = m + 1 ∧ (v : Int) < (codesOf l).getD (m + 1) 0 * 2 ^ (7 - l.getD (m + 1) 0).toNat + ((0 : Nat) : Int))) := by
    constructor
    · rintro (h3 | ⟨h3, h4⟩)
      · left; omega
      · left; omega
    · rintro (h3 | ⟨h3, h4⟩)
      · by_cases h5 : symOf l v = m
        · right
          refine ⟨h5, ?_⟩
          rw [h5] at h2 h1
          rcases hk with hk | hk
          · omega
          · rw [hk]; exact h2.2
        · left; omega
      · rw [h3] at h2; omega
  simp only [e]
theorem symT_set {l : List Int} (h : codeOk l) {m k : Nat} (hm : m < 6 ∧ 1 ≤ l.getD m 0) (hk : (k : Int) < 2 ^ (7 - l.getD m 0).toNat) :
    ((codesOf l).getD m 0 * 2 ^ (7 - l.getD m 0).toNat + k).toNat < 128 ∧ (symT l m k).set ((codesOf l).getD m 0 * 2 ^ (7 - l.getD m 0).toNat + k).toNat (l.getD m 0, (m : Int)) = symT l m (k + 1) := by
  have hr := code_range h hm
  rw [Int.add_mul, Int.one_mul] at hr
  have hp := two_pow_pos (7 - l.getD m 0).toNat
  have hn : 0 ≤ (codesOf l).getD m 0 * 2 ^ (7 - l.getD m 0).toNat := Int.mul_nonneg hr.1 (by omega)
  obtain ⟨x, hx⟩ : ∃ x : Nat, (x : Int) = (codesOf l).getD m 0 * 2 ^ (7 - l.getD m 0).toNat + k := ⟨((codesOf l).getD m 0 * 2 ^ (7 - l.getD m 0).toNat + k).toNat, by omega⟩
  have hx2 : ((codesOf l).getD m 0 * 2 ^ (7 - l.getD m 0).toNat + k).toNat = x := by omega
  rw [hx2]
  have hx128 : x < 128 := by omega
  refine ⟨hx128, ?_⟩
  have hsym : symOf l x = m := symOf_eq h (by omega) (by omega) hm ((hit_iff m x).2 ⟨by omega, by omega⟩)
  apply List.ext_getElem?
  intro i
  rw [List.getElem?_set, symT_length]
  unfold symT
  by_cases hi : i < 128
  · rw [List.getElem?_map, List.getElem?_map, List.getElem?_range hi]
    by_cases hxi : x = i
    · subst hxi
      rw [if_pos rfl, if_pos hx128]
      simp only [Option.map_some]
      unfold symF
      rw [if_pos (.inr ⟨hsym, by omega⟩)]
      unfold symEnt; rw [hsym]
    · rw [if_neg hxi]
      simp only [Option.map_some]
      congr 1
      unfold symF
      have e : (symOf l i < m ∨ (symOf l i = m ∧ (i : Int) < (codesOf l).getD m 0 * 2 ^ (7 - l.getD m 0).toNat + k)) ↔ (symOf l i < m ∨ (symOf l i = m ∧ (i : Int) < (codesOf l).getD m 0 * 2 ^ (7 - l.getD m 0).toNat + ((k + 1 : Nat) : Int))) := by omega
      simp only [e]
  · rw [List.getElem?_eq_none (by simp; omega)]
    by_cases hxi : x = i
    · omega
    · rw [if_neg hxi, List.getElem?_eq_none (by simp; omega)]
/-- a symbol is read from its code, whatever follows -/
theorem sym_read {B R l : List Int} {a : Nat} {m : Int} (h : isBits B) (h8 : B.length % 8 = 0) (hm : symOk l m) (hB : B.drop a = symBits l m ++ R) (ha : a ≤ B.length) :
    rsOk (packs B) a l ∧ rsAt (packs B) a l = a + l.getD m.toNat 0 ∧ rsV (packs B) a l = m ∧ rsE (packs B) a l = 0 := by
  have hl := symBits_len hm
  have hc := codeOk_at hm.1 m.toNat
  have h1 : m.toNat < 6 ∧ 1 ≤ l.getD m.toNat 0 := ⟨by have := hm.2.1; omega, by have := hm.2.2; omega⟩
  have hr := code_range2 hm.1 h1
  have hlen : (B.drop a).length = (symBits l m).length + R.length := by rw [hB, List.length_append]
  rw [List.length_drop] at hlen
  have hsz : (packs B).size = B.length / 8 := packs_size B
  have hb : bitsOf (packs B) a (l.getD m.toNat 0).toNat = (codesOf l).getD m.toNat 0 := by
    rw [bitsOf_packs h a _ (by omega), hB, show (l.getD m.toNat 0).toNat = (symBits l m).length by omega, List.take_left, symBits_yes hm]
    unfold bitsIn
    rw [if_pos ⟨by omega, hr.1, Int.ediv_eq_zero_of_lt hr.1 hr.2⟩, numl_bitsl, Int.emod_eq_of_lt hr.1 hr.2]
  have hs : symAt (packs B) a l = m.toNat := rs_at hm.1 h1 hb
  have hok : rsOk (packs B) a l := ⟨hm.1, by rw [hs]; exact ⟨by rw [hsz]; omega, by omega, by rw [remOf_in (by rw [hsz]; omega), hsz]; omega⟩⟩
  refine ⟨hok, ?_, ?_, ?_⟩
  · unfold rsAt; rw [if_pos hok, hs]
  · unfold rsV; rw [if_pos hok, hs]; have := hm.2.1; omega
  · unfold rsE; rw [if_pos hm.1, if_pos hok]
theorem sym_stopped {l : List Int} {m : Int} (hm : symOk l m) : rsE (stopped (symBits l m)) 0 l = 0 ∧ rsV (stopped (symBits l m)) 0 l = m ∧ rsAt (stopped (symBits l m)) 0 l = l.getD m.toNat 0 := by
  obtain ⟨R, hR⟩ := pad8_app (symBits l m) [1]
  have hsb : isBits (symBits l m) := by rw [symBits_yes hm]; exact bitsIn_bits _ _
  have hb : isBits (pad8 (symBits l m ++ [1])) := pad8_bits.2 (isBits_app.2 ⟨hsb, fun x hx => by simp at hx; omega⟩)
  have h1 := sym_read (a := 0) hb (pad8_len _).1 hm (by rw [List.drop_zero]; exact hR) (Nat.zero_le _)
  rw [stopped_yes hsb]
  refine ⟨h1.2.2.2, h1.2.2.1, ?_⟩
  have := h1.2.1
  rw [show ((0 : Nat) : Int) = 0 from rfl] at this
  omega
/-- a symbol out of a cache, by a table -/
def fsIx (s : ByteArray) (c : Ca) : Nat := (bitsOf s (8 * c.pos - c.hv) 7).toNat
def fsE (s : ByteArray) (c : Ca) (t : List (Int × Int)) : Int :=
  if ¬ caOk s c then 1 else if t.length ≠ 128 ∨ ¬ (1 ≤ (t.getD (fsIx s c) default).1 ∧ (t.getD (fsIx s c) default).1 ≤ 7) then 4
  else if 8 * c.pos - c.hv + (t.getD (fsIx s c) default).1 > 8 * s.size then 1 else 0
def fsC (s : ByteArray) (c : Ca) (t : List (Int × Int)) : Ca := if fsE s c t = 0 then settledAt s (8 * c.pos - c.hv + (t.getD (fsIx s c) default).1) else c
def fsV (s : ByteArray) (c : Ca) (t : List (Int × Int)) : Int := if fsE s c t = 0 then (t.getD (fsIx s c) default).2 else 0
theorem fsE_bad {s : ByteArray} {c : Ca} {t : List (Int × Int)} (h : ¬ caOk s c) : fsE s c t = 1 := by unfold fsE; rw [if_pos h]
theorem fsE_code {s : ByteArray} {c : Ca} {t : List (Int × Int)} (h : caOk s c) (h1 : t.length ≠ 128 ∨ ¬ (1 ≤ (t.getD (fsIx s c) default).1 ∧ (t.getD (fsIx s c) default).1 ≤ 7)) : fsE s c t = 4 := by unfold fsE; rw [if_neg (fun h2 => h2 h), if_pos h1]
theorem fsE_short {s : ByteArray} {c : Ca} {t : List (Int × Int)} (h : caOk s c) (h1 : t.length = 128) (h2 : 1 ≤ (t.getD (fsIx s c) default).1 ∧ (t.getD (fsIx s c) default).1 ≤ 7) (h3 : 8 * c.pos - c.hv + (t.getD (fsIx s c) default).1 > 8 * s.size) : fsE s c t = 1 := by
  unfold fsE; rw [if_neg (fun h4 => h4 h), if_neg (by rintro (h4 | h4); exact h4 h1; exact h4 h2), if_pos h3]
theorem fsE_yes {s : ByteArray} {c : Ca} {t : List (Int × Int)} (h : caOk s c) (h1 : t.length = 128) (h2 : 1 ≤ (t.getD (fsIx s c) default).1 ∧ (t.getD (fsIx s c) default).1 ≤ 7) (h3 : ¬ 8 * c.pos - c.hv + (t.getD (fsIx s c) default).1 > 8 * s.size) : fsE s c t = 0 := by
  unfold fsE; rw [if_neg (fun h4 => h4 h), if_neg (by rintro (h4 | h4); exact h4 h1; exact h4 h2), if_neg h3]
end Go.Pl

/- Plain numbers: symbols out of caches; edges drawn together. -/
namespace Go.Pl
theorem peek_place {s : ByteArray} {c : Ca} {n : Int} (h : okN s c n) : caOk s (peekC s c n) ∧ 8 * (peekC s c n).pos - (peekC s c n).hv = 8 * c.pos - c.hv := by
  have e : peekC s c n = readyOf s c n := by unfold peekC; rw [if_pos h]
  rw [e]; exact ⟨ready_ok h.1, ready_place s c n⟩
theorem fs_skip {s : ByteArray} {c : Ca} {n : Int} (h : caOk s c) (hn : 1 ≤ n ∧ n ≤ 7) : (skOk s (peekC s c 7) n ↔ 8 * c.pos - c.hv + n ≤ 8 * s.size) ∧ (skOk s (peekC s c 7) n → settleOf s (skC s (peekC s c 7) n) = settledAt s (8 * c.pos - c.hv + n)) := by
  have hk : okN s c 7 := ⟨h, by omega, by omega⟩
  have hp := peek_place hk
  have hin := place_in h
  have h2 := sk_iff (c := peekC s c 7) (n := n) ⟨hp.1, by omega, by omega⟩
  rw [hp.2] at h2
  refine ⟨?_, fun h3 => ?_⟩
  · rw [h2]
    constructor
    · intro h4; have := h4.2.2; rw [remOf_in hin] at this; omega
    · intro h4; exact ⟨hin, by omega, by rw [remOf_in hin]; omega⟩
  · have h4 := sk_ok h3
    unfold settleOf; rw [if_pos h4.1, h4.2, hp.2]
theorem fs_peek {s : ByteArray} {c : Ca} (h : caOk s c) : peekV s c 7 = fsIx s c ∧ 0 ≤ peekV s c 7 ∧ peekV s c 7 < 128 := by
  have hk : okN s c 7 := ⟨h, by omega, by omega⟩
  have h7 := bits7 s (8 * c.pos - c.hv)
  have e : peekV s c 7 = bitsOf s (8 * c.pos - c.hv) 7 := by unfold peekV; rw [if_pos hk]; rfl
  rw [e]; refine ⟨?_, h7.1, h7.2⟩
  unfold fsIx; omega
/-- the bounds of an edge -/
def alphaOf (q : Int) : Int := if 0 ≤ q ∧ q ≤ 51 then q + 4 else 0
def betaOf (q : Int) : Int := if 0 ≤ q ∧ q ≤ 51 then q / 3 + 2 else 0
def pixOk (xs : List Int) : Prop := ∀ j : Nat, j < xs.length → 0 ≤ xs.getD j 0 ∧ xs.getD j 0 ≤ 255
def edgeC (a b c d q : Int) : Prop := ((0 ≤ a ∧ a ≤ 255) ∧ (0 ≤ b ∧ b ≤ 255) ∧ (0 ≤ c ∧ c ≤ 255) ∧ (0 ≤ d ∧ d ≤ 255)) ∧ (b - c < alphaOf q ∧ c - b < alphaOf q) ∧ (a - b < betaOf q ∧ b - a < betaOf q) ∧ (d - c < betaOf q ∧ c - d < betaOf q)
instance (a b c d q : Int) : Decidable (edgeC a b c d q) := by unfold edgeC; infer_instance
def clip (x : Int) : Int := max 0 (min x 255)
def edgeD (a b c d q : Int) : Int := max (-(q / 4 + 1)) (min ((4 * (c - b) + (a - d) + 4) / 8) (q / 4 + 1))
def edgeL (a b c d q : Int) : Int := if edgeC a b c d q then clip (b + edgeD a b c d q) else b
def edgeR (a b c d q : Int) : Int := if edgeC a b c d q then clip (c - edgeD a b c d q) else c
theorem clip_range (x : Int) : 0 ≤ clip x ∧ clip x ≤ 255 := by unfold clip; omega
theorem edge_range {a b c d q : Int} (hb : 0 ≤ b ∧ b ≤ 255) (hc : 0 ≤ c ∧ c ≤ 255) : (0 ≤ edgeL a b c d q ∧ edgeL a b c d q ≤ 255) ∧ (0 ≤ edgeR a b c d q ∧ edgeR a b c d q ≤ 255) := by
  unfold edgeL edgeR
  constructor
  · split
    · exact clip_range _
    · exact hb
  · split
    · exact clip_range _
    · exact hc
/-- an edge at a place, a step apart -/
def eg (q : Int) (xs : List Int) (e : Int × Int) : List Int :=
  (xs.set (e.1 - e.2).toNat (edgeL (xs.getD (e.1 - 2 * e.2).toNat 0) (xs.getD (e.1 - e.2).toNat 0) (xs.getD e.1.toNat 0) (xs.getD (e.1 + e.2).toNat 0) q)).set e.1.toNat
    (edgeR (xs.getD (e.1 - 2 * e.2).toNat 0) (xs.getD (e.1 - e.2).toNat 0) (xs.getD e.1.toNat 0) (xs.getD (e.1 + e.2).toNat 0) q)
def egs (q : Int) (xs : List Int) (l : List (Int × Int)) : List Int := l.foldl (eg q) xs
theorem eg_def (q : Int) (xs : List Int) (e : Int × Int) : eg q xs e = (xs.set (e.1 - e.2).toNat (edgeL (xs.getD (e.1 - 2 * e.2).toNat 0) (xs.getD (e.1 - e.2).toNat 0) (xs.getD e.1.toNat 0) (xs.getD (e.1 + e.2).toNat 0) q)).set e.1.toNat (edgeR (xs.getD (e.1 - 2 * e.2).toNat 0) (xs.getD (e.1 - e.2).toNat 0) (xs.getD e.1.toNat 0) (xs.getD (e.1 + e.2).toNat 0) q) := rfl
theorem eg_length (q : Int) (xs : List Int) (e : Int × Int) : (eg q xs e).length = xs.length := by simp [eg]
theorem egs_length (q : Int) (l : List (Int × Int)) : ∀ xs : List Int, (egs q xs l).length = xs.length := by
  induction l with
  | nil => intro xs; rfl
  | cons e l ih => intro xs; show (egs q (eg q xs e) l).length = _; rw [ih, eg_length]
theorem egs_snoc (q : Int) (xs : List Int) (l : List (Int × Int)) (e : Int × Int) : egs q xs (l ++ [e]) = eg q (egs q xs l) e := by simp [egs]
theorem egs_app (q : Int) (xs : List Int) (l m : List (Int × Int)) : egs q xs (l ++ m) = egs q (egs q xs l) m := by simp [egs]
theorem set_getD_ne {xs : List Int} {i j : Nat} {v : Int} (h : j ≠ i) : (xs.set j v).getD i 0 = xs.getD i 0 := by
  simp only [List.getD_eq_getElem?_getD, List.getElem?_set, if_neg h]
theorem eg_get {q : Int} {xs : List Int} {e : Int × Int} {i : Nat} (h1 : (e.1 - e.2).toNat ≠ i) (h2 : e.1.toNat ≠ i) : (eg q xs e).getD i 0 = xs.getD i 0 := by
  unfold eg; rw [set_getD_ne h2, set_getD_ne h1]
/-- edges over places that have nothing in common -/
def Dis (e f : Int × Int) : Prop := ∀ i, i = (e.1 - 2 * e.2).toNat ∨ i = (e.1 - e.2).toNat ∨ i = e.1.toNat ∨ i = (e.1 + e.2).toNat → ∀ j, j = (f.1 - 2 * f.2).toNat ∨ j = (f.1 - f.2).toNat ∨ j = f.1.toNat ∨ j = (f.1 + f.2).toNat → i ≠ j
theorem eg_comm {q : Int} {xs : List Int} {e f : Int × Int} (h : Dis e f) : eg q (eg q xs e) f = eg q (eg q xs f) e := by
  have h1 := fun i hi => eg_get (q := q) (xs := xs) (e := e) (i := i) (h _ (.inr (.inl rfl)) i hi) (h _ (.inr (.inr (.inl rfl))) i hi)
  have h2 := fun i hi => eg_get (q := q) (xs := xs) (e := f) (i := i) (h i hi _ (.inr (.inl rfl))).symm (h i hi _ (.inr (.inr (.inl rfl)))).symm
  have d1 := h _ (.inr (.inl rfl)) _ (.inr (.inl rfl))
  have d2 := h _ (.inr (.inl rfl)) _ (.inr (.inr (.inl rfl)))
  have d3 := h _ (.inr (.inr (.inl rfl))) _ (.inr (.inl rfl))
  have d4 := h _ (.inr (.inr (.inl rfl))) _ (.inr (.inr (.inl rfl)))
  rw [eg_def q (eg q xs e) f, eg_def q (eg q xs f) e, h1 _ (.inl rfl), h1 _ (.inr (.inl rfl)), h1 _ (.inr (.inr (.inl rfl))), h1 _ (.inr (.inr (.inr rfl))),
    h2 _ (.inl rfl), h2 _ (.inr (.inl rfl)), h2 _ (.inr (.inr (.inl rfl))), h2 _ (.inr (.inr (.inr rfl))), eg_def q xs e, eg_def q xs f]
  generalize edgeL (xs.getD (f.1 - 2 * f.2).toNat 0) (xs.getD (f.1 - f.2).toNat 0) (xs.getD f.1.toNat 0) (xs.getD (f.1 + f.2).toNat 0) q = A
  generalize edgeR (xs.getD (f.1 - 2 * f.2).toNat 0) (xs.getD (f.1 - f.2).toNat 0) (xs.getD f.1.toNat 0) (xs.getD (f.1 + f.2).toNat 0) q = B
  generalize edgeL (xs.getD (e.1 - 2 * e.2).toNat 0) (xs.getD (e.1 - e.2).toNat 0) (xs.getD e.1.toNat 0) (xs.getD (e.1 + e.2).toNat 0) q = C
  generalize edgeR (xs.getD (e.1 - 2 * e.2).toNat 0) (xs.getD (e.1 - e.2).toNat 0) (xs.getD e.1.toNat 0) (xs.getD (e.1 + e.2).toNat 0) q = D
  apply List.ext_getElem?
  intro i
  simp only [List.getElem?_set, List.length_set]
  by_cases a1 : f.1.toNat = i <;> by_cases a2 : (f.1 - f.2).toNat = i <;> by_cases a3 : e.1.toNat = i <;> by_cases a4 : (e.1 - e.2).toNat = i <;> simp_all
theorem egs_one {q : Int} {e : Int × Int} : ∀ {m : List (Int × Int)} {xs : List Int}, (∀ f ∈ m, Dis e f) → egs q (eg q xs e) m = eg q (egs q xs m) e
  | [], xs, _ => rfl
  | f :: m, xs, h => by
    show egs q (eg q (eg q xs e) f) m = eg q (egs q (eg q xs f) m) e
    rw [eg_comm (h f (List.mem_cons_self ..)), egs_one fun g hg => h g (List.mem_cons_of_mem _ hg)]
theorem egs_comm {q : Int} : ∀ {l m : List (Int × Int)} {xs : List Int}, (∀ e ∈ l, ∀ f ∈ m, Dis e f) → egs q (egs q xs l) m = egs q (egs q xs m) l
  | [], m, xs, _ => rfl
  | e :: l, m, xs, h => by
    show egs q (egs q (eg q xs e) l) m = egs q (eg q (egs q xs m) e) l
    rw [egs_comm fun g hg => h g (List.mem_cons_of_mem _ hg), egs_one (h e (List.mem_cons_self ..))]
theorem pix_set {xs : List Int} {i : Nat} {v : Int} (h : pixOk xs) (hv : 0 ≤ v ∧ v ≤ 255) : pixOk (xs.set i v) := fun j hj => by
  rw [List.length_set] at hj
  by_cases hij : i = j
  · subst hij; simp only [List.getD_eq_getElem?_getD, List.getElem?_set, if_pos hj]; exact hv
  · rw [set_getD_ne hij]; exact h j hj
theorem pix_get {xs : List Int} (h : pixOk xs) (j : Nat) : 0 ≤ xs.getD j 0 ∧ xs.getD j 0 ≤ 255 := by
  rcases Nat.lt_or_ge j xs.length with h1 | h1
  · exact h j h1
  · rw [List.getD_eq_getElem?_getD, List.getElem?_eq_none h1]; simp
theorem eg_pix {q : Int} {xs : List Int} {e : Int × Int} (h : pixOk xs) : pixOk (eg q xs e) := by
  have hr := edge_range (a := xs.getD (e.1 - 2 * e.2).toNat 0) (d := xs.getD (e.1 + e.2).toNat 0) (q := q) (pix_get h (e.1 - e.2).toNat) (pix_get h e.1.toNat)
  exact pix_set (pix_set h hr.1) hr.2
theorem egs_pix {q : Int} : ∀ {l : List (Int × Int)} {xs : List Int}, pixOk xs → pixOk (egs q xs l)
  | [], _, h => h
  | _ :: l, _, h => egs_pix (l := l) (eg_pix h)
/-- a place that no edge turns -/
theorem egs_get {q : Int} {i : Nat} : ∀ {l : List (Int × Int)} {xs : List Int}, (∀ e ∈ l, (e.1 - e.2).toNat ≠ i ∧ e.1.toNat ≠ i) → (egs q xs l).getD i 0 = xs.getD i 0
  | [], _, _ => rfl
  | e :: l, xs, h => by
    show (egs q (eg q xs e) l).getD i 0 = _
    rw [egs_get fun g hg => h g (List.mem_cons_of_mem _ hg), eg_get (h e (List.mem_cons_self ..)).1 (h e (List.mem_cons_self ..)).2]
/-- edges of a row, between columns -/
def vRow (W y : Int) (k : Nat) : List (Int × Int) := (List.range k).map fun i : Nat => (y * W + (8 + 8 * (i : Int)), 1)
def vRows (W a : Int) (n : Nat) : List (Int × Int) := (List.range n).flatMap fun j : Nat => vRow W (a + (j : Int)) (W / 8 - 1).toNat
/-- edges between rows -/
def hRow (W y : Int) (k : Nat) : List (Int × Int) := (List.range k).map fun i : Nat => (y * W + (i : Int), W)
theorem vRow_zero (W y : Int) : vRow W y 0 = [] := rfl
theorem vRow_succ (W y : Int) (k : Nat) : vRow W y (k + 1) = vRow W y k ++ [(y * W + (8 + 8 * (k : Int)), 1)] := by simp [vRow, List.range_succ]
theorem vRows_succ (W a : Int) (n : Nat) : vRows W a (n + 1) = vRows W a n ++ vRow W (a + (n : Int)) (W / 8 - 1).toNat := by simp [vRows, List.range_succ]
theorem hRow_succ (W y : Int) (k : Nat) : hRow W y (k + 1) = hRow W y k ++ [(y * W + (k : Int), W)] := by simp [hRow, List.range_succ]
theorem vRows_add (W a : Int) (m : Nat) : ∀ n : Nat, vRows W a (m + n) = vRows W a m ++ vRows W (a + (m : Int)) n
  | 0 => by simp [vRows]
  | n + 1 => by
    rw [show m + (n + 1) = (m + n) + 1 by omega, vRows_succ, vRows_add W a m n, vRows_succ, List.append_assoc, show a + ((m + n : Nat) : Int) = a + (m : Int) + (n : Int) by omega]
theorem vRow_mem {W y : Int} {k : Nat} {e : Int × Int} (h : e ∈ vRow W y k) : ∃ i : Nat, i < k ∧ e = (y * W + (8 + 8 * (i : Int)), 1) := by
  simp only [vRow, List.mem_map, List.mem_range] at h
  obtain ⟨i, hi, rfl⟩ := h; exact ⟨i, hi, rfl⟩
theorem vRows_mem {W a : Int} {n : Nat} {e : Int × Int} (h : e ∈ vRows W a n) : ∃ j i : Nat, j < n ∧ i < (W / 8 - 1).toNat ∧ e = ((a + (j : Int)) * W + (8 + 8 * (i : Int)), 1) := by
  simp only [vRows, List.mem_flatMap, List.mem_range] at h
  obtain ⟨j, hj, h⟩ := h
  obtain ⟨i, hi, rfl⟩ := vRow_mem h
  exact ⟨j, i, hj, hi, rfl⟩
theorem hRow_mem {W y : Int} {k : Nat} {e : Int × Int} (h : e ∈ hRow W y k) : ∃ i : Nat, i < k ∧ e = (y * W + (i : Int), W) := by
  simp only [hRow, List.mem_map, List.mem_range] at h
  obtain ⟨i, hi, rfl⟩ := h; exact ⟨i, hi, rfl⟩
/-- rows of edges between rows, every eighth -/
def hRows (W : Int) (n : Nat) : List (Int × Int) := (List.range n).flatMap fun j : Nat => hRow W (8 * ((j : Int) + 1)) W.toNat
theorem hRows_succ (W : Int) (n : Nat) : hRows W (n + 1) = hRows W n ++ hRow W (8 * ((n : Int) + 1)) W.toNat := by simp [hRows, List.range_succ]
theorem hRows_mem {W : Int} {n : Nat} {e : Int × Int} (h : e ∈ hRows W n) : ∃ j i : Nat, j < n ∧ i < W.toNat ∧ e = (8 * ((j : Int) + 1) * W + (i : Int), W) := by
  simp only [hRows, List.mem_flatMap, List.mem_range] at h
  obtain ⟨j, hj, h⟩ := h
  obtain ⟨i, hi, rfl⟩ := hRow_mem h
  exact ⟨j, i, hj, hi, rfl⟩
/-- edges between rows ahead, and edges between columns from a row on, have nothing in common -/
theorem hv_dis {W a : Int} (hW : 8 ≤ W) {n m : Nat} (ha : 8 * (n : Int) + 8 ≤ a) {e f : Int × Int} (he : e ∈ hRows W n) (hf : f ∈ vRows W a m) : Dis e f := by
  obtain ⟨j, i, hj, hi, rfl⟩ := hRows_mem he
  obtain ⟨k, x, hk, hx, rfl⟩ := vRows_mem hf
  have e1 : (8 * ((j : Int) + 1) + 2) * W ≤ a * W := Int.mul_le_mul_of_nonneg_right (by omega) (by omega)
  have e2 : a * W ≤ (a + (k : Int)) * W := Int.mul_le_mul_of_nonneg_right (by omega) (by omega)
  have e3 : 0 ≤ 8 * ((j : Int) + 1) * W := Int.mul_nonneg (by omega) (by omega)
  rw [Int.add_mul (8 * ((j : Int) + 1)) 2 W] at e1
  intro u hu v hv
  simp only at hu hv
  generalize (a + (k : Int)) * W = A at *
  generalize 8 * ((j : Int) + 1) * W = B at *
  omega
/-- one frame filtered in rows of eight, in turn -/
def dbR (q W : Int) (xs : List Int) : Nat → List Int
  | 0 => xs
  | r + 1 => if r = 0 then egs q (dbR q W xs 0) (vRows W 0 8) else egs q (egs q (dbR q W xs r) (vRows W (8 * (r : Int)) 8)) (hRow W (8 * (r : Int)) W.toNat)
def dbAll (q W : Int) (xs : List Int) (r : Nat) : List Int := egs q (egs q xs (vRows W 0 (8 * r))) (hRows W (r - 1))
theorem db_eq {q W : Int} (hW : 8 ≤ W) (xs : List Int) : ∀ r : Nat, dbR q W xs r = dbAll q W xs r
  | 0 => by simp [dbR, dbAll, hRows, vRows, egs]
  | 1 => by simp [dbR, dbAll, hRows, egs]
  | r + 2 => by
    have ih := db_eq (q := q) hW xs (r + 1)
    rw [dbR, if_neg (by omega), ih]
    unfold dbAll
    rw [show r + 1 - 1 = r by omega, show r + 2 - 1 = r + 1 by omega, egs_comm (l := hRows W r) (m := vRows W (8 * ((r + 1 : Nat) : Int)) 8) fun e he f hf => hv_dis hW (by omega) he hf,
      hRows_succ, egs_app, show 8 * (r + 2) = 8 * (r + 1) + 8 by omega, vRows_add, egs_app, show (0 : Int) + ((8 * (r + 1) : Nat) : Int) = 8 * ((r + 1 : Nat) : Int) by omega, show (8 : Int) * ((r : Int) + 1) = 8 * ((r + 1 : Nat) : Int) by omega]
/-- a right frame -/
def frOk (W H : Int) (xs : List Int) : Prop := sidesOk W H ∧ (xs.length : Int) = W * H ∧ pixOk xs
theorem frOk_egs {W H q : Int} {xs : List Int} (l : List (Int × Int)) : frOk W H xs → frOk W H (egs q xs l) := fun h => ⟨h.1, by rw [egs_length]; exact h.2.1, egs_pix h.2.2⟩
end Go.Pl

/- Plain numbers: headers, pairs and blocks as bits. -/
namespace Go.Pl
instance (xs : List Int) : Decidable (pixOk xs) := by unfold pixOk; infer_instance
instance (W H : Int) (xs : List Int) : Decidable (frOk W H xs) := by unfold frOk; infer_instance
def flag (b : Bool) : Int := if b then 1 else 0
theorem flag_range (b : Bool) : 0 ≤ flag b ∧ flag b ≤ 1 := by cases b <;> decide
def headBits (a b q : Int) (y d : Bool) (xs : List Int) : List Int :=
  if headOk a b q xs then bitsIn 183 8 ++ ueBits (a / 8 - 1) ++ ueBits (b / 8 - 1) ++ bitsIn q 6 ++ [flag y, flag d] ++ xs.flatMap (fun n => bitsIn n 3) else []
theorem headBits_no {a b q : Int} {y d : Bool} {xs : List Int} (h : ¬ headOk a b q xs) : headBits a b q y d xs = [] := by unfold headBits; rw [if_neg h]
theorem ueBits_le (n : Int) : (ueBits n).length ≤ 31 := by
  by_cases h : 0 ≤ n ∧ n ≤ 65534
  · have h1 := ueBits_len h; have h2 := ueSize_range n; omega
  · rw [ueBits_no h]; simp
/-- the first k numbers' bits -/
def fieldsOf (xs : List Int) (k : Nat) : List Int := (xs.take k).flatMap (fun n => bitsIn n 3)
theorem flat_take_succ {α β : Type} [Inhabited α] (f : α → List β) (xs : List α) {k : Nat} (h : k < xs.length) : (xs.take (k + 1)).flatMap f = (xs.take k).flatMap f ++ f (xs.getD k default) := by
  rw [List.take_add_one, List.flatMap_append]; simp [List.getD, h]
theorem flat_take_le {α β : Type} (f : α → List β) {N : Nat} (hN : ∀ x, (f x).length ≤ N) (xs : List α) (k : Nat) : ((xs.take k).flatMap f).length ≤ N * k := by
  induction k generalizing xs with
  | zero => simp
  | succ k ih => cases xs with
    | nil => simp
    | cons x r =>
      have h1 := hN x; have h2 := ih r
      have h3 : N * (k + 1) = N * k + N := Nat.mul_succ N k
      simp only [List.take_succ_cons, List.flatMap_cons, List.length_append]; omega
/-- pairs of a run and a level -/
def prS (ys : List Int) : Nat → List (Int × Int) × Int
  | 0 => ([], 0)
  | k + 1 => if ys.getD k 0 = 0 then ((prS ys k).1, (prS ys k).2 + 1) else ((prS ys k).1 ++ [((prS ys k).2, ys.getD k 0)], 0)
def pairsOf (ys : List Int) : List (Int × Int) := if levelsOk ys then (prS ys ys.length).1 else []
theorem prS_range (ys : List Int) (k : Nat) : 0 ≤ (prS ys k).2 ∧ (prS ys k).2 ≤ k ∧ (prS ys k).1.length ≤ k := by
  induction k with
  | zero => simp [prS]
  | succ k ih => simp only [prS]; split <;> simp <;> omega
theorem prS_zero {ys : List Int} {k : Nat} (h : ys.getD k 0 = 0) : (prS ys k).1 = (prS ys (k + 1)).1 ∧ (prS ys k).2 + 1 = (prS ys (k + 1)).2 := by simp only [prS, if_pos h, and_self]
theorem prS_more {ys : List Int} {k : Nat} (h : ys.getD k 0 ≠ 0) : (prS ys k).1 ++ [((prS ys k).2, ys.getD k 0)] = (prS ys (k + 1)).1 ∧ 0 = (prS ys (k + 1)).2 := by
  simp only [prS, if_neg h, and_self]
theorem pairs_no {ys : List Int} (h : ¬ levelsOk ys) : pairsOf ys = [] := by unfold pairsOf; rw [if_neg h]
theorem pairs_yes {ys : List Int} (h : levelsOk ys) {k : Nat} (hk : k = ys.length) : pairsOf ys = (prS ys k).1 := by unfold pairsOf; rw [if_pos h, hk]
theorem side_len {n : Int} (h : 0 < sideOf n) : n = 16 ∨ n = 64 := by
  unfold sideOf at h; split at h
  · omega
  · split at h
    · omega
    · omega
theorem pairs_len (ys : List Int) : (pairsOf ys).length ≤ 64 := by
  unfold pairsOf; split
  · next h => have h1 := prS_range ys ys.length; have h2 := side_len h.2; omega
  · simp
def pairOk (p : Int × Int) : Prop := (0 ≤ p.1 ∧ p.1 ≤ 63) ∧ (-16383 ≤ p.2 ∧ p.2 ≤ 16383) ∧ p.2 ≠ 0
theorem prS_ok {ys : List Int} (h : ∀ j : Nat, j < ys.length → -16383 ≤ ys.getD j 0 ∧ ys.getD j 0 ≤ 16383) : ∀ k : Nat, k ≤ ys.length → k ≤ 64 → ∀ p ∈ (prS ys k).1, pairOk p := by
  intro k
  induction k with
  | zero => intro _ _ p hp; simp [prS] at hp
  | succ k ih =>
    intro hk h64 p hp
    simp only [prS] at hp
    split at hp
    · exact ih (by omega) (by omega) p hp
    · next h0 =>
      rcases List.mem_append.1 hp with h1 | h1
      · exact ih (by omega) (by omega) p h1
      · obtain rfl := List.mem_singleton.1 h1
        have h2 := prS_range ys k
        have h3 := h k (by omega)
        exact ⟨⟨h2.1, by show (prS ys k).2 ≤ 63; omega⟩, h3, h0⟩
theorem pairs_ok (ys : List Int) : ∀ p ∈ pairsOf ys, pairOk p := by
  unfold pairsOf; split
  · next h => have h2 := side_len h.2; exact prS_ok h.1 _ (Nat.le_refl _) (by omega)
  · simp
theorem pairs_get {ys : List Int} (k : Nat) (h : k < (pairsOf ys).length) : pairOk ((pairsOf ys).getD k default) := by
  have := pairs_ok ys ((pairsOf ys)[k]) (List.getElem_mem h)
  simpa [List.getD, h] using this
/-- a pair as bits -/
def pairBits (p : Int × Int) : List Int := ueBits p.1 ++ ueBits (numOf p.2)
theorem pairBits_le (p : Int × Int) : (pairBits p).length ≤ 62 := by
  have h1 := ueBits_le p.1; have h2 := ueBits_le (numOf p.2)
  unfold pairBits; rw [List.length_append]; omega
def levelBits (ys : List Int) : List Int := if (pairsOf ys).length = 0 then [0] else [1] ++ ueBits ((pairsOf ys).length - 1) ++ (pairsOf ys).flatMap pairBits
def blockBits (m : Int) (ys xs : List Int) (n : Int) : List Int := if blockOk m ys xs n then symBits xs m ++ levelBits ys else []
theorem blockBits_no {m n : Int} {ys xs : List Int} (h : ¬ blockOk m ys xs n) : blockBits m ys xs n = [] := by unfold blockBits; rw [if_neg h]
theorem symBits_le (l : List Int) (m : Int) : (symBits l m).length ≤ 48 := by
  unfold symBits; split
  · exact (bitsIn_len _ _).1
  · simp
theorem levelBits_le (ys : List Int) : (levelBits ys).length ≤ 4000 := by
  unfold levelBits
  have h1 := pairs_len ys
  have h2 := flat_take_le pairBits pairBits_le (pairsOf ys) (pairsOf ys).length
  rw [List.take_length] at h2
  have h3 := ueBits_le ((pairsOf ys).length - 1)
  split
  · simp
  · simp only [List.length_append, List.length_singleton]; omega
theorem blockBits_le (m : Int) (ys xs : List Int) (n : Int) : (blockBits m ys xs n).length ≤ 4048 := by
  unfold blockBits
  have h1 := symBits_le xs m; have h2 := levelBits_le ys
  split
  · rw [List.length_append]; omega
  · simp
/-- a macroblock -/
def side (e : Bool) : Int := if e then 8 else 4
def mbOk (e : Bool) (bs : List (Int × List Int)) (xs : List Int) : Prop := (bs.length : Int) = 64 / (side e * side e) ∧ ∀ j : Nat, j < bs.length → blockOk (bs.getD j default).1 (bs.getD j default).2 xs (side e)
instance (e : Bool) (bs : List (Int × List Int)) (xs : List Int) : Decidable (mbOk e bs xs) := by unfold mbOk; infer_instance
def mbBits (e : Bool) (bs : List (Int × List Int)) (xs : List Int) : List Int := if mbOk e bs xs then [flag e] ++ bs.flatMap (fun b => blockBits b.1 b.2 xs (side e)) else []
/-- a table's number out of a cache, else bit by bit -/
def fuIx (s : ByteArray) (c : Ca) : Nat := (bitsOf s (8 * c.pos - c.hv) 9).toNat
def fuHit (s : ByteArray) (c : Ca) (t : List (Int × Int)) : Prop := t.length = 512 ∧ 1 ≤ (t.getD (fuIx s c) default).1 ∧ (t.getD (fuIx s c) default).1 ≤ 9
instance (s : ByteArray) (c : Ca) (t : List (Int × Int)) : Decidable (fuHit s c t) := by unfold fuHit; infer_instance
def fuE (s : ByteArray) (c : Ca) (t : List (Int × Int)) : Int :=
  if ¬ caOk s c then 1 else if fuHit s c t then (if 8 * c.pos - c.hv + (t.getD (fuIx s c) default).1 > 8 * s.size then 1 else 0) else ueE s (8 * c.pos - c.hv)
def fuAt (s : ByteArray) (c : Ca) (t : List (Int × Int)) : Int := if fuHit s c t then 8 * c.pos - c.hv + (t.getD (fuIx s c) default).1 else ueAt s (8 * c.pos - c.hv)
def fuC (s : ByteArray) (c : Ca) (t : List (Int × Int)) : Ca := if fuE s c t = 0 then settledAt s (fuAt s c t) else c
def fuV (s : ByteArray) (c : Ca) (t : List (Int × Int)) : Int := if fuE s c t = 0 then (if fuHit s c t then (t.getD (fuIx s c) default).2 else ueV s (8 * c.pos - c.hv)) else 0
theorem fu_peek {s : ByteArray} {c : Ca} (h : caOk s c) : peekV s c 9 = fuIx s c ∧ 0 ≤ peekV s c 9 ∧ peekV s c 9 < 512 := by
  have hk : okN s c 9 := ⟨h, by omega, by omega⟩
  have h7 := bitsOf_range s (8 * c.pos - c.hv) 9
  have e : peekV s c 9 = bitsOf s (8 * c.pos - c.hv) 9 := by unfold peekV; rw [if_pos hk]; rfl
  have e9 : (2 : Int) ^ 9 = 512 := rfl
  rw [e]; refine ⟨?_, h7.1, by omega⟩
  unfold fuIx; omega
theorem fu_skip {s : ByteArray} {c : Ca} {n : Int} (h : caOk s c) (hn : 1 ≤ n ∧ n ≤ 9) : (skOk s (peekC s c 9) n ↔ 8 * c.pos - c.hv + n ≤ 8 * s.size) ∧ (skOk s (peekC s c 9) n → settleOf s (skC s (peekC s c 9) n) = settledAt s (8 * c.pos - c.hv + n)) := by
  have hk : okN s c 9 := ⟨h, by omega, by omega⟩
  have hp := peek_place hk
  have hin := place_in h
  have h2 := sk_iff (c := peekC s c 9) (n := n) ⟨hp.1, by omega, by omega⟩
  rw [hp.2] at h2
  refine ⟨?_, fun h3 => ?_⟩
  · rw [h2]
    constructor
    · intro h4; have := h4.2.2; rw [remOf_in hin] at this; omega
    · intro h4; exact ⟨hin, by omega, by rw [remOf_in hin]; omega⟩
  · have h4 := sk_ok h3
    unfold settleOf; rw [if_pos h4.1, h4.2, hp.2]
theorem ueAt_in {s : ByteArray} {a : Int} (h : 0 ≤ a ∧ a ≤ 8 * s.size) : a ≤ ueAt s a ∧ ueAt s a ≤ 8 * s.size := by
  have hz := zerosOf_range s a
  unfold ueAt; split
  · next h1 => have := h1.2.2.2; rw [remOf_in h] at this; omega
  · omega
end Go.Pl

/- Plain numbers: frames filtered. -/
namespace Go.Pl
def allIn (lo hi : Int) (xs : List Int) : Prop := ∀ j : Nat, j < xs.length → lo ≤ xs.getD j 0 ∧ xs.getD j 0 ≤ hi
instance (lo hi : Int) (xs : List Int) : Decidable (allIn lo hi xs) := by unfold allIn; infer_instance
theorem four_in {lo hi a b c d : Int} : allIn lo hi [a, b, c, d] ↔ (lo ≤ a ∧ a ≤ hi) ∧ (lo ≤ b ∧ b ≤ hi) ∧ (lo ≤ c ∧ c ≤ hi) ∧ (lo ≤ d ∧ d ≤ hi) := by
  constructor
  · intro h; exact ⟨h 0 (by simp), h 1 (by simp), h 2 (by simp), h 3 (by simp)⟩
  · rintro ⟨h0, h1, h2, h3⟩ j hj
    match j, hj with
    | 0, _ => exact h0
    | 1, _ => exact h1
    | 2, _ => exact h2
    | 3, _ => exact h3
    | n + 4, h => simp at h; omega
theorem floor_eq {a b : Int} (hb : 0 < b) : (if a.tmod b < 0 then a.tdiv b - 1 else a.tdiv b) = a / b := by
  rcases Int.lt_or_le a 0 with h | h
  · obtain ⟨c, rfl⟩ : ∃ c, a = -c := ⟨-a, by omega⟩
    have hc : 0 ≤ c := by omega
    rw [Int.neg_tdiv, Int.neg_tmod, Int.tdiv_eq_ediv_of_nonneg hc, Int.tmod_eq_emod_of_nonneg hc]
    have h1 := Int.mul_ediv_add_emod c b
    have h2 := Int.emod_nonneg c (show b ≠ 0 by omega)
    have h3 := Int.emod_lt_of_pos c hb
    have h4 : c / b * b = b * (c / b) := Int.mul_comm _ _
    split
    · refine ((div_iff hb).2 ?_).symm
      rw [Int.sub_mul, Int.neg_mul, h4, Int.one_mul]
      generalize b * (c / b) = z at *
      omega
    · refine ((div_iff hb).2 ?_).symm
      rw [Int.neg_mul, h4]
      generalize b * (c / b) = z at *
      omega
  · rw [Int.tdiv_eq_ediv_of_nonneg h, Int.tmod_eq_emod_of_nonneg h, if_neg]
    have := Int.emod_nonneg a (show b ≠ 0 by omega)
    omega
theorem floor_up {a b : Int} (hb : 0 < b) : -((-a + b - 1) / b) = a / b := by
  have h1 := (div_iff (v := -a + b - 1) (q := (-a + b - 1) / b) hb).1 rfl
  refine ((div_iff hb).2 ?_).symm
  rw [Int.neg_mul]
  generalize (-a + b - 1) / b * b = z at *
  omega
theorem tdiv_range {a b : Int} (hb : 0 < b) (h : -9223372036854775807 ≤ a ∧ a ≤ 9223372036854775807) : -9223372036854775807 ≤ a.tdiv b ∧ a.tdiv b ≤ 9223372036854775807 := by
  rcases Int.lt_or_le a 0 with h1 | h1
  · obtain ⟨c, rfl⟩ : ∃ c, a = -c := ⟨-a, by omega⟩
    have hc : 0 ≤ c := by omega
    rw [Int.neg_tdiv, Int.tdiv_eq_ediv_of_nonneg hc]
    have h3 : 0 ≤ c / b := Int.ediv_nonneg hc (by omega)
    have h4 : c / b ≤ c := Int.ediv_le_self _ hc
    omega
  · rw [Int.tdiv_eq_ediv_of_nonneg h1]
    have h3 : 0 ≤ a / b := Int.ediv_nonneg h1 (by omega)
    have h4 : a / b ≤ a := Int.ediv_le_self _ h1
    omega
theorem tdiv_small {a b : Int} (hb : 0 < b) (h : -4611686018427387904 ≤ a ∧ a ≤ 4611686018427387904) : -4611686018427387904 ≤ a.tdiv b := by
  rcases Int.lt_or_le a 0 with h1 | h1
  · obtain ⟨c, rfl⟩ : ∃ c, a = -c := ⟨-a, by omega⟩
    have hc : 0 ≤ c := by omega
    rw [Int.neg_tdiv, Int.tdiv_eq_ediv_of_nonneg hc]
    have h4 : c / b ≤ c := Int.ediv_le_self _ hc
    omega
  · rw [Int.tdiv_eq_ediv_of_nonneg h1]
    have h3 : 0 ≤ a / b := Int.ediv_nonneg h1 (by omega)
    omega
theorem alpha_pos (q : Int) : 0 < alphaOf q ↔ 0 ≤ q ∧ q ≤ 51 := by unfold alphaOf; split <;> omega
theorem alpha_range (q : Int) : 0 ≤ alphaOf q ∧ alphaOf q ≤ 55 := by unfold alphaOf; split <;> omega
def fqOk (W H q : Int) (xs : List Int) : Prop := frOk W H xs ∧ 0 ≤ q ∧ q ≤ 51
instance (W H q : Int) (xs : List Int) : Decidable (fqOk W H q xs) := by unfold fqOk; infer_instance
def vertOf (W H q r : Int) (xs : List Int) : List Int := if fqOk W H q xs ∧ 0 ≤ r ∧ r ≤ H / 8 - 1 then egs q xs (vRows W (8 * r) 8) else xs
def horOf (W H q r : Int) (xs : List Int) : List Int := if fqOk W H q xs ∧ 1 ≤ r ∧ r ≤ H / 8 - 1 then egs q xs (hRow W (8 * r) W.toNat) else xs
def dbOf (W H q : Int) (xs : List Int) : List Int := if fqOk W H q xs then dbAll q W xs (H / 8).toNat else xs
theorem vertOf_length (W H q r : Int) (xs : List Int) : (vertOf W H q r xs).length = xs.length := by unfold vertOf; split <;> simp [egs_length]
theorem horOf_length (W H q r : Int) (xs : List Int) : (horOf W H q r xs).length = xs.length := by unfold horOf; split <;> simp [egs_length]
theorem dbOf_length (W H q : Int) (xs : List Int) : (dbOf W H q xs).length = xs.length := by unfold dbOf dbAll; split <;> simp [egs_length]
theorem fq_egs {W H q : Int} {xs : List Int} (l : List (Int × Int)) (h : fqOk W H q xs) : fqOk W H q (egs q xs l) := ⟨frOk_egs l h.1, h.2⟩
theorem fq_dbR {W H q : Int} {xs : List Int} (h : fqOk W H q xs) : ∀ r : Nat, fqOk W H q (dbR q W xs r)
  | 0 => by rw [dbR]; exact h
  | r + 1 => by
    rw [dbR]; split
    · exact fq_egs _ (fq_dbR h 0)
    · exact fq_egs _ (fq_egs _ (fq_dbR h r))
theorem dbR_step {W H q : Int} {xs : List Int} (h : fqOk W H q xs) {r : Nat} (hr : (r : Int) < H / 8) : horOf W H q r (vertOf W H q r (dbR q W xs r)) = dbR q W xs (r + 1) := by
  have h1 := fq_dbR h r
  have e : vertOf W H q r (dbR q W xs r) = egs q (dbR q W xs r) (vRows W (8 * (r : Int)) 8) := by unfold vertOf; rw [if_pos ⟨h1, by omega, by omega⟩]
  rw [e, dbR]
  by_cases h0 : r = 0
  · subst h0
    rw [if_pos rfl]; unfold horOf; rw [if_neg (fun h5 => by have := h5.2.1; omega)]; rfl
  · rw [if_neg h0]; unfold horOf; rw [if_pos ⟨fq_egs _ h1, by omega, by omega⟩]
theorem db_spec {W H q : Int} {xs : List Int} (h : fqOk W H q xs) {r : Nat} (hr : (r : Int) = H / 8) : dbR q W xs r = dbOf W H q xs := by
  unfold dbOf; rw [if_pos h, db_eq h.1.1.1.1, show (H / 8).toNat = r by omega]
theorem db_impl {W H q : Int} {xs : List Int} (h : fqOk W H q xs) {j : Nat} (hj : 8 * ((j : Int) + 1) = H) : egs q (egs q xs (vRows W 0 (H - 0).toNat)) (hRows W j) = dbOf W H q xs := by
  unfold dbOf dbAll; rw [if_pos h, show (H - 0).toNat = 8 * (H / 8).toNat by omega, show (H / 8).toNat - 1 = j by omega]
theorem vert_yes {W H q r : Int} {xs : List Int} (h : fqOk W H q xs) (h0 : 0 ≤ r) (h1 : r ≤ H / 8 - 1) : vertOf W H q r xs = egs q xs (vRows W (8 * r) (8 * r + 8 - 8 * r).toNat) := by
  unfold vertOf; rw [if_pos ⟨h, h0, h1⟩, show (8 * r + 8 - 8 * r).toNat = 8 by omega]
theorem vert_no {W H q r : Int} {xs : List Int} (h : ¬ (fqOk W H q xs ∧ 0 ≤ r ∧ r ≤ H / 8 - 1)) : vertOf W H q r xs = xs := by unfold vertOf; rw [if_neg h]
theorem hor_yes {W H q r : Int} {xs : List Int} (h : fqOk W H q xs) (h0 : 1 ≤ r) (h1 : r ≤ H / 8 - 1) : horOf W H q r xs = egs q xs (hRow W (8 * r) W.toNat) := by
  unfold horOf; rw [if_pos ⟨h, h0, h1⟩]
theorem hor_no {W H q r : Int} {xs : List Int} (h : ¬ (fqOk W H q xs ∧ 1 ≤ r ∧ r ≤ H / 8 - 1)) : horOf W H q r xs = xs := by unfold horOf; rw [if_neg h]
theorem db_no {W H q : Int} {xs : List Int} (h : ¬ fqOk W H q xs) : dbOf W H q xs = xs := by unfold dbOf; rw [if_neg h]
theorem sides_mul {W H : Int} (h : sidesOk W H) : 64 ≤ W * H ∧ W * H ≤ 1024 := by
  obtain ⟨h1, h2, _⟩ := h
  have e1 := Int.mul_le_mul h1.2 h2.2 (by omega) (by omega)
  have e2 := Int.mul_le_mul h1.1 h2.1 (by omega) (by omega)
  omega
/-- the geometry of a right frame -/
theorem fr_geo {W H : Int} {xs : List Int} (h : frOk W H xs) : (8 ≤ W ∧ W ≤ 32) ∧ (8 ≤ H ∧ H ≤ 32) ∧ W % 8 = 0 ∧ H % 8 = 0 ∧ (xs.length : Int) = W * H := ⟨h.1.1, h.1.2.1, h.1.2.2.1, h.1.2.2.2, h.2.1⟩
theorem row_in {W H y n : Int} (hW : 8 ≤ W ∧ W ≤ 32) (hn : n = W * H) (h0 : 0 ≤ y) (h1 : y ≤ H - 1) : 0 ≤ y * W ∧ y * W + W ≤ n ∧ y * W + W ≤ n := by
  have e1 := Int.mul_le_mul_of_nonneg_right (show y + 1 ≤ H by omega) (show 0 ≤ W by omega)
  have e2 := Int.mul_nonneg h0 (show 0 ≤ W by omega)
  rw [Int.add_mul, Int.one_mul, Int.mul_comm H W] at e1
  omega
theorem rows_in {W H y n : Int} (hW : 8 ≤ W ∧ W ≤ 32) (hn : n = W * H) (h0 : 2 ≤ y) (h1 : y ≤ H - 2) : 2 * W ≤ y * W ∧ y * W + 2 * W ≤ n := by
  have e1 := Int.mul_le_mul_of_nonneg_right (show y + 2 ≤ H by omega) (show 0 ≤ W by omega)
  have e2 := Int.mul_le_mul_of_nonneg_right h0 (show 0 ≤ W by omega)
  rw [Int.add_mul, Int.mul_comm H W] at e1
  omega
/-- places in rows that are not filtered -/
theorem vert_keep {W H q r : Int} {xs : List Int} {i : Nat} (hW : 8 ≤ W ∧ W ≤ 32) (hi : (i : Int) / W < 8 * r ∨ 8 * r + 8 ≤ (i : Int) / W) : (vertOf W H q r xs).getD i 0 = xs.getD i 0 := by
  unfold vertOf; split
  · next h5 =>
    have hr := h5.2.1
    refine egs_get fun e he => ?_
    obtain ⟨j, x, hj, hx, rfl⟩ := vRows_mem he
    have hd := (div_iff (v := (i : Int)) (q := (i : Int) / W) (show 0 < W by omega)).1 rfl
    have h0 := Int.mul_nonneg (show 0 ≤ 8 * r + (j : Int) by omega) (show 0 ≤ W by omega)
    simp only
    rcases hi with h1 | h1
    · have e1 := Int.mul_le_mul_of_nonneg_right (show (i : Int) / W + 1 ≤ 8 * r + (j : Int) by omega) (show 0 ≤ W by omega)
      rw [Int.add_mul ((i : Int) / W), Int.one_mul] at e1
      generalize (8 * r + (j : Int)) * W = A at *
      generalize (i : Int) / W * W = B at *
      omega
    · have e1 := Int.mul_le_mul_of_nonneg_right (show 8 * r + (j : Int) + 1 ≤ (i : Int) / W by omega) (show 0 ≤ W by omega)
      rw [Int.add_mul (8 * r + (j : Int)), Int.one_mul] at e1
      generalize (8 * r + (j : Int)) * W = A at *
      generalize (i : Int) / W * W = B at *
      omega
  · rfl
theorem hor_keep {W H q r : Int} {xs : List Int} {i : Nat} (hW : 8 ≤ W ∧ W ≤ 32) (hi : (i : Int) / W < 8 * r - 1 ∨ 8 * r < (i : Int) / W) : (horOf W H q r xs).getD i 0 = xs.getD i 0 := by
  unfold horOf; split
  · next h5 =>
    refine egs_get fun e he => ?_
    obtain ⟨x, hx, rfl⟩ := hRow_mem he
    have hd := (div_iff (v := (i : Int)) (q := (i : Int) / W) (show 0 < W by omega)).1 rfl
    have h0 := Int.mul_le_mul_of_nonneg_right (show 1 ≤ 8 * r by omega) (show 0 ≤ W by omega)
    rw [Int.one_mul] at h0
    simp only
    rcases hi with h1 | h1
    · have e1 := Int.mul_le_mul_of_nonneg_right (show (i : Int) / W + 2 ≤ 8 * r by omega) (show 0 ≤ W by omega)
      rw [Int.add_mul ((i : Int) / W)] at e1
      generalize 8 * r * W = A at *
      generalize (i : Int) / W * W = B at *
      omega
    · have e1 := Int.mul_le_mul_of_nonneg_right (show 8 * r + 1 ≤ (i : Int) / W by omega) (show 0 ≤ W by omega)
      rw [Int.add_mul (8 * r), Int.one_mul] at e1
      generalize 8 * r * W = A at *
      generalize (i : Int) / W * W = B at *
      omega
  · rfl
end Go.Pl

/- Plain numbers: fields read one by one, up to the first error. -/
namespace Go.Pl
structure Fs where
  a : Int
  code : Int
def fbS (s : ByteArray) (f : Fs) (n : Int) (chk : Int → Int) : Fs :=
  if f.code ≠ 0 then f else if ¬ rbOk s f.a n then ⟨f.a, 1⟩ else if chk (rbV s f.a n) ≠ 0 then ⟨f.a, chk (rbV s f.a n)⟩ else ⟨f.a + n, 0⟩
def fbV (s : ByteArray) (f : Fs) (n : Int) (chk : Int → Int) : Int :=
  if f.code ≠ 0 then 0 else if ¬ rbOk s f.a n then 0 else if chk (rbV s f.a n) ≠ 0 then 0 else rbV s f.a n
def fnS (s : ByteArray) (f : Fs) (chk : Int → Int) : Fs :=
  if f.code ≠ 0 then f else if ueE s f.a ≠ 0 then ⟨f.a, ueE s f.a⟩ else if chk (ueV s f.a) ≠ 0 then ⟨f.a, chk (ueV s f.a)⟩ else ⟨ueAt s f.a, 0⟩
def fnV (s : ByteArray) (f : Fs) (chk : Int → Int) : Int :=
  if f.code ≠ 0 then 0 else if ueE s f.a ≠ 0 then 0 else if chk (ueV s f.a) ≠ 0 then 0 else ueV s f.a
section
variable {s : ByteArray} {f : Fs} {n : Int} {chk : Int → Int}
theorem fb_err (h : f.code ≠ 0) : fbS s f n chk = f ∧ fbV s f n chk = 0 := by simp [fbS, fbV, h]
theorem fb_short (h : f.code = 0) (h1 : ¬ rbOk s f.a n) : fbS s f n chk = ⟨f.a, 1⟩ ∧ fbV s f n chk = 0 := by simp [fbS, fbV, h, h1]
theorem fb_bad (h : f.code = 0) (h1 : rbOk s f.a n) (h2 : chk (rbV s f.a n) ≠ 0) : fbS s f n chk = ⟨f.a, chk (rbV s f.a n)⟩ ∧ fbV s f n chk = 0 := by simp [fbS, fbV, h, h1, h2]
theorem fb_ok (h : f.code = 0) (h1 : rbOk s f.a n) (h2 : chk (rbV s f.a n) = 0) : fbS s f n chk = ⟨f.a + n, 0⟩ ∧ fbV s f n chk = rbV s f.a n := by simp [fbS, fbV, h, h1, h2]
theorem fn_err (h : f.code ≠ 0) : fnS s f chk = f ∧ fnV s f chk = 0 := by simp [fnS, fnV, h]
theorem fn_short (h : f.code = 0) (h1 : ueE s f.a ≠ 0) : fnS s f chk = ⟨f.a, ueE s f.a⟩ ∧ fnV s f chk = 0 := by simp [fnS, fnV, h, h1]
theorem fn_bad (h : f.code = 0) (h1 : ueE s f.a = 0) (h2 : chk (ueV s f.a) ≠ 0) : fnS s f chk = ⟨f.a, chk (ueV s f.a)⟩ ∧ fnV s f chk = 0 := by simp [fnS, fnV, h, h1, h2]
theorem fn_ok (h : f.code = 0) (h1 : ueE s f.a = 0) (h2 : chk (ueV s f.a) = 0) : fnS s f chk = ⟨ueAt s f.a, 0⟩ ∧ fnV s f chk = ueV s f.a := by simp [fnS, fnV, h, h1, h2]
end
def unl (p : Prop) [Decidable p] (c : Int) : Int := if p then 0 else c
def k183 (x : Int) : Int := unl (x = 183) 2
def k3 (x : Int) : Int := unl (x ≤ 3) 3
def k51 (x : Int) : Int := unl (x ≤ 51) 3
def k0 (_ : Int) : Int := 0
/-- six lengths of three bits -/
def lens6 (x : Int) (k : Nat) : List Int := (List.range k).map fun i : Nat => x / 2 ^ (3 * (5 - i)) % 8
def kLens (x : Int) : Int := unl (codeOk (lens6 x 6)) 4
def rh1 (s : ByteArray) (a : Int) : Fs := fbS s ⟨a, 0⟩ 8 k183
def rh2 (s : ByteArray) (a : Int) : Fs := fnS s (rh1 s a) k3
def rh3 (s : ByteArray) (a : Int) : Fs := fnS s (rh2 s a) k3
def rh4 (s : ByteArray) (a : Int) : Fs := fbS s (rh3 s a) 6 k51
def rh5 (s : ByteArray) (a : Int) : Fs := fbS s (rh4 s a) 2 k0
def rh6 (s : ByteArray) (a : Int) : Fs := fbS s (rh5 s a) 18 kLens
def rhW (s : ByteArray) (a : Int) : Int := fnV s (rh1 s a) k3
def rhH (s : ByteArray) (a : Int) : Int := fnV s (rh2 s a) k3
def rhQ (s : ByteArray) (a : Int) : Int := fbV s (rh3 s a) 6 k51
def rhF (s : ByteArray) (a : Int) : Int := fbV s (rh4 s a) 2 k0
def rhL (s : ByteArray) (a : Int) : Int := fbV s (rh5 s a) 18 kLens
theorem lens6_length (x : Int) (k : Nat) : (lens6 x k).length = k := by simp [lens6]
theorem lens6_succ (x : Int) (k : Nat) : lens6 x (k + 1) = lens6 x k ++ [x / 2 ^ (3 * (5 - k)) % 8] := by simp [lens6, List.range_succ]
end Go.Pl
namespace Go.Pl
/-- levels read pair by pair -/
def kLt (m : Int) (x : Int) : Int := unl (x < m) 5
def kLv (x : Int) : Int := unl (-16383 ≤ levelOf x ∧ levelOf x ≤ 16383) 5
structure Lv where
  f : Fs
  p : Int
  l : List Int
def lvF1 (s : ByteArray) (N : Int) (v : Lv) : Fs := fnS s v.f (kLt (N - v.p))
def lvP (s : ByteArray) (N : Int) (v : Lv) : Int := v.p + fnV s v.f (kLt (N - v.p))
def lvF2 (s : ByteArray) (N : Int) (v : Lv) : Fs := fnS s (lvF1 s N v) kLv
def lvL (s : ByteArray) (N : Int) (v : Lv) : Int := levelOf (fnV s (lvF1 s N v) kLv)
def lvStep (s : ByteArray) (N : Int) (v : Lv) : Lv :=
  if (lvF2 s N v).code = 0 then ⟨lvF2 s N v, lvP s N v + 1, v.l.set (lvP s N v).toNat (lvL s N v)⟩ else ⟨lvF2 s N v, lvP s N v, v.l⟩
def lvIt (s : ByteArray) (N : Int) (v : Lv) : Nat → Lv
  | 0 => v
  | k + 1 => if (lvIt s N v k).f.code ≠ 0 then lvIt s N v k else lvStep s N (lvIt s N v k)
end Go.Pl

/- Plain numbers: numbers read are none below 0; pairs read one by one. -/
namespace Go.Pl
theorem zc_bit {s : ByteArray} : ∀ (f : Nat) (a : Int), zc s a f < f → bitAt s (a + zc s a f) ≠ 0
  | 0, _, h => by omega
  | f + 1, a, h => by
    by_cases hb : bitAt s a = 0
    · have h1 := zc_step (f := f + 1) hb (by omega)
      rw [show f + 1 - 1 = f by omega] at h1
      rw [h1] at h ⊢
      have := zc_bit (s := s) f (a + 1) (by omega)
      rwa [show a + ((zc s (a + 1) f + 1 : Nat) : Int) = a + 1 + (zc s (a + 1) f : Nat) by omega]
    · rw [zc_stop (.inl hb)]; simpa using hb
theorem ueE_ok {s : ByteArray} {a : Int} (h : ueE s a = 0) : ueOk s a := by
  unfold ueE at h
  split at h
  · omega
  · next h1 =>
    split at h
    · next h2 => exact ⟨by omega, h2⟩
    · omega
theorem ueV_range {s : ByteArray} {a : Int} (h : ueE s a = 0) : 0 ≤ ueV s a ∧ ueV s a ≤ 2147483647 := by
  have hk := ueE_ok h
  obtain ⟨h1, h2, h3, h4⟩ := id hk
  have hz := zerosOf_range s a
  have hr := remOf_in h2
  unfold ueV; rw [if_pos hk]
  obtain ⟨z, hzz⟩ : ∃ z : Nat, zerosOf s a = z := ⟨(zerosOf s a).toNat, by omega⟩
  have hzc : zc s a (remOf s a).toNat = z := by unfold zerosOf at hzz; omega
  have hb := zc_bit (s := s) (remOf s a).toNat a (by omega)
  rw [hzc] at hb
  have hb0 := bitAt_in0 (s := s) (i := a + z) (by omega)
  rw [hzz] at h1 h4 ⊢
  rw [show (2 * (z : Int) + 1).toNat = z + (z + 1) by omega, bitsOf_add, bitsOf_first]
  have e1 := bitsOf_range s a z
  have e2 := bitsOf_range s (a + z + 1) z
  have e3 := two_pow_pos (z + 1)
  have e4 := two_pow_pos z
  have e5 := Int.mul_nonneg e1.1 (Int.le_of_lt e3)
  rw [show max (bitAt s (a + z)) 0 = 1 by omega, Int.one_mul]
  have e6 := bitsOf_range s a (z + (z + 1))
  rw [bitsOf_add, bitsOf_first, show max (bitAt s (a + z)) 0 = 1 by omega, Int.one_mul] at e6
  have e7 := two_pow_le (n := z + (z + 1)) (m := 31) (by omega)
  have e8 : (2 : Int) ^ 31 = 2147483648 := rfl
  omega
theorem fnV_range (s : ByteArray) (f : Fs) (chk : Int → Int) : 0 ≤ fnV s f chk ∧ fnV s f chk ≤ 2147483647 := by
  unfold fnV
  split
  · omega
  · split
    · omega
    · next h =>
      split
      · omega
      · exact ueV_range (Classical.not_not.1 h)
theorem kLt_le {m x : Int} (h : kLt m x = 0) : x < m := by unfold kLt unl at h; split at h <;> omega
theorem fnV_lt {s : ByteArray} {f : Fs} {m : Int} : fnV s f (kLt m) = 0 ∨ fnV s f (kLt m) < m := by
  unfold fnV
  split
  · exact .inl rfl
  · split
    · exact .inl rfl
    · split
      · exact .inl rfl
      · next h => exact .inr (kLt_le (Classical.not_not.1 h))
theorem lvIt_stop {s : ByteArray} {N : Int} {v : Lv} {k : Nat} (h : (lvIt s N v k).f.code ≠ 0) : ∀ m : Nat, lvIt s N v (k + m) = lvIt s N v k
  | 0 => rfl
  | m + 1 => by
    have ih := lvIt_stop h m
    show lvIt s N v (k + m + 1) = _
    rw [lvIt, ih, if_pos h]
theorem lvIt_next {s : ByteArray} {N : Int} {v : Lv} {k : Nat} (h : (lvIt s N v k).f.code = 0) : lvIt s N v (k + 1) = lvStep s N (lvIt s N v k) := by
  rw [lvIt, if_neg (fun h2 => h2 h)]
theorem levelOf_range {n : Int} (h : 0 ≤ n ∧ n ≤ 2147483647) : -2147483648 ≤ levelOf n ∧ levelOf n ≤ 2147483648 := by
  unfold levelOf; split
  · omega
  · split <;> omega
theorem lvL_range (s : ByteArray) (N : Int) (v : Lv) : -2147483648 ≤ lvL s N v ∧ lvL s N v ≤ 2147483648 := levelOf_range (fnV_range s (lvF1 s N v) kLv)
/-- the state of levels as they are read -/
def lvOk (N : Int) (v : Lv) : Prop := 0 ≤ v.p ∧ v.p ≤ N ∧ (v.l.length : Int) = N
theorem lvP_range {s : ByteArray} {N : Int} {v : Lv} (h : lvOk N v) : v.p ≤ lvP s N v ∧ lvP s N v ≤ N := by
  obtain ⟨h1, h2, h3⟩ := h
  have a := fnV_range s v.f (kLt (N - v.p))
  have b := fnV_lt (s := s) (f := v.f) (m := N - v.p)
  unfold lvP; omega
end Go.Pl

/- Plain numbers: headers and blocks as bits, joined. -/
namespace Go.Pl
open Go.Sx
def headA (a b q : Int) (y z : Bool) : List Int := bitsIn 183 8 ++ ueBits (a / 8 - 1) ++ ueBits (b / 8 - 1) ++ bitsIn q 6 ++ [flag y, flag z]
theorem headA_len (a b q : Int) (y z : Bool) : (headA a b q y z).length ≤ 200 := by
  have h1 := (bitsIn_len 183 8).1; have h2 := ueBits_le (a / 8 - 1); have h3 := ueBits_le (b / 8 - 1); have h4 := (bitsIn_len q 6).1
  unfold headA; simp only [List.length_append, List.length_cons, List.length_nil]; omega
theorem headBits_yes {a b q : Int} {y z : Bool} {xs : List Int} (h : headOk a b q xs) {k : Nat} (hk : k = xs.length) : headBits a b q y z xs = headA a b q y z ++ fieldsOf xs k := by
  unfold headBits headA fieldsOf; rw [if_pos h, hk, List.take_length]
theorem fieldsOf_succ {xs : List Int} {k : Nat} (h : k < xs.length) : fieldsOf xs (k + 1) = fieldsOf xs k ++ bitsIn (xs.getD k 0) 3 := flat_take_succ _ xs h
theorem fieldsOf_len (xs : List Int) (k : Nat) : (fieldsOf xs k).length ≤ 48 * k := flat_take_le _ (fun x => (bitsIn_len x 3).1) xs k
theorem fieldsOf_zero (xs : List Int) : fieldsOf xs 0 = [] := by simp [fieldsOf]
theorem headBits_len (a b q : Int) (y z : Bool) (xs : List Int) : (headBits a b q y z xs).length ≤ 600 := by
  by_cases h : headOk a b q xs
  · rw [headBits_yes h rfl, List.length_append]
    have h1 := headA_len a b q y z; have h2 := fieldsOf_len xs xs.length; have h3 := h.2.2.2.1
    omega
  · rw [headBits_no h]; simp
theorem bitsl_pad {m : Int} {w : Nat} (h : 0 ≤ m ∧ m < 2 ^ w) : ∀ k : Nat, bitsl m (w + k) = List.replicate k 0 ++ bitsl m w
  | 0 => by simp
  | k + 1 => by
    have ih := bitsl_pad h k
    have h2 := two_pow_le (n := w) (m := w + k) (by omega)
    show bitsl m (w + k + 1) = _
    rw [bitsl, ih, Int.ediv_eq_zero_of_lt h.1 (by omega)]; rfl
theorem ueBits_zeros {n : Int} (h : 0 ≤ n ∧ n ≤ 65534) : ueBits n = List.replicate (lz n).toNat 0 ++ bitsIn (n + 1) (lz n + 1) := by
  have h1 := lz_spec h.1
  have h2 := lz_range h
  have e1 : (lz n + 1).toNat = (lz n).toNat + 1 := by omega
  have hb : bitOk (lz n + 1) (n + 1) := ⟨by omega, by omega, by rw [e1]; exact Int.ediv_eq_zero_of_lt (by omega) h1.2⟩
  rw [ueBits_eq h, show 2 * (lz n).toNat + 1 = ((lz n).toNat + 1) + (lz n).toNat by omega, bitsl_pad ⟨by omega, h1.2⟩]
  unfold bitsIn; rw [if_pos hb, e1]
theorem flat3 (a b c : Li) : [a, b, c].flatMap Li.xs = a.xs ++ b.xs ++ c.xs := by simp
theorem flat5 (a b c d e : Li) : [a, b, c, d, e].flatMap Li.xs = a.xs ++ b.xs ++ c.xs ++ d.xs ++ e.xs := by simp
theorem own_eq {w : World} {p : Option Addr} {c : Nat} {e : TypeId} {F : List Nat} {xs ys : List Int} (h : xs = ys) (o : Own w p xs.length c e 1 (ic xs) F) : Own w p ys.length c e 1 (ic ys) F := h ▸ o
theorem pairs_end {ys : List Int} {k : Nat} (h : 0 < k → levelsOk ys) (hk : k = ys.length ∨ ¬ levelsOk ys) : pairsOf ys = (prS ys k).1 := by
  rcases Nat.eq_zero_or_pos k with h0 | h0
  · subst h0
    by_cases hl : levelsOk ys
    · rcases hk with h1 | h1
      · exact pairs_yes hl h1
      · exact absurd hl h1
    · rw [pairs_no hl]; rfl
  · rcases hk with h1 | h1
    · exact pairs_yes (h h0) h1
    · exact absurd (h h0) h1
def blockA (m : Int) (ys xs : List Int) : List Int := symBits xs m ++ ([1] ++ ueBits ((pairsOf ys).length - 1))
theorem blockA_len (m : Int) (ys xs : List Int) : (blockA m ys xs).length ≤ 100 := by
  have h1 := symBits_le xs m; have h2 := ueBits_le ((pairsOf ys).length - 1)
  unfold blockA; simp only [List.length_append, List.length_cons, List.length_nil]; omega
theorem block_none {m n : Int} {ys xs : List Int} (h : blockOk m ys xs n) (h0 : (pairsOf ys).length = 0) : blockBits m ys xs n = symBits xs m ++ [0] := by
  unfold blockBits levelBits; rw [if_pos h, if_pos h0]
theorem block_some {m n : Int} {ys xs : List Int} (h : blockOk m ys xs n) (h0 : (pairsOf ys).length ≠ 0) {k : Nat} (hk : k = (pairsOf ys).length) : blockBits m ys xs n = blockA m ys xs ++ ((pairsOf ys).take k).flatMap pairBits := by
  unfold blockBits levelBits blockA; rw [if_pos h, if_neg h0, hk, List.take_length]; simp
theorem pairsBits_len (ys : List Int) (k : Nat) : (((pairsOf ys).take k).flatMap pairBits).length ≤ 62 * k := flat_take_le _ pairBits_le _ k
theorem map_getD {α β : Type} [Inhabited α] [Inhabited β] (f : α → β) {xs : List α} {j : Nat} (h : j < xs.length) : (xs.map f).getD j default = f (xs.getD j default) := by
  simp [List.getD, h]
def manyOf (e : Bool) : Int := if e then 1 else 4
theorem many_eq (e : Bool) : 64 / (side e * side e) = manyOf e := by cases e <;> decide
theorem side_in (e : Bool) : side e = 4 ∨ side e = 8 := by cases e <;> decide
theorem mb_iff {e : Bool} {bs : List Bk} {xs : List Int} : mbOk e (bs.map Bk.pl) xs ↔ (bs.length : Int) = manyOf e ∧ ∀ j : Nat, j < bs.length → blockOk (bs.getD j default).mode (bs.getD j default).lv xs (side e) := by
  unfold mbOk
  rw [List.length_map, many_eq]
  constructor
  · rintro ⟨h1, h2⟩
    refine ⟨h1, fun j hj => ?_⟩
    have h3 := h2 j hj
    rw [map_getD _ hj] at h3; exact h3
  · rintro ⟨h1, h2⟩
    refine ⟨h1, fun j hj => ?_⟩
    rw [map_getD _ hj]; exact h2 j hj
end Go.Pl

/- Plain numbers: headers read. -/
namespace Go.Pl
section
variable {s : ByteArray} {a : Int}
theorem rh_x5 (h : (rh5 s a).code ≠ 0) : rh6 s a = rh5 s a := (fb_err h).1
theorem rh_x4 (h : (rh4 s a).code ≠ 0) : rh6 s a = rh4 s a := by
  have e : rh5 s a = rh4 s a := (fb_err h).1
  rw [rh_x5 (by rw [e]; exact h), e]
theorem rh_x3 (h : (rh3 s a).code ≠ 0) : rh6 s a = rh3 s a := by
  have e : rh4 s a = rh3 s a := (fb_err h).1
  rw [rh_x4 (by rw [e]; exact h), e]
theorem rh_x2 (h : (rh2 s a).code ≠ 0) : rh6 s a = rh2 s a := by
  have e : rh3 s a = rh2 s a := (fn_err h).1
  rw [rh_x3 (by rw [e]; exact h), e]
theorem rh_x1 (h : (rh1 s a).code ≠ 0) : rh6 s a = rh1 s a := by
  have e : rh2 s a = rh1 s a := (fn_err h).1
  rw [rh_x2 (by rw [e]; exact h), e]
end
def hdW (s : ByteArray) (a : Int) : Int := if (rh6 s a).code = 0 then 8 * (rhW s a + 1) else 0
def hdH (s : ByteArray) (a : Int) : Int := if (rh6 s a).code = 0 then 8 * (rhH s a + 1) else 0
def hdQ (s : ByteArray) (a : Int) : Int := if (rh6 s a).code = 0 then rhQ s a else 0
def hdB (s : ByteArray) (a : Int) : Bool := decide ((rh6 s a).code = 0 ∧ 2 ≤ rhF s a)
def hdD (s : ByteArray) (a : Int) : Bool := decide ((rh6 s a).code = 0 ∧ rhF s a % 2 = 1)
def hdL (s : ByteArray) (a : Int) : List Int := if (rh6 s a).code = 0 then lens6 (rhL s a) 6 else []
theorem hd_no {s : ByteArray} {a : Int} (h : (rh6 s a).code ≠ 0) : hdW s a = 0 ∧ hdH s a = 0 ∧ hdQ s a = 0 ∧ hdB s a = false ∧ hdD s a = false ∧ hdL s a = [] := by
  simp [hdW, hdH, hdQ, hdB, hdD, hdL, h]
theorem hd_yes {s : ByteArray} {a : Int} (h : (rh6 s a).code = 0) : hdW s a = 8 * (rhW s a + 1) ∧ hdH s a = 8 * (rhH s a + 1) ∧ hdQ s a = rhQ s a ∧ hdB s a = decide (2 ≤ rhF s a) ∧ hdD s a = decide (rhF s a % 2 = 1) ∧ hdL s a = lens6 (rhL s a) 6 := by
  simp [hdW, hdH, hdQ, hdB, hdD, hdL, h]
theorem rbV_range (s : ByteArray) (a n : Int) : 0 ≤ rbV s a n ∧ rbV s a n < 4294967296 := by
  unfold rbV; split
  · next h =>
    have h1 := bitsOf_range s a n.toNat
    have h2 := two_pow_le (n := n.toNat) (m := 32) (by have := h.2.1; omega)
    have e : (2 : Int) ^ 32 = 4294967296 := rfl
    omega
  · omega
theorem fbV_range (s : ByteArray) (f : Fs) (n : Int) (chk : Int → Int) : 0 ≤ fbV s f n chk ∧ fbV s f n chk < 4294967296 := by
  unfold fbV
  split
  · omega
  · split
    · omega
    · split
      · omega
      · exact rbV_range s f.a n
theorem lens6_range (x : Int) (k j : Nat) : 0 ≤ (lens6 x k).getD j 0 ∧ (lens6 x k).getD j 0 ≤ 7 := by
  by_cases h : j < k
  · have e : (lens6 x k).getD j 0 = x / 2 ^ (3 * (5 - j)) % 8 := by simp [lens6, List.getD, h]
    rw [e]; omega
  · rw [List.getD_eq_getElem?_getD, List.getElem?_eq_none (by rw [lens6_length]; omega)]; simp
theorem rbAt_ok {s : ByteArray} {a n : Int} (h : rbOk s a n) : rbAt s a n = a + n := by unfold rbAt; rw [if_pos h]
theorem rbAt_no {s : ByteArray} {a n : Int} (h : ¬ rbOk s a n) : rbAt s a n = a := by unfold rbAt; rw [if_neg h]
theorem ueAt_no {s : ByteArray} {a : Int} (h : ueE s a ≠ 0) : ueAt s a = a := by
  unfold ueAt; rw [if_neg]
  intro h1
  apply h
  unfold ueE; rw [if_neg (by have := h1.1; omega), if_pos h1.2]
theorem ueV_no {s : ByteArray} {a : Int} (h : ueE s a ≠ 0) : ueV s a = 0 := by
  unfold ueV; rw [if_neg]
  intro h1
  apply h
  unfold ueE; rw [if_neg (by have := h1.1; omega), if_pos h1.2]
theorem fs_eta {f : Fs} (h : f.code = 0) : (⟨f.a, 0⟩ : Fs) = f := by rw [← h]
theorem bx_eq {w : World} {b T : Nat} {cs cs' : List Value} (h : cs = cs') (hB : Go.Sx.Bx w b cs T) : Go.Sx.Bx w b cs' T := h ▸ hB
end Go.Pl

/- Plain numbers: streams as bits. -/
namespace Go.Pl
open Go.Sx
abbrev PB : Type := Int × List Int
abbrev PM : Type := Bool × List PB
def streamOk (a b q : Int) (xs : List Int) (ms : List PM) : Prop := headOk a b q xs ∧ (ms.length : Int) = a / 8 * (b / 8) ∧ ∀ j : Nat, j < ms.length → mbOk (ms.getD j default).1 (ms.getD j default).2 xs
instance (a b q : Int) (xs : List Int) (ms : List PM) : Decidable (streamOk a b q xs ms) := by unfold streamOk; infer_instance
theorem many_range {a b : Int} (h : sidesOk a b) : 0 ≤ a / 8 * (b / 8) ∧ a / 8 * (b / 8) ≤ 16 := by
  obtain ⟨h1, h2, _⟩ := h
  have e1 := Int.mul_le_mul (show a / 8 ≤ 4 by omega) (show b / 8 ≤ 4 by omega) (by omega) (by omega)
  have e2 := Int.mul_nonneg (show 0 ≤ a / 8 by omega) (show 0 ≤ b / 8 by omega)
  omega
theorem stream_iff {a b q : Int} {xs : List Int} {ms : List Mk} : streamOk a b q xs (ms.map Mk.pl) ↔ headOk a b q xs ∧ (ms.length : Int) = a / 8 * (b / 8) ∧ ∀ j : Nat, j < ms.length → mbOk (ms.getD j default).eight ((ms.getD j default).bs.map Bk.pl) xs := by
  unfold streamOk
  rw [List.length_map]
  refine and_congr_right fun _ => and_congr_right fun _ => ⟨fun h j hj => ?_, fun h j hj => ?_⟩
  · have h3 := h j hj; rw [map_getD _ hj] at h3; exact h3
  · rw [map_getD _ hj]; exact h j hj
def mbA (e : Bool) (bs : List PB) (xs : List Int) (k : Nat) : List Int := [flag e] ++ (bs.take k).flatMap fun b => blockBits b.1 b.2 xs (side e)
theorem mbA_zero (e : Bool) (bs : List PB) (xs : List Int) : mbA e bs xs 0 = [flag e] := by simp [mbA]
theorem mbA_succ {e : Bool} {bs : List Bk} {xs : List Int} {k : Nat} (h : k < bs.length) : mbA e (bs.map Bk.pl) xs (k + 1) = mbA e (bs.map Bk.pl) xs k ++ blockBits (bs.getD k default).mode (bs.getD k default).lv xs (side e) := by
  unfold mbA
  rw [flat_take_succ _ _ (by rw [List.length_map]; exact h), map_getD _ h, List.append_assoc]; rfl
theorem mbA_len (e : Bool) (bs : List PB) (xs : List Int) (k : Nat) : (mbA e bs xs k).length ≤ 1 + 4048 * k := by
  have h := flat_take_le (fun b : PB => blockBits b.1 b.2 xs (side e)) (fun b => blockBits_le b.1 b.2 xs (side e)) bs k
  unfold mbA; rw [List.length_append, List.length_singleton]; omega
theorem mb_no {e : Bool} {bs : List PB} {xs : List Int} (h : ¬ mbOk e bs xs) : mbBits e bs xs = [] := by unfold mbBits; rw [if_neg h]
theorem mb_yes {e : Bool} {bs : List PB} {xs : List Int} (h : mbOk e bs xs) {k : Nat} (hk : k = bs.length) : mbBits e bs xs = mbA e bs xs k := by unfold mbBits mbA; rw [if_pos h, hk, List.take_length]
theorem mb_many {e : Bool} {bs : List PB} {xs : List Int} (h : mbOk e bs xs) : bs.length ≤ 4 := by
  have h1 := h.1
  rw [many_eq] at h1
  unfold manyOf at h1; split at h1 <;> omega
theorem mbBits_le (m : PM) (xs : List Int) : (mbBits m.1 m.2 xs).length ≤ 20000 := by
  by_cases h : mbOk m.1 m.2 xs
  · rw [mb_yes h rfl]; have h1 := mbA_len m.1 m.2 xs m.2.length; have h2 := mb_many h; omega
  · rw [mb_no h]; simp
def stA (a b q : Int) (y z : Bool) (xs : List Int) (ms : List PM) (k : Nat) : List Int := headBits a b q y z xs ++ (ms.take k).flatMap fun m => mbBits m.1 m.2 xs
theorem stA_zero (a b q : Int) (y z : Bool) (xs : List Int) (ms : List PM) : stA a b q y z xs ms 0 = headBits a b q y z xs := by simp [stA]
theorem stA_succ {a b q : Int} {y z : Bool} {xs : List Int} {ms : List Mk} {k : Nat} (h : k < ms.length) : stA a b q y z xs (ms.map Mk.pl) (k + 1) = stA a b q y z xs (ms.map Mk.pl) k ++ mbBits (ms.getD k default).eight ((ms.getD k default).bs.map Bk.pl) xs := by
  unfold stA
  rw [flat_take_succ _ _ (by rw [List.length_map]; exact h), map_getD _ h, List.append_assoc]; rfl
theorem stA_len (a b q : Int) (y z : Bool) (xs : List Int) (ms : List PM) (k : Nat) : (stA a b q y z xs ms k).length ≤ 600 + 20000 * k := by
  have h := flat_take_le (fun m : PM => mbBits m.1 m.2 xs) (fun m => mbBits_le m xs) ms k
  have h2 := headBits_len a b q y z xs
  unfold stA; rw [List.length_append]; omega
def unp (a b q : Int) (y z : Bool) (xs : List Int) (ms : List PM) : ByteArray := if streamOk a b q xs ms then stopped (stA a b q y z xs ms ms.length) else ⟨#[]⟩
theorem unp_no {a b q : Int} {y z : Bool} {xs : List Int} {ms : List PM} (h : ¬ streamOk a b q xs ms) : unp a b q y z xs ms = ⟨#[]⟩ := by unfold unp; rw [if_neg h]
theorem unp_yes {a b q : Int} {y z : Bool} {xs : List Int} {ms : List PM} (h : streamOk a b q xs ms) {k : Nat} (hk : k = ms.length) : unp a b q y z xs ms = stopped (stA a b q y z xs ms k) := by unfold unp; rw [if_pos h, hk]
/-- a number of its bits -/
def numOk (b : List Int) : Prop := isBits b ∧ b.length ≤ 48
instance (b : List Int) : Decidable (isBits b) := by unfold isBits; infer_instance
instance (b : List Int) : Decidable (numOk b) := by unfold numOk; infer_instance
theorem numl_take {b : List Int} {k : Nat} (h : k < b.length) : numl (b.take (k + 1)) = numl (b.take k) * 2 + b.getD k 0 := by
  rw [List.take_add_one]; simp only [List.getElem?_eq_getElem h, Option.toList_some]; rw [numl_snoc]; simp [List.getD, h]
theorem numl_take_range {b : List Int} {k : Nat} (hk : k ≤ 48) (h : ∀ j : Nat, j < k → b.getD j 0 = 0 ∨ b.getD j 0 = 1) (hl : k ≤ b.length) : 0 ≤ numl (b.take k) ∧ numl (b.take k) < 281474976710656 := by
  have hb : isBits (b.take k) := isBits_upto fun j hj => by
    rw [List.length_take] at hj
    have := h j (by omega)
    rw [List.getD_eq_getElem?_getD, List.getElem?_take, if_pos (by omega), ← List.getD_eq_getElem?_getD]; exact this
  have h1 := numl_range hb
  have h2 := two_pow_le (n := (b.take k).length) (m := 48) (by rw [List.length_take]; omega)
  have e : (2 : Int) ^ 48 = 281474976710656 := rfl
  omega
/-- the first k bytes of bits -/
theorem bytesl_get {b : List Int} {k : Nat} (h : k < b.length / 8) : (bytesl b)[k]? = some (numl ((b.drop (8 * k)).take 8)) := by simp [bytesl, h]
theorem bytesl_take {b : List Int} {k : Nat} (h : k < b.length / 8) : (bytesl b).take (k + 1) = (bytesl b).take k ++ [numl ((b.drop (8 * k)).take 8)] := by
  rw [List.take_add_one, bytesl_get h]; rfl
theorem isBits_parts {b : List Int} {k : Nat} (h : isBits (b.take (8 * k))) (h2 : isBits ((b.drop (8 * k)).take 8)) : isBits (b.take (8 * (k + 1))) := by
  rw [show 8 * (k + 1) = 8 * k + 8 by omega, List.take_add]; exact isBits_app.2 ⟨h, h2⟩
end Go.Pl
