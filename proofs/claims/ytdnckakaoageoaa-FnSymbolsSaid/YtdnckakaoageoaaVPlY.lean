/- Plain numbers and lists, with no program in sight. -/
import Derived.Test.YtdnckakaoageoaaVPlX
import Derived.Test.YtdnckakaoageoaaVSxF
/- Plain numbers: tables of symbols. -/
namespace Go.Pl
open Go.Sx
def symEnt (l : List Int) (i : Nat) : Int × Int := (l.getD (symOf l i) 0, (symOf l i : Int))
def symTab (l : List Int) : List (Int × Int) := if codeOk l then (List.range 128).map (symEnt l) else []
theorem symTab_no {l : List Int} (h : ¬ codeOk l) : symTab l = [] := by unfold symTab; rw [if_neg h]
theorem symTab_yes {l : List Int} (h : codeOk l) : symTab l = (List.range 128).map (symEnt l) := by unfold symTab; rw [if_pos h]
theorem symTab_len {l : List Int} (h : codeOk l) : (symTab l).length = 128 := by rw [symTab_yes h, List.length_map, List.length_range]
theorem symTab_get {l : List Int} (h : codeOk l) {i : Nat} (hi : i < 128) : (symTab l).getD i default = symEnt l i := by
  rw [symTab_yes h]; simp [List.getD, hi]
/-- seven bits in one byte -/
theorem byte7 {k : Nat} (hk : k < 128) : (strOf [IntKind.u8.wrap ((k : Int) * 2)]).size = 1 ∧ bitsOf (strOf [IntKind.u8.wrap ((k : Int) * 2)]) 0 7 = k := by
  have hw : IntKind.u8.wrap ((k : Int) * 2) = (k : Int) * 2 := by rw [wrap_u8]; omega
  rw [hw]
  have hs : (strOf [(k : Int) * 2]).size = 1 := by rw [strOf_size]; rfl
  refine ⟨hs, ?_⟩
  have h1 := bitsOf_byte (strOf [(k : Int) * 2]) 0 (by rw [hs]; decide)
  rw [show (8 : Int) * 0 = 0 from rfl] at h1
  have h2 := strOf_byte (xs := [(k : Int) * 2]) (fun x hx => by simp at hx; omega) (0 : Int).toNat
  rw [h2] at h1
  have h3 := bitsOf_div (strOf [(k : Int) * 2]) 0 7 1
  rw [show 7 + 1 = 8 from rfl, h1] at h3
  rw [← h3]
  show (k : Int) * 2 / 2 ^ 1 = k
  omega
theorem sym_byte {l : List Int} (h : codeOk l) {k : Nat} (hk : k < 128) : rsOk (strOf [IntKind.u8.wrap ((k : Int) * 2)]) 0 l ∧ symAt (strOf [IntKind.u8.wrap ((k : Int) * 2)]) 0 l = symOf l k := by
  obtain ⟨h1, h2⟩ := byte7 hk
  have e : symAt (strOf [IntKind.u8.wrap ((k : Int) * 2)]) 0 l = symOf l k := by unfold symAt; rw [h2]
  have h3 := codeOk_at h (symOf l k)
  refine ⟨⟨h, ?_⟩, e⟩
  rw [e]
  exact ⟨by rw [h1]; omega, by omega, by rw [remOf_in (by rw [h1]; omega), h1]; omega⟩
theorem sym_byteE {l : List Int} (h : codeOk l) {k : Nat} (hk : k < 128) : (rsAt (strOf [IntKind.u8.wrap ((k : Int) * 2)]) 0 l, rsV (strOf [IntKind.u8.wrap ((k : Int) * 2)]) 0 l) = symEnt l k := by
  obtain ⟨h1, h2⟩ := sym_byte h hk
  unfold rsAt rsV symEnt
  rw [if_pos h1, if_pos h1, h2]
  congr 1; omega
theorem sym_hit {l : List Int} (h : codeOk l) {v : Nat} (hv : v < 128) : (symOf l v < 6 ∧ 1 ≤ l.getD (symOf l v) 0) ∧ cHit l (codesOf l) (symOf l v) v := symOf_hit h (by omega) (by omega)
/-- a symbol out of a cache, by a table -/
def fsIx (s : ByteArray) (c : Ca) : Nat := (bitsOf s (8 * c.pos - c.hv) 7).toNat
def fsE (s : ByteArray) (c : Ca) (t : List (Int × Int)) : Int :=
  if ¬ caOk s c then 1 else if t.length ≠ 128 ∨ ¬ (1 ≤ (t.getD (fsIx s c) default).1 ∧ (t.getD (fsIx s c) default).1 ≤ 7) then 4
  else if 8 * c.pos - c.hv + (t.getD (fsIx s c) default).1 > 8 * s.size then 1 else 0
def fsC (s : ByteArray) (c : Ca) (t : List (Int × Int)) : Ca := if fsE s c t = 0 then settledAt s (8 * c.pos - c.hv + (t.getD (fsIx s c) default).1) else c
def fsV (s : ByteArray) (c : Ca) (t : List (Int × Int)) : Int := if fsE s c t = 0 then (t.getD (fsIx s c) default).2 else 0
theorem fsE_bad {s : ByteArray} {c : Ca} {t : List (Int × Int)} (h : ¬ caOk s c) : fsE s c t = 1 := by unfold fsE; rw [if_pos h]
theorem fsE_code {s : ByteArray} {c : Ca} {t : List (Int × Int)} (h : caOk s c) (h1 : t.length ≠ 128 ∨ ¬ (1 ≤ (t.getD (fsIx s c) default).1 ∧ (t.getD (fsIx s c) default).1 ≤ 7)) : fsE s c t = 4 := by unfold fsE; rw [if_neg (fun h2 => h2 h), if_pos h1]
theorem fsE_short {s : ByteArray} {c : Ca} {t : List (Int × Int)} (h : caOk s c) (h1 : t.length = 128) (h2 : 1 ≤ (t.getD (fsIx s c) default).1 ∧ (t.getD (fsIx s c) default).1 ≤ 7) (h3 : 8 * c.pos - c.hv + (t.getD (fsIx s c) default).1 > 8 * s.size) : fsE s c t = 1 := by
  unfold fsE; rw [if_neg (fun h4 => h4 h), if_neg (by rintro (h4 | h4); exact h4 h1; exact h4 h2), if_pos h3]
theorem fsE_yes {s : ByteArray} {c : Ca} {t : List (Int × Int)} (h : caOk s c) (h1 : t.length = 128) (h2 : 1 ≤ (t.getD (fsIx s c) default).1 ∧ (t.getD (fsIx s c) default).1 ≤ 7) (h3 : ¬ 8 * c.pos - c.hv + (t.getD (fsIx s c) default).1 > 8 * s.size) : fsE s c t = 0 := by
  unfold fsE; rw [if_neg (fun h4 => h4 h), if_neg (by rintro (h4 | h4); exact h4 h1; exact h4 h2), if_neg h3]
end Go.Pl

/- Plain numbers: symbols out of caches; edges drawn together. -/
namespace Go.Pl
/-- the bounds of an edge -/
def alphaOf (q : Int) : Int := if 0 ≤ q ∧ q ≤ 51 then q + 4 else 0
def betaOf (q : Int) : Int := if 0 ≤ q ∧ q ≤ 51 then q / 3 + 2 else 0
def pixOk (xs : List Int) : Prop := ∀ j : Nat, j < xs.length → 0 ≤ xs.getD j 0 ∧ xs.getD j 0 ≤ 255
def edgeC (a b c d q : Int) : Prop := ((0 ≤ a ∧ a ≤ 255) ∧ (0 ≤ b ∧ b ≤ 255) ∧ (0 ≤ c ∧ c ≤ 255) ∧ (0 ≤ d ∧ d ≤ 255)) ∧ (b - c < alphaOf q ∧ c - b < alphaOf q) ∧ (a - b < betaOf q ∧ b - a < betaOf q) ∧ (d - c < betaOf q ∧ c - d < betaOf q)
instance (a b c d q : Int) : Decidable (edgeC a b c d q) := by unfold edgeC; infer_instance
/-- a right frame -/
def frOk (W H : Int) (xs : List Int) : Prop := sidesOk W H ∧ (xs.length : Int) = W * H ∧ pixOk xs
end Go.Pl

/- Plain numbers: headers, pairs and blocks as bits. -/
namespace Go.Pl
instance (xs : List Int) : Decidable (pixOk xs) := by unfold pixOk; infer_instance
instance (W H : Int) (xs : List Int) : Decidable (frOk W H xs) := by unfold frOk; infer_instance
/-- the first k numbers' bits -/
def fieldsOf (xs : List Int) (k : Nat) : List Int := (xs.take k).flatMap (fun n => bitsIn n 3)
theorem symBits_le (l : List Int) (m : Int) : (symBits l m).length ≤ 48 := by
  unfold symBits; split
  · exact (bitsIn_len _ _).1
  · simp
/-- a macroblock -/
def side (e : Bool) : Int := if e then 8 else 4
def mbOk (e : Bool) (bs : List (Int × List Int)) (xs : List Int) : Prop := (bs.length : Int) = 64 / (side e * side e) ∧ ∀ j : Nat, j < bs.length → blockOk (bs.getD j default).1 (bs.getD j default).2 xs (side e)
instance (e : Bool) (bs : List (Int × List Int)) (xs : List Int) : Decidable (mbOk e bs xs) := by unfold mbOk; infer_instance
/-- a table's number out of a cache, else bit by bit -/
def fuIx (s : ByteArray) (c : Ca) : Nat := (bitsOf s (8 * c.pos - c.hv) 9).toNat
def fuHit (s : ByteArray) (c : Ca) (t : List (Int × Int)) : Prop := t.length = 512 ∧ 1 ≤ (t.getD (fuIx s c) default).1 ∧ (t.getD (fuIx s c) default).1 ≤ 9
instance (s : ByteArray) (c : Ca) (t : List (Int × Int)) : Decidable (fuHit s c t) := by unfold fuHit; infer_instance
end Go.Pl

/- Plain numbers: frames filtered. -/
namespace Go.Pl
def allIn (lo hi : Int) (xs : List Int) : Prop := ∀ j : Nat, j < xs.length → lo ≤ xs.getD j 0 ∧ xs.getD j 0 ≤ hi
instance (lo hi : Int) (xs : List Int) : Decidable (allIn lo hi xs) := by unfold allIn; infer_instance
def fqOk (W H q : Int) (xs : List Int) : Prop := frOk W H xs ∧ 0 ≤ q ∧ q ≤ 51
instance (W H q : Int) (xs : List Int) : Decidable (fqOk W H q xs) := by unfold fqOk; infer_instance
end Go.Pl

/- Plain numbers: fields read one by one, up to the first error. -/
namespace Go.Pl
structure Fs where
  a : Int
  code : Int
section
variable {s : ByteArray} {f : Fs} {n : Int} {chk : Int → Int}
end
end Go.Pl
namespace Go.Pl
structure Lv where
  f : Fs
  p : Int
  l : List Int
end Go.Pl

/- Plain numbers: numbers read are none below 0; pairs read one by one. -/
namespace Go.Pl
end Go.Pl

/- Plain numbers: headers and blocks as bits, joined. -/
namespace Go.Pl
open Go.Sx
end Go.Pl

/- Plain numbers: headers read. -/
namespace Go.Pl
section
variable {s : ByteArray} {a : Int}
end
end Go.Pl

/- Plain numbers: streams as bits. -/
namespace Go.Pl
open Go.Sx
abbrev PB : Type := Int × List Int
abbrev PM : Type := Bool × List PB
def streamOk (a b q : Int) (xs : List Int) (ms : List PM) : Prop := headOk a b q xs ∧ (ms.length : Int) = a / 8 * (b / 8) ∧ ∀ j : Nat, j < ms.length → mbOk (ms.getD j default).1 (ms.getD j default).2 xs
instance (a b q : Int) (xs : List Int) (ms : List PM) : Decidable (streamOk a b q xs ms) := by unfold streamOk; infer_instance
/-- a number of its bits -/
def numOk (b : List Int) : Prop := isBits b ∧ b.length ≤ 48
instance (b : List Int) : Decidable (isBits b) := by unfold isBits; infer_instance
instance (b : List Int) : Decidable (numOk b) := by unfold numOk; infer_instance
theorem numl_take {b : List Int} {k : Nat} (h : k < b.length) : numl (b.take (k + 1)) = numl (b.take k) * 2 + b.getD k 0 := by
  rw [List.take_add_one]; simp only [List.getElem?_eq_getElem h, Option.toList_some]; rw [numl_snoc]; simp [List.getD, h]
theorem numl_take_range {b : List Int} {k : Nat} (hk : k ≤ 48) (h : ∀ j : Nat, j < k → b.getD j 0 = 0 ∨ b.getD j 0 = 1) (hl : k ≤ b.length) : 0 ≤ numl (b.take k) ∧ numl (b.take k) < 281474976710656 := by
  have hb : isBits (b.take k) := isBits_upto fun j hj => by
    rw [List.length_take] at hj
    have := h j (by omega)
    rw [List.getD_eq_getElem?_getD, List.getElem?_take, if_pos (by omega), ← List.getD_eq_getElem?_getD]; exact this
  have h1 := numl_range hb
  have h2 := two_pow_le (n := (b.take k).length) (m := 48) (by rw [List.length_take]; omega)
  have e : (2 : Int) ^ 48 = 281474976710656 := rfl
  omega
/-- the first k bytes of bits -/
theorem bytesl_get {b : List Int} {k : Nat} (h : k < b.length / 8) : (bytesl b)[k]? = some (numl ((b.drop (8 * k)).take 8)) := by simp [bytesl, h]
theorem bytesl_take {b : List Int} {k : Nat} (h : k < b.length / 8) : (bytesl b).take (k + 1) = (bytesl b).take k ++ [numl ((b.drop (8 * k)).take 8)] := by
  rw [List.take_add_one, bytesl_get h]; rfl
theorem isBits_parts {b : List Int} {k : Nat} (h : isBits (b.take (8 * k))) (h2 : isBits ((b.drop (8 * k)).take 8)) : isBits (b.take (8 * (k + 1))) := by
  rw [show 8 * (k + 1) = 8 * k + 8 by omega, List.take_add]; exact isBits_app.2 ⟨h, h2⟩
end Go.Pl
