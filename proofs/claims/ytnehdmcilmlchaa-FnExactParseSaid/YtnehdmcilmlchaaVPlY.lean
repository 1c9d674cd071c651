/- Plain numbers and lists, with no program in sight. -/
import Derived.Test.YtnehdmcilmlchaaVPlX
import Derived.Test.YtnehdmcilmlchaaVSxF
/- Plain numbers: tables of symbols. -/
namespace Go.Pl
open Go.Sx
end Go.Pl

/- Plain numbers: symbols out of caches; edges drawn together. -/
namespace Go.Pl
/-- the bounds of an edge -/
def alphaOf (q : Int) : Int := if 0 ≤ q ∧ q ≤ 51 then q + 4 else 0
def betaOf (q : Int) : Int := if 0 ≤ q ∧ q ≤ 51 then q / 3 + 2 else 0
def pixOk (xs : List Int) : Prop := ∀ j : Nat, j < xs.length → 0 ≤ xs.getD j 0 ∧ xs.getD j 0 ≤ 255
def edgeC (a b c d q : Int) : Prop := ((0 ≤ a ∧ a ≤ 255) ∧ (0 ≤ b ∧ b ≤ 255) ∧ (0 ≤ c ∧ c ≤ 255) ∧ (0 ≤ d ∧ d ≤ 255)) ∧ (b - c < alphaOf q ∧ c - b < alphaOf q) ∧ (a - b < betaOf q ∧ b - a < betaOf q) ∧ (d - c < betaOf q ∧ c - d < betaOf q)
instance (a b c d q : Int) : Decidable (edgeC a b c d q) := by unfold edgeC; infer_instance
/-- a right frame -/
def frOk (W H : Int) (xs : List Int) : Prop := sidesOk W H ∧ (xs.length : Int) = W * H ∧ pixOk xs
end Go.Pl

/- Plain numbers: headers, pairs and blocks as bits. -/
namespace Go.Pl
instance (xs : List Int) : Decidable (pixOk xs) := by unfold pixOk; infer_instance
instance (W H : Int) (xs : List Int) : Decidable (frOk W H xs) := by unfold frOk; infer_instance
/-- the first k numbers' bits -/
def fieldsOf (xs : List Int) (k : Nat) : List Int := (xs.take k).flatMap (fun n => bitsIn n 3)
/-- a macroblock -/
def side (e : Bool) : Int := if e then 8 else 4
def mbOk (e : Bool) (bs : List (Int × List Int)) (xs : List Int) : Prop := (bs.length : Int) = 64 / (side e * side e) ∧ ∀ j : Nat, j < bs.length → blockOk (bs.getD j default).1 (bs.getD j default).2 xs (side e)
instance (e : Bool) (bs : List (Int × List Int)) (xs : List Int) : Decidable (mbOk e bs xs) := by unfold mbOk; infer_instance
/-- a table's number out of a cache, else bit by bit -/
def fuIx (s : ByteArray) (c : Ca) : Nat := (bitsOf s (8 * c.pos - c.hv) 9).toNat
def fuHit (s : ByteArray) (c : Ca) (t : List (Int × Int)) : Prop := t.length = 512 ∧ 1 ≤ (t.getD (fuIx s c) default).1 ∧ (t.getD (fuIx s c) default).1 ≤ 9
instance (s : ByteArray) (c : Ca) (t : List (Int × Int)) : Decidable (fuHit s c t) := by unfold fuHit; infer_instance
end Go.Pl

/- Plain numbers: frames filtered. -/
namespace Go.Pl
def allIn (lo hi : Int) (xs : List Int) : Prop := ∀ j : Nat, j < xs.length → lo ≤ xs.getD j 0 ∧ xs.getD j 0 ≤ hi
instance (lo hi : Int) (xs : List Int) : Decidable (allIn lo hi xs) := by unfold allIn; infer_instance
def fqOk (W H q : Int) (xs : List Int) : Prop := frOk W H xs ∧ 0 ≤ q ∧ q ≤ 51
instance (W H q : Int) (xs : List Int) : Decidable (fqOk W H q xs) := by unfold fqOk; infer_instance
end Go.Pl

/- Plain numbers: fields read one by one, up to the first error. -/
namespace Go.Pl
structure Fs where
  a : Int
  code : Int
def fbS (s : ByteArray) (f : Fs) (n : Int) (chk : Int → Int) : Fs :=
  if f.code ≠ 0 then f else if ¬ rbOk s f.a n then ⟨f.a, 1⟩ else if chk (rbV s f.a n) ≠ 0 then ⟨f.a, chk (rbV s f.a n)⟩ else ⟨f.a + n, 0⟩
def fbV (s : ByteArray) (f : Fs) (n : Int) (chk : Int → Int) : Int :=
  if f.code ≠ 0 then 0 else if ¬ rbOk s f.a n then 0 else if chk (rbV s f.a n) ≠ 0 then 0 else rbV s f.a n
def fnS (s : ByteArray) (f : Fs) (chk : Int → Int) : Fs :=
  if f.code ≠ 0 then f else if ueE s f.a ≠ 0 then ⟨f.a, ueE s f.a⟩ else if chk (ueV s f.a) ≠ 0 then ⟨f.a, chk (ueV s f.a)⟩ else ⟨ueAt s f.a, 0⟩
def fnV (s : ByteArray) (f : Fs) (chk : Int → Int) : Int :=
  if f.code ≠ 0 then 0 else if ueE s f.a ≠ 0 then 0 else if chk (ueV s f.a) ≠ 0 then 0 else ueV s f.a
section
variable {s : ByteArray} {f : Fs} {n : Int} {chk : Int → Int}
theorem fb_err (h : f.code ≠ 0) : fbS s f n chk = f ∧ fbV s f n chk = 0 := by simp [fbS, fbV, h]
theorem fb_short (h : f.code = 0) (h1 : ¬ rbOk s f.a n) : fbS s f n chk = ⟨f.a, 1⟩ ∧ fbV s f n chk = 0 := by simp [fbS, fbV, h, h1]
theorem fb_bad (h : f.code = 0) (h1 : rbOk s f.a n) (h2 : chk (rbV s f.a n) ≠ 0) : fbS s f n chk = ⟨f.a, chk (rbV s f.a n)⟩ ∧ fbV s f n chk = 0 := by simp [fbS, fbV, h, h1, h2]
theorem fb_ok (h : f.code = 0) (h1 : rbOk s f.a n) (h2 : chk (rbV s f.a n) = 0) : fbS s f n chk = ⟨f.a + n, 0⟩ ∧ fbV s f n chk = rbV s f.a n := by simp [fbS, fbV, h, h1, h2]
theorem fn_err (h : f.code ≠ 0) : fnS s f chk = f ∧ fnV s f chk = 0 := by simp [fnS, fnV, h]
theorem fn_short (h : f.code = 0) (h1 : ueE s f.a ≠ 0) : fnS s f chk = ⟨f.a, ueE s f.a⟩ ∧ fnV s f chk = 0 := by simp [fnS, fnV, h, h1]
theorem fn_bad (h : f.code = 0) (h1 : ueE s f.a = 0) (h2 : chk (ueV s f.a) ≠ 0) : fnS s f chk = ⟨f.a, chk (ueV s f.a)⟩ ∧ fnV s f chk = 0 := by simp [fnS, fnV, h, h1, h2]
theorem fn_ok (h : f.code = 0) (h1 : ueE s f.a = 0) (h2 : chk (ueV s f.a) = 0) : fnS s f chk = ⟨ueAt s f.a, 0⟩ ∧ fnV s f chk = ueV s f.a := by simp [fnS, fnV, h, h1, h2]
end
def unl (p : Prop) [Decidable p] (c : Int) : Int := if p then 0 else c
def k183 (x : Int) : Int := unl (x = 183) 2
def k3 (x : Int) : Int := unl (x ≤ 3) 3
def k51 (x : Int) : Int := unl (x ≤ 51) 3
def k0 (_ : Int) : Int := 0
/-- six lengths of three bits -/
def lens6 (x : Int) (k : Nat) : List Int := (List.range k).map fun i : Nat => x / 2 ^ (3 * (5 - i)) % 8
def kLens (x : Int) : Int := unl (codeOk (lens6 x 6)) 4
def rh1 (s : ByteArray) (a : Int) : Fs := fbS s ⟨a, 0⟩ 8 k183
def rh2 (s : ByteArray) (a : Int) : Fs := fnS s (rh1 s a) k3
def rh3 (s : ByteArray) (a : Int) : Fs := fnS s (rh2 s a) k3
def rh4 (s : ByteArray) (a : Int) : Fs := fbS s (rh3 s a) 6 k51
def rh5 (s : ByteArray) (a : Int) : Fs := fbS s (rh4 s a) 2 k0
def rh6 (s : ByteArray) (a : Int) : Fs := fbS s (rh5 s a) 18 kLens
def rhW (s : ByteArray) (a : Int) : Int := fnV s (rh1 s a) k3
def rhH (s : ByteArray) (a : Int) : Int := fnV s (rh2 s a) k3
def rhQ (s : ByteArray) (a : Int) : Int := fbV s (rh3 s a) 6 k51
def rhF (s : ByteArray) (a : Int) : Int := fbV s (rh4 s a) 2 k0
def rhL (s : ByteArray) (a : Int) : Int := fbV s (rh5 s a) 18 kLens
theorem lens6_length (x : Int) (k : Nat) : (lens6 x k).length = k := by simp [lens6]
theorem lens6_succ (x : Int) (k : Nat) : lens6 x (k + 1) = lens6 x k ++ [x / 2 ^ (3 * (5 - k)) % 8] := by simp [lens6, List.range_succ]
end Go.Pl
namespace Go.Pl
/-- levels read pair by pair -/
def kLt (m : Int) (x : Int) : Int := unl (x < m) 5
def kLv (x : Int) : Int := unl (-16383 ≤ levelOf x ∧ levelOf x ≤ 16383) 5
structure Lv where
  f : Fs
  p : Int
  l : List Int
def lvF1 (s : ByteArray) (N : Int) (v : Lv) : Fs := fnS s v.f (kLt (N - v.p))
def lvP (s : ByteArray) (N : Int) (v : Lv) : Int := v.p + fnV s v.f (kLt (N - v.p))
def lvF2 (s : ByteArray) (N : Int) (v : Lv) : Fs := fnS s (lvF1 s N v) kLv
def lvL (s : ByteArray) (N : Int) (v : Lv) : Int := levelOf (fnV s (lvF1 s N v) kLv)
def lvStep (s : ByteArray) (N : Int) (v : Lv) : Lv :=
  if (lvF2 s N v).code = 0 then ⟨lvF2 s N v, lvP s N v + 1, v.l.set (lvP s N v).toNat (lvL s N v)⟩ else ⟨lvF2 s N v, lvP s N v, v.l⟩
def lvIt (s : ByteArray) (N : Int) (v : Lv) : Nat → Lv
  | 0 => v
  | k + 1 => if (lvIt s N v k).f.code ≠ 0 then lvIt s N v k else lvStep s N (lvIt s N v k)
end Go.Pl

/- Plain numbers: numbers read are none below 0; pairs read one by one. -/
namespace Go.Pl
theorem zc_bit {s : ByteArray} : ∀ (f : Nat) (a : Int), zc s a f < f → bitAt s (a + zc s a f) ≠ 0
  | 0, _, h => by omega
  | f + 1, a, h => by
    by_cases hb : bitAt s a = 0
    · have h1 := zc_step (f := f + 1) hb (by omega)
      rw [show f + 1 - 1 = f by omega] at h1
      rw [h1] at h ⊢
      have := zc_bit (s := s) f (a + 1) (by omega)
      rwa [show a + ((zc s (a + 1) f + 1 : Nat) : Int) = a + 1 + (zc s (a + 1) f : Nat) by omega]
    · rw [zc_stop (.inl hb)]; simpa using hb
theorem ueE_ok {s : ByteArray} {a : Int} (h : ueE s a = 0) : ueOk s a := by
  unfold ueE at h
  split at h
  · omega
  · next h1 =>
    split at h
    · next h2 => exact ⟨by omega, h2⟩
    · omega
theorem ueV_range {s : ByteArray} {a : Int} (h : ueE s a = 0) : 0 ≤ ueV s a ∧ ueV s a ≤ 2147483647 := by
  have hk := ueE_ok h
  obtain ⟨h1, h2, h3, h4⟩ := id hk
  have hz := zerosOf_range s a
  have hr := remOf_in h2
  unfold ueV; rw [if_pos hk]
  obtain ⟨z, hzz⟩ : ∃ z : Nat, zerosOf s a = z := ⟨(zerosOf s a).toNat, by omega⟩
  have hzc : zc s a (remOf s a).toNat = z := by unfold zerosOf at hzz; omega
  have hb := zc_bit (s := s) (remOf s a).toNat a (by omega)
  rw [hzc] at hb
  have hb0 := bitAt_in0 (s := s) (i := a + z) (by omega)
  rw [hzz] at h1 h4 ⊢
  rw [show (2 * (z : Int) + 1).toNat = z + (z + 1) by omega, bitsOf_add, bitsOf_first]
  have e1 := bitsOf_range s a z
  have e2 := bitsOf_range s (a + z + 1) z
  have e3 := two_pow_pos (z + 1)
  have e4 := two_pow_pos z
  have e5 := Int.mul_nonneg e1.1 (Int.le_of_lt e3)
  rw [show max (bitAt s (a + z)) 0 = 1 by omega, Int.one_mul]
  have e6 := bitsOf_range s a (z + (z + 1))
  rw [bitsOf_add, bitsOf_first, show max (bitAt s (a + z)) 0 = 1 by omega, Int.one_mul] at e6
  have e7 := two_pow_le (n := z + (z + 1)) (m := 31) (by omega)
  have e8 : (2 : Int) ^ 31 = 2147483648 := rfl
  omega
theorem fnV_range (s : ByteArray) (f : Fs) (chk : Int → Int) : 0 ≤ fnV s f chk ∧ fnV s f chk ≤ 2147483647 := by
  unfold fnV
  split
  · omega
  · split
    · omega
    · next h =>
      split
      · omega
      · exact ueV_range (Classical.not_not.1 h)
theorem kLt_le {m x : Int} (h : kLt m x = 0) : x < m := by unfold kLt unl at h; split at h <;> omega
theorem fnV_lt {s : ByteArray} {f : Fs} {m : Int} : fnV s f (kLt m) = 0 ∨ fnV s f (kLt m) < m := by
  unfold fnV
  split
  · exact .inl rfl
  · split
    · exact .inl rfl
    · split
      · exact .inl rfl
      · next h => exact .inr (kLt_le (Classical.not_not.1 h))
theorem lvIt_stop {s : ByteArray} {N : Int} {v : Lv} {k : Nat} (h : (lvIt s N v k).f.code ≠ 0) : ∀ m : Nat, lvIt s N v (k + m) = lvIt s N v k
  | 0 => rfl
  | m + 1 => by
    have ih := lvIt_stop h m
    show lvIt s N v (k + m + 1) = _
    rw [lvIt, ih, if_pos h]
theorem lvIt_next {s : ByteArray} {N : Int} {v : Lv} {k : Nat} (h : (lvIt s N v k).f.code = 0) : lvIt s N v (k + 1) = lvStep s N (lvIt s N v k) := by
  rw [lvIt, if_neg (fun h2 => h2 h)]
/-- the state of levels as they are read -/
def lvOk (N : Int) (v : Lv) : Prop := 0 ≤ v.p ∧ v.p ≤ N ∧ (v.l.length : Int) = N
theorem lvP_range {s : ByteArray} {N : Int} {v : Lv} (h : lvOk N v) : v.p ≤ lvP s N v ∧ lvP s N v ≤ N := by
  obtain ⟨h1, h2, h3⟩ := h
  have a := fnV_range s v.f (kLt (N - v.p))
  have b := fnV_lt (s := s) (f := v.f) (m := N - v.p)
  unfold lvP; omega
end Go.Pl

/- Plain numbers: headers and blocks as bits, joined. -/
namespace Go.Pl
open Go.Sx
def manyOf (e : Bool) : Int := if e then 1 else 4
theorem many_eq (e : Bool) : 64 / (side e * side e) = manyOf e := by cases e <;> decide
theorem side_in (e : Bool) : side e = 4 ∨ side e = 8 := by cases e <;> decide
end Go.Pl

/- Plain numbers: headers read. -/
namespace Go.Pl
section
variable {s : ByteArray} {a : Int}
theorem rh_x5 (h : (rh5 s a).code ≠ 0) : rh6 s a = rh5 s a := (fb_err h).1
theorem rh_x4 (h : (rh4 s a).code ≠ 0) : rh6 s a = rh4 s a := by
  have e : rh5 s a = rh4 s a := (fb_err h).1
  rw [rh_x5 (by rw [e]; exact h), e]
theorem rh_x3 (h : (rh3 s a).code ≠ 0) : rh6 s a = rh3 s a := by
  have e : rh4 s a = rh3 s a := (fb_err h).1
  rw [rh_x4 (by rw [e]; exact h), e]
theorem rh_x2 (h : (rh2 s a).code ≠ 0) : rh6 s a = rh2 s a := by
  have e : rh3 s a = rh2 s a := (fn_err h).1
  rw [rh_x3 (by rw [e]; exact h), e]
theorem rh_x1 (h : (rh1 s a).code ≠ 0) : rh6 s a = rh1 s a := by
  have e : rh2 s a = rh1 s a := (fn_err h).1
  rw [rh_x2 (by rw [e]; exact h), e]
end
def hdW (s : ByteArray) (a : Int) : Int := if (rh6 s a).code = 0 then 8 * (rhW s a + 1) else 0
def hdH (s : ByteArray) (a : Int) : Int := if (rh6 s a).code = 0 then 8 * (rhH s a + 1) else 0
def hdQ (s : ByteArray) (a : Int) : Int := if (rh6 s a).code = 0 then rhQ s a else 0
def hdB (s : ByteArray) (a : Int) : Bool := decide ((rh6 s a).code = 0 ∧ 2 ≤ rhF s a)
def hdD (s : ByteArray) (a : Int) : Bool := decide ((rh6 s a).code = 0 ∧ rhF s a % 2 = 1)
def hdL (s : ByteArray) (a : Int) : List Int := if (rh6 s a).code = 0 then lens6 (rhL s a) 6 else []
theorem hd_no {s : ByteArray} {a : Int} (h : (rh6 s a).code ≠ 0) : hdW s a = 0 ∧ hdH s a = 0 ∧ hdQ s a = 0 ∧ hdB s a = false ∧ hdD s a = false ∧ hdL s a = [] := by
  simp [hdW, hdH, hdQ, hdB, hdD, hdL, h]
theorem hd_yes {s : ByteArray} {a : Int} (h : (rh6 s a).code = 0) : hdW s a = 8 * (rhW s a + 1) ∧ hdH s a = 8 * (rhH s a + 1) ∧ hdQ s a = rhQ s a ∧ hdB s a = decide (2 ≤ rhF s a) ∧ hdD s a = decide (rhF s a % 2 = 1) ∧ hdL s a = lens6 (rhL s a) 6 := by
  simp [hdW, hdH, hdQ, hdB, hdD, hdL, h]
theorem rbV_range (s : ByteArray) (a n : Int) : 0 ≤ rbV s a n ∧ rbV s a n < 4294967296 := by
  unfold rbV; split
  · next h =>
    have h1 := bitsOf_range s a n.toNat
    have h2 := two_pow_le (n := n.toNat) (m := 32) (by have := h.2.1; omega)
    have e : (2 : Int) ^ 32 = 4294967296 := rfl
    omega
  · omega
theorem fbV_range (s : ByteArray) (f : Fs) (n : Int) (chk : Int → Int) : 0 ≤ fbV s f n chk ∧ fbV s f n chk < 4294967296 := by
  unfold fbV
  split
  · omega
  · split
    · omega
    · split
      · omega
      · exact rbV_range s f.a n
theorem rbAt_ok {s : ByteArray} {a n : Int} (h : rbOk s a n) : rbAt s a n = a + n := by unfold rbAt; rw [if_pos h]
theorem rbAt_no {s : ByteArray} {a n : Int} (h : ¬ rbOk s a n) : rbAt s a n = a := by unfold rbAt; rw [if_neg h]
theorem ueAt_no {s : ByteArray} {a : Int} (h : ueE s a ≠ 0) : ueAt s a = a := by
  unfold ueAt; rw [if_neg]
  intro h1
  apply h
  unfold ueE; rw [if_neg (by have := h1.1; omega), if_pos h1.2]
theorem ueV_no {s : ByteArray} {a : Int} (h : ueE s a ≠ 0) : ueV s a = 0 := by
  unfold ueV; rw [if_neg]
  intro h1
  apply h
  unfold ueE; rw [if_neg (by have := h1.1; omega), if_pos h1.2]
theorem fs_eta {f : Fs} (h : f.code = 0) : (⟨f.a, 0⟩ : Fs) = f := by rw [← h]
theorem bx_eq {w : World} {b T : Nat} {cs cs' : List Value} (h : cs = cs') (hB : Go.Sx.Bx w b cs T) : Go.Sx.Bx w b cs' T := h ▸ hB
end Go.Pl

/- Plain numbers: streams as bits. -/
namespace Go.Pl
open Go.Sx
abbrev PB : Type := Int × List Int
abbrev PM : Type := Bool × List PB
def streamOk (a b q : Int) (xs : List Int) (ms : List PM) : Prop := headOk a b q xs ∧ (ms.length : Int) = a / 8 * (b / 8) ∧ ∀ j : Nat, j < ms.length → mbOk (ms.getD j default).1 (ms.getD j default).2 xs
instance (a b q : Int) (xs : List Int) (ms : List PM) : Decidable (streamOk a b q xs ms) := by unfold streamOk; infer_instance
theorem many_range {a b : Int} (h : sidesOk a b) : 0 ≤ a / 8 * (b / 8) ∧ a / 8 * (b / 8) ≤ 16 := by
  obtain ⟨h1, h2, _⟩ := h
  have e1 := Int.mul_le_mul (show a / 8 ≤ 4 by omega) (show b / 8 ≤ 4 by omega) (by omega) (by omega)
  have e2 := Int.mul_nonneg (show 0 ≤ a / 8 by omega) (show 0 ≤ b / 8 by omega)
  omega
/-- a number of its bits -/
def numOk (b : List Int) : Prop := isBits b ∧ b.length ≤ 48
instance (b : List Int) : Decidable (isBits b) := by unfold isBits; infer_instance
instance (b : List Int) : Decidable (numOk b) := by unfold numOk; infer_instance
end Go.Pl
