/- Plain numbers and lists, with no program in sight. -/
import Derived.Test.YtnehdmcilmlchaaVPlX
import Derived.Test.YtnehdmcilmlchaaVSxF
/- Plain numbers: tables of symbols. -/
namespace Go.Pl
open Go.Sx
end Go.Pl

/- Plain numbers: symbols out of caches; edges drawn together. -/
namespace Go.Pl
/-- the bounds of an edge -/
def alphaOf (q : Int) : Int := if 0 ≤ q ∧ q ≤ 51 then q + 4 else 0
def betaOf (q : Int) : Int := if 0 ≤ q ∧ q ≤ 51 then q / 3 + 2 else 0
def pixOk (xs : List Int) : Prop := ∀ j : Nat, j < xs.length → 0 ≤ xs.getD j 0 ∧ xs.getD j 0 ≤ 255
def edgeC (a b c d q : Int) : Prop := ((0 ≤ a ∧ a ≤ 255) ∧ (0 ≤ b ∧ b ≤ 255) ∧ (0 ≤ c ∧ c ≤ 255) ∧ (0 ≤ d ∧ d ≤ 255)) ∧ (b - c < alphaOf q ∧ c - b < alphaOf q) ∧ (a - b < betaOf q ∧ b - a < betaOf q) ∧ (d - c < betaOf q ∧ c - d < betaOf q)
instance (a b c d q : Int) : Decidable (edgeC a b c d q) := by unfold edgeC; infer_instance
/-- a right frame -/
def frOk (W H : Int) (xs : List Int) : Prop := sidesOk W H ∧ (xs.length : Int) = W * H ∧ pixOk xs
end Go.Pl

/- Plain numbers: headers, pairs and blocks as bits. -/
namespace Go.Pl
instance (xs : List Int) : Decidable (pixOk xs) := by unfold pixOk; infer_instance
instance (W H : Int) (xs : List Int) : Decidable (frOk W H xs) := by unfold frOk; infer_instance
def flag (b : Bool) : Int := if b then 1 else 0
theorem flag_range (b : Bool) : 0 ≤ flag b ∧ flag b ≤ 1 := by cases b <;> decide
def headBits (a b q : Int) (y d : Bool) (xs : List Int) : List Int :=
  if headOk a b q xs then bitsIn 183 8 ++ ueBits (a / 8 - 1) ++ ueBits (b / 8 - 1) ++ bitsIn q 6 ++ [flag y, flag d] ++ xs.flatMap (fun n => bitsIn n 3) else []
theorem headBits_no {a b q : Int} {y d : Bool} {xs : List Int} (h : ¬ headOk a b q xs) : headBits a b q y d xs = [] := by unfold headBits; rw [if_neg h]
theorem ueBits_le (n : Int) : (ueBits n).length ≤ 31 := by
  by_cases h : 0 ≤ n ∧ n ≤ 65534
  · have h1 := ueBits_len h; have h2 := ueSize_range n; omega
  · rw [ueBits_no h]; simp
/-- the first k numbers' bits -/
def fieldsOf (xs : List Int) (k : Nat) : List Int := (xs.take k).flatMap (fun n => bitsIn n 3)
theorem flat_take_succ {α β : Type} [Inhabited α] (f : α → List β) (xs : List α) {k : Nat} (h : k < xs.length) : (xs.take (k + 1)).flatMap f = (xs.take k).flatMap f ++ f (xs.getD k default) := by
  rw [List.take_add_one, List.flatMap_append]; simp [List.getD, h]
theorem flat_take_le {α β : Type} (f : α → List β) {N : Nat} (hN : ∀ x, (f x).length ≤ N) (xs : List α) (k : Nat) : ((xs.take k).flatMap f).length ≤ N * k := by
  induction k generalizing xs with
  | zero => simp
  | succ k ih => cases xs with
    | nil => simp
    | cons x r =>
      have h1 := hN x; have h2 := ih r
      have h3 : N * (k + 1) = N * k + N := Nat.mul_succ N k
      simp only [List.take_succ_cons, List.flatMap_cons, List.length_append]; omega
/-- a macroblock -/
def side (e : Bool) : Int := if e then 8 else 4
def mbOk (e : Bool) (bs : List (Int × List Int)) (xs : List Int) : Prop := (bs.length : Int) = 64 / (side e * side e) ∧ ∀ j : Nat, j < bs.length → blockOk (bs.getD j default).1 (bs.getD j default).2 xs (side e)
instance (e : Bool) (bs : List (Int × List Int)) (xs : List Int) : Decidable (mbOk e bs xs) := by unfold mbOk; infer_instance
/-- a table's number out of a cache, else bit by bit -/
def fuIx (s : ByteArray) (c : Ca) : Nat := (bitsOf s (8 * c.pos - c.hv) 9).toNat
def fuHit (s : ByteArray) (c : Ca) (t : List (Int × Int)) : Prop := t.length = 512 ∧ 1 ≤ (t.getD (fuIx s c) default).1 ∧ (t.getD (fuIx s c) default).1 ≤ 9
instance (s : ByteArray) (c : Ca) (t : List (Int × Int)) : Decidable (fuHit s c t) := by unfold fuHit; infer_instance
theorem ueAt_in {s : ByteArray} {a : Int} (h : 0 ≤ a ∧ a ≤ 8 * s.size) : a ≤ ueAt s a ∧ ueAt s a ≤ 8 * s.size := by
  have hz := zerosOf_range s a
  unfold ueAt; split
  · next h1 => have := h1.2.2.2; rw [remOf_in h] at this; omega
  · omega
end Go.Pl

/- Plain numbers: frames filtered. -/
namespace Go.Pl
def allIn (lo hi : Int) (xs : List Int) : Prop := ∀ j : Nat, j < xs.length → lo ≤ xs.getD j 0 ∧ xs.getD j 0 ≤ hi
instance (lo hi : Int) (xs : List Int) : Decidable (allIn lo hi xs) := by unfold allIn; infer_instance
def fqOk (W H q : Int) (xs : List Int) : Prop := frOk W H xs ∧ 0 ≤ q ∧ q ≤ 51
instance (W H q : Int) (xs : List Int) : Decidable (fqOk W H q xs) := by unfold fqOk; infer_instance
end Go.Pl

/- Plain numbers: fields read one by one, up to the first error. -/
namespace Go.Pl
structure Fs where
  a : Int
  code : Int
def fbS (s : ByteArray) (f : Fs) (n : Int) (chk : Int → Int) : Fs :=
  if f.code ≠ 0 then f else if ¬ rbOk s f.a n then ⟨f.a, 1⟩ else if chk (rbV s f.a n) ≠ 0 then ⟨f.a, chk (rbV s f.a n)⟩ else ⟨f.a + n, 0⟩
def fbV (s : ByteArray) (f : Fs) (n : Int) (chk : Int → Int) : Int :=
  if f.code ≠ 0 then 0 else if ¬ rbOk s f.a n then 0 else if chk (rbV s f.a n) ≠ 0 then 0 else rbV s f.a n
def fnS (s : ByteArray) (f : Fs) (chk : Int → Int) : Fs :=
  if f.code ≠ 0 then f else if ueE s f.a ≠ 0 then ⟨f.a, ueE s f.a⟩ else if chk (ueV s f.a) ≠ 0 then ⟨f.a, chk (ueV s f.a)⟩ else ⟨ueAt s f.a, 0⟩
def fnV (s : ByteArray) (f : Fs) (chk : Int → Int) : Int :=
  if f.code ≠ 0 then 0 else if ueE s f.a ≠ 0 then 0 else if chk (ueV s f.a) ≠ 0 then 0 else ueV s f.a
section
variable {s : ByteArray} {f : Fs} {n : Int} {chk : Int → Int}
theorem fb_err (h : f.code ≠ 0) : fbS s f n chk = f ∧ fbV s f n chk = 0 := by simp [fbS, fbV, h]
theorem fb_short (h : f.code = 0) (h1 : ¬ rbOk s f.a n) : fbS s f n chk = ⟨f.a, 1⟩ ∧ fbV s f n chk = 0 := by simp [fbS, fbV, h, h1]
theorem fb_bad (h : f.code = 0) (h1 : rbOk s f.a n) (h2 : chk (rbV s f.a n) ≠ 0) : fbS s f n chk = ⟨f.a, chk (rbV s f.a n)⟩ ∧ fbV s f n chk = 0 := by simp [fbS, fbV, h, h1, h2]
theorem fb_ok (h : f.code = 0) (h1 : rbOk s f.a n) (h2 : chk (rbV s f.a n) = 0) : fbS s f n chk = ⟨f.a + n, 0⟩ ∧ fbV s f n chk = rbV s f.a n := by simp [fbS, fbV, h, h1, h2]
theorem fn_err (h : f.code ≠ 0) : fnS s f chk = f ∧ fnV s f chk = 0 := by simp [fnS, fnV, h]
theorem fn_short (h : f.code = 0) (h1 : ueE s f.a ≠ 0) : fnS s f chk = ⟨f.a, ueE s f.a⟩ ∧ fnV s f chk = 0 := by simp [fnS, fnV, h, h1]
theorem fn_bad (h : f.code = 0) (h1 : ueE s f.a = 0) (h2 : chk (ueV s f.a) ≠ 0) : fnS s f chk = ⟨f.a, chk (ueV s f.a)⟩ ∧ fnV s f chk = 0 := by simp [fnS, fnV, h, h1, h2]
theorem fn_ok (h : f.code = 0) (h1 : ueE s f.a = 0) (h2 : chk (ueV s f.a) = 0) : fnS s f chk = ⟨ueAt s f.a, 0⟩ ∧ fnV s f chk = ueV s f.a := by simp [fnS, fnV, h, h1, h2]
end
def unl (p : Prop) [Decidable p] (c : Int) : Int := if p then 0 else c
def k183 (x : Int) : Int := unl (x = 183) 2
def k3 (x : Int) : Int := unl (x ≤ 3) 3
def k51 (x : Int) : Int := unl (x ≤ 51) 3
def k0 (_ : Int) : Int := 0
/-- six lengths of three bits -/
def lens6 (x : Int) (k : Nat) : List Int := (List.range k).map fun i : Nat => x / 2 ^ (3 * (5 - i)) % 8
def kLens (x : Int) : Int := unl (codeOk (lens6 x 6)) 4
def rh1 (s : ByteArray) (a : Int) : Fs := fbS s ⟨a, 0⟩ 8 k183
def rh2 (s : ByteArray) (a : Int) : Fs := fnS s (rh1 s a) k3
def rh3 (s : ByteArray) (a : Int) : Fs := fnS s (rh2 s a) k3
def rh4 (s : ByteArray) (a : Int) : Fs := fbS s (rh3 s a) 6 k51
def rh5 (s : ByteArray) (a : Int) : Fs := fbS s (rh4 s a) 2 k0
def rh6 (s : ByteArray) (a : Int) : Fs := fbS s (rh5 s a) 18 kLens
def rhW (s : ByteArray) (a : Int) : Int := fnV s (rh1 s a) k3
def rhH (s : ByteArray) (a : Int) : Int := fnV s (rh2 s a) k3
def rhQ (s : ByteArray) (a : Int) : Int := fbV s (rh3 s a) 6 k51
def rhF (s : ByteArray) (a : Int) : Int := fbV s (rh4 s a) 2 k0
def rhL (s : ByteArray) (a : Int) : Int := fbV s (rh5 s a) 18 kLens
theorem lens6_length (x : Int) (k : Nat) : (lens6 x k).length = k := by simp [lens6]
theorem lens6_succ (x : Int) (k : Nat) : lens6 x (k + 1) = lens6 x k ++ [x / 2 ^ (3 * (5 - k)) % 8] := by simp [lens6, List.range_succ]
end Go.Pl
namespace Go.Pl
structure Lv where
  f : Fs
  p : Int
  l : List Int
end Go.Pl

/- Plain numbers: numbers read are none below 0; pairs read one by one. -/
namespace Go.Pl
theorem zc_bit {s : ByteArray} : ∀ (f : Nat) (a : Int), zc s a f < f → bitAt s (a + zc s a f) ≠ 0
  | 0, _, h => by omega
  | f + 1, a, h => by
    by_cases hb : bitAt s a = 0
    · have h1 := zc_step (f := f + 1) hb (by omega)
      rw [show f + 1 - 1 = f by omega] at h1
      rw [h1] at h ⊢
      have := zc_bit (s := s) f (a + 1) (by omega)
      rwa [show a + ((zc s (a + 1) f + 1 : Nat) : Int) = a + 1 + (zc s (a + 1) f : Nat) by omega]
    · rw [zc_stop (.inl hb)]; simpa using hb
theorem ueE_ok {s : ByteArray} {a : Int} (h : ueE s a = 0) : ueOk s a := by
  unfold ueE at h
  split at h
  · omega
  · next h1 =>
    split at h
    · next h2 => exact ⟨by omega, h2⟩
    · omega
theorem ueV_range {s : ByteArray} {a : Int} (h : ueE s a = 0) : 0 ≤ ueV s a ∧ ueV s a ≤ 2147483647 := by
  have hk := ueE_ok h
  obtain ⟨h1, h2, h3, h4⟩ := id hk
  have hz := zerosOf_range s a
  have hr := remOf_in h2
  unfold ueV; rw [if_pos hk]
  obtain ⟨z, hzz⟩ : ∃ z : Nat, zerosOf s a = z := ⟨(zerosOf s a).toNat, by omega⟩
  have hzc : zc s a (remOf s a).toNat = z := by unfold zerosOf at hzz; omega
  have hb := zc_bit (s := s) (remOf s a).toNat a (by omega)
  rw [hzc] at hb
  have hb0 := bitAt_in0 (s := s) (i := a + z) (by omega)
  rw [hzz] at h1 h4 ⊢
  rw [show (2 * (z : Int) + 1).toNat = z + (z + 1) by omega, bitsOf_add, bitsOf_first]
  have e1 := bitsOf_range s a z
  have e2 := bitsOf_range s (a + z + 1) z
  have e3 := two_pow_pos (z + 1)
  have e4 := two_pow_pos z
  have e5 := Int.mul_nonneg e1.1 (Int.le_of_lt e3)
  rw [show max (bitAt s (a + z)) 0 = 1 by omega, Int.one_mul]
  have e6 := bitsOf_range s a (z + (z + 1))
  rw [bitsOf_add, bitsOf_first, show max (bitAt s (a + z)) 0 = 1 by omega, Int.one_mul] at e6
  have e7 := two_pow_le (n := z + (z + 1)) (m := 31) (by omega)
  have e8 : (2 : Int) ^ 31 = 2147483648 := rfl
  omega
theorem fnV_range (s : ByteArray) (f : Fs) (chk : Int → Int) : 0 ≤ fnV s f chk ∧ fnV s f chk ≤ 2147483647 := by
  unfold fnV
  split
  · omega
  · split
    · omega
    · next h =>
      split
      · omega
      · exact ueV_range (Classical.not_not.1 h)
end Go.Pl

/- Plain numbers: headers and blocks as bits, joined. -/
namespace Go.Pl
open Go.Sx
def headA (a b q : Int) (y z : Bool) : List Int := bitsIn 183 8 ++ ueBits (a / 8 - 1) ++ ueBits (b / 8 - 1) ++ bitsIn q 6 ++ [flag y, flag z]
theorem headA_len (a b q : Int) (y z : Bool) : (headA a b q y z).length ≤ 200 := by
  have h1 := (bitsIn_len 183 8).1; have h2 := ueBits_le (a / 8 - 1); have h3 := ueBits_le (b / 8 - 1); have h4 := (bitsIn_len q 6).1
  unfold headA; simp only [List.length_append, List.length_cons, List.length_nil]; omega
theorem headBits_yes {a b q : Int} {y z : Bool} {xs : List Int} (h : headOk a b q xs) {k : Nat} (hk : k = xs.length) : headBits a b q y z xs = headA a b q y z ++ fieldsOf xs k := by
  unfold headBits headA fieldsOf; rw [if_pos h, hk, List.take_length]
theorem fieldsOf_succ {xs : List Int} {k : Nat} (h : k < xs.length) : fieldsOf xs (k + 1) = fieldsOf xs k ++ bitsIn (xs.getD k 0) 3 := flat_take_succ _ xs h
theorem fieldsOf_len (xs : List Int) (k : Nat) : (fieldsOf xs k).length ≤ 48 * k := flat_take_le _ (fun x => (bitsIn_len x 3).1) xs k
theorem fieldsOf_zero (xs : List Int) : fieldsOf xs 0 = [] := by simp [fieldsOf]
theorem headBits_len (a b q : Int) (y z : Bool) (xs : List Int) : (headBits a b q y z xs).length ≤ 600 := by
  by_cases h : headOk a b q xs
  · rw [headBits_yes h rfl, List.length_append]
    have h1 := headA_len a b q y z; have h2 := fieldsOf_len xs xs.length; have h3 := h.2.2.2.1
    omega
  · rw [headBits_no h]; simp
theorem bitsl_pad {m : Int} {w : Nat} (h : 0 ≤ m ∧ m < 2 ^ w) : ∀ k : Nat, bitsl m (w + k) = List.replicate k 0 ++ bitsl m w
  | 0 => by simp
  | k + 1 => by
    have ih := bitsl_pad h k
    have h2 := two_pow_le (n := w) (m := w + k) (by omega)
    show bitsl m (w + k + 1) = _
    rw [bitsl, ih, Int.ediv_eq_zero_of_lt h.1 (by omega)]; rfl
theorem ueBits_zeros {n : Int} (h : 0 ≤ n ∧ n ≤ 65534) : ueBits n = List.replicate (lz n).toNat 0 ++ bitsIn (n + 1) (lz n + 1) := by
  have h1 := lz_spec h.1
  have h2 := lz_range h
  have e1 : (lz n + 1).toNat = (lz n).toNat + 1 := by omega
  have hb : bitOk (lz n + 1) (n + 1) := ⟨by omega, by omega, by rw [e1]; exact Int.ediv_eq_zero_of_lt (by omega) h1.2⟩
  rw [ueBits_eq h, show 2 * (lz n).toNat + 1 = ((lz n).toNat + 1) + (lz n).toNat by omega, bitsl_pad ⟨by omega, h1.2⟩]
  unfold bitsIn; rw [if_pos hb, e1]
theorem own_eq {w : World} {p : Option Addr} {c : Nat} {e : TypeId} {F : List Nat} {xs ys : List Int} (h : xs = ys) (o : Own w p xs.length c e 1 (ic xs) F) : Own w p ys.length c e 1 (ic ys) F := h ▸ o
end Go.Pl

/- Plain numbers: headers read. -/
namespace Go.Pl
section
variable {s : ByteArray} {a : Int}
theorem rh_x5 (h : (rh5 s a).code ≠ 0) : rh6 s a = rh5 s a := (fb_err h).1
theorem rh_x4 (h : (rh4 s a).code ≠ 0) : rh6 s a = rh4 s a := by
  have e : rh5 s a = rh4 s a := (fb_err h).1
  rw [rh_x5 (by rw [e]; exact h), e]
theorem rh_x3 (h : (rh3 s a).code ≠ 0) : rh6 s a = rh3 s a := by
  have e : rh4 s a = rh3 s a := (fb_err h).1
  rw [rh_x4 (by rw [e]; exact h), e]
theorem rh_x2 (h : (rh2 s a).code ≠ 0) : rh6 s a = rh2 s a := by
  have e : rh3 s a = rh2 s a := (fn_err h).1
  rw [rh_x3 (by rw [e]; exact h), e]
theorem rh_x1 (h : (rh1 s a).code ≠ 0) : rh6 s a = rh1 s a := by
  have e : rh2 s a = rh1 s a := (fn_err h).1
  rw [rh_x2 (by rw [e]; exact h), e]
end
def hdW (s : ByteArray) (a : Int) : Int := if (rh6 s a).code = 0 then 8 * (rhW s a + 1) else 0
def hdH (s : ByteArray) (a : Int) : Int := if (rh6 s a).code = 0 then 8 * (rhH s a + 1) else 0
def hdQ (s : ByteArray) (a : Int) : Int := if (rh6 s a).code = 0 then rhQ s a else 0
def hdB (s : ByteArray) (a : Int) : Bool := decide ((rh6 s a).code = 0 ∧ 2 ≤ rhF s a)
def hdD (s : ByteArray) (a : Int) : Bool := decide ((rh6 s a).code = 0 ∧ rhF s a % 2 = 1)
def hdL (s : ByteArray) (a : Int) : List Int := if (rh6 s a).code = 0 then lens6 (rhL s a) 6 else []
theorem hd_no {s : ByteArray} {a : Int} (h : (rh6 s a).code ≠ 0) : hdW s a = 0 ∧ hdH s a = 0 ∧ hdQ s a = 0 ∧ hdB s a = false ∧ hdD s a = false ∧ hdL s a = [] := by
  simp [hdW, hdH, hdQ, hdB, hdD, hdL, h]
theorem hd_yes {s : ByteArray} {a : Int} (h : (rh6 s a).code = 0) : hdW s a = 8 * (rhW s a + 1) ∧ hdH s a = 8 * (rhH s a + 1) ∧ hdQ s a = rhQ s a ∧ hdB s a = decide (2 ≤ rhF s a) ∧ hdD s a = decide (rhF s a % 2 = 1) ∧ hdL s a = lens6 (rhL s a) 6 := by
  simp [hdW, hdH, hdQ, hdB, hdD, hdL, h]
theorem rbV_range (s : ByteArray) (a n : Int) : 0 ≤ rbV s a n ∧ rbV s a n < 4294967296 := by
  unfold rbV; split
  · next h =>
    have h1 := bitsOf_range s a n.toNat
    have h2 := two_pow_le (n := n.toNat) (m := 32) (by have := h.2.1; omega)
    have e : (2 : Int) ^ 32 = 4294967296 := rfl
    omega
  · omega
theorem fbV_range (s : ByteArray) (f : Fs) (n : Int) (chk : Int → Int) : 0 ≤ fbV s f n chk ∧ fbV s f n chk < 4294967296 := by
  unfold fbV
  split
  · omega
  · split
    · omega
    · split
      · omega
      · exact rbV_range s f.a n
theorem rbAt_ok {s : ByteArray} {a n : Int} (h : rbOk s a n) : rbAt s a n = a + n := by unfold rbAt; rw [if_pos h]
theorem ueAt_no {s : ByteArray} {a : Int} (h : ueE s a ≠ 0) : ueAt s a = a := by
  unfold ueAt; rw [if_neg]
  intro h1
  apply h
  unfold ueE; rw [if_neg (by have := h1.1; omega), if_pos h1.2]
theorem ueV_no {s : ByteArray} {a : Int} (h : ueE s a ≠ 0) : ueV s a = 0 := by
  unfold ueV; rw [if_neg]
  intro h1
  apply h
  unfold ueE; rw [if_neg (by have := h1.1; omega), if_pos h1.2]
theorem fs_eta {f : Fs} (h : f.code = 0) : (⟨f.a, 0⟩ : Fs) = f := by rw [← h]
theorem bx_eq {w : World} {b T : Nat} {cs cs' : List Value} (h : cs = cs') (hB : Go.Sx.Bx w b cs T) : Go.Sx.Bx w b cs' T := h ▸ hB
end Go.Pl

/- Plain numbers: streams as bits. -/
namespace Go.Pl
open Go.Sx
abbrev PB : Type := Int × List Int
abbrev PM : Type := Bool × List PB
def streamOk (a b q : Int) (xs : List Int) (ms : List PM) : Prop := headOk a b q xs ∧ (ms.length : Int) = a / 8 * (b / 8) ∧ ∀ j : Nat, j < ms.length → mbOk (ms.getD j default).1 (ms.getD j default).2 xs
instance (a b q : Int) (xs : List Int) (ms : List PM) : Decidable (streamOk a b q xs ms) := by unfold streamOk; infer_instance
/-- a number of its bits -/
def numOk (b : List Int) : Prop := isBits b ∧ b.length ≤ 48
instance (b : List Int) : Decidable (isBits b) := by unfold isBits; infer_instance
instance (b : List Int) : Decidable (numOk b) := by unfold numOk; infer_instance
theorem numl_take {b : List Int} {k : Nat} (h : k < b.length) : numl (b.take (k + 1)) = numl (b.take k) * 2 + b.getD k 0 := by
  rw [List.take_add_one]; simp only [List.getElem?_eq_getElem h, Option.toList_some]; rw [numl_snoc]; simp [List.getD, h]
theorem numl_take_range {b : List Int} {k : Nat} (hk : k ≤ 48) (h : ∀ j : Nat, j < k → b.getD j 0 = 0 ∨ b.getD j 0 = 1) (hl : k ≤ b.length) : 0 ≤ numl (b.take k) ∧ numl (b.take k) < 281474976710656 := by
  have hb : isBits (b.take k) := isBits_upto fun j hj => by
    rw [List.length_take] at hj
    have := h j (by omega)
    rw [List.getD_eq_getElem?_getD, List.getElem?_take, if_pos (by omega), ← List.getD_eq_getElem?_getD]; exact this
  have h1 := numl_range hb
  have h2 := two_pow_le (n := (b.take k).length) (m := 48) (by rw [List.length_take]; omega)
  have e : (2 : Int) ^ 48 = 281474976710656 := rfl
  omega
/-- the first k bytes of bits -/
theorem bytesl_get {b : List Int} {k : Nat} (h : k < b.length / 8) : (bytesl b)[k]? = some (numl ((b.drop (8 * k)).take 8)) := by simp [bytesl, h]
theorem bytesl_take {b : List Int} {k : Nat} (h : k < b.length / 8) : (bytesl b).take (k + 1) = (bytesl b).take k ++ [numl ((b.drop (8 * k)).take 8)] := by
  rw [List.take_add_one, bytesl_get h]; rfl
theorem isBits_parts {b : List Int} {k : Nat} (h : isBits (b.take (8 * k))) (h2 : isBits ((b.drop (8 * k)).take 8)) : isBits (b.take (8 * (k + 1))) := by
  rw [show 8 * (k + 1) = 8 * k + 8 by omega, List.take_add]; exact isBits_app.2 ⟨h, h2⟩
end Go.Pl
