/- Rows of structs by their shape; calls of function values; parts of structs in memory. -/
import Derived.Test.YtepnknffaecbdaaVSxC
namespace Go.Sx
open Go.RowKit
/-- a slice of numbers as it lies in memory -/
structure Li where
  p : Option Addr
  xs : List Int
  c : Nat
  F : List Nat
  deriving Inhabited
def Li.zero : Li := ⟨none, [], 0, []⟩
def lrow (x : Li) : List Value := [.slice x.p x.xs.length x.c]
theorem lrow_len (x : Li) : (lrow x).length = 1 := rfl
theorem lrow_one (x : Li) : ∀ u ∈ lrow x, u.oneCell' = true := by
  intro u hu; simp only [lrow, List.mem_cons, List.not_mem_nil, or_false] at hu; subst hu; rfl
/-- a block of levels as it lies in memory -/
structure Bk where
  mode : Int
  p : Option Addr
  lv : List Int
  c : Nat
  F : List Nat
  deriving Inhabited
def Bk.zero : Bk := ⟨0, none, [], 0, []⟩
def brow (x : Bk) : List Value := [.int .i64 x.mode, .slice x.p x.lv.length x.c]
theorem brow_len (x : Bk) : (brow x).length = 2 := rfl
theorem brow_one (x : Bk) : ∀ u ∈ brow x, u.oneCell' = true := by
  intro u hu; simp only [brow, List.mem_cons, List.not_mem_nil, or_false] at hu; rcases hu with rfl | rfl <;> rfl
structure Mk where
  eight : Bool
  p : Option Addr
  bs : List Bk
  c : Nat
  F : List Nat
  deriving Inhabited
def Mk.zero : Mk := ⟨false, none, [], 0, []⟩
def mrow (x : Mk) : List Value := [.bool x.eight, .slice x.p x.bs.length x.c]
theorem mrow_len (x : Mk) : (mrow x).length = 2 := rfl
theorem mrow_one (x : Mk) : ∀ u ∈ mrow x, u.oneCell' = true := by
  intro u hu; simp only [mrow, List.mem_cons, List.not_mem_nil, or_false] at hu; rcases hu with rfl | rfl <;> rfl
theorem getD_mem {α : Type} [Inhabited α] {xs : List α} {i : Int} (h0 : 0 ≤ i) (h1 : i < xs.length) : xs.getD i.toNat default ∈ xs := List.mem_of_getElem? (get_some h0 h1)

section
variable {P : Program} {n : Nat} {E : Env} {ty T T' e : TypeId} {x y z : Operand} {v : Value} {b o : Nat} {w : World} {cs : List Value}
end
section steps
variable {P : Program} {ops : Array Oper} {Q : Exit → Act → World → Prop} {rest : List Oper} {n d : Nat} {E : Env} {ty T T' e : TypeId} {pos : String} {after : Array Edge} {w : World} {v : Value} {x y : Operand} {cs : List Value} {b o : Nat}
end steps
theorem x_eqnil {P : Program} {n : Nat} {E : Env} {ty T T' e : TypeId} {x y : Operand} {p : Option Addr} {m c m' c' : Nat} (hT : P.underlying T = some (.slice e)) (hx : opd n E x = .slice p m c) (hy : opd n E y = .slice none m' c') : X0 P n E (.binOp .eql T x y T') ty (.bool (decide (p = none))) :=
  x_bin hx hy (fun w => by unfold eqGuard; split <;> simp) fun w => by
    have key : (Op.equalIn (9999 + 1) T (.slice p m c) (.slice none m' c')).run P w = .ok p.isNone w := by
      generalize 9999 = d
      cases p <;> simp [Op.equalIn, run_underlying hT]
    simp only [binOp]
    simp only [Op.equal, Op.maxDepth]
    cases p <;> simp at key <;> simp [key]
section cuts
variable {α : Type} {f : α → List Value} {sz : Nat} {P : Program} {n : Nat} {E : Env} {ty T e : TypeId} {x lo hi : Operand} {w w' : World} {p : Option Addr} {m c bytes : Nat} {xs : List α} {k k' : IntKind} {l h : Int}
theorem flat_drop (hf : ∀ x, (f x).length = sz) : ∀ (xs : List α) (l : Nat), (xs.flatMap f).drop (l * sz) = (xs.drop l).flatMap f
  | xs, 0 => by simp
  | [], l + 1 => by simp
  | x :: xs, l + 1 => by
    rw [List.flatMap_cons, List.drop_append, hf, List.drop_of_length_le (by rw [hf, Nat.add_mul]; omega), List.nil_append, List.drop_succ_cons, ← flat_drop hf xs l]
    congr 1
    rw [Nat.add_mul]; omega
theorem flat_take (hf : ∀ x, (f x).length = sz) : ∀ (xs : List α) (l : Nat), (xs.flatMap f).take (l * sz) = (xs.take l).flatMap f
  | xs, 0 => by simp
  | [], l + 1 => by simp
  | x :: xs, l + 1 => by
    rw [List.flatMap_cons, List.take_append, hf, List.take_of_length_le (by rw [hf, Nat.add_mul]; omega), List.take_succ_cons, List.flatMap_cons, ← flat_take hf xs l]
    congr 2
    rw [Nat.add_mul]; omega
theorem Sl.cutr {l h : Nat} (hf : ∀ x, (f x).length = sz) (hs : Sl w p m c sz (xs.flatMap f)) (hm : m = xs.length) (h1 : l ≤ h) (h2 : h ≤ m) : Sl w (cutp p c l sz) ((xs.drop l).take (h - l)).length (c - l) sz (((xs.drop l).take (h - l)).flatMap f) := by
  have h3 := hs.cut h1 h2
  rw [flat_drop hf, flat_take hf] at h3
  have e : ((xs.drop l).take (h - l)).length = h - l := by rw [List.length_take, List.length_drop]; omega
  rw [e]; exact h3
theorem x_cuthr (hT : SliceOf P T e sz bytes) (hs : Sl w' p m c sz (xs.flatMap f)) (hm : m = xs.length) (hx : opd n E x = .slice p m c) (hh : opd n E hi = .int k' h) (h0 : 0 ≤ h) (h2 : h ≤ m) : X0 P n E (.slice T x none (some hi) none) ty (.slice (cutp p c 0 sz) ((xs.drop 0).take (h.toNat - 0)).length (c - 0)) := by
  have e : ((xs.drop 0).take (h.toNat - 0)).length = h.toNat := by rw [List.length_take, List.length_drop]; omega
  rw [e, Nat.sub_zero]; exact x_cuth hT hx hh h0 h2 hs.cap
end cuts
def irow (x : Int) : List Value := [.int .i64 x]
theorem irow_len (x : Int) : (irow x).length = 1 := rfl
theorem ic_rows (xs : List Int) : ic xs = xs.flatMap irow := (flat_ic xs).symm
def urow (x : Int) : List Value := [.int .u8 x]
theorem urow_len (x : Int) : (urow x).length = 1 := rfl
theorem bc_rows (xs : List Int) : bc xs = xs.flatMap urow := (flat_bc xs).symm
theorem Sl.r {w : World} {p : Option Addr} {n c : Nat} {xs : List Int} (h : Sl w p n c 1 (ic xs)) : Sl w p n c 1 (xs.flatMap irow) := by rw [← ic_rows]; exact h
theorem Sl.rb {w : World} {p : Option Addr} {n c : Nat} {xs : List Int} (h : Sl w p n c 1 (bc xs)) : Sl w p n c 1 (xs.flatMap urow) := by rw [← bc_rows]; exact h
theorem Sl.cuti {w : World} {p : Option Addr} {m c l h : Nat} {xs : List Int} (hs : Sl w p m c 1 (ic xs)) (h1 : l ≤ h) (h2 : h ≤ m) : Sl w (cutp p c l 1) ((xs.drop l).take (h - l)).length (c - l) 1 (ic ((xs.drop l).take (h - l))) := by
  rw [ic_rows]; exact hs.r.cutr irow_len hs.n h1 h2
theorem Sl.cutb {w : World} {p : Option Addr} {m c l h : Nat} {xs : List Int} (hs : Sl w p m c 1 (bc xs)) (hm : m = xs.length) (h1 : l ≤ h) (h2 : h ≤ m) : Sl w (cutp p c l 1) ((xs.drop l).take (h - l)).length (c - l) 1 (bc ((xs.drop l).take (h - l))) := by
  rw [bc_rows]; exact hs.rb.cutr urow_len hm h1 h2
end Go.Sx
