/- Plain numbers and lists, with no program in sight. -/
import Derived.Test.YtnehdmcilmlchaaVPlV
/- Plain numbers: macroblocks read. -/
namespace Go.Pl
structure Rm where
  a : Int
  code : Int
  bs : List (Int × List Int)
def rmStep (s : ByteArray) (xs : List Int) (n : Int) (v : Rm) : Rm :=
  if rbkE s v.a xs n ≠ 0 then ⟨rbkA s v.a xs n, rbkE s v.a xs n, []⟩ else ⟨rbkA s v.a xs n, 0, v.bs ++ [(rbkM s v.a xs n, rbkL s v.a xs n)]⟩
def rmIt (s : ByteArray) (xs : List Int) (n a : Int) : Nat → Rm
  | 0 => ⟨a, 0, []⟩
  | k + 1 => if (rmIt s xs n a k).code ≠ 0 then rmIt s xs n a k else rmStep s xs n (rmIt s xs n a k)
def manyB (e : Bool) : Nat := if e then 1 else 4
def rmF (s : ByteArray) (a : Int) : Bool := decide (rbV s a 1 = 1)
def rmR (s : ByteArray) (a : Int) (xs : List Int) : Rm :=
  if rbOk s a 1 then rmIt s xs (side (rmF s a)) (rbAt s a 1) (manyB (rmF s a)) else ⟨a, 1, []⟩
def rmG (s : ByteArray) (a : Int) (xs : List Int) : Bool := decide ((rmR s a xs).code = 0 ∧ rbV s a 1 = 1)
theorem rm_short {s : ByteArray} {a : Int} {xs : List Int} (h : ¬ rbOk s a 1) : rmR s a xs = ⟨a, 1, []⟩ ∧ rmG s a xs = false := by
  have e : rmR s a xs = ⟨a, 1, []⟩ := if_neg h
  refine ⟨e, decide_eq_false ?_⟩
  rw [e]; exact fun h2 => absurd (show (1 : Int) = 0 from h2.1) (by decide)
theorem rm_yes {s : ByteArray} {a : Int} {xs : List Int} (h : rbOk s a 1) : rmR s a xs = rmIt s xs (side (rmF s a)) (rbAt s a 1) (manyB (rmF s a)) := if_pos h
theorem rmIt_next {s : ByteArray} {xs : List Int} {n a : Int} {k : Nat} (h : (rmIt s xs n a k).code = 0) : rmIt s xs n a (k + 1) = rmStep s xs n (rmIt s xs n a k) := by
  simp only [rmIt]; rw [if_neg (fun h2 => h2 h)]
theorem rmIt_stop {s : ByteArray} {xs : List Int} {n a : Int} {k : Nat} (h : (rmIt s xs n a k).code ≠ 0) : ∀ m : Nat, rmIt s xs n a (k + m) = rmIt s xs n a k
  | 0 => rfl
  | m + 1 => by
    have ih := rmIt_stop h m
    show rmIt s xs n a ((k + m) + 1) = _
    simp only [rmIt]
    rw [ih, if_pos h]
/-- a round fails: all is said -/
theorem rm_fail {s : ByteArray} {xs : List Int} {n a : Int} {k N : Nat} (h : (rmIt s xs n a k).code = 0) (he : rbkE s (rmIt s xs n a k).a xs n ≠ 0) (hk : k < N) :
    rmIt s xs n a N = ⟨rbkA s (rmIt s xs n a k).a xs n, rbkE s (rmIt s xs n a k).a xs n, []⟩ := by
  have e1 : rmIt s xs n a (k + 1) = ⟨rbkA s (rmIt s xs n a k).a xs n, rbkE s (rmIt s xs n a k).a xs n, []⟩ := by
    rw [rmIt_next h]; unfold rmStep; rw [if_pos he]
  obtain ⟨m, rfl⟩ : ∃ m, N = (k + 1) + m := ⟨N - (k + 1), by omega⟩
  rw [rmIt_stop (by rw [e1]; exact he), e1]
theorem rm_go {s : ByteArray} {xs : List Int} {n a : Int} {k : Nat} (h : (rmIt s xs n a k).code = 0) (he : rbkE s (rmIt s xs n a k).a xs n = 0) :
    rmIt s xs n a (k + 1) = ⟨rbkA s (rmIt s xs n a k).a xs n, 0, (rmIt s xs n a k).bs ++ [(rbkM s (rmIt s xs n a k).a xs n, rbkL s (rmIt s xs n a k).a xs n)]⟩ := by
  rw [rmIt_next h]; unfold rmStep; rw [if_neg (fun h2 => h2 he)]
theorem rmIt_bs {s : ByteArray} {xs : List Int} {n a : Int} (k : Nat) : (rmIt s xs n a k).bs.length ≤ k ∧ ∀ b ∈ (rmIt s xs n a k).bs, b.2.length ≤ 64 := by
  induction k with
  | zero => simp [rmIt]
  | succ k ih =>
    simp only [rmIt]
    split
    · exact ⟨by omega, ih.2⟩
    · unfold rmStep
      split
      · simp
      · refine ⟨by simp only [List.length_append, List.length_cons, List.length_nil]; omega, fun b hb => ?_⟩
        rcases List.mem_append.1 hb with h | h
        · exact ih.2 b h
        · obtain rfl := List.mem_singleton.1 h
          have := rbkL_len (s := s) (a := (rmIt s xs n a k).a) (xs := xs) (n := n) (.inr trivial)
          show (rbkL _ _ _ _).length ≤ 64; omega
theorem manyB_le (e : Bool) : manyB e ≤ 4 := by cases e <;> decide
theorem rmR_bs (s : ByteArray) (a : Int) (xs : List Int) : (rmR s a xs).bs.length ≤ 4 ∧ ∀ b ∈ (rmR s a xs).bs, b.2.length ≤ 64 := by
  unfold rmR; split
  · have h := rmIt_bs (s := s) (xs := xs) (n := side (rmF s a)) (a := rbAt s a 1) (manyB (rmF s a))
    have := manyB_le (rmF s a)
    exact ⟨by omega, h.2⟩
  · simp
theorem rmF_no {s : ByteArray} {a : Int} {xs : List Int} (h : (rmR s a xs).code ≠ 0) : rmG s a xs = false := decide_eq_false fun h2 => h h2.1
theorem rmG_yes {s : ByteArray} {a : Int} {xs : List Int} (h : (rmR s a xs).code = 0) : rmG s a xs = rmF s a := by
  unfold rmG rmF; exact decide_eq_decide.2 ⟨fun h2 => h2.2, fun h2 => ⟨h, h2⟩⟩
end Go.Pl
namespace Go.Pl
theorem manyB_cast (e : Bool) : (manyB e : Int) = manyOf e := by cases e <;> rfl
end Go.Pl

/- Plain numbers: streams read. -/
namespace Go.Pl
structure Pm where
  a : Int
  code : Int
  ms : List PM
end Go.Pl
