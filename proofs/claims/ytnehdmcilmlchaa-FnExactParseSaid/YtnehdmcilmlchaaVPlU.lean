/- Plain numbers and lists, with no program in sight. -/
import Derived.Test.YtnehdmcilmlchaaVPlV
/- Plain numbers: macroblocks read. -/
namespace Go.Pl
structure Rm where
  a : Int
  code : Int
  bs : List (Int × List Int)
def rmStep (s : ByteArray) (xs : List Int) (n : Int) (v : Rm) : Rm :=
  if rbkE s v.a xs n ≠ 0 then ⟨rbkA s v.a xs n, rbkE s v.a xs n, []⟩ else ⟨rbkA s v.a xs n, 0, v.bs ++ [(rbkM s v.a xs n, rbkL s v.a xs n)]⟩
def rmIt (s : ByteArray) (xs : List Int) (n a : Int) : Nat → Rm
  | 0 => ⟨a, 0, []⟩
  | k + 1 => if (rmIt s xs n a k).code ≠ 0 then rmIt s xs n a k else rmStep s xs n (rmIt s xs n a k)
def manyB (e : Bool) : Nat := if e then 1 else 4
def rmF (s : ByteArray) (a : Int) : Bool := decide (rbV s a 1 = 1)
def rmR (s : ByteArray) (a : Int) (xs : List Int) : Rm :=
  if rbOk s a 1 then rmIt s xs (side (rmF s a)) (rbAt s a 1) (manyB (rmF s a)) else ⟨a, 1, []⟩
def rmG (s : ByteArray) (a : Int) (xs : List Int) : Bool := decide ((rmR s a xs).code = 0 ∧ rbV s a 1 = 1)
theorem rm_short {s : ByteArray} {a : Int} {xs : List Int} (h : ¬ rbOk s a 1) : rmR s a xs = ⟨a, 1, []⟩ ∧ rmG s a xs = false := by
  have e : rmR s a xs = ⟨a, 1, []⟩ := if_neg h
  refine ⟨e, decide_eq_false ?_⟩
  rw [e]; exact fun h2 => absurd (show (1 : Int) = 0 from h2.1) (by decide)
theorem rm_yes {s : ByteArray} {a : Int} {xs : List Int} (h : rbOk s a 1) : rmR s a xs = rmIt s xs (side (rmF s a)) (rbAt s a 1) (manyB (rmF s a)) := if_pos h
theorem rmIt_next {s : ByteArray} {xs : List Int} {n a : Int} {k : Nat} (h : (rmIt s xs n a k).code = 0) : rmIt s xs n a (k + 1) = rmStep s xs n (rmIt s xs n a k) := by
  simp only [rmIt]; rw [if_neg (fun h2 => h2 h)]
theorem rmIt_stop {s : ByteArray} {xs : List Int} {n a : Int} {k : Nat} (h : (rmIt s xs n a k).code ≠ 0) : ∀ m : Nat, rmIt s xs n a (k + m) = rmIt s xs n a k
  | 0 => rfl
  | m + 1 => by
    have ih := rmIt_stop h m
    show rmIt s xs n a ((k + m) + 1) = _
    simp only [rmIt]
    rw [ih, if_pos h]
/-- a round fails: all is said -/
theorem rm_fail {s : ByteArray} {xs : List Int} {n a : Int} {k N : Nat} (h : (rmIt s xs n a k).code = 0) (he : rbkE s (rmIt s xs n a k).a xs n ≠ 0) (hk : k < N) :
    rmIt s xs n a N = ⟨rbkA s (rmIt s xs n a k).a xs n, rbkE s (rmIt s xs n a k).a xs n, []⟩ := by
  have e1 : rmIt s xs n a (k + 1) = ⟨rbkA s (rmIt s xs n a k).a xs n, rbkE s (rmIt s xs n a k).a xs n, []⟩ := by
    rw [rmIt_next h]; unfold rmStep; rw [if_pos he]
  obtain ⟨m, rfl⟩ : ∃ m, N = (k + 1) + m := ⟨N - (k + 1), by omega⟩
  rw [rmIt_stop (by rw [e1]; exact he), e1]
theorem rm_go {s : ByteArray} {xs : List Int} {n a : Int} {k : Nat} (h : (rmIt s xs n a k).code = 0) (he : rbkE s (rmIt s xs n a k).a xs n = 0) :
    rmIt s xs n a (k + 1) = ⟨rbkA s (rmIt s xs n a k).a xs n, 0, (rmIt s xs n a k).bs ++ [(rbkM s (rmIt s xs n a k).a xs n, rbkL s (rmIt s xs n a k).a xs n)]⟩ := by
  rw [rmIt_next h]; unfold rmStep; rw [if_neg (fun h2 => h2 he)]
theorem rmIt_bs {s : ByteArray} {xs : List Int} {n a : Int} (k : Nat) : (rmIt s xs n a k).bs.length ≤ k ∧ ∀ b ∈ (rmIt s xs n a k).bs, b.2.length ≤ 64 := by
  induction k with
  | zero => simp [rmIt]
  | succ k ih =>
    simp only [rmIt]
    split
    · exact ⟨by omega, ih.2⟩
    · unfold rmStep
      split
      · simp
      · refine ⟨by simp only [List.length_append, List.length_cons, List.length_nil]; omega, fun b hb => ?_⟩
        rcases List.mem_append.1 hb with h | h
        · exact ih.2 b h
        · obtain rfl := List.mem_singleton.1 h
          have := rbkL_len (s := s) (a := (rmIt s xs n a k).a) (xs := xs) (n := n) (.inr trivial)
          show (rbkL _ _ _ _).length ≤ 64; omega
theorem manyB_le (e : Bool) : manyB e ≤ 4 := by cases e <;> decide
theorem rmR_bs (s : ByteArray) (a : Int) (xs : List Int) : (rmR s a xs).bs.length ≤ 4 ∧ ∀ b ∈ (rmR s a xs).bs, b.2.length ≤ 64 := by
  unfold rmR; split
  · have h := rmIt_bs (s := s) (xs := xs) (n := side (rmF s a)) (a := rbAt s a 1) (manyB (rmF s a))
    have := manyB_le (rmF s a)
    exact ⟨by omega, h.2⟩
  · simp
theorem rmF_no {s : ByteArray} {a : Int} {xs : List Int} (h : (rmR s a xs).code ≠ 0) : rmG s a xs = false := decide_eq_false fun h2 => h h2.1
theorem rmG_yes {s : ByteArray} {a : Int} {xs : List Int} (h : (rmR s a xs).code = 0) : rmG s a xs = rmF s a := by
  unfold rmG rmF; exact decide_eq_decide.2 ⟨fun h2 => h2.2, fun h2 => ⟨h, h2⟩⟩
end Go.Pl
namespace Go.Pl
theorem manyB_cast (e : Bool) : (manyB e : Int) = manyOf e := by cases e <;> rfl
end Go.Pl

/- Plain numbers: streams read. -/
namespace Go.Pl
structure Pm where
  a : Int
  code : Int
  ms : List PM
def pmStep (s : ByteArray) (xs : List Int) (v : Pm) : Pm :=
  if (rmR s v.a xs).code ≠ 0 then ⟨(rmR s v.a xs).a, (rmR s v.a xs).code, []⟩ else ⟨(rmR s v.a xs).a, 0, v.ms ++ [(rmG s v.a xs, (rmR s v.a xs).bs)]⟩
def pmIt (s : ByteArray) (xs : List Int) (a : Int) : Nat → Pm
  | 0 => ⟨a, 0, []⟩
  | k + 1 => if (pmIt s xs a k).code ≠ 0 then pmIt s xs a k else pmStep s xs (pmIt s xs a k)
def prN (s : ByteArray) : Nat := (hdW s 0 / 8 * (hdH s 0 / 8)).toNat
def prI (s : ByteArray) (k : Nat) : Pm := pmIt s (hdL s 0) (rh6 s 0).a k
def prR (s : ByteArray) : Pm :=
  if (rh6 s 0).code ≠ 0 then ⟨(rh6 s 0).a, (rh6 s 0).code, []⟩
  else if (prI s (prN s)).code ≠ 0 then prI s (prN s)
  else if stopOf s (prI s (prN s)).a ≠ 0 then ⟨(prI s (prN s)).a, stopOf s (prI s (prN s)).a, []⟩ else prI s (prN s)
def prW (s : ByteArray) : Int := if (prR s).code = 0 then hdW s 0 else 0
def prH (s : ByteArray) : Int := if (prR s).code = 0 then hdH s 0 else 0
def prQ (s : ByteArray) : Int := if (prR s).code = 0 then hdQ s 0 else 0
def prB (s : ByteArray) : Bool := if (prR s).code = 0 then hdB s 0 else false
def prD (s : ByteArray) : Bool := if (prR s).code = 0 then hdD s 0 else false
def prL (s : ByteArray) : List Int := if (prR s).code = 0 then hdL s 0 else []
def prM (s : ByteArray) : List PM := if (prR s).code = 0 then (prR s).ms else []
theorem pr_bad {s : ByteArray} (h : (prR s).code ≠ 0) : prW s = 0 ∧ prH s = 0 ∧ prQ s = 0 ∧ prB s = false ∧ prD s = false ∧ prL s = [] ∧ prM s = [] := by
  simp only [prW, prH, prQ, prB, prD, prL, prM, if_neg h, and_self]
theorem pr_good {s : ByteArray} (h : (prR s).code = 0) : prW s = hdW s 0 ∧ prH s = hdH s 0 ∧ prQ s = hdQ s 0 ∧ prB s = hdB s 0 ∧ prD s = hdD s 0 ∧ prL s = hdL s 0 ∧ prM s = (prR s).ms := by
  simp only [prW, prH, prQ, prB, prD, prL, prM, if_pos h, and_self]
theorem pr_head {s : ByteArray} (h : (rh6 s 0).code ≠ 0) : prR s = ⟨(rh6 s 0).a, (rh6 s 0).code, []⟩ := if_pos h
theorem pmIt_next {s : ByteArray} {xs : List Int} {a : Int} {k : Nat} (h : (pmIt s xs a k).code = 0) : pmIt s xs a (k + 1) = pmStep s xs (pmIt s xs a k) := by
  simp only [pmIt]; rw [if_neg (fun h2 => h2 h)]
theorem pmIt_stop {s : ByteArray} {xs : List Int} {a : Int} {k : Nat} (h : (pmIt s xs a k).code ≠ 0) : ∀ m : Nat, pmIt s xs a (k + m) = pmIt s xs a k
  | 0 => rfl
  | m + 1 => by
    have ih := pmIt_stop h m
    show pmIt s xs a ((k + m) + 1) = _
    simp only [pmIt]
    rw [ih, if_pos h]
theorem pm_fail {s : ByteArray} {xs : List Int} {a : Int} {k N : Nat} (h : (pmIt s xs a k).code = 0) (he : (rmR s (pmIt s xs a k).a xs).code ≠ 0) (hk : k < N) :
    pmIt s xs a N = ⟨(rmR s (pmIt s xs a k).a xs).a, (rmR s (pmIt s xs a k).a xs).code, []⟩ := by
  have e1 : pmIt s xs a (k + 1) = ⟨(rmR s (pmIt s xs a k).a xs).a, (rmR s (pmIt s xs a k).a xs).code, []⟩ := by
    rw [pmIt_next h]; unfold pmStep; rw [if_pos he]
  obtain ⟨m, rfl⟩ : ∃ m, N = (k + 1) + m := ⟨N - (k + 1), by omega⟩
  rw [pmIt_stop (by rw [e1]; exact he), e1]
theorem pm_go {s : ByteArray} {xs : List Int} {a : Int} {k : Nat} (h : (pmIt s xs a k).code = 0) (he : (rmR s (pmIt s xs a k).a xs).code = 0) :
    pmIt s xs a (k + 1) = ⟨(rmR s (pmIt s xs a k).a xs).a, 0, (pmIt s xs a k).ms ++ [(rmG s (pmIt s xs a k).a xs, (rmR s (pmIt s xs a k).a xs).bs)]⟩ := by
  rw [pmIt_next h]; unfold pmStep; rw [if_neg (fun h2 => h2 he)]
theorem pr_fail {s : ByteArray} {k : Nat} (h : (rh6 s 0).code = 0) (hc : (prI s k).code = 0) (he : (rmR s (prI s k).a (hdL s 0)).code ≠ 0) (hk : k < prN s) :
    prR s = ⟨(rmR s (prI s k).a (hdL s 0)).a, (rmR s (prI s k).a (hdL s 0)).code, []⟩ := by
  have e : prI s (prN s) = _ := pm_fail hc he hk
  unfold prR; rw [if_neg (fun h2 => h2 h), if_pos (by rw [e]; exact he), e]; rfl
theorem pr_stop {s : ByteArray} {k : Nat} (h : (rh6 s 0).code = 0) (hc : (prI s k).code = 0) (hk : k = prN s) (hs : stopOf s (prI s k).a ≠ 0) :
    prR s = ⟨(prI s k).a, stopOf s (prI s k).a, []⟩ := by
  subst hk
  unfold prR; rw [if_neg (fun h2 => h2 h), if_neg (fun h2 => h2 hc), if_pos hs]
theorem pr_end {s : ByteArray} {k : Nat} (h : (rh6 s 0).code = 0) (hc : (prI s k).code = 0) (hk : k = prN s) (hs : stopOf s (prI s k).a = 0) : prR s = prI s k := by
  subst hk
  unfold prR; rw [if_neg (fun h2 => h2 h), if_neg (fun h2 => h2 hc), if_neg (fun h2 => h2 hs)]
def smallP (m : PM) : Prop := m.2.length ≤ 4 ∧ ∀ b ∈ m.2, b.2.length ≤ 64
theorem pmIt_ms {s : ByteArray} {xs : List Int} {a : Int} (k : Nat) : (pmIt s xs a k).ms.length ≤ k ∧ ∀ m ∈ (pmIt s xs a k).ms, smallP m := by
  induction k with
  | zero => simp [pmIt]
  | succ k ih =>
    simp only [pmIt]
    split
    · exact ⟨by omega, ih.2⟩
    · unfold pmStep
      split
      · simp
      · refine ⟨by simp only [List.length_append, List.length_cons, List.length_nil]; omega, fun m hm => ?_⟩
        rcases List.mem_append.1 hm with h | h
        · exact ih.2 m h
        · obtain rfl := List.mem_singleton.1 h
          exact rmR_bs s _ xs
theorem prN_le (s : ByteArray) : prN s ≤ 16 := by
  unfold prN
  by_cases h : (rh6 s 0).code = 0
  · have := many_range (rh_head h).1; omega
  · obtain ⟨e1, _⟩ := hd_no h; rw [e1]; simp
theorem prM_ms (s : ByteArray) : (prM s).length ≤ 16 ∧ ∀ m ∈ prM s, smallP m := by
  unfold prM; split
  · unfold prR; split
    · simp
    · split
      · have h := pmIt_ms (s := s) (xs := hdL s 0) (a := (rh6 s 0).a) (prN s); have := prN_le s; exact ⟨by unfold prI; omega, h.2⟩
      · split
        · simp
        · have h := pmIt_ms (s := s) (xs := hdL s 0) (a := (rh6 s 0).a) (prN s); have := prN_le s; exact ⟨by unfold prI; omega, h.2⟩
  · simp
theorem prL_len (s : ByteArray) : (prL s).length ≤ 6 := by
  unfold prL; split
  · exact hdL_len s 0
  · simp
end Go.Pl

/- Plain numbers: scans, steps, transforms. -/
namespace Go.Pl
def T2 (M : Nat → Nat → Int) (h : List Int) (n q j : Nat) : Int := h.getD (q / n * n + j) 0 * M (q % n) j
def permL (l : List Int) (N : Nat) : Prop := l.length = N ∧ ∀ i : Nat, i < N → 0 ≤ l.getD i 0 ∧ l.getD i 0 < N
instance (l : List Int) (N : Nat) : Decidable (permL l N) := by unfold permL; infer_instance
end Go.Pl
