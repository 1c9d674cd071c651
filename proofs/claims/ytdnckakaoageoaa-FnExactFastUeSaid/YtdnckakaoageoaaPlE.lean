/- Plain numbers: fields read one by one, up to the first error. -/
import Derived.Test.YtdnckakaoageoaaPlD
import Derived.Test.YtdnckakaoageoaaSxF
namespace Go.Pl
structure Fs where
  a : Int
  code : Int
def fbS (s : ByteArray) (f : Fs) (n : Int) (chk : Int → Int) : Fs :=
  if f.code ≠ 0 then f else if ¬ rbOk s f.a n then ⟨f.a, 1⟩ else if chk (rbV s f.a n) ≠ 0 then ⟨f.a, chk (rbV s f.a n)⟩ else ⟨f.a + n, 0⟩
def fbV (s : ByteArray) (f : Fs) (n : Int) (chk : Int → Int) : Int :=
  if f.code ≠ 0 then 0 else if ¬ rbOk s f.a n then 0 else if chk (rbV s f.a n) ≠ 0 then 0 else rbV s f.a n
def fnS (s : ByteArray) (f : Fs) (chk : Int → Int) : Fs :=
  if f.code ≠ 0 then f else if ueE s f.a ≠ 0 then ⟨f.a, ueE s f.a⟩ else if chk (ueV s f.a) ≠ 0 then ⟨f.a, chk (ueV s f.a)⟩ else ⟨ueAt s f.a, 0⟩
def fnV (s : ByteArray) (f : Fs) (chk : Int → Int) : Int :=
  if f.code ≠ 0 then 0 else if ueE s f.a ≠ 0 then 0 else if chk (ueV s f.a) ≠ 0 then 0 else ueV s f.a
section
variable {s : ByteArray} {f : Fs} {n : Int} {chk : Int → Int}
theorem fb_err (h : f.code ≠ 0) : fbS s f n chk = f ∧ fbV s f n chk = 0 := by simp [fbS, fbV, h]
theorem fb_short (h : f.code = 0) (h1 : ¬ rbOk s f.a n) : fbS s f n chk = ⟨f.a, 1⟩ ∧ fbV s f n chk = 0 := by simp [fbS, fbV, h, h1]
theorem fb_bad (h : f.code = 0) (h1 : rbOk s f.a n) (h2 : chk (rbV s f.a n) ≠ 0) : fbS s f n chk = ⟨f.a, chk (rbV s f.a n)⟩ ∧ fbV s f n chk = 0 := by simp [fbS, fbV, h, h1, h2]
theorem fb_ok (h : f.code = 0) (h1 : rbOk s f.a n) (h2 : chk (rbV s f.a n) = 0) : fbS s f n chk = ⟨f.a + n, 0⟩ ∧ fbV s f n chk = rbV s f.a n := by simp [fbS, fbV, h, h1, h2]
theorem fn_err (h : f.code ≠ 0) : fnS s f chk = f ∧ fnV s f chk = 0 := by simp [fnS, fnV, h]
theorem fn_short (h : f.code = 0) (h1 : ueE s f.a ≠ 0) : fnS s f chk = ⟨f.a, ueE s f.a⟩ ∧ fnV s f chk = 0 := by simp [fnS, fnV, h, h1]
theorem fn_bad (h : f.code = 0) (h1 : ueE s f.a = 0) (h2 : chk (ueV s f.a) ≠ 0) : fnS s f chk = ⟨f.a, chk (ueV s f.a)⟩ ∧ fnV s f chk = 0 := by simp [fnS, fnV, h, h1, h2]
theorem fn_ok (h : f.code = 0) (h1 : ueE s f.a = 0) (h2 : chk (ueV s f.a) = 0) : fnS s f chk = ⟨ueAt s f.a, 0⟩ ∧ fnV s f chk = ueV s f.a := by simp [fnS, fnV, h, h1, h2]
end
def unl (p : Prop) [Decidable p] (c : Int) : Int := if p then 0 else c
def k183 (x : Int) : Int := unl (x = 183) 2
def k3 (x : Int) : Int := unl (x ≤ 3) 3
def k51 (x : Int) : Int := unl (x ≤ 51) 3
def k0 (_ : Int) : Int := 0
/-- six lengths of three bits -/
def lens6 (x : Int) (k : Nat) : List Int := (List.range k).map fun i : Nat => x / 2 ^ (3 * (5 - i)) % 8
def kLens (x : Int) : Int := unl (codeOk (lens6 x 6)) 4
def rh1 (s : ByteArray) (a : Int) : Fs := fbS s ⟨a, 0⟩ 8 k183
def rh2 (s : ByteArray) (a : Int) : Fs := fnS s (rh1 s a) k3
def rh3 (s : ByteArray) (a : Int) : Fs := fnS s (rh2 s a) k3
def rh4 (s : ByteArray) (a : Int) : Fs := fbS s (rh3 s a) 6 k51
def rh5 (s : ByteArray) (a : Int) : Fs := fbS s (rh4 s a) 2 k0
def rh6 (s : ByteArray) (a : Int) : Fs := fbS s (rh5 s a) 18 kLens
def rhW (s : ByteArray) (a : Int) : Int := fnV s (rh1 s a) k3
def rhH (s : ByteArray) (a : Int) : Int := fnV s (rh2 s a) k3
def rhQ (s : ByteArray) (a : Int) : Int := fbV s (rh3 s a) 6 k51
def rhF (s : ByteArray) (a : Int) : Int := fbV s (rh4 s a) 2 k0
def rhL (s : ByteArray) (a : Int) : Int := fbV s (rh5 s a) 18 kLens
theorem lens6_length (x : Int) (k : Nat) : (lens6 x k).length = k := by simp [lens6]
theorem lens6_succ (x : Int) (k : Nat) : lens6 x (k + 1) = lens6 x k ++ [x / 2 ^ (3 * (5 - k)) % 8] := by simp [lens6, List.range_succ]
end Go.Pl
namespace Go.Pl
/-- levels read pair by pair -/
def kLt (m : Int) (x : Int) : Int := unl (x < m) 5
def kLv (x : Int) : Int := unl (-16383 ≤ levelOf x ∧ levelOf x ≤ 16383) 5
structure Lv where
  f : Fs
  p : Int
  l : List Int
def lvF1 (s : ByteArray) (N : Int) (v : Lv) : Fs := fnS s v.f (kLt (N - v.p))
def lvP (s : ByteArray) (N : Int) (v : Lv) : Int := v.p + fnV s v.f (kLt (N - v.p))
def lvF2 (s : ByteArray) (N : Int) (v : Lv) : Fs := fnS s (lvF1 s N v) kLv
def lvL (s : ByteArray) (N : Int) (v : Lv) : Int := levelOf (fnV s (lvF1 s N v) kLv)
def lvStep (s : ByteArray) (N : Int) (v : Lv) : Lv :=
  if (lvF2 s N v).code = 0 then ⟨lvF2 s N v, lvP s N v + 1, v.l.set (lvP s N v).toNat (lvL s N v)⟩ else ⟨lvF2 s N v, lvP s N v, v.l⟩
def lvIt (s : ByteArray) (N : Int) (v : Lv) : Nat → Lv
  | 0 => v
  | k + 1 => if (lvIt s N v k).f.code ≠ 0 then lvIt s N v k else lvStep s N (lvIt s N v k)
end Go.Pl
