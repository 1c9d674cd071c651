/- Plain numbers and lists, with no program in sight. -/
import Derived.Test.YtnehdmcilmlchaaVPlY
/- Plain numbers: blocks read. -/
namespace Go.Pl
theorem fn_code0 {s : ByteArray} {f : Fs} {chk : Int → Int} (h : (fnS s f chk).code = 0) : f.code = 0 ∧ chk (fnV s f chk) = 0 ∧ ueE s f.a = 0 ∧ fnV s f chk = ueV s f.a := by
  by_cases h0 : f.code = 0
  · by_cases h1 : ueE s f.a = 0
    · by_cases h2 : chk (ueV s f.a) = 0
      · have e := fn_ok h0 h1 h2
        exact ⟨h0, by rw [e.2]; exact h2, h1, e.2⟩
      · rw [(fn_bad h0 h1 h2).1] at h; exact absurd h h2
    · rw [(fn_short (chk := chk) h0 h1).1] at h; exact absurd h h1
  · rw [(fn_err h0).1] at h; exact absurd h h0
def sizeOk (n : Int) : Prop := n = 4 ∨ n = 8
instance (n : Int) : Decidable (sizeOk n) := by unfold sizeOk; infer_instance
section
variable {s : ByteArray} {a : Int} {xs : List Int} {n : Int}
end
/-- places in a text as fields are read -/
theorem fb_in {s : ByteArray} {f : Fs} {n : Int} {chk : Int → Int} (h : 0 ≤ f.a ∧ f.a ≤ 8 * s.size) : 0 ≤ (fbS s f n chk).a ∧ (fbS s f n chk).a ≤ 8 * s.size := by
  by_cases h0 : f.code = 0
  · by_cases h1 : rbOk s f.a n
    · by_cases h2 : chk (rbV s f.a n) = 0
      · rw [(fb_ok h0 h1 h2).1]; have h3 := h1.2.2; rw [remOf_in h] at h3; have h4 := h1.2.1; show 0 ≤ f.a + n ∧ f.a + n ≤ 8 * s.size; omega
      · rw [(fb_bad h0 h1 h2).1]; exact h
    · rw [(fb_short (chk := chk) h0 h1).1]; exact h
  · rw [(fb_err h0).1]; exact h
theorem fn_in {s : ByteArray} {f : Fs} {chk : Int → Int} (h : 0 ≤ f.a ∧ f.a ≤ 8 * s.size) : 0 ≤ (fnS s f chk).a ∧ (fnS s f chk).a ≤ 8 * s.size := by
  by_cases h0 : f.code = 0
  · by_cases h1 : ueE s f.a = 0
    · by_cases h2 : chk (ueV s f.a) = 0
      · rw [(fn_ok h0 h1 h2).1]; have := ueAt_in h; show 0 ≤ ueAt s f.a ∧ ueAt s f.a ≤ 8 * s.size; omega
      · rw [(fn_bad h0 h1 h2).1]; exact h
    · rw [(fn_short (chk := chk) h0 h1).1]; exact h
  · rw [(fn_err h0).1]; exact h
theorem rh_in {s : ByteArray} {a : Int} (h : 0 ≤ a ∧ a ≤ 8 * s.size) : 0 ≤ (rh6 s a).a ∧ (rh6 s a).a ≤ 8 * s.size :=
  fb_in (fb_in (fb_in (fn_in (fn_in (fb_in (f := ⟨a, 0⟩) h)))))
/-- a header out of a cache -/
def fhOk (s : ByteArray) (c : Ca) (t : List (Int × Int)) : Prop := caOk s c ∧ t = ueTab
instance (s : ByteArray) (c : Ca) (t : List (Int × Int)) : Decidable (fhOk s c t) := by unfold fhOk; infer_instance
def fhC (s : ByteArray) (c : Ca) (t : List (Int × Int)) : Ca := if fhOk s c t then settledAt s (rh6 s (8 * c.pos - c.hv)).a else c
def fhE (s : ByteArray) (c : Ca) (t : List (Int × Int)) : Int := if fhOk s c t then (rh6 s (8 * c.pos - c.hv)).code else 1
def fhW (s : ByteArray) (c : Ca) (t : List (Int × Int)) : Int := if fhOk s c t then hdW s (8 * c.pos - c.hv) else 0
def fhH (s : ByteArray) (c : Ca) (t : List (Int × Int)) : Int := if fhOk s c t then hdH s (8 * c.pos - c.hv) else 0
def fhQ (s : ByteArray) (c : Ca) (t : List (Int × Int)) : Int := if fhOk s c t then hdQ s (8 * c.pos - c.hv) else 0
def fhB (s : ByteArray) (c : Ca) (t : List (Int × Int)) : Bool := if fhOk s c t then hdB s (8 * c.pos - c.hv) else false
def fhD (s : ByteArray) (c : Ca) (t : List (Int × Int)) : Bool := if fhOk s c t then hdD s (8 * c.pos - c.hv) else false
def fhL (s : ByteArray) (c : Ca) (t : List (Int × Int)) : List Int := if fhOk s c t then hdL s (8 * c.pos - c.hv) else []
theorem fh_no {s : ByteArray} {c : Ca} {t : List (Int × Int)} (h : ¬ fhOk s c t) : fhC s c t = c ∧ fhE s c t = 1 ∧ fhW s c t = 0 ∧ fhH s c t = 0 ∧ fhQ s c t = 0 ∧ fhB s c t = false ∧ fhD s c t = false ∧ fhL s c t = [] := by
  simp [fhC, fhE, fhW, fhH, fhQ, fhB, fhD, fhL, h]
theorem fh_yes {s : ByteArray} {c : Ca} {t : List (Int × Int)} (h : fhOk s c t) : fhC s c t = settledAt s (rh6 s (8 * c.pos - c.hv)).a ∧ fhE s c t = (rh6 s (8 * c.pos - c.hv)).code ∧ fhW s c t = hdW s (8 * c.pos - c.hv) ∧ fhH s c t = hdH s (8 * c.pos - c.hv) ∧ fhQ s c t = hdQ s (8 * c.pos - c.hv) ∧ fhB s c t = hdB s (8 * c.pos - c.hv) ∧ fhD s c t = hdD s (8 * c.pos - c.hv) ∧ fhL s c t = hdL s (8 * c.pos - c.hv) := by
  simp [fhC, fhE, fhW, fhH, fhQ, fhB, fhD, fhL, h]
theorem hdL_len (s : ByteArray) (a : Int) : (hdL s a).length ≤ 6 := by unfold hdL; split <;> simp [lens6_length]
end Go.Pl
namespace Go.Pl
end Go.Pl
