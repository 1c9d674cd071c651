/- Plain numbers and lists, with no program in sight. -/
import Derived.Test.YtnehdmcilmlchaaVPlW
/- Plain numbers: headers read are right; headers' bits. -/
namespace Go.Pl
theorem unl_zero {p : Prop} [Decidable p] {c : Int} (hc : c ≠ 0) (h : unl p c = 0) : p := by
  unfold unl at h; split at h
  · assumption
  · exact absurd h hc
theorem fb_code0 {s : ByteArray} {f : Fs} {n : Int} {chk : Int → Int} (h : (fbS s f n chk).code = 0) : f.code = 0 ∧ chk (fbV s f n chk) = 0 ∧ rbOk s f.a n := by
  by_cases h0 : f.code = 0
  · by_cases h1 : rbOk s f.a n
    · by_cases h2 : chk (rbV s f.a n) = 0
      · have e := fb_ok h0 h1 h2
        exact ⟨h0, by rw [e.2]; exact h2, h1⟩
      · rw [(fb_bad h0 h1 h2).1] at h; exact absurd h h2
    · rw [(fb_short (chk := chk) h0 h1).1] at h; exact absurd (show (1 : Int) = 0 from h) (by decide)
  · rw [(fb_err h0).1] at h; exact absurd h h0
theorem rh_head {s : ByteArray} {a : Int} (h : (rh6 s a).code = 0) : headOk (hdW s a) (hdH s a) (hdQ s a) (hdL s a) := by
  obtain ⟨d1, d2, d3, _, _, d6⟩ := hd_yes h
  have h6 := fb_code0 h
  have h5 := fb_code0 (show (fbS s (rh4 s a) 2 k0).code = 0 from h6.1)
  have h4 := fb_code0 (show (fbS s (rh3 s a) 6 k51).code = 0 from h5.1)
  have h3 := fn_code0 (show (fnS s (rh2 s a) k3).code = 0 from h4.1)
  have h2 := fn_code0 (show (fnS s (rh1 s a) k3).code = 0 from h3.1)
  have b1 : rhW s a ≤ 3 := unl_zero (by decide) h2.2.1
  have b2 : rhH s a ≤ 3 := unl_zero (by decide) h3.2.1
  have b3 : rhQ s a ≤ 51 := unl_zero (by decide) h4.2.1
  have b4 : codeOk (lens6 (rhL s a) 6) := unl_zero (by decide) h6.2.1
  have c1 : 0 ≤ rhW s a := (fnV_range s (rh1 s a) k3).1
  have c2 : 0 ≤ rhH s a := (fnV_range s (rh2 s a) k3).1
  have c3 : 0 ≤ rhQ s a := (fbV_range s (rh3 s a) 6 k51).1
  rw [d1, d2, d3, d6]
  refine ⟨⟨?_, ?_, ?_, ?_⟩, ⟨c3, b3⟩, b4⟩ <;> omega
end Go.Pl

/- Plain numbers: bits put, texts ended. -/
namespace Go.Pl
/-- bits put -/
def putOk (b : List Int) (n w : Int) : Prop := (0 ≤ w ∧ w ≤ 32) ∧ 0 ≤ n ∧ n / 2 ^ w.toNat = 0 ∧ (b.length : Int) + w ≤ 200000
instance (b : List Int) (n w : Int) : Decidable (putOk b n w) := by unfold putOk; infer_instance
end Go.Pl

/- Plain numbers: numbers by the table are numbers bit by bit. -/
namespace Go.Pl
end Go.Pl
