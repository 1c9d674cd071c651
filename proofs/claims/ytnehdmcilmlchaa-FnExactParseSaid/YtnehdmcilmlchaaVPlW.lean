/- Plain numbers and lists, with no program in sight. -/
import Derived.Test.YtnehdmcilmlchaaVPlY
/- Plain numbers: blocks read. -/
namespace Go.Pl
theorem fn_code0 {s : ByteArray} {f : Fs} {chk : Int → Int} (h : (fnS s f chk).code = 0) : f.code = 0 ∧ chk (fnV s f chk) = 0 ∧ ueE s f.a = 0 ∧ fnV s f chk = ueV s f.a := by
  by_cases h0 : f.code = 0
  · by_cases h1 : ueE s f.a = 0
    · by_cases h2 : chk (ueV s f.a) = 0
      · have e := fn_ok h0 h1 h2
        exact ⟨h0, by rw [e.2]; exact h2, h1, e.2⟩
      · rw [(fn_bad h0 h1 h2).1] at h; exact absurd h h2
    · rw [(fn_short (chk := chk) h0 h1).1] at h; exact absurd h h1
  · rw [(fn_err h0).1] at h; exact absurd h h0
theorem lv_room {s : ByteArray} {N : Int} {v : Lv} (hv : lvOk N v) (h : (lvF2 s N v).code = 0) : 0 ≤ lvP s N v ∧ lvP s N v < N := by
  have h1 := (fn_code0 h).1
  have h2 := fn_code0 (show (fnS s v.f (kLt (N - v.p))).code = 0 from h1)
  have h3 := kLt_le h2.2.1
  have h4 := fnV_range s v.f (kLt (N - v.p))
  obtain ⟨h5, h6, h7⟩ := hv
  unfold lvP; omega
theorem lvOk_step {s : ByteArray} {N : Int} {v : Lv} (hv : lvOk N v) : lvOk N (lvStep s N v) := by
  unfold lvStep
  split
  · next h =>
    have h1 := lv_room hv h
    exact ⟨by show 0 ≤ lvP s N v + 1; omega, by show lvP s N v + 1 ≤ N; omega, by rw [List.length_set]; exact hv.2.2⟩
  · have h1 := lvP_range (s := s) hv
    exact ⟨by show 0 ≤ lvP s N v; have := hv.1; omega, h1.2, hv.2.2⟩
def lv0 (f : Fs) (N : Int) : Lv := ⟨f, 0, List.replicate N.toNat 0⟩
theorem lv0_ok {f : Fs} {N : Int} (h : 0 ≤ N) : lvOk N (lv0 f N) := ⟨Int.le_refl _, h, by unfold lv0; rw [List.length_replicate]; omega⟩
def lvRes (s : ByteArray) (f : Fs) (N : Int) : Lv :=
  if fbV s f 1 k0 = 0 then lv0 (fbS s f 1 k0) N else lvIt s N (lv0 (fnS s (fbS s f 1 k0) (kLt N)) N) (1 + fnV s (fbS s f 1 k0) (kLt N)).toNat
theorem lv_done {s : ByteArray} {N : Int} {v : Lv} {k m : Nat} (hk : k ≤ m) (h : k = m ∨ (lvIt s N v k).f.code ≠ 0) : lvIt s N v m = lvIt s N v k := by
  rcases h with rfl | h
  · rfl
  · obtain ⟨d, rfl⟩ : ∃ d, m = k + d := ⟨m - k, by omega⟩
    exact lvIt_stop h d
theorem lvIt_ok {s : ByteArray} {N : Int} {v : Lv} (hv : lvOk N v) : ∀ k : Nat, lvOk N (lvIt s N v k)
  | 0 => hv
  | k + 1 => by
    rw [lvIt]; split
    · exact lvIt_ok hv k
    · exact lvOk_step (lvIt_ok hv k)
def sizeOk (n : Int) : Prop := n = 4 ∨ n = 8
instance (n : Int) : Decidable (sizeOk n) := by unfold sizeOk; infer_instance
theorem size_sq {n : Int} (h : sizeOk n) : n * n = 16 ∨ n * n = 64 := by rcases h with rfl | rfl <;> simp
def rbkR (s : ByteArray) (a : Int) (xs : List Int) (n : Int) : Lv := lvRes s ⟨rsAt s a xs, 0⟩ (n * n)
def rbkE (s : ByteArray) (a : Int) (xs : List Int) (n : Int) : Int := if ¬ sizeOk n then 5 else if rsE s a xs ≠ 0 then rsE s a xs else (rbkR s a xs n).f.code
def rbkA (s : ByteArray) (a : Int) (xs : List Int) (n : Int) : Int := if ¬ sizeOk n then a else if rsE s a xs ≠ 0 then a else (rbkR s a xs n).f.a
def rbkM (s : ByteArray) (a : Int) (xs : List Int) (n : Int) : Int := if rbkE s a xs n = 0 then rsV s a xs else 0
def rbkL (s : ByteArray) (a : Int) (xs : List Int) (n : Int) : List Int := if rbkE s a xs n = 0 then (rbkR s a xs n).l else []
section
variable {s : ByteArray} {a : Int} {xs : List Int} {n : Int}
theorem rbk_size (h : ¬ sizeOk n) : rbkE s a xs n = 5 ∧ rbkA s a xs n = a ∧ rbkM s a xs n = 0 ∧ rbkL s a xs n = [] := by
  have e : rbkE s a xs n = 5 := if_pos h
  exact ⟨e, if_pos h, by unfold rbkM; rw [e]; rfl, by unfold rbkL; rw [e]; rfl⟩
theorem rbk_sym (h : sizeOk n) (h1 : rsE s a xs ≠ 0) : rbkE s a xs n = rsE s a xs ∧ rbkA s a xs n = a ∧ rbkM s a xs n = 0 ∧ rbkL s a xs n = [] := by
  have e : rbkE s a xs n = rsE s a xs := by unfold rbkE; rw [if_neg (fun h2 => h2 h), if_pos h1]
  exact ⟨e, by unfold rbkA; rw [if_neg (fun h2 => h2 h), if_pos h1], by unfold rbkM; rw [e, if_neg h1], by unfold rbkL; rw [e, if_neg h1]⟩
theorem rbk_lv (h : sizeOk n) (h1 : rsE s a xs = 0) : rbkE s a xs n = (rbkR s a xs n).f.code ∧ rbkA s a xs n = (rbkR s a xs n).f.a := by
  exact ⟨by unfold rbkE; rw [if_neg (fun h2 => h2 h), if_neg (fun h2 => h2 h1)], by unfold rbkA; rw [if_neg (fun h2 => h2 h), if_neg (fun h2 => h2 h1)]⟩
theorem rbk_bad (h : rbkE s a xs n ≠ 0) : rbkM s a xs n = 0 ∧ rbkL s a xs n = [] := ⟨if_neg h, if_neg h⟩
theorem rbk_good (h : rbkE s a xs n = 0) : rbkM s a xs n = rsV s a xs ∧ rbkL s a xs n = (rbkR s a xs n).l := ⟨if_pos h, if_pos h⟩
theorem rsAt_bad (h : rsE s a xs ≠ 0) : rsAt s a xs = a := by
  unfold rsAt; rw [if_neg]
  intro h1; apply h; unfold rsE; rw [if_pos h1.1, if_pos h1]
theorem lvRes_len (f : Fs) {N : Int} (h : 0 ≤ N) : ((lvRes s f N).l.length : Int) = N := by
  unfold lvRes; split
  · exact (lv0_ok h).2.2
  · exact (lvIt_ok (lv0_ok h) _).2.2
theorem rbkL_len (h : sizeOk n ∨ True) : ((rbkL s a xs n).length : Int) ≤ 64 := by
  unfold rbkL; split
  · next h5 =>
    by_cases hz : sizeOk n
    · have e := size_sq hz
      have := lvRes_len (s := s) (N := n * n) ⟨rsAt s a xs, 0⟩ (by omega)
      unfold rbkR; omega
    · rw [(rbk_size hz).1] at h5; omega
  · simp
end
/-- a header out of a cache -/
def fhOk (s : ByteArray) (c : Ca) (t : List (Int × Int)) : Prop := caOk s c ∧ t = ueTab
instance (s : ByteArray) (c : Ca) (t : List (Int × Int)) : Decidable (fhOk s c t) := by unfold fhOk; infer_instance
theorem hdL_len (s : ByteArray) (a : Int) : (hdL s a).length ≤ 6 := by unfold hdL; split <;> simp [lens6_length]
end Go.Pl
namespace Go.Pl
theorem lvRes_zero {s : ByteArray} {f : Fs} {N : Int} (h : fbV s f 1 k0 = 0) : lvRes s f N = lv0 (fbS s f 1 k0) N := if_pos h
theorem lvRes_more {s : ByteArray} {f : Fs} {N : Int} (h : fbV s f 1 k0 ≠ 0) : lvRes s f N = lvIt s N (lv0 (fnS s (fbS s f 1 k0) (kLt N)) N) (1 + fnV s (fbS s f 1 k0) (kLt N)).toNat := if_neg h
theorem lvRes_err {s : ByteArray} {f : Fs} {N : Int} (h : fbV s f 1 k0 ≠ 0) (h1 : (fnS s (fbS s f 1 k0) (kLt N)).code ≠ 0) : lvRes s f N = lv0 (fnS s (fbS s f 1 k0) (kLt N)) N := by
  rw [lvRes_more h]; exact lv_done (k := 0) (Nat.zero_le _) (.inr h1)
end Go.Pl
