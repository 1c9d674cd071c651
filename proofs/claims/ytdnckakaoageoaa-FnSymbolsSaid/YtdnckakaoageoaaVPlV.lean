/- Plain numbers and lists, with no program in sight. -/
import Derived.Test.YtdnckakaoageoaaVPlW
/- Plain numbers: headers read are right; headers' bits. -/
namespace Go.Pl
/-- moving a cache forward -/
theorem sk_to {s : ByteArray} {c : Ca} {n : Int} (h : caOk s c) (hn : 0 ≤ n ∧ n ≤ 16) (hf : 8 * c.pos - c.hv + n ≤ 8 * s.size) : caOk s (skC s c n) ∧ 8 * (skC s c n).pos - (skC s c n).hv = 8 * c.pos - c.hv + n := by
  have hi := place_in h
  exact sk_ok ((sk_iff ⟨h, hn⟩).2 ⟨hi, by omega, by rw [remOf_in hi]; omega⟩)
/-- a symbol by the table is the symbol bit by bit -/
theorem fs_read {s : ByteArray} {c : Ca} {l : List Int} (h : caOk s c) (hl : codeOk l) :
    fsV s c (symTab l) = rsV s (8 * c.pos - c.hv) l ∧ fsE s c (symTab l) = rsE s (8 * c.pos - c.hv) l ∧ placeOf s (fsC s c (symTab l)) = rsAt s (8 * c.pos - c.hv) l := by
  have hi := place_in h
  have hb := bits7 s (8 * c.pos - c.hv)
  have hix : fsIx s c < 128 := by unfold fsIx; omega
  have hg := symTab_get hl hix
  have hic : ((fsIx s c : Nat) : Int) = bitsOf s (8 * c.pos - c.hv) 7 := by unfold fsIx; omega
  have hsy : symOf l (fsIx s c) = symAt s (8 * c.pos - c.hv) l := by unfold symAt; rw [hic]
  have hh := (sym_hit hl hix).1
  have ho := codeOk_at hl (symOf l (fsIx s c))
  have e1 : ((symTab l).getD (fsIx s c) default).1 = l.getD (symAt s (8 * c.pos - c.hv) l) 0 := by rw [hg, ← hsy]; rfl
  have e2 : ((symTab l).getD (fsIx s c) default).2 = (symAt s (8 * c.pos - c.hv) l : Int) := by rw [hg, ← hsy]; rfl
  rw [hsy] at hh ho
  have hr : 1 ≤ ((symTab l).getD (fsIx s c) default).1 ∧ ((symTab l).getD (fsIx s c) default).1 ≤ 7 := by rw [e1]; exact ⟨hh.2, ho.2⟩
  by_cases hs : 8 * c.pos - c.hv + ((symTab l).getD (fsIx s c) default).1 > 8 * s.size
  · have hE := fsE_short h (symTab_len hl) hr hs
    have hno : ¬ rsOk s (8 * c.pos - c.hv) l := fun h2 => by
      have h3 := h2.2.2.2; rw [remOf_in hi] at h3; rw [e1] at hs; omega
    refine ⟨?_, ?_, ?_⟩
    · unfold fsV rsV; rw [if_neg (by rw [hE]; decide), if_neg hno]
    · rw [hE]; unfold rsE; rw [if_pos hl, if_neg hno]
    · unfold fsC rsAt; rw [if_neg (by rw [hE]; decide), if_neg hno, place_of h]
  · have hE := fsE_yes h (symTab_len hl) hr hs
    have hok : rsOk s (8 * c.pos - c.hv) l := ⟨hl, hi, by rw [← e1]; omega, by rw [remOf_in hi, ← e1]; omega⟩
    have hse := settled_ok (s := s) (a := 8 * c.pos - c.hv + ((symTab l).getD (fsIx s c) default).1) (by omega)
    refine ⟨?_, ?_, ?_⟩
    · unfold fsV rsV; rw [if_pos hE, if_pos hok, e2]
    · rw [hE]; unfold rsE; rw [if_pos hl, if_pos hok]
    · unfold fsC rsAt; rw [if_pos hE, if_pos hok, place_of hse.1, hse.2.1, e1]
end Go.Pl

/- Plain numbers: bits put, texts ended. -/
namespace Go.Pl
/-- bits put -/
def putOk (b : List Int) (n w : Int) : Prop := (0 ≤ w ∧ w ≤ 32) ∧ 0 ≤ n ∧ n / 2 ^ w.toNat = 0 ∧ (b.length : Int) + w ≤ 200000
instance (b : List Int) (n w : Int) : Decidable (putOk b n w) := by unfold putOk; infer_instance
end Go.Pl
