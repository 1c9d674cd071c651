/- What each function of this part returns, for every argument that meets its premises. -/
import Derived.Test.YtnehdmcilmlchaaFD
import Derived.Test.YtnehdmcilmlchaaPlY
namespace Go.Proofs.Ytnehdmcilmlchaa
open Go.Sx Go.Pl Go.RowKit

theorem fs_no {s : ByteArray} {c : Ca} {t : List (Int × Int)} {e : Int} (h : fsE s c t = e) (he : e ≠ 0) : Ending.returned (.tuple [.agg [.string s, .int .i64 (c).pos, .int .i64 (c).word, .int .i64 (c).hv].toArray, .int .i64 0, .int .i64 e].toArray) = .returned (.tuple [.agg [.string s, .int .i64 (fsC s c t).pos, .int .i64 (fsC s c t).word, .int .i64 (fsC s c t).hv].toArray, .int .i64 (fsV s c t), .int .i64 (fsE s c t)].toArray) := by
  subst h; simp only [fsC, fsV, if_neg he]
theorem fs_yes {s : ByteArray} {c : Ca} {t : List (Int × Int)} {a v : Int} (h : fsE s c t = 0) (ha : a = 8 * c.pos - c.hv + (t.getD (fsIx s c) default).1) (hv : v = (t.getD (fsIx s c) default).2) : Ending.returned (.tuple [.agg [.string s, .int .i64 (settledAt s a).pos, .int .i64 (settledAt s a).word, .int .i64 (settledAt s a).hv].toArray, .int .i64 v, .int .i64 0].toArray) = .returned (.tuple [.agg [.string s, .int .i64 (fsC s c t).pos, .int .i64 (fsC s c t).word, .int .i64 (fsC s c t).hv].toArray, .int .i64 (fsV s c t), .int .i64 (fsE s c t)].toArray) := by
  subst ha hv; simp only [fsC, fsV, h, if_pos]
theorem fsIx_lt (s : ByteArray) (c : Ca) : fsIx s c < 128 := by have := bits7 s (8 * c.pos - c.hv); unfold fsIx; omega

end Go.Proofs.Ytnehdmcilmlchaa
