/- What each function of this part returns, for every argument that meets its premises. -/
import Derived.Test.YtepnknffaecbdaaGreatProg
import Derived.Test.YtepnknffaecbdaaGreatVSxA
import Derived.Test.YtepnknffaecbdaaGreatVTy
import Derived.Test.YtepnknffaecbdaaGreatVPlA
namespace Go.Proofs.YtepnknffaecbdaaGreat
open Go.Sx Go.Pl Go.RowKit

theorem slice_len {p : Option Addr} {n m c : Nat} (h : m = n) : Value.slice p n c = .slice p m c := by rw [h]
end Go.Proofs.YtepnknffaecbdaaGreat
