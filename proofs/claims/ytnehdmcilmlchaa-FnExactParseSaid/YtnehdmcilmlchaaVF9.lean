/- What each function of this part returns, for every argument that meets its premises. -/
import Derived.Test.YtnehdmcilmlchaaProg
import Derived.Test.YtnehdmcilmlchaaVSxF
import Derived.Test.YtnehdmcilmlchaaVPlX
import Derived.Test.YtnehdmcilmlchaaVF2
import Derived.Test.YtnehdmcilmlchaaVF8
namespace Go.Proofs.Ytnehdmcilmlchaa
open Go.Sx Go.Pl Go.RowKit
theorem slice_len {p : Option Addr} {n m c : Nat} (h : m = n) : Value.slice p n c = .slice p m c := by rw [h]
end Go.Proofs.Ytnehdmcilmlchaa
