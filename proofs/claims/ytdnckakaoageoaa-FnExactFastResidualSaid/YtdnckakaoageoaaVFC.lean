/- What each function of this part returns, for every argument that meets its premises. -/
import Derived.Test.YtdnckakaoageoaaProg
import Derived.Test.YtdnckakaoageoaaVSxF
import Derived.Test.YtdnckakaoageoaaVPlX
import Derived.Test.YtdnckakaoageoaaVF1
import Derived.Test.YtdnckakaoageoaaVF8
import Derived.Test.YtdnckakaoageoaaVF9
namespace Go.Proofs.Ytdnckakaoageoaa
open Go.Sx Go.Pl Go.RowKit
theorem u64_in {z : Int} (h : 0 ≤ z ∧ z ≤ 9223372036854775807) : IntKind.u64.wrap z = z := by
  simp [IntKind.wrap, IntKind.signed, IntKind.bits]; omega

end Go.Proofs.Ytdnckakaoageoaa
