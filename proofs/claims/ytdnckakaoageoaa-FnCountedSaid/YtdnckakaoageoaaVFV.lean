/- What each function of this part returns, for every argument that meets its premises. -/
import Derived.Test.YtdnckakaoageoaaProg
import Derived.Test.YtdnckakaoageoaaVSxF
import Derived.Test.YtdnckakaoageoaaVPlU
namespace Go.Proofs.Ytdnckakaoageoaa
open Go.Sx Go.Pl Go.RowKit

theorem manyOf_in (e : Bool) : manyOf e = 1 ∨ manyOf e = 4 := by cases e <;> simp [manyOf]

end Go.Proofs.Ytdnckakaoageoaa
