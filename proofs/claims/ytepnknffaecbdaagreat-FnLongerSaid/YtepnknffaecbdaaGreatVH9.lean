/- What each function of this part returns, for every argument that meets its premises. -/
import Derived.Test.YtepnknffaecbdaaGreatProg
import Derived.Test.YtepnknffaecbdaaGreatVSxA
import Derived.Test.YtepnknffaecbdaaGreatVTy
import Derived.Test.YtepnknffaecbdaaGreatVPlA
import Derived.Test.YtepnknffaecbdaaGreatVFF
import Derived.Test.YtepnknffaecbdaaGreatVFH
import Derived.Test.YtepnknffaecbdaaGreatVFJ
import Derived.Test.YtepnknffaecbdaaGreatVFM
import Derived.Test.YtepnknffaecbdaaGreatVFV
import Derived.Test.YtepnknffaecbdaaGreatVH6
import Derived.Test.YtepnknffaecbdaaGreatVH8
import Derived.Test.YtepnknffaecbdaaGreatVHA
namespace Go.Proofs.YtepnknffaecbdaaGreat
open Go.Sx Go.Pl Go.RowKit
section
variable {P : Program} {n : Nat} {E : Env} {ty T T' : TypeId} {x y : Operand}
end

end Go.Proofs.YtepnknffaecbdaaGreat
