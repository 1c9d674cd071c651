/- Plain numbers and lists, with no program in sight. -/
import Derived.Test.YtepnknffaecbdaaVPlW
/- Plain numbers: headers read are right; headers' bits. -/
namespace Go.Pl
end Go.Pl

/- Plain numbers: bits put, texts ended. -/
namespace Go.Pl
/-- bits put -/
def putOk (b : List Int) (n w : Int) : Prop := (0 ≤ w ∧ w ≤ 32) ∧ 0 ≤ n ∧ n / 2 ^ w.toNat = 0 ∧ (b.length : Int) + w ≤ 200000
instance (b : List Int) (n w : Int) : Decidable (putOk b n w) := by unfold putOk; infer_instance
end Go.Pl

/- Plain numbers: numbers by the table are numbers bit by bit. -/
namespace Go.Pl
end Go.Pl
