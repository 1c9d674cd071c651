/- Plain numbers and lists, with no program in sight. -/
import Derived.Test.YtepnknffaecbdaaVPlY
/- Plain numbers: blocks read. -/
namespace Go.Pl
def sizeOk (n : Int) : Prop := n = 4 ∨ n = 8
instance (n : Int) : Decidable (sizeOk n) := by unfold sizeOk; infer_instance
section
variable {s : ByteArray} {a : Int} {xs : List Int} {n : Int}
end
/-- a header out of a cache -/
def fhOk (s : ByteArray) (c : Ca) (t : List (Int × Int)) : Prop := caOk s c ∧ t = ueTab
instance (s : ByteArray) (c : Ca) (t : List (Int × Int)) : Decidable (fhOk s c t) := by unfold fhOk; infer_instance
end Go.Pl
namespace Go.Pl
end Go.Pl
