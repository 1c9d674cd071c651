/-
  No cell of these rows narrows 'for every input' (looked for: loops, veiled, ifaces, maps, wideKeys, modest, calm, conditions, laid).
  DERIVED. THE GIVEN ROWS OF THIS SEAT. 4 by the template 'for every input the law returns true; each argument reads behind the call as it read before'; 0 by the template 'total and deterministic' (their statements: YtepnknffaecbdaaGreatTotals.lean).
  GIVEN WITH THE SEED: the statements are not yours to turn. If you find one false, say at which input.
  Laid BY PROGRAM, IN A SANDBOX (cutbox-rows.mjs): the forced cells as the released guide's own fill.sh prints them over the translation 4cb01d3641925b56… (all of the seat's roots in one cut). By AI agents, Wed Nov 11 2026. No macro, syntax, notation, axiom, sorry.
-/
import Derived.Test.YtepnknffaecbdaaGreatChecked
import GoSem.Claim
import GoSem.ClaimJoined
import GoSem.ClaimMapViews
import Derived.JoinedTies
import Derived.KernelRfl
namespace Go.Proofs.YtepnknffaecbdaaGreat
/- THE CELL 'sum', in the pinned program and in every row, IS THE sha256 OF THE DUMP (.gsa) THAT YtepnknffaecbdaaGreatProg.lean LOADS. Nothing in Lean hashes anything: it is a label: what it is worth is what the hold of that sum in a sandbox is worth. -/
noncomputable def Tryz.pinned : Pinned := { name := "ytepnknffaecbdaagreat", sum := "4cb01d3641925b5642b734eab385162a0a77d72cb2d21d87cfa95c3ca519a6ec", checked := Tryz.checked }
namespace Rows
def none {H : Type} : Left H := { results := [], args := [] }

/-- 'laws.FnCausal': WHATEVER THE INPUT: true; the input reads as it did. -/
def fnCausalSpec : ChangeSpec := { name := "fnCausal", fn := fun _ => fun
  | [d] => { results := [.lit (.bool true)], args := [d] }
  | _ => none }
def fnCausalRow : OpenClaim := { program := "ytepnknffaecbdaagreat", sum := "4cb01d3641925b5642b734eab385162a0a77d72cb2d21d87cfa95c3ca519a6ec", func := "loop.example/g01613/laws.FnCausal", spec := "fnCausal", unfollowed := true, recurses := true, apart := false }
def FnCausalSaid : Prop := fnCausalRow.holds Tryz.pinned (OpenSpec.ofChange fnCausalSpec)

/-- ITS FALSE NEIGHBOUR: 'it returns false'. Refute it at one input. -/
def fnCausalWrong : ChangeSpec := { name := "fnCausal", fn := fun _ => fun
  | [d] => { results := [.lit (.bool false)], args := [d] }
  | _ => none }
def FnCausalWrongFalsely : Prop := fnCausalRow.holds Tryz.pinned (OpenSpec.ofChange fnCausalWrong)

/-- 'laws.FnLonger': WHATEVER THE INPUT: true; the input reads as it did. -/
def fnLongerSpec : ChangeSpec := { name := "fnLonger", fn := fun _ => fun
  | [d] => { results := [.lit (.bool true)], args := [d] }
  | _ => none }
def fnLongerRow : OpenClaim := { program := "ytepnknffaecbdaagreat", sum := "4cb01d3641925b5642b734eab385162a0a77d72cb2d21d87cfa95c3ca519a6ec", func := "loop.example/g01613/laws.FnLonger", spec := "fnLonger", unfollowed := true, recurses := true, apart := false }
def FnLongerSaid : Prop := fnLongerRow.holds Tryz.pinned (OpenSpec.ofChange fnLongerSpec)

/-- ITS FALSE NEIGHBOUR: 'it returns false'. Refute it at one input. -/
def fnLongerWrong : ChangeSpec := { name := "fnLonger", fn := fun _ => fun
  | [d] => { results := [.lit (.bool false)], args := [d] }
  | _ => none }
def FnLongerWrongFalsely : Prop := fnLongerRow.holds Tryz.pinned (OpenSpec.ofChange fnLongerWrong)

/-- 'laws.FnExactBuildRef': WHATEVER THE INPUT: true; the input reads as it did. -/
def fnExactBuildRefSpec : ChangeSpec := { name := "fnExactBuildRef", fn := fun _ => fun
  | [d] => { results := [.lit (.bool true)], args := [d] }
  | _ => none }
def fnExactBuildRefRow : OpenClaim := { program := "ytepnknffaecbdaagreat", sum := "4cb01d3641925b5642b734eab385162a0a77d72cb2d21d87cfa95c3ca519a6ec", func := "loop.example/g01613/laws.FnExactBuildRef", spec := "fnExactBuildRef", unfollowed := true, recurses := true, apart := false }
def FnExactBuildRefSaid : Prop := fnExactBuildRefRow.holds Tryz.pinned (OpenSpec.ofChange fnExactBuildRefSpec)

/-- ITS FALSE NEIGHBOUR: 'it returns false'. Refute it at one input. -/
def fnExactBuildRefWrong : ChangeSpec := { name := "fnExactBuildRef", fn := fun _ => fun
  | [d] => { results := [.lit (.bool false)], args := [d] }
  | _ => none }
def FnExactBuildRefWrongFalsely : Prop := fnExactBuildRefRow.holds Tryz.pinned (OpenSpec.ofChange fnExactBuildRefWrong)

/-- 'laws.FnExactRefDecode': WHATEVER THE INPUT: true; the input reads as it did. -/
def fnExactRefDecodeSpec : ChangeSpec := { name := "fnExactRefDecode", fn := fun _ => fun
  | [d] => { results := [.lit (.bool true)], args := [d] }
  | _ => none }
def fnExactRefDecodeRow : OpenClaim := { program := "ytepnknffaecbdaagreat", sum := "4cb01d3641925b5642b734eab385162a0a77d72cb2d21d87cfa95c3ca519a6ec", func := "loop.example/g01613/laws.FnExactRefDecode", spec := "fnExactRefDecode", unfollowed := true, recurses := true, apart := false }
def FnExactRefDecodeSaid : Prop := fnExactRefDecodeRow.holds Tryz.pinned (OpenSpec.ofChange fnExactRefDecodeSpec)

/-- ITS FALSE NEIGHBOUR: 'it returns false'. Refute it at one input. -/
def fnExactRefDecodeWrong : ChangeSpec := { name := "fnExactRefDecode", fn := fun _ => fun
  | [d] => { results := [.lit (.bool false)], args := [d] }
  | _ => none }
def FnExactRefDecodeWrongFalsely : Prop := fnExactRefDecodeRow.holds Tryz.pinned (OpenSpec.ofChange fnExactRefDecodeWrong)

/- THE SECOND FORM. 'bulk': how many values and letters a reading holds, each counted each time it is reached (what is shared counts as often as it is met; a slice's spare places count too). A statement '..UptoSaid' is the law's where the arguments, and the package variables that the reading takes, are together of bulk at most 1048576: NARROWER than '..Said'. Prove '..Said' where nothing that the law and all that it calls make is longer than what came in: it says more and counts as full. Else prove '..UptoSaid'. A law counts once. -/
mutual
def uptoBulk {H : Type} : DataW H → Nat
  | .lit (.string bytes) => bytes.length + 1
  | .lit _ => 1
  | .nil => 1
  | .ptr d => uptoBulk d + 1
  | .slice elems spare => uptoBulkAll elems + uptoBulkAll spare + 1
  | .agg parts => uptoBulkAll parts + 1
  | .iface _ d => uptoBulk d + 1
  | .map entries => uptoBulkEntries entries + 1
  | .held _ => 1
def uptoBulkAll {H : Type} : List (DataW H) → Nat
  | [] => 0
  | d :: r => uptoBulk d + uptoBulkAll r
def uptoBulkEntries {H : Type} : List (Lit × DataW H) → Nat
  | [] => 0
  | x :: r => uptoBulkEntry x + uptoBulkEntries r
def uptoBulkEntry {H : Type} : Lit × DataW H → Nat
  | (.string bytes, d) => bytes.length + uptoBulk d + 1
  | (_, d) => uptoBulk d + 1
 end
def uptoSmall : (H : Type) → List (DataW H) → Bool := fun _ ds => decide (uptoBulkAll ds ≤ 1048576)
def OpenSpec.upto (s : _root_.Go.ChangeSpec) : _root_.Go.OpenSpec := { _root_.Go.OpenSpec.ofChange s with cond := some uptoSmall }

/-- 'laws.FnCausal', WHERE WHAT IT READS IS OF BULK AT MOST 1048576: true; the input reads as it did. -/
def fnCausalUptoRow : OpenClaim := { program := "ytepnknffaecbdaagreat", sum := "4cb01d3641925b5642b734eab385162a0a77d72cb2d21d87cfa95c3ca519a6ec", func := "loop.example/g01613/laws.FnCausal", spec := "fnCausal", unfollowed := true, recurses := true, apart := false, narrowed := true }
def FnCausalUptoSaid : Prop := fnCausalUptoRow.holds Tryz.pinned (OpenSpec.upto fnCausalSpec)

/-- 'laws.FnLonger', WHERE WHAT IT READS IS OF BULK AT MOST 1048576: true; the input reads as it did. -/
def fnLongerUptoRow : OpenClaim := { program := "ytepnknffaecbdaagreat", sum := "4cb01d3641925b5642b734eab385162a0a77d72cb2d21d87cfa95c3ca519a6ec", func := "loop.example/g01613/laws.FnLonger", spec := "fnLonger", unfollowed := true, recurses := true, apart := false, narrowed := true }
def FnLongerUptoSaid : Prop := fnLongerUptoRow.holds Tryz.pinned (OpenSpec.upto fnLongerSpec)

/-- 'laws.FnExactBuildRef', WHERE WHAT IT READS IS OF BULK AT MOST 1048576: true; the input reads as it did. -/
def fnExactBuildRefUptoRow : OpenClaim := { program := "ytepnknffaecbdaagreat", sum := "4cb01d3641925b5642b734eab385162a0a77d72cb2d21d87cfa95c3ca519a6ec", func := "loop.example/g01613/laws.FnExactBuildRef", spec := "fnExactBuildRef", unfollowed := true, recurses := true, apart := false, narrowed := true }
def FnExactBuildRefUptoSaid : Prop := fnExactBuildRefUptoRow.holds Tryz.pinned (OpenSpec.upto fnExactBuildRefSpec)

/-- 'laws.FnExactRefDecode', WHERE WHAT IT READS IS OF BULK AT MOST 1048576: true; the input reads as it did. -/
def fnExactRefDecodeUptoRow : OpenClaim := { program := "ytepnknffaecbdaagreat", sum := "4cb01d3641925b5642b734eab385162a0a77d72cb2d21d87cfa95c3ca519a6ec", func := "loop.example/g01613/laws.FnExactRefDecode", spec := "fnExactRefDecode", unfollowed := true, recurses := true, apart := false, narrowed := true }
def FnExactRefDecodeUptoSaid : Prop := fnExactRefDecodeUptoRow.holds Tryz.pinned (OpenSpec.upto fnExactRefDecodeSpec)

end Rows
end Go.Proofs.YtepnknffaecbdaaGreat
