/-
  No cell of these rows narrows 'for every input' (looked for: loops, veiled, ifaces, maps, wideKeys, modest, calm, conditions, laid).
  DERIVED. THE GIVEN ROWS OF THIS SEAT. 8 by the template 'for every input the law returns true; each argument reads behind the call as it read before'; 0 by the template 'total and deterministic' (their statements: YtepnknffaecbdaaTotals.lean).
  GIVEN WITH THE SEED: the statements are not yours to turn. If you find one false, say at which input.
  Laid BY PROGRAM, IN A SANDBOX (cutbox-rows.mjs): the forced cells as the released guide's own fill.sh prints them over the translation 4ecfae73cc9fc31b… (all of the seat's roots in one cut). By AI agents, Wed Nov 11 2026. No macro, syntax, notation, axiom, sorry.
-/
import Derived.Test.YtepnknffaecbdaaChecked
import GoSem.Claim
import GoSem.ClaimJoined
import GoSem.ClaimMapViews
import Derived.JoinedTies
import Derived.KernelRfl
namespace Go.Proofs.Ytepnknffaecbdaa
/- THE CELL 'sum', in the pinned program and in every row, IS THE sha256 OF THE DUMP (.gsa) THAT YtepnknffaecbdaaProg.lean LOADS. Nothing in Lean hashes anything: it is a label: what it is worth is what the hold of that sum in a sandbox is worth. -/
noncomputable def Try.pinned : Pinned := { name := "ytepnknffaecbdaa", sum := "4ecfae73cc9fc31baeb0b1d03edb8cc83812fe60198f33aef3651dfd697a2b5a", checked := Try.checked }
namespace Rows
def none {H : Type} : Left H := { results := [], args := [] }

/-- 'laws.FnTables': WHATEVER THE INPUT: true; the input reads as it did. -/
def fnTablesSpec : ChangeSpec := { name := "fnTables", fn := fun _ => fun
  | [d] => { results := [.lit (.bool true)], args := [d] }
  | _ => none }
def fnTablesRow : OpenClaim := { program := "ytepnknffaecbdaa", sum := "4ecfae73cc9fc31baeb0b1d03edb8cc83812fe60198f33aef3651dfd697a2b5a", func := "loop.example/g01613/laws.FnTables", spec := "fnTables", apart := false }
def FnTablesSaid : Prop := fnTablesRow.holds Try.pinned (OpenSpec.ofChange fnTablesSpec)

/-- ITS FALSE NEIGHBOUR: 'it returns false'. Refute it at one input. -/
def fnTablesWrong : ChangeSpec := { name := "fnTables", fn := fun _ => fun
  | [d] => { results := [.lit (.bool false)], args := [d] }
  | _ => none }
def FnTablesWrongFalsely : Prop := fnTablesRow.holds Try.pinned (OpenSpec.ofChange fnTablesWrong)

/-- 'laws.FnWrongHead': WHATEVER THE INPUT: true; the input reads as it did. -/
def fnWrongHeadSpec : ChangeSpec := { name := "fnWrongHead", fn := fun _ => fun
  | [d] => { results := [.lit (.bool true)], args := [d] }
  | _ => none }
def fnWrongHeadRow : OpenClaim := { program := "ytepnknffaecbdaa", sum := "4ecfae73cc9fc31baeb0b1d03edb8cc83812fe60198f33aef3651dfd697a2b5a", func := "loop.example/g01613/laws.FnWrongHead", spec := "fnWrongHead", unfollowed := true, recurses := true, apart := false }
def FnWrongHeadSaid : Prop := fnWrongHeadRow.holds Try.pinned (OpenSpec.ofChange fnWrongHeadSpec)

/-- ITS FALSE NEIGHBOUR: 'it returns false'. Refute it at one input. -/
def fnWrongHeadWrong : ChangeSpec := { name := "fnWrongHead", fn := fun _ => fun
  | [d] => { results := [.lit (.bool false)], args := [d] }
  | _ => none }
def FnWrongHeadWrongFalsely : Prop := fnWrongHeadRow.holds Try.pinned (OpenSpec.ofChange fnWrongHeadWrong)

/-- 'laws.FnExactReadMb': WHATEVER THE INPUT: true; the input reads as it did. -/
def fnExactReadMbSpec : ChangeSpec := { name := "fnExactReadMb", fn := fun _ => fun
  | [d1, d2] => { results := [.lit (.bool true)], args := [d1, d2] }
  | _ => none }
def fnExactReadMbRow : OpenClaim := { program := "ytepnknffaecbdaa", sum := "4ecfae73cc9fc31baeb0b1d03edb8cc83812fe60198f33aef3651dfd697a2b5a", func := "loop.example/g01613/laws.FnExactReadMb", spec := "fnExactReadMb", unfollowed := true, recurses := true, apart := false }
def FnExactReadMbSaid : Prop := fnExactReadMbRow.holds Try.pinned (OpenSpec.ofChange fnExactReadMbSpec)

/-- ITS FALSE NEIGHBOUR: 'it returns false'. Refute it at one input. -/
def fnExactReadMbWrong : ChangeSpec := { name := "fnExactReadMb", fn := fun _ => fun
  | [d1, d2] => { results := [.lit (.bool false)], args := [d1, d2] }
  | _ => none }
def FnExactReadMbWrongFalsely : Prop := fnExactReadMbRow.holds Try.pinned (OpenSpec.ofChange fnExactReadMbWrong)

/-- 'laws.FnExactMbBits': WHATEVER THE INPUT: true; the input reads as it did. -/
def fnExactMbBitsSpec : ChangeSpec := { name := "fnExactMbBits", fn := fun _ => fun
  | [d1, d2] => { results := [.lit (.bool true)], args := [d1, d2] }
  | _ => none }
def fnExactMbBitsRow : OpenClaim := { program := "ytepnknffaecbdaa", sum := "4ecfae73cc9fc31baeb0b1d03edb8cc83812fe60198f33aef3651dfd697a2b5a", func := "loop.example/g01613/laws.FnExactMbBits", spec := "fnExactMbBits", unfollowed := true, recurses := true, apart := false }
def FnExactMbBitsSaid : Prop := fnExactMbBitsRow.holds Try.pinned (OpenSpec.ofChange fnExactMbBitsSpec)

/-- ITS FALSE NEIGHBOUR: 'it returns false'. Refute it at one input. -/
def fnExactMbBitsWrong : ChangeSpec := { name := "fnExactMbBits", fn := fun _ => fun
  | [d1, d2] => { results := [.lit (.bool false)], args := [d1, d2] }
  | _ => none }
def FnExactMbBitsWrongFalsely : Prop := fnExactMbBitsRow.holds Try.pinned (OpenSpec.ofChange fnExactMbBitsWrong)

/-- 'laws.FnExactFastHeader': WHATEVER THE INPUT: true; the input reads as it did. -/
def fnExactFastHeaderSpec : ChangeSpec := { name := "fnExactFastHeader", fn := fun _ => fun
  | [d1, d2] => { results := [.lit (.bool true)], args := [d1, d2] }
  | _ => none }
def fnExactFastHeaderRow : OpenClaim := { program := "ytepnknffaecbdaa", sum := "4ecfae73cc9fc31baeb0b1d03edb8cc83812fe60198f33aef3651dfd697a2b5a", func := "loop.example/g01613/laws.FnExactFastHeader", spec := "fnExactFastHeader", unfollowed := true, recurses := true, apart := false }
def FnExactFastHeaderSaid : Prop := fnExactFastHeaderRow.holds Try.pinned (OpenSpec.ofChange fnExactFastHeaderSpec)

/-- ITS FALSE NEIGHBOUR: 'it returns false'. Refute it at one input. -/
def fnExactFastHeaderWrong : ChangeSpec := { name := "fnExactFastHeader", fn := fun _ => fun
  | [d1, d2] => { results := [.lit (.bool false)], args := [d1, d2] }
  | _ => none }
def FnExactFastHeaderWrongFalsely : Prop := fnExactFastHeaderRow.holds Try.pinned (OpenSpec.ofChange fnExactFastHeaderWrong)

/-- 'laws.FnExactParse': WHATEVER THE INPUT: true; the input reads as it did. -/
def fnExactParseSpec : ChangeSpec := { name := "fnExactParse", fn := fun _ => fun
  | [d] => { results := [.lit (.bool true)], args := [d] }
  | _ => none }
def fnExactParseRow : OpenClaim := { program := "ytepnknffaecbdaa", sum := "4ecfae73cc9fc31baeb0b1d03edb8cc83812fe60198f33aef3651dfd697a2b5a", func := "loop.example/g01613/laws.FnExactParse", spec := "fnExactParse", unfollowed := true, recurses := true, apart := false }
def FnExactParseSaid : Prop := fnExactParseRow.holds Try.pinned (OpenSpec.ofChange fnExactParseSpec)

/-- ITS FALSE NEIGHBOUR: 'it returns false'. Refute it at one input. -/
def fnExactParseWrong : ChangeSpec := { name := "fnExactParse", fn := fun _ => fun
  | [d] => { results := [.lit (.bool false)], args := [d] }
  | _ => none }
def FnExactParseWrongFalsely : Prop := fnExactParseRow.holds Try.pinned (OpenSpec.ofChange fnExactParseWrong)

/-- 'laws.FnExactUnparse': WHATEVER THE INPUT: true; the input reads as it did. -/
def fnExactUnparseSpec : ChangeSpec := { name := "fnExactUnparse", fn := fun _ => fun
  | [d] => { results := [.lit (.bool true)], args := [d] }
  | _ => none }
def fnExactUnparseRow : OpenClaim := { program := "ytepnknffaecbdaa", sum := "4ecfae73cc9fc31baeb0b1d03edb8cc83812fe60198f33aef3651dfd697a2b5a", func := "loop.example/g01613/laws.FnExactUnparse", spec := "fnExactUnparse", unfollowed := true, recurses := true, apart := false }
def FnExactUnparseSaid : Prop := fnExactUnparseRow.holds Try.pinned (OpenSpec.ofChange fnExactUnparseSpec)

/-- ITS FALSE NEIGHBOUR: 'it returns false'. Refute it at one input. -/
def fnExactUnparseWrong : ChangeSpec := { name := "fnExactUnparse", fn := fun _ => fun
  | [d] => { results := [.lit (.bool false)], args := [d] }
  | _ => none }
def FnExactUnparseWrongFalsely : Prop := fnExactUnparseRow.holds Try.pinned (OpenSpec.ofChange fnExactUnparseWrong)

/-- 'laws.FnExactPutRef': WHATEVER THE INPUT: true; the input reads as it did. -/
def fnExactPutRefSpec : ChangeSpec := { name := "fnExactPutRef", fn := fun _ => fun
  | [d1, d2, d3, d4, d5] => { results := [.lit (.bool true)], args := [d1, d2, d3, d4, d5] }
  | _ => none }
def fnExactPutRefRow : OpenClaim := { program := "ytepnknffaecbdaa", sum := "4ecfae73cc9fc31baeb0b1d03edb8cc83812fe60198f33aef3651dfd697a2b5a", func := "loop.example/g01613/laws.FnExactPutRef", spec := "fnExactPutRef", apart := false }
def FnExactPutRefSaid : Prop := fnExactPutRefRow.holds Try.pinned (OpenSpec.ofChange fnExactPutRefSpec)

/-- ITS FALSE NEIGHBOUR: 'it returns false'. Refute it at one input. -/
def fnExactPutRefWrong : ChangeSpec := { name := "fnExactPutRef", fn := fun _ => fun
  | [d1, d2, d3, d4, d5] => { results := [.lit (.bool false)], args := [d1, d2, d3, d4, d5] }
  | _ => none }
def FnExactPutRefWrongFalsely : Prop := fnExactPutRefRow.holds Try.pinned (OpenSpec.ofChange fnExactPutRefWrong)

/- THE SECOND FORM. 'bulk': how many values and letters a reading holds, each counted each time it is reached (what is shared counts as often as it is met; a slice's spare places count too). A statement '..UptoSaid' is the law's where the arguments, and the package variables that the reading takes, are together of bulk at most 1048576: NARROWER than '..Said'. Prove '..Said' where nothing that the law and all that it calls make is longer than what came in: it says more and counts as full. Else prove '..UptoSaid'. A law counts once. -/
mutual
def uptoBulk {H : Type} : DataW H → Nat
  | .lit (.string bytes) => bytes.length + 1
  | .lit _ => 1
  | .nil => 1
  | .ptr d => uptoBulk d + 1
  | .slice elems spare => uptoBulkAll elems + uptoBulkAll spare + 1
  | .agg parts => uptoBulkAll parts + 1
  | .iface _ d => uptoBulk d + 1
  | .map entries => uptoBulkEntries entries + 1
  | .held _ => 1
def uptoBulkAll {H : Type} : List (DataW H) → Nat
  | [] => 0
  | d :: r => uptoBulk d + uptoBulkAll r
def uptoBulkEntries {H : Type} : List (Lit × DataW H) → Nat
  | [] => 0
  | x :: r => uptoBulkEntry x + uptoBulkEntries r
def uptoBulkEntry {H : Type} : Lit × DataW H → Nat
  | (.string bytes, d) => bytes.length + uptoBulk d + 1
  | (_, d) => uptoBulk d + 1
 end
def uptoSmall : (H : Type) → List (DataW H) → Bool := fun _ ds => decide (uptoBulkAll ds ≤ 1048576)
def OpenSpec.upto (s : _root_.Go.ChangeSpec) : _root_.Go.OpenSpec := { _root_.Go.OpenSpec.ofChange s with cond := some uptoSmall }

/-- 'laws.FnTables', WHERE WHAT IT READS IS OF BULK AT MOST 1048576: true; the input reads as it did. -/
def fnTablesUptoRow : OpenClaim := { program := "ytepnknffaecbdaa", sum := "4ecfae73cc9fc31baeb0b1d03edb8cc83812fe60198f33aef3651dfd697a2b5a", func := "loop.example/g01613/laws.FnTables", spec := "fnTables", apart := false, narrowed := true }
def FnTablesUptoSaid : Prop := fnTablesUptoRow.holds Try.pinned (OpenSpec.upto fnTablesSpec)

/-- 'laws.FnWrongHead', WHERE WHAT IT READS IS OF BULK AT MOST 1048576: true; the input reads as it did. -/
def fnWrongHeadUptoRow : OpenClaim := { program := "ytepnknffaecbdaa", sum := "4ecfae73cc9fc31baeb0b1d03edb8cc83812fe60198f33aef3651dfd697a2b5a", func := "loop.example/g01613/laws.FnWrongHead", spec := "fnWrongHead", unfollowed := true, recurses := true, apart := false, narrowed := true }
def FnWrongHeadUptoSaid : Prop := fnWrongHeadUptoRow.holds Try.pinned (OpenSpec.upto fnWrongHeadSpec)

/-- 'laws.FnExactReadMb', WHERE WHAT IT READS IS OF BULK AT MOST 1048576: true; the input reads as it did. -/
def fnExactReadMbUptoRow : OpenClaim := { program := "ytepnknffaecbdaa", sum := "4ecfae73cc9fc31baeb0b1d03edb8cc83812fe60198f33aef3651dfd697a2b5a", func := "loop.example/g01613/laws.FnExactReadMb", spec := "fnExactReadMb", unfollowed := true, recurses := true, apart := false, narrowed := true }
def FnExactReadMbUptoSaid : Prop := fnExactReadMbUptoRow.holds Try.pinned (OpenSpec.upto fnExactReadMbSpec)

/-- 'laws.FnExactMbBits', WHERE WHAT IT READS IS OF BULK AT MOST 1048576: true; the input reads as it did. -/
def fnExactMbBitsUptoRow : OpenClaim := { program := "ytepnknffaecbdaa", sum := "4ecfae73cc9fc31baeb0b1d03edb8cc83812fe60198f33aef3651dfd697a2b5a", func := "loop.example/g01613/laws.FnExactMbBits", spec := "fnExactMbBits", unfollowed := true, recurses := true, apart := false, narrowed := true }
def FnExactMbBitsUptoSaid : Prop := fnExactMbBitsUptoRow.holds Try.pinned (OpenSpec.upto fnExactMbBitsSpec)

/-- 'laws.FnExactFastHeader', WHERE WHAT IT READS IS OF BULK AT MOST 1048576: true; the input reads as it did. -/
def fnExactFastHeaderUptoRow : OpenClaim := { program := "ytepnknffaecbdaa", sum := "4ecfae73cc9fc31baeb0b1d03edb8cc83812fe60198f33aef3651dfd697a2b5a", func := "loop.example/g01613/laws.FnExactFastHeader", spec := "fnExactFastHeader", unfollowed := true, recurses := true, apart := false, narrowed := true }
def FnExactFastHeaderUptoSaid : Prop := fnExactFastHeaderUptoRow.holds Try.pinned (OpenSpec.upto fnExactFastHeaderSpec)

/-- 'laws.FnExactParse', WHERE WHAT IT READS IS OF BULK AT MOST 1048576: true; the input reads as it did. -/
def fnExactParseUptoRow : OpenClaim := { program := "ytepnknffaecbdaa", sum := "4ecfae73cc9fc31baeb0b1d03edb8cc83812fe60198f33aef3651dfd697a2b5a", func := "loop.example/g01613/laws.FnExactParse", spec := "fnExactParse", unfollowed := true, recurses := true, apart := false, narrowed := true }
def FnExactParseUptoSaid : Prop := fnExactParseUptoRow.holds Try.pinned (OpenSpec.upto fnExactParseSpec)

/-- 'laws.FnExactUnparse', WHERE WHAT IT READS IS OF BULK AT MOST 1048576: true; the input reads as it did. -/
def fnExactUnparseUptoRow : OpenClaim := { program := "ytepnknffaecbdaa", sum := "4ecfae73cc9fc31baeb0b1d03edb8cc83812fe60198f33aef3651dfd697a2b5a", func := "loop.example/g01613/laws.FnExactUnparse", spec := "fnExactUnparse", unfollowed := true, recurses := true, apart := false, narrowed := true }
def FnExactUnparseUptoSaid : Prop := fnExactUnparseUptoRow.holds Try.pinned (OpenSpec.upto fnExactUnparseSpec)

/-- 'laws.FnExactPutRef', WHERE WHAT IT READS IS OF BULK AT MOST 1048576: true; the input reads as it did. -/
def fnExactPutRefUptoRow : OpenClaim := { program := "ytepnknffaecbdaa", sum := "4ecfae73cc9fc31baeb0b1d03edb8cc83812fe60198f33aef3651dfd697a2b5a", func := "loop.example/g01613/laws.FnExactPutRef", spec := "fnExactPutRef", apart := false, narrowed := true }
def FnExactPutRefUptoSaid : Prop := fnExactPutRefUptoRow.holds Try.pinned (OpenSpec.upto fnExactPutRefSpec)

end Rows
end Go.Proofs.Ytepnknffaecbdaa
