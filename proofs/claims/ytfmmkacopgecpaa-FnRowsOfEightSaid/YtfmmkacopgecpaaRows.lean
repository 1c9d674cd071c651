/-
  No cell of these rows narrows 'for every input' (looked for: loops, veiled, ifaces, maps, wideKeys, modest, calm, conditions, laid).
  DERIVED. THE GIVEN ROWS OF THIS SEAT. 13 by the template 'for every input the law returns true; each argument reads behind the call as it read before'; 0 by the template 'total and deterministic' (their statements: YtfmmkacopgecpaaTotals.lean).
  GIVEN WITH THE SEED: the statements are not yours to turn. If you find one false, say at which input.
  Laid BY PROGRAM, IN A SANDBOX (cutbox-rows.mjs): the forced cells as the released guide's own fill.sh prints them over the translation 7d649796009729df… (all of the seat's roots in one cut). By AI agents, Wed Nov 11 2026. No macro, syntax, notation, axiom, sorry.
-/
import Derived.Test.YtfmmkacopgecpaaChecked
import GoSem.Claim
import GoSem.ClaimJoined
import GoSem.ClaimMapViews
import Derived.JoinedTies
import Derived.KernelRfl
namespace Go.Proofs.Ytfmmkacopgecpaa
/- THE CELL 'sum', in the pinned program and in every row, IS THE sha256 OF THE DUMP (.gsa) THAT YtfmmkacopgecpaaProg.lean LOADS. Nothing in Lean hashes anything: it is a label: what it is worth is what the hold of that sum in a sandbox is worth. -/
noncomputable def Try.pinned : Pinned := { name := "ytfmmkacopgecpaa", sum := "7d649796009729df7653f09e3dd5159b17a4eaf324e3b44d09a86475f387b640", checked := Try.checked }
namespace Rows
def none {H : Type} : Left H := { results := [], args := [] }

/-- 'laws.FnExactUeTable': WHATEVER THE INPUT: true; the input reads as it did. -/
def fnExactUeTableSpec : ChangeSpec := { name := "fnExactUeTable", fn := fun _ => fun
  | [] => { results := [.lit (.bool true)], args := [] }
  | _ => none }
def fnExactUeTableRow : OpenClaim := { program := "ytfmmkacopgecpaa", sum := "7d649796009729df7653f09e3dd5159b17a4eaf324e3b44d09a86475f387b640", func := "loop.example/g01613/laws.FnExactUeTable", spec := "fnExactUeTable", apart := false }
def FnExactUeTableSaid : Prop := fnExactUeTableRow.holds Try.pinned (OpenSpec.ofChange fnExactUeTableSpec)

/-- ITS FALSE NEIGHBOUR: 'it returns false'. Refute it at one input. -/
def fnExactUeTableWrong : ChangeSpec := { name := "fnExactUeTable", fn := fun _ => fun
  | [] => { results := [.lit (.bool false)], args := [] }
  | _ => none }
def FnExactUeTableWrongFalsely : Prop := fnExactUeTableRow.holds Try.pinned (OpenSpec.ofChange fnExactUeTableWrong)

/-- 'laws.FnWalk': WHATEVER THE INPUT: true; the input reads as it did. -/
def fnWalkSpec : ChangeSpec := { name := "fnWalk", fn := fun _ => fun
  | [d] => { results := [.lit (.bool true)], args := [d] }
  | _ => none }
def fnWalkRow : OpenClaim := { program := "ytfmmkacopgecpaa", sum := "7d649796009729df7653f09e3dd5159b17a4eaf324e3b44d09a86475f387b640", func := "loop.example/g01613/laws.FnWalk", spec := "fnWalk", apart := false }
def FnWalkSaid : Prop := fnWalkRow.holds Try.pinned (OpenSpec.ofChange fnWalkSpec)

/-- ITS FALSE NEIGHBOUR: 'it returns false'. Refute it at one input. -/
def fnWalkWrong : ChangeSpec := { name := "fnWalk", fn := fun _ => fun
  | [d] => { results := [.lit (.bool false)], args := [d] }
  | _ => none }
def FnWalkWrongFalsely : Prop := fnWalkRow.holds Try.pinned (OpenSpec.ofChange fnWalkWrong)

/-- 'laws.FnExactTakeBits': WHATEVER THE INPUT: true; the input reads as it did. -/
def fnExactTakeBitsSpec : ChangeSpec := { name := "fnExactTakeBits", fn := fun _ => fun
  | [d1, d2] => { results := [.lit (.bool true)], args := [d1, d2] }
  | _ => none }
def fnExactTakeBitsRow : OpenClaim := { program := "ytfmmkacopgecpaa", sum := "7d649796009729df7653f09e3dd5159b17a4eaf324e3b44d09a86475f387b640", func := "loop.example/g01613/laws.FnExactTakeBits", spec := "fnExactTakeBits", apart := false }
def FnExactTakeBitsSaid : Prop := fnExactTakeBitsRow.holds Try.pinned (OpenSpec.ofChange fnExactTakeBitsSpec)

/-- ITS FALSE NEIGHBOUR: 'it returns false'. Refute it at one input. -/
def fnExactTakeBitsWrong : ChangeSpec := { name := "fnExactTakeBits", fn := fun _ => fun
  | [d1, d2] => { results := [.lit (.bool false)], args := [d1, d2] }
  | _ => none }
def FnExactTakeBitsWrongFalsely : Prop := fnExactTakeBitsRow.holds Try.pinned (OpenSpec.ofChange fnExactTakeBitsWrong)

/-- 'laws.FnExactTableOk': WHATEVER THE INPUT: true; the input reads as it did. -/
def fnExactTableOkSpec : ChangeSpec := { name := "fnExactTableOk", fn := fun _ => fun
  | [d] => { results := [.lit (.bool true)], args := [d] }
  | _ => none }
def fnExactTableOkRow : OpenClaim := { program := "ytfmmkacopgecpaa", sum := "7d649796009729df7653f09e3dd5159b17a4eaf324e3b44d09a86475f387b640", func := "loop.example/g01613/laws.FnExactTableOk", spec := "fnExactTableOk", apart := false }
def FnExactTableOkSaid : Prop := fnExactTableOkRow.holds Try.pinned (OpenSpec.ofChange fnExactTableOkSpec)

/-- ITS FALSE NEIGHBOUR: 'it returns false'. Refute it at one input. -/
def fnExactTableOkWrong : ChangeSpec := { name := "fnExactTableOk", fn := fun _ => fun
  | [d] => { results := [.lit (.bool false)], args := [d] }
  | _ => none }
def FnExactTableOkWrongFalsely : Prop := fnExactTableOkRow.holds Try.pinned (OpenSpec.ofChange fnExactTableOkWrong)

/-- 'laws.FnExactReadSym': WHATEVER THE INPUT: true; the input reads as it did. -/
def fnExactReadSymSpec : ChangeSpec := { name := "fnExactReadSym", fn := fun _ => fun
  | [d1, d2] => { results := [.lit (.bool true)], args := [d1, d2] }
  | _ => none }
def fnExactReadSymRow : OpenClaim := { program := "ytfmmkacopgecpaa", sum := "7d649796009729df7653f09e3dd5159b17a4eaf324e3b44d09a86475f387b640", func := "loop.example/g01613/laws.FnExactReadSym", spec := "fnExactReadSym", apart := false }
def FnExactReadSymSaid : Prop := fnExactReadSymRow.holds Try.pinned (OpenSpec.ofChange fnExactReadSymSpec)

/-- ITS FALSE NEIGHBOUR: 'it returns false'. Refute it at one input. -/
def fnExactReadSymWrong : ChangeSpec := { name := "fnExactReadSym", fn := fun _ => fun
  | [d1, d2] => { results := [.lit (.bool false)], args := [d1, d2] }
  | _ => none }
def FnExactReadSymWrongFalsely : Prop := fnExactReadSymRow.holds Try.pinned (OpenSpec.ofChange fnExactReadSymWrong)

/-- 'laws.FnExactBlockOk': WHATEVER THE INPUT: true; the input reads as it did. -/
def fnExactBlockOkSpec : ChangeSpec := { name := "fnExactBlockOk", fn := fun _ => fun
  | [d1, d2, d3] => { results := [.lit (.bool true)], args := [d1, d2, d3] }
  | _ => none }
def fnExactBlockOkRow : OpenClaim := { program := "ytfmmkacopgecpaa", sum := "7d649796009729df7653f09e3dd5159b17a4eaf324e3b44d09a86475f387b640", func := "loop.example/g01613/laws.FnExactBlockOk", spec := "fnExactBlockOk", apart := false }
def FnExactBlockOkSaid : Prop := fnExactBlockOkRow.holds Try.pinned (OpenSpec.ofChange fnExactBlockOkSpec)

/-- ITS FALSE NEIGHBOUR: 'it returns false'. Refute it at one input. -/
def fnExactBlockOkWrong : ChangeSpec := { name := "fnExactBlockOk", fn := fun _ => fun
  | [d1, d2, d3] => { results := [.lit (.bool false)], args := [d1, d2, d3] }
  | _ => none }
def FnExactBlockOkWrongFalsely : Prop := fnExactBlockOkRow.holds Try.pinned (OpenSpec.ofChange fnExactBlockOkWrong)

/-- 'laws.FnNumbersRead': WHATEVER THE INPUT: true; the input reads as it did. -/
def fnNumbersReadSpec : ChangeSpec := { name := "fnNumbersRead", fn := fun _ => fun
  | [d] => { results := [.lit (.bool true)], args := [d] }
  | _ => none }
def fnNumbersReadRow : OpenClaim := { program := "ytfmmkacopgecpaa", sum := "7d649796009729df7653f09e3dd5159b17a4eaf324e3b44d09a86475f387b640", func := "loop.example/g01613/laws.FnNumbersRead", spec := "fnNumbersRead", apart := false }
def FnNumbersReadSaid : Prop := fnNumbersReadRow.holds Try.pinned (OpenSpec.ofChange fnNumbersReadSpec)

/-- ITS FALSE NEIGHBOUR: 'it returns false'. Refute it at one input. -/
def fnNumbersReadWrong : ChangeSpec := { name := "fnNumbersRead", fn := fun _ => fun
  | [d] => { results := [.lit (.bool false)], args := [d] }
  | _ => none }
def FnNumbersReadWrongFalsely : Prop := fnNumbersReadRow.holds Try.pinned (OpenSpec.ofChange fnNumbersReadWrong)

/-- 'laws.FnExactSymTable': WHATEVER THE INPUT: true; the input reads as it did. -/
def fnExactSymTableSpec : ChangeSpec := { name := "fnExactSymTable", fn := fun _ => fun
  | [d] => { results := [.lit (.bool true)], args := [d] }
  | _ => none }
def fnExactSymTableRow : OpenClaim := { program := "ytfmmkacopgecpaa", sum := "7d649796009729df7653f09e3dd5159b17a4eaf324e3b44d09a86475f387b640", func := "loop.example/g01613/laws.FnExactSymTable", spec := "fnExactSymTable", apart := false }
def FnExactSymTableSaid : Prop := fnExactSymTableRow.holds Try.pinned (OpenSpec.ofChange fnExactSymTableSpec)

/-- ITS FALSE NEIGHBOUR: 'it returns false'. Refute it at one input. -/
def fnExactSymTableWrong : ChangeSpec := { name := "fnExactSymTable", fn := fun _ => fun
  | [d] => { results := [.lit (.bool false)], args := [d] }
  | _ => none }
def FnExactSymTableWrongFalsely : Prop := fnExactSymTableRow.holds Try.pinned (OpenSpec.ofChange fnExactSymTableWrong)

/-- 'laws.FnCodes': WHATEVER THE INPUT: true; the input reads as it did. -/
def fnCodesSpec : ChangeSpec := { name := "fnCodes", fn := fun _ => fun
  | [d] => { results := [.lit (.bool true)], args := [d] }
  | _ => none }
def fnCodesRow : OpenClaim := { program := "ytfmmkacopgecpaa", sum := "7d649796009729df7653f09e3dd5159b17a4eaf324e3b44d09a86475f387b640", func := "loop.example/g01613/laws.FnCodes", spec := "fnCodes", apart := false }
def FnCodesSaid : Prop := fnCodesRow.holds Try.pinned (OpenSpec.ofChange fnCodesSpec)

/-- ITS FALSE NEIGHBOUR: 'it returns false'. Refute it at one input. -/
def fnCodesWrong : ChangeSpec := { name := "fnCodes", fn := fun _ => fun
  | [d] => { results := [.lit (.bool false)], args := [d] }
  | _ => none }
def FnCodesWrongFalsely : Prop := fnCodesRow.holds Try.pinned (OpenSpec.ofChange fnCodesWrong)

/-- 'laws.FnExactFastSym': WHATEVER THE INPUT: true; the input reads as it did. -/
def fnExactFastSymSpec : ChangeSpec := { name := "fnExactFastSym", fn := fun _ => fun
  | [d1, d2] => { results := [.lit (.bool true)], args := [d1, d2] }
  | _ => none }
def fnExactFastSymRow : OpenClaim := { program := "ytfmmkacopgecpaa", sum := "7d649796009729df7653f09e3dd5159b17a4eaf324e3b44d09a86475f387b640", func := "loop.example/g01613/laws.FnExactFastSym", spec := "fnExactFastSym", apart := false }
def FnExactFastSymSaid : Prop := fnExactFastSymRow.holds Try.pinned (OpenSpec.ofChange fnExactFastSymSpec)

/-- ITS FALSE NEIGHBOUR: 'it returns false'. Refute it at one input. -/
def fnExactFastSymWrong : ChangeSpec := { name := "fnExactFastSym", fn := fun _ => fun
  | [d1, d2] => { results := [.lit (.bool false)], args := [d1, d2] }
  | _ => none }
def FnExactFastSymWrongFalsely : Prop := fnExactFastSymRow.holds Try.pinned (OpenSpec.ofChange fnExactFastSymWrong)

/-- 'laws.FnRowsOfEight': WHATEVER THE INPUT: true; the input reads as it did. -/
def fnRowsOfEightSpec : ChangeSpec := { name := "fnRowsOfEight", fn := fun _ => fun
  | [d] => { results := [.lit (.bool true)], args := [d] }
  | _ => none }
def fnRowsOfEightRow : OpenClaim := { program := "ytfmmkacopgecpaa", sum := "7d649796009729df7653f09e3dd5159b17a4eaf324e3b44d09a86475f387b640", func := "loop.example/g01613/laws.FnRowsOfEight", spec := "fnRowsOfEight", apart := false }
def FnRowsOfEightSaid : Prop := fnRowsOfEightRow.holds Try.pinned (OpenSpec.ofChange fnRowsOfEightSpec)

/-- ITS FALSE NEIGHBOUR: 'it returns false'. Refute it at one input. -/
def fnRowsOfEightWrong : ChangeSpec := { name := "fnRowsOfEight", fn := fun _ => fun
  | [d] => { results := [.lit (.bool false)], args := [d] }
  | _ => none }
def FnRowsOfEightWrongFalsely : Prop := fnRowsOfEightRow.holds Try.pinned (OpenSpec.ofChange fnRowsOfEightWrong)

/-- 'laws.FnExactDeblockFast': WHATEVER THE INPUT: true; the input reads as it did. -/
def fnExactDeblockFastSpec : ChangeSpec := { name := "fnExactDeblockFast", fn := fun _ => fun
  | [d1, d2] => { results := [.lit (.bool true)], args := [d1, d2] }
  | _ => none }
def fnExactDeblockFastRow : OpenClaim := { program := "ytfmmkacopgecpaa", sum := "7d649796009729df7653f09e3dd5159b17a4eaf324e3b44d09a86475f387b640", func := "loop.example/g01613/laws.FnExactDeblockFast", spec := "fnExactDeblockFast", apart := false }
def FnExactDeblockFastSaid : Prop := fnExactDeblockFastRow.holds Try.pinned (OpenSpec.ofChange fnExactDeblockFastSpec)

/-- ITS FALSE NEIGHBOUR: 'it returns false'. Refute it at one input. -/
def fnExactDeblockFastWrong : ChangeSpec := { name := "fnExactDeblockFast", fn := fun _ => fun
  | [d1, d2] => { results := [.lit (.bool false)], args := [d1, d2] }
  | _ => none }
def FnExactDeblockFastWrongFalsely : Prop := fnExactDeblockFastRow.holds Try.pinned (OpenSpec.ofChange fnExactDeblockFastWrong)

/-- 'laws.FnExactSameStream': WHATEVER THE INPUT: true; the input reads as it did. -/
def fnExactSameStreamSpec : ChangeSpec := { name := "fnExactSameStream", fn := fun _ => fun
  | [d1, d2] => { results := [.lit (.bool true)], args := [d1, d2] }
  | _ => none }
def fnExactSameStreamRow : OpenClaim := { program := "ytfmmkacopgecpaa", sum := "7d649796009729df7653f09e3dd5159b17a4eaf324e3b44d09a86475f387b640", func := "loop.example/g01613/laws.FnExactSameStream", spec := "fnExactSameStream", unfollowed := true, recurses := true, apart := false }
def FnExactSameStreamSaid : Prop := fnExactSameStreamRow.holds Try.pinned (OpenSpec.ofChange fnExactSameStreamSpec)

/-- ITS FALSE NEIGHBOUR: 'it returns false'. Refute it at one input. -/
def fnExactSameStreamWrong : ChangeSpec := { name := "fnExactSameStream", fn := fun _ => fun
  | [d1, d2] => { results := [.lit (.bool false)], args := [d1, d2] }
  | _ => none }
def FnExactSameStreamWrongFalsely : Prop := fnExactSameStreamRow.holds Try.pinned (OpenSpec.ofChange fnExactSameStreamWrong)

/- THE SECOND FORM. 'bulk': how many values and letters a reading holds, each counted each time it is reached (what is shared counts as often as it is met; a slice's spare places count too). A statement '..UptoSaid' is the law's where the arguments, and the package variables that the reading takes, are together of bulk at most 1048576: NARROWER than '..Said'. Prove '..Said' where nothing that the law and all that it calls make is longer than what came in: it says more and counts as full. Else prove '..UptoSaid'. A law counts once. -/
mutual
def uptoBulk {H : Type} : DataW H → Nat
  | .lit (.string bytes) => bytes.length + 1
  | .lit _ => 1
  | .nil => 1
  | .ptr d => uptoBulk d + 1
  | .slice elems spare => uptoBulkAll elems + uptoBulkAll spare + 1
  | .agg parts => uptoBulkAll parts + 1
  | .iface _ d => uptoBulk d + 1
  | .map entries => uptoBulkEntries entries + 1
  | .held _ => 1
def uptoBulkAll {H : Type} : List (DataW H) → Nat
  | [] => 0
  | d :: r => uptoBulk d + uptoBulkAll r
def uptoBulkEntries {H : Type} : List (Lit × DataW H) → Nat
  | [] => 0
  | x :: r => uptoBulkEntry x + uptoBulkEntries r
def uptoBulkEntry {H : Type} : Lit × DataW H → Nat
  | (.string bytes, d) => bytes.length + uptoBulk d + 1
  | (_, d) => uptoBulk d + 1
 end
def uptoSmall : (H : Type) → List (DataW H) → Bool := fun _ ds => decide (uptoBulkAll ds ≤ 1048576)
def OpenSpec.upto (s : _root_.Go.ChangeSpec) : _root_.Go.OpenSpec := { _root_.Go.OpenSpec.ofChange s with cond := some uptoSmall }

/-- 'laws.FnExactUeTable', WHERE WHAT IT READS IS OF BULK AT MOST 1048576: true; the input reads as it did. -/
def fnExactUeTableUptoRow : OpenClaim := { program := "ytfmmkacopgecpaa", sum := "7d649796009729df7653f09e3dd5159b17a4eaf324e3b44d09a86475f387b640", func := "loop.example/g01613/laws.FnExactUeTable", spec := "fnExactUeTable", apart := false, narrowed := true }
def FnExactUeTableUptoSaid : Prop := fnExactUeTableUptoRow.holds Try.pinned (OpenSpec.upto fnExactUeTableSpec)

/-- 'laws.FnWalk', WHERE WHAT IT READS IS OF BULK AT MOST 1048576: true; the input reads as it did. -/
def fnWalkUptoRow : OpenClaim := { program := "ytfmmkacopgecpaa", sum := "7d649796009729df7653f09e3dd5159b17a4eaf324e3b44d09a86475f387b640", func := "loop.example/g01613/laws.FnWalk", spec := "fnWalk", apart := false, narrowed := true }
def FnWalkUptoSaid : Prop := fnWalkUptoRow.holds Try.pinned (OpenSpec.upto fnWalkSpec)

/-- 'laws.FnExactTakeBits', WHERE WHAT IT READS IS OF BULK AT MOST 1048576: true; the input reads as it did. -/
def fnExactTakeBitsUptoRow : OpenClaim := { program := "ytfmmkacopgecpaa", sum := "7d649796009729df7653f09e3dd5159b17a4eaf324e3b44d09a86475f387b640", func := "loop.example/g01613/laws.FnExactTakeBits", spec := "fnExactTakeBits", apart := false, narrowed := true }
def FnExactTakeBitsUptoSaid : Prop := fnExactTakeBitsUptoRow.holds Try.pinned (OpenSpec.upto fnExactTakeBitsSpec)

/-- 'laws.FnExactTableOk', WHERE WHAT IT READS IS OF BULK AT MOST 1048576: true; the input reads as it did. -/
def fnExactTableOkUptoRow : OpenClaim := { program := "ytfmmkacopgecpaa", sum := "7d649796009729df7653f09e3dd5159b17a4eaf324e3b44d09a86475f387b640", func := "loop.example/g01613/laws.FnExactTableOk", spec := "fnExactTableOk", apart := false, narrowed := true }
def FnExactTableOkUptoSaid : Prop := fnExactTableOkUptoRow.holds Try.pinned (OpenSpec.upto fnExactTableOkSpec)

/-- 'laws.FnExactReadSym', WHERE WHAT IT READS IS OF BULK AT MOST 1048576: true; the input reads as it did. -/
def fnExactReadSymUptoRow : OpenClaim := { program := "ytfmmkacopgecpaa", sum := "7d649796009729df7653f09e3dd5159b17a4eaf324e3b44d09a86475f387b640", func := "loop.example/g01613/laws.FnExactReadSym", spec := "fnExactReadSym", apart := false, narrowed := true }
def FnExactReadSymUptoSaid : Prop := fnExactReadSymUptoRow.holds Try.pinned (OpenSpec.upto fnExactReadSymSpec)

/-- 'laws.FnExactBlockOk', WHERE WHAT IT READS IS OF BULK AT MOST 1048576: true; the input reads as it did. -/
def fnExactBlockOkUptoRow : OpenClaim := { program := "ytfmmkacopgecpaa", sum := "7d649796009729df7653f09e3dd5159b17a4eaf324e3b44d09a86475f387b640", func := "loop.example/g01613/laws.FnExactBlockOk", spec := "fnExactBlockOk", apart := false, narrowed := true }
def FnExactBlockOkUptoSaid : Prop := fnExactBlockOkUptoRow.holds Try.pinned (OpenSpec.upto fnExactBlockOkSpec)

/-- 'laws.FnNumbersRead', WHERE WHAT IT READS IS OF BULK AT MOST 1048576: true; the input reads as it did. -/
def fnNumbersReadUptoRow : OpenClaim := { program := "ytfmmkacopgecpaa", sum := "7d649796009729df7653f09e3dd5159b17a4eaf324e3b44d09a86475f387b640", func := "loop.example/g01613/laws.FnNumbersRead", spec := "fnNumbersRead", apart := false, narrowed := true }
def FnNumbersReadUptoSaid : Prop := fnNumbersReadUptoRow.holds Try.pinned (OpenSpec.upto fnNumbersReadSpec)

/-- 'laws.FnExactSymTable', WHERE WHAT IT READS IS OF BULK AT MOST 1048576: true; the input reads as it did. -/
def fnExactSymTableUptoRow : OpenClaim := { program := "ytfmmkacopgecpaa", sum := "7d649796009729df7653f09e3dd5159b17a4eaf324e3b44d09a86475f387b640", func := "loop.example/g01613/laws.FnExactSymTable", spec := "fnExactSymTable", apart := false, narrowed := true }
def FnExactSymTableUptoSaid : Prop := fnExactSymTableUptoRow.holds Try.pinned (OpenSpec.upto fnExactSymTableSpec)

/-- 'laws.FnCodes', WHERE WHAT IT READS IS OF BULK AT MOST 1048576: true; the input reads as it did. -/
def fnCodesUptoRow : OpenClaim := { program := "ytfmmkacopgecpaa", sum := "7d649796009729df7653f09e3dd5159b17a4eaf324e3b44d09a86475f387b640", func := "loop.example/g01613/laws.FnCodes", spec := "fnCodes", apart := false, narrowed := true }
def FnCodesUptoSaid : Prop := fnCodesUptoRow.holds Try.pinned (OpenSpec.upto fnCodesSpec)

/-- 'laws.FnExactFastSym', WHERE WHAT IT READS IS OF BULK AT MOST 1048576: true; the input reads as it did. -/
def fnExactFastSymUptoRow : OpenClaim := { program := "ytfmmkacopgecpaa", sum := "7d649796009729df7653f09e3dd5159b17a4eaf324e3b44d09a86475f387b640", func := "loop.example/g01613/laws.FnExactFastSym", spec := "fnExactFastSym", apart := false, narrowed := true }
def FnExactFastSymUptoSaid : Prop := fnExactFastSymUptoRow.holds Try.pinned (OpenSpec.upto fnExactFastSymSpec)

/-- 'laws.FnRowsOfEight', WHERE WHAT IT READS IS OF BULK AT MOST 1048576: true; the input reads as it did. -/
def fnRowsOfEightUptoRow : OpenClaim := { program := "ytfmmkacopgecpaa", sum := "7d649796009729df7653f09e3dd5159b17a4eaf324e3b44d09a86475f387b640", func := "loop.example/g01613/laws.FnRowsOfEight", spec := "fnRowsOfEight", apart := false, narrowed := true }
def FnRowsOfEightUptoSaid : Prop := fnRowsOfEightUptoRow.holds Try.pinned (OpenSpec.upto fnRowsOfEightSpec)

/-- 'laws.FnExactDeblockFast', WHERE WHAT IT READS IS OF BULK AT MOST 1048576: true; the input reads as it did. -/
def fnExactDeblockFastUptoRow : OpenClaim := { program := "ytfmmkacopgecpaa", sum := "7d649796009729df7653f09e3dd5159b17a4eaf324e3b44d09a86475f387b640", func := "loop.example/g01613/laws.FnExactDeblockFast", spec := "fnExactDeblockFast", apart := false, narrowed := true }
def FnExactDeblockFastUptoSaid : Prop := fnExactDeblockFastUptoRow.holds Try.pinned (OpenSpec.upto fnExactDeblockFastSpec)

/-- 'laws.FnExactSameStream', WHERE WHAT IT READS IS OF BULK AT MOST 1048576: true; the input reads as it did. -/
def fnExactSameStreamUptoRow : OpenClaim := { program := "ytfmmkacopgecpaa", sum := "7d649796009729df7653f09e3dd5159b17a4eaf324e3b44d09a86475f387b640", func := "loop.example/g01613/laws.FnExactSameStream", spec := "fnExactSameStream", unfollowed := true, recurses := true, apart := false, narrowed := true }
def FnExactSameStreamUptoSaid : Prop := fnExactSameStreamUptoRow.holds Try.pinned (OpenSpec.upto fnExactSameStreamSpec)

end Rows
end Go.Proofs.Ytfmmkacopgecpaa
