/-
  No cell of these rows narrows 'for every input' (looked for: loops, veiled, ifaces, maps, wideKeys, modest, calm, conditions, laid).
  DERIVED. THE GIVEN ROWS OF THIS SEAT. 12 by the template 'for every input the law returns true; each argument reads behind the call as it read before'; 0 by the template 'total and deterministic' (their statements: YtdnckakaoageoaaTotals.lean).
  GIVEN WITH THE SEED: the statements are not yours to turn. If you find one false, say at which input.
  Laid BY PROGRAM, IN A SANDBOX (cutbox-rows.mjs): the forced cells as the released guide's own fill.sh prints them over the translation b188d937cb3043fd… (all of the seat's roots in one cut). By AI agents, Wed Nov 11 2026. No macro, syntax, notation, axiom, sorry.
-/
import Derived.Test.YtdnckakaoageoaaChecked
import GoSem.Claim
import GoSem.ClaimJoined
import GoSem.ClaimMapViews
import Derived.JoinedTies
import Derived.KernelRfl
namespace Go.Proofs.Ytdnckakaoageoaa
/- THE CELL 'sum', in the pinned program and in every row, IS THE sha256 OF THE DUMP (.gsa) THAT YtdnckakaoageoaaProg.lean LOADS. Nothing in Lean hashes anything: it is a label: what it is worth is what the hold of that sum in a sandbox is worth. -/
noncomputable def Try.pinned : Pinned := { name := "ytdnckakaoageoaa", sum := "b188d937cb3043fd5adaf71ac1d13418756c19cf8a3533a7e84b450ee034c1ff", checked := Try.checked }
namespace Rows
def none {H : Type} : Left H := { results := [], args := [] }

/-- 'laws.FnExactHeaderBits': WHATEVER THE INPUT: true; the input reads as it did. -/
def fnExactHeaderBitsSpec : ChangeSpec := { name := "fnExactHeaderBits", fn := fun _ => fun
  | [d] => { results := [.lit (.bool true)], args := [d] }
  | _ => none }
def fnExactHeaderBitsRow : OpenClaim := { program := "ytdnckakaoageoaa", sum := "b188d937cb3043fd5adaf71ac1d13418756c19cf8a3533a7e84b450ee034c1ff", func := "loop.example/g01613/laws.FnExactHeaderBits", spec := "fnExactHeaderBits", apart := false }
def FnExactHeaderBitsSaid : Prop := fnExactHeaderBitsRow.holds Try.pinned (OpenSpec.ofChange fnExactHeaderBitsSpec)

/-- ITS FALSE NEIGHBOUR: 'it returns false'. Refute it at one input. -/
def fnExactHeaderBitsWrong : ChangeSpec := { name := "fnExactHeaderBits", fn := fun _ => fun
  | [d] => { results := [.lit (.bool false)], args := [d] }
  | _ => none }
def FnExactHeaderBitsWrongFalsely : Prop := fnExactHeaderBitsRow.holds Try.pinned (OpenSpec.ofChange fnExactHeaderBitsWrong)

/-- 'laws.FnPuts': WHATEVER THE INPUT: true; the input reads as it did. -/
def fnPutsSpec : ChangeSpec := { name := "fnPuts", fn := fun _ => fun
  | [d] => { results := [.lit (.bool true)], args := [d] }
  | _ => none }
def fnPutsRow : OpenClaim := { program := "ytdnckakaoageoaa", sum := "b188d937cb3043fd5adaf71ac1d13418756c19cf8a3533a7e84b450ee034c1ff", func := "loop.example/g01613/laws.FnPuts", spec := "fnPuts", apart := false }
def FnPutsSaid : Prop := fnPutsRow.holds Try.pinned (OpenSpec.ofChange fnPutsSpec)

/-- ITS FALSE NEIGHBOUR: 'it returns false'. Refute it at one input. -/
def fnPutsWrong : ChangeSpec := { name := "fnPuts", fn := fun _ => fun
  | [d] => { results := [.lit (.bool false)], args := [d] }
  | _ => none }
def FnPutsWrongFalsely : Prop := fnPutsRow.holds Try.pinned (OpenSpec.ofChange fnPutsWrong)

/-- 'laws.FnExactMbOk': WHATEVER THE INPUT: true; the input reads as it did. -/
def fnExactMbOkSpec : ChangeSpec := { name := "fnExactMbOk", fn := fun _ => fun
  | [d1, d2] => { results := [.lit (.bool true)], args := [d1, d2] }
  | _ => none }
def fnExactMbOkRow : OpenClaim := { program := "ytdnckakaoageoaa", sum := "b188d937cb3043fd5adaf71ac1d13418756c19cf8a3533a7e84b450ee034c1ff", func := "loop.example/g01613/laws.FnExactMbOk", spec := "fnExactMbOk", unfollowed := true, recurses := true, apart := false }
def FnExactMbOkSaid : Prop := fnExactMbOkRow.holds Try.pinned (OpenSpec.ofChange fnExactMbOkSpec)

/-- ITS FALSE NEIGHBOUR: 'it returns false'. Refute it at one input. -/
def fnExactMbOkWrong : ChangeSpec := { name := "fnExactMbOk", fn := fun _ => fun
  | [d1, d2] => { results := [.lit (.bool false)], args := [d1, d2] }
  | _ => none }
def FnExactMbOkWrongFalsely : Prop := fnExactMbOkRow.holds Try.pinned (OpenSpec.ofChange fnExactMbOkWrong)

/-- 'laws.FnExactFastUe': WHATEVER THE INPUT: true; the input reads as it did. -/
def fnExactFastUeSpec : ChangeSpec := { name := "fnExactFastUe", fn := fun _ => fun
  | [d1, d2] => { results := [.lit (.bool true)], args := [d1, d2] }
  | _ => none }
def fnExactFastUeRow : OpenClaim := { program := "ytdnckakaoageoaa", sum := "b188d937cb3043fd5adaf71ac1d13418756c19cf8a3533a7e84b450ee034c1ff", func := "loop.example/g01613/laws.FnExactFastUe", spec := "fnExactFastUe", apart := false }
def FnExactFastUeSaid : Prop := fnExactFastUeRow.holds Try.pinned (OpenSpec.ofChange fnExactFastUeSpec)

/-- ITS FALSE NEIGHBOUR: 'it returns false'. Refute it at one input. -/
def fnExactFastUeWrong : ChangeSpec := { name := "fnExactFastUe", fn := fun _ => fun
  | [d1, d2] => { results := [.lit (.bool false)], args := [d1, d2] }
  | _ => none }
def FnExactFastUeWrongFalsely : Prop := fnExactFastUeRow.holds Try.pinned (OpenSpec.ofChange fnExactFastUeWrong)

/-- 'laws.FnExactReadHeader': WHATEVER THE INPUT: true; the input reads as it did. -/
def fnExactReadHeaderSpec : ChangeSpec := { name := "fnExactReadHeader", fn := fun _ => fun
  | [d] => { results := [.lit (.bool true)], args := [d] }
  | _ => none }
def fnExactReadHeaderRow : OpenClaim := { program := "ytdnckakaoageoaa", sum := "b188d937cb3043fd5adaf71ac1d13418756c19cf8a3533a7e84b450ee034c1ff", func := "loop.example/g01613/laws.FnExactReadHeader", spec := "fnExactReadHeader", unfollowed := true, recurses := true, apart := false }
def FnExactReadHeaderSaid : Prop := fnExactReadHeaderRow.holds Try.pinned (OpenSpec.ofChange fnExactReadHeaderSpec)

/-- ITS FALSE NEIGHBOUR: 'it returns false'. Refute it at one input. -/
def fnExactReadHeaderWrong : ChangeSpec := { name := "fnExactReadHeader", fn := fun _ => fun
  | [d] => { results := [.lit (.bool false)], args := [d] }
  | _ => none }
def FnExactReadHeaderWrongFalsely : Prop := fnExactReadHeaderRow.holds Try.pinned (OpenSpec.ofChange fnExactReadHeaderWrong)

/-- 'laws.FnCounted': WHATEVER THE INPUT: true; the input reads as it did. -/
def fnCountedSpec : ChangeSpec := { name := "fnCounted", fn := fun _ => fun
  | [d] => { results := [.lit (.bool true)], args := [d] }
  | _ => none }
def fnCountedRow : OpenClaim := { program := "ytdnckakaoageoaa", sum := "b188d937cb3043fd5adaf71ac1d13418756c19cf8a3533a7e84b450ee034c1ff", func := "loop.example/g01613/laws.FnCounted", spec := "fnCounted", apart := false }
def FnCountedSaid : Prop := fnCountedRow.holds Try.pinned (OpenSpec.ofChange fnCountedSpec)

/-- ITS FALSE NEIGHBOUR: 'it returns false'. Refute it at one input. -/
def fnCountedWrong : ChangeSpec := { name := "fnCounted", fn := fun _ => fun
  | [d] => { results := [.lit (.bool false)], args := [d] }
  | _ => none }
def FnCountedWrongFalsely : Prop := fnCountedRow.holds Try.pinned (OpenSpec.ofChange fnCountedWrong)

/-- 'laws.FnSymbols': WHATEVER THE INPUT: true; the input reads as it did. -/
def fnSymbolsSpec : ChangeSpec := { name := "fnSymbols", fn := fun _ => fun
  | [d] => { results := [.lit (.bool true)], args := [d] }
  | _ => none }
def fnSymbolsRow : OpenClaim := { program := "ytdnckakaoageoaa", sum := "b188d937cb3043fd5adaf71ac1d13418756c19cf8a3533a7e84b450ee034c1ff", func := "loop.example/g01613/laws.FnSymbols", spec := "fnSymbols", apart := false }
def FnSymbolsSaid : Prop := fnSymbolsRow.holds Try.pinned (OpenSpec.ofChange fnSymbolsSpec)

/-- ITS FALSE NEIGHBOUR: 'it returns false'. Refute it at one input. -/
def fnSymbolsWrong : ChangeSpec := { name := "fnSymbols", fn := fun _ => fun
  | [d] => { results := [.lit (.bool false)], args := [d] }
  | _ => none }
def FnSymbolsWrongFalsely : Prop := fnSymbolsRow.holds Try.pinned (OpenSpec.ofChange fnSymbolsWrong)

/-- 'laws.FnExactBlockBits': WHATEVER THE INPUT: true; the input reads as it did. -/
def fnExactBlockBitsSpec : ChangeSpec := { name := "fnExactBlockBits", fn := fun _ => fun
  | [d1, d2, d3] => { results := [.lit (.bool true)], args := [d1, d2, d3] }
  | _ => none }
def fnExactBlockBitsRow : OpenClaim := { program := "ytdnckakaoageoaa", sum := "b188d937cb3043fd5adaf71ac1d13418756c19cf8a3533a7e84b450ee034c1ff", func := "loop.example/g01613/laws.FnExactBlockBits", spec := "fnExactBlockBits", apart := false }
def FnExactBlockBitsSaid : Prop := fnExactBlockBitsRow.holds Try.pinned (OpenSpec.ofChange fnExactBlockBitsSpec)

/-- ITS FALSE NEIGHBOUR: 'it returns false'. Refute it at one input. -/
def fnExactBlockBitsWrong : ChangeSpec := { name := "fnExactBlockBits", fn := fun _ => fun
  | [d1, d2, d3] => { results := [.lit (.bool false)], args := [d1, d2, d3] }
  | _ => none }
def FnExactBlockBitsWrongFalsely : Prop := fnExactBlockBitsRow.holds Try.pinned (OpenSpec.ofChange fnExactBlockBitsWrong)

/-- 'laws.FnExactStreamOk': WHATEVER THE INPUT: true; the input reads as it did. -/
def fnExactStreamOkSpec : ChangeSpec := { name := "fnExactStreamOk", fn := fun _ => fun
  | [d] => { results := [.lit (.bool true)], args := [d] }
  | _ => none }
def fnExactStreamOkRow : OpenClaim := { program := "ytdnckakaoageoaa", sum := "b188d937cb3043fd5adaf71ac1d13418756c19cf8a3533a7e84b450ee034c1ff", func := "loop.example/g01613/laws.FnExactStreamOk", spec := "fnExactStreamOk", unfollowed := true, recurses := true, apart := false }
def FnExactStreamOkSaid : Prop := fnExactStreamOkRow.holds Try.pinned (OpenSpec.ofChange fnExactStreamOkSpec)

/-- ITS FALSE NEIGHBOUR: 'it returns false'. Refute it at one input. -/
def fnExactStreamOkWrong : ChangeSpec := { name := "fnExactStreamOk", fn := fun _ => fun
  | [d] => { results := [.lit (.bool false)], args := [d] }
  | _ => none }
def FnExactStreamOkWrongFalsely : Prop := fnExactStreamOkRow.holds Try.pinned (OpenSpec.ofChange fnExactStreamOkWrong)

/-- 'laws.FnExactReadBlock': WHATEVER THE INPUT: true; the input reads as it did. -/
def fnExactReadBlockSpec : ChangeSpec := { name := "fnExactReadBlock", fn := fun _ => fun
  | [d1, d2, d3] => { results := [.lit (.bool true)], args := [d1, d2, d3] }
  | _ => none }
def fnExactReadBlockRow : OpenClaim := { program := "ytdnckakaoageoaa", sum := "b188d937cb3043fd5adaf71ac1d13418756c19cf8a3533a7e84b450ee034c1ff", func := "loop.example/g01613/laws.FnExactReadBlock", spec := "fnExactReadBlock", unfollowed := true, recurses := true, apart := false }
def FnExactReadBlockSaid : Prop := fnExactReadBlockRow.holds Try.pinned (OpenSpec.ofChange fnExactReadBlockSpec)

/-- ITS FALSE NEIGHBOUR: 'it returns false'. Refute it at one input. -/
def fnExactReadBlockWrong : ChangeSpec := { name := "fnExactReadBlock", fn := fun _ => fun
  | [d1, d2, d3] => { results := [.lit (.bool false)], args := [d1, d2, d3] }
  | _ => none }
def FnExactReadBlockWrongFalsely : Prop := fnExactReadBlockRow.holds Try.pinned (OpenSpec.ofChange fnExactReadBlockWrong)

/-- 'laws.FnExactResidualOf': WHATEVER THE INPUT: true; the input reads as it did. -/
def fnExactResidualOfSpec : ChangeSpec := { name := "fnExactResidualOf", fn := fun _ => fun
  | [d1, d2] => { results := [.lit (.bool true)], args := [d1, d2] }
  | _ => none }
def fnExactResidualOfRow : OpenClaim := { program := "ytdnckakaoageoaa", sum := "b188d937cb3043fd5adaf71ac1d13418756c19cf8a3533a7e84b450ee034c1ff", func := "loop.example/g01613/laws.FnExactResidualOf", spec := "fnExactResidualOf", apart := false }
def FnExactResidualOfSaid : Prop := fnExactResidualOfRow.holds Try.pinned (OpenSpec.ofChange fnExactResidualOfSpec)

/-- ITS FALSE NEIGHBOUR: 'it returns false'. Refute it at one input. -/
def fnExactResidualOfWrong : ChangeSpec := { name := "fnExactResidualOf", fn := fun _ => fun
  | [d1, d2] => { results := [.lit (.bool false)], args := [d1, d2] }
  | _ => none }
def FnExactResidualOfWrongFalsely : Prop := fnExactResidualOfRow.holds Try.pinned (OpenSpec.ofChange fnExactResidualOfWrong)

/-- 'laws.FnExactFastResidual': WHATEVER THE INPUT: true; the input reads as it did. -/
def fnExactFastResidualSpec : ChangeSpec := { name := "fnExactFastResidual", fn := fun _ => fun
  | [d1, d2] => { results := [.lit (.bool true)], args := [d1, d2] }
  | _ => none }
def fnExactFastResidualRow : OpenClaim := { program := "ytdnckakaoageoaa", sum := "b188d937cb3043fd5adaf71ac1d13418756c19cf8a3533a7e84b450ee034c1ff", func := "loop.example/g01613/laws.FnExactFastResidual", spec := "fnExactFastResidual", apart := false }
def FnExactFastResidualSaid : Prop := fnExactFastResidualRow.holds Try.pinned (OpenSpec.ofChange fnExactFastResidualSpec)

/-- ITS FALSE NEIGHBOUR: 'it returns false'. Refute it at one input. -/
def fnExactFastResidualWrong : ChangeSpec := { name := "fnExactFastResidual", fn := fun _ => fun
  | [d1, d2] => { results := [.lit (.bool false)], args := [d1, d2] }
  | _ => none }
def FnExactFastResidualWrongFalsely : Prop := fnExactFastResidualRow.holds Try.pinned (OpenSpec.ofChange fnExactFastResidualWrong)

/- THE SECOND FORM. 'bulk': how many values and letters a reading holds, each counted each time it is reached (what is shared counts as often as it is met; a slice's spare places count too). A statement '..UptoSaid' is the law's where the arguments, and the package variables that the reading takes, are together of bulk at most 1048576: NARROWER than '..Said'. Prove '..Said' where nothing that the law and all that it calls make is longer than what came in: it says more and counts as full. Else prove '..UptoSaid'. A law counts once. -/
mutual
def uptoBulk {H : Type} : DataW H → Nat
  | .lit (.string bytes) => bytes.length + 1
  | .lit _ => 1
  | .nil => 1
  | .ptr d => uptoBulk d + 1
  | .slice elems spare => uptoBulkAll elems + uptoBulkAll spare + 1
  | .agg parts => uptoBulkAll parts + 1
  | .iface _ d => uptoBulk d + 1
  | .map entries => uptoBulkEntries entries + 1
  | .held _ => 1
def uptoBulkAll {H : Type} : List (DataW H) → Nat
  | [] => 0
  | d :: r => uptoBulk d + uptoBulkAll r
def uptoBulkEntries {H : Type} : List (Lit × DataW H) → Nat
  | [] => 0
  | x :: r => uptoBulkEntry x + uptoBulkEntries r
def uptoBulkEntry {H : Type} : Lit × DataW H → Nat
  | (.string bytes, d) => bytes.length + uptoBulk d + 1
  | (_, d) => uptoBulk d + 1
 end
def uptoSmall : (H : Type) → List (DataW H) → Bool := fun _ ds => decide (uptoBulkAll ds ≤ 1048576)
def OpenSpec.upto (s : _root_.Go.ChangeSpec) : _root_.Go.OpenSpec := { _root_.Go.OpenSpec.ofChange s with cond := some uptoSmall }

/-- 'laws.FnExactHeaderBits', WHERE WHAT IT READS IS OF BULK AT MOST 1048576: true; the input reads as it did. -/
def fnExactHeaderBitsUptoRow : OpenClaim := { program := "ytdnckakaoageoaa", sum := "b188d937cb3043fd5adaf71ac1d13418756c19cf8a3533a7e84b450ee034c1ff", func := "loop.example/g01613/laws.FnExactHeaderBits", spec := "fnExactHeaderBits", apart := false, narrowed := true }
def FnExactHeaderBitsUptoSaid : Prop := fnExactHeaderBitsUptoRow.holds Try.pinned (OpenSpec.upto fnExactHeaderBitsSpec)

/-- 'laws.FnPuts', WHERE WHAT IT READS IS OF BULK AT MOST 1048576: true; the input reads as it did. -/
def fnPutsUptoRow : OpenClaim := { program := "ytdnckakaoageoaa", sum := "b188d937cb3043fd5adaf71ac1d13418756c19cf8a3533a7e84b450ee034c1ff", func := "loop.example/g01613/laws.FnPuts", spec := "fnPuts", apart := false, narrowed := true }
def FnPutsUptoSaid : Prop := fnPutsUptoRow.holds Try.pinned (OpenSpec.upto fnPutsSpec)

/-- 'laws.FnExactMbOk', WHERE WHAT IT READS IS OF BULK AT MOST 1048576: true; the input reads as it did. -/
def fnExactMbOkUptoRow : OpenClaim := { program := "ytdnckakaoageoaa", sum := "b188d937cb3043fd5adaf71ac1d13418756c19cf8a3533a7e84b450ee034c1ff", func := "loop.example/g01613/laws.FnExactMbOk", spec := "fnExactMbOk", unfollowed := true, recurses := true, apart := false, narrowed := true }
def FnExactMbOkUptoSaid : Prop := fnExactMbOkUptoRow.holds Try.pinned (OpenSpec.upto fnExactMbOkSpec)

/-- 'laws.FnExactFastUe', WHERE WHAT IT READS IS OF BULK AT MOST 1048576: true; the input reads as it did. -/
def fnExactFastUeUptoRow : OpenClaim := { program := "ytdnckakaoageoaa", sum := "b188d937cb3043fd5adaf71ac1d13418756c19cf8a3533a7e84b450ee034c1ff", func := "loop.example/g01613/laws.FnExactFastUe", spec := "fnExactFastUe", apart := false, narrowed := true }
def FnExactFastUeUptoSaid : Prop := fnExactFastUeUptoRow.holds Try.pinned (OpenSpec.upto fnExactFastUeSpec)

/-- 'laws.FnExactReadHeader', WHERE WHAT IT READS IS OF BULK AT MOST 1048576: true; the input reads as it did. -/
def fnExactReadHeaderUptoRow : OpenClaim := { program := "ytdnckakaoageoaa", sum := "b188d937cb3043fd5adaf71ac1d13418756c19cf8a3533a7e84b450ee034c1ff", func := "loop.example/g01613/laws.FnExactReadHeader", spec := "fnExactReadHeader", unfollowed := true, recurses := true, apart := false, narrowed := true }
def FnExactReadHeaderUptoSaid : Prop := fnExactReadHeaderUptoRow.holds Try.pinned (OpenSpec.upto fnExactReadHeaderSpec)

/-- 'laws.FnCounted', WHERE WHAT IT READS IS OF BULK AT MOST 1048576: true; the input reads as it did. -/
def fnCountedUptoRow : OpenClaim := { program := "ytdnckakaoageoaa", sum := "b188d937cb3043fd5adaf71ac1d13418756c19cf8a3533a7e84b450ee034c1ff", func := "loop.example/g01613/laws.FnCounted", spec := "fnCounted", apart := false, narrowed := true }
def FnCountedUptoSaid : Prop := fnCountedUptoRow.holds Try.pinned (OpenSpec.upto fnCountedSpec)

/-- 'laws.FnSymbols', WHERE WHAT IT READS IS OF BULK AT MOST 1048576: true; the input reads as it did. -/
def fnSymbolsUptoRow : OpenClaim := { program := "ytdnckakaoageoaa", sum := "b188d937cb3043fd5adaf71ac1d13418756c19cf8a3533a7e84b450ee034c1ff", func := "loop.example/g01613/laws.FnSymbols", spec := "fnSymbols", apart := false, narrowed := true }
def FnSymbolsUptoSaid : Prop := fnSymbolsUptoRow.holds Try.pinned (OpenSpec.upto fnSymbolsSpec)

/-- 'laws.FnExactBlockBits', WHERE WHAT IT READS IS OF BULK AT MOST 1048576: true; the input reads as it did. -/
def fnExactBlockBitsUptoRow : OpenClaim := { program := "ytdnckakaoageoaa", sum := "b188d937cb3043fd5adaf71ac1d13418756c19cf8a3533a7e84b450ee034c1ff", func := "loop.example/g01613/laws.FnExactBlockBits", spec := "fnExactBlockBits", apart := false, narrowed := true }
def FnExactBlockBitsUptoSaid : Prop := fnExactBlockBitsUptoRow.holds Try.pinned (OpenSpec.upto fnExactBlockBitsSpec)

/-- 'laws.FnExactStreamOk', WHERE WHAT IT READS IS OF BULK AT MOST 1048576: true; the input reads as it did. -/
def fnExactStreamOkUptoRow : OpenClaim := { program := "ytdnckakaoageoaa", sum := "b188d937cb3043fd5adaf71ac1d13418756c19cf8a3533a7e84b450ee034c1ff", func := "loop.example/g01613/laws.FnExactStreamOk", spec := "fnExactStreamOk", unfollowed := true, recurses := true, apart := false, narrowed := true }
def FnExactStreamOkUptoSaid : Prop := fnExactStreamOkUptoRow.holds Try.pinned (OpenSpec.upto fnExactStreamOkSpec)

/-- 'laws.FnExactReadBlock', WHERE WHAT IT READS IS OF BULK AT MOST 1048576: true; the input reads as it did. -/
def fnExactReadBlockUptoRow : OpenClaim := { program := "ytdnckakaoageoaa", sum := "b188d937cb3043fd5adaf71ac1d13418756c19cf8a3533a7e84b450ee034c1ff", func := "loop.example/g01613/laws.FnExactReadBlock", spec := "fnExactReadBlock", unfollowed := true, recurses := true, apart := false, narrowed := true }
def FnExactReadBlockUptoSaid : Prop := fnExactReadBlockUptoRow.holds Try.pinned (OpenSpec.upto fnExactReadBlockSpec)

/-- 'laws.FnExactResidualOf', WHERE WHAT IT READS IS OF BULK AT MOST 1048576: true; the input reads as it did. -/
def fnExactResidualOfUptoRow : OpenClaim := { program := "ytdnckakaoageoaa", sum := "b188d937cb3043fd5adaf71ac1d13418756c19cf8a3533a7e84b450ee034c1ff", func := "loop.example/g01613/laws.FnExactResidualOf", spec := "fnExactResidualOf", apart := false, narrowed := true }
def FnExactResidualOfUptoSaid : Prop := fnExactResidualOfUptoRow.holds Try.pinned (OpenSpec.upto fnExactResidualOfSpec)

/-- 'laws.FnExactFastResidual', WHERE WHAT IT READS IS OF BULK AT MOST 1048576: true; the input reads as it did. -/
def fnExactFastResidualUptoRow : OpenClaim := { program := "ytdnckakaoageoaa", sum := "b188d937cb3043fd5adaf71ac1d13418756c19cf8a3533a7e84b450ee034c1ff", func := "loop.example/g01613/laws.FnExactFastResidual", spec := "fnExactFastResidual", apart := false, narrowed := true }
def FnExactFastResidualUptoSaid : Prop := fnExactFastResidualUptoRow.holds Try.pinned (OpenSpec.upto fnExactFastResidualSpec)

end Rows
end Go.Proofs.Ytdnckakaoageoaa
