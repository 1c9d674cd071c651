/-
  No cell of these rows narrows 'for every input' (looked for: loops, veiled, ifaces, maps, wideKeys, modest, calm, conditions, laid).
  DERIVED. THE GIVEN ROWS OF THIS SEAT. 13 by the template 'for every input the law returns true; each argument reads behind the call as it read before'; 0 by the template 'total and deterministic' (their statements: YtglepnbcplldeaaTotals.lean).
  GIVEN WITH THE SEED: the statements are not yours to turn. If you find one false, say at which input.
  Laid BY PROGRAM, IN A SANDBOX (cutbox-rows.mjs): the forced cells as the released guide's own fill.sh prints them over the translation 6365c4f947053eca… (all of the seat's roots in one cut). By AI agents, Wed Nov 11 2026. No macro, syntax, notation, axiom, sorry.
-/
import Derived.Test.YtglepnbcplldeaaChecked
import GoSem.Claim
import GoSem.ClaimJoined
import GoSem.ClaimMapViews
import Derived.JoinedTies
import Derived.KernelRfl
namespace Go.Proofs.Ytglepnbcplldeaa
/- THE CELL 'sum', in the pinned program and in every row, IS THE sha256 OF THE DUMP (.gsa) THAT YtglepnbcplldeaaProg.lean LOADS. Nothing in Lean hashes anything: it is a label: what it is worth is what the hold of that sum in a sandbox is worth. -/
noncomputable def Try.pinned : Pinned := { name := "ytglepnbcplldeaa", sum := "6365c4f947053eca77268d16e01de4218e6a9a000e94475920224b4531fbbf81", checked := Try.checked }
namespace Rows
def none {H : Type} : Left H := { results := [], args := [] }

/-- 'laws.FnExactCacheOk': WHATEVER THE INPUT: true; the input reads as it did. -/
def fnExactCacheOkSpec : ChangeSpec := { name := "fnExactCacheOk", fn := fun _ => fun
  | [d] => { results := [.lit (.bool true)], args := [d] }
  | _ => none }
def fnExactCacheOkRow : OpenClaim := { program := "ytglepnbcplldeaa", sum := "6365c4f947053eca77268d16e01de4218e6a9a000e94475920224b4531fbbf81", func := "loop.example/g01613/laws.FnExactCacheOk", spec := "fnExactCacheOk", apart := false }
def FnExactCacheOkSaid : Prop := fnExactCacheOkRow.holds Try.pinned (OpenSpec.ofChange fnExactCacheOkSpec)

/-- ITS FALSE NEIGHBOUR: 'it returns false'. Refute it at one input. -/
def fnExactCacheOkWrong : ChangeSpec := { name := "fnExactCacheOk", fn := fun _ => fun
  | [d] => { results := [.lit (.bool false)], args := [d] }
  | _ => none }
def FnExactCacheOkWrongFalsely : Prop := fnExactCacheOkRow.holds Try.pinned (OpenSpec.ofChange fnExactCacheOkWrong)

/-- 'laws.FnExactPlaceIn': WHATEVER THE INPUT: true; the input reads as it did. -/
def fnExactPlaceInSpec : ChangeSpec := { name := "fnExactPlaceIn", fn := fun _ => fun
  | [d] => { results := [.lit (.bool true)], args := [d] }
  | _ => none }
def fnExactPlaceInRow : OpenClaim := { program := "ytglepnbcplldeaa", sum := "6365c4f947053eca77268d16e01de4218e6a9a000e94475920224b4531fbbf81", func := "loop.example/g01613/laws.FnExactPlaceIn", spec := "fnExactPlaceIn", apart := false }
def FnExactPlaceInSaid : Prop := fnExactPlaceInRow.holds Try.pinned (OpenSpec.ofChange fnExactPlaceInSpec)

/-- ITS FALSE NEIGHBOUR: 'it returns false'. Refute it at one input. -/
def fnExactPlaceInWrong : ChangeSpec := { name := "fnExactPlaceIn", fn := fun _ => fun
  | [d] => { results := [.lit (.bool false)], args := [d] }
  | _ => none }
def FnExactPlaceInWrongFalsely : Prop := fnExactPlaceInRow.holds Try.pinned (OpenSpec.ofChange fnExactPlaceInWrong)

/-- 'laws.FnExactReadBits': WHATEVER THE INPUT: true; the input reads as it did. -/
def fnExactReadBitsSpec : ChangeSpec := { name := "fnExactReadBits", fn := fun _ => fun
  | [d1, d2] => { results := [.lit (.bool true)], args := [d1, d2] }
  | _ => none }
def fnExactReadBitsRow : OpenClaim := { program := "ytglepnbcplldeaa", sum := "6365c4f947053eca77268d16e01de4218e6a9a000e94475920224b4531fbbf81", func := "loop.example/g01613/laws.FnExactReadBits", spec := "fnExactReadBits", apart := false }
def FnExactReadBitsSaid : Prop := fnExactReadBitsRow.holds Try.pinned (OpenSpec.ofChange fnExactReadBitsSpec)

/-- ITS FALSE NEIGHBOUR: 'it returns false'. Refute it at one input. -/
def fnExactReadBitsWrong : ChangeSpec := { name := "fnExactReadBits", fn := fun _ => fun
  | [d1, d2] => { results := [.lit (.bool false)], args := [d1, d2] }
  | _ => none }
def FnExactReadBitsWrongFalsely : Prop := fnExactReadBitsRow.holds Try.pinned (OpenSpec.ofChange fnExactReadBitsWrong)

/-- 'laws.FnExactStopOk': WHATEVER THE INPUT: true; the input reads as it did. -/
def fnExactStopOkSpec : ChangeSpec := { name := "fnExactStopOk", fn := fun _ => fun
  | [d] => { results := [.lit (.bool true)], args := [d] }
  | _ => none }
def fnExactStopOkRow : OpenClaim := { program := "ytglepnbcplldeaa", sum := "6365c4f947053eca77268d16e01de4218e6a9a000e94475920224b4531fbbf81", func := "loop.example/g01613/laws.FnExactStopOk", spec := "fnExactStopOk", apart := false }
def FnExactStopOkSaid : Prop := fnExactStopOkRow.holds Try.pinned (OpenSpec.ofChange fnExactStopOkSpec)

/-- ITS FALSE NEIGHBOUR: 'it returns false'. Refute it at one input. -/
def fnExactStopOkWrong : ChangeSpec := { name := "fnExactStopOk", fn := fun _ => fun
  | [d] => { results := [.lit (.bool false)], args := [d] }
  | _ => none }
def FnExactStopOkWrongFalsely : Prop := fnExactStopOkRow.holds Try.pinned (OpenSpec.ofChange fnExactStopOkWrong)

/-- 'laws.FnExactRefill': WHATEVER THE INPUT: true; the input reads as it did. -/
def fnExactRefillSpec : ChangeSpec := { name := "fnExactRefill", fn := fun _ => fun
  | [d] => { results := [.lit (.bool true)], args := [d] }
  | _ => none }
def fnExactRefillRow : OpenClaim := { program := "ytglepnbcplldeaa", sum := "6365c4f947053eca77268d16e01de4218e6a9a000e94475920224b4531fbbf81", func := "loop.example/g01613/laws.FnExactRefill", spec := "fnExactRefill", apart := false }
def FnExactRefillSaid : Prop := fnExactRefillRow.holds Try.pinned (OpenSpec.ofChange fnExactRefillSpec)

/-- ITS FALSE NEIGHBOUR: 'it returns false'. Refute it at one input. -/
def fnExactRefillWrong : ChangeSpec := { name := "fnExactRefill", fn := fun _ => fun
  | [d] => { results := [.lit (.bool false)], args := [d] }
  | _ => none }
def FnExactRefillWrongFalsely : Prop := fnExactRefillRow.holds Try.pinned (OpenSpec.ofChange fnExactRefillWrong)

/-- 'laws.FnExactSettle': WHATEVER THE INPUT: true; the input reads as it did. -/
def fnExactSettleSpec : ChangeSpec := { name := "fnExactSettle", fn := fun _ => fun
  | [d] => { results := [.lit (.bool true)], args := [d] }
  | _ => none }
def fnExactSettleRow : OpenClaim := { program := "ytglepnbcplldeaa", sum := "6365c4f947053eca77268d16e01de4218e6a9a000e94475920224b4531fbbf81", func := "loop.example/g01613/laws.FnExactSettle", spec := "fnExactSettle", apart := false }
def FnExactSettleSaid : Prop := fnExactSettleRow.holds Try.pinned (OpenSpec.ofChange fnExactSettleSpec)

/-- ITS FALSE NEIGHBOUR: 'it returns false'. Refute it at one input. -/
def fnExactSettleWrong : ChangeSpec := { name := "fnExactSettle", fn := fun _ => fun
  | [d] => { results := [.lit (.bool false)], args := [d] }
  | _ => none }
def FnExactSettleWrongFalsely : Prop := fnExactSettleRow.holds Try.pinned (OpenSpec.ofChange fnExactSettleWrong)

/-- 'laws.FnCaches': WHATEVER THE INPUT: true; the input reads as it did. -/
def fnCachesSpec : ChangeSpec := { name := "fnCaches", fn := fun _ => fun
  | [d] => { results := [.lit (.bool true)], args := [d] }
  | _ => none }
def fnCachesRow : OpenClaim := { program := "ytglepnbcplldeaa", sum := "6365c4f947053eca77268d16e01de4218e6a9a000e94475920224b4531fbbf81", func := "loop.example/g01613/laws.FnCaches", spec := "fnCaches", apart := false }
def FnCachesSaid : Prop := fnCachesRow.holds Try.pinned (OpenSpec.ofChange fnCachesSpec)

/-- ITS FALSE NEIGHBOUR: 'it returns false'. Refute it at one input. -/
def fnCachesWrong : ChangeSpec := { name := "fnCaches", fn := fun _ => fun
  | [d] => { results := [.lit (.bool false)], args := [d] }
  | _ => none }
def FnCachesWrongFalsely : Prop := fnCachesRow.holds Try.pinned (OpenSpec.ofChange fnCachesWrong)

/-- 'laws.FnExactHeaderOk': WHATEVER THE INPUT: true; the input reads as it did. -/
def fnExactHeaderOkSpec : ChangeSpec := { name := "fnExactHeaderOk", fn := fun _ => fun
  | [d] => { results := [.lit (.bool true)], args := [d] }
  | _ => none }
def fnExactHeaderOkRow : OpenClaim := { program := "ytglepnbcplldeaa", sum := "6365c4f947053eca77268d16e01de4218e6a9a000e94475920224b4531fbbf81", func := "loop.example/g01613/laws.FnExactHeaderOk", spec := "fnExactHeaderOk", apart := false }
def FnExactHeaderOkSaid : Prop := fnExactHeaderOkRow.holds Try.pinned (OpenSpec.ofChange fnExactHeaderOkSpec)

/-- ITS FALSE NEIGHBOUR: 'it returns false'. Refute it at one input. -/
def fnExactHeaderOkWrong : ChangeSpec := { name := "fnExactHeaderOk", fn := fun _ => fun
  | [d] => { results := [.lit (.bool false)], args := [d] }
  | _ => none }
def FnExactHeaderOkWrongFalsely : Prop := fnExactHeaderOkRow.holds Try.pinned (OpenSpec.ofChange fnExactHeaderOkWrong)

/-- 'laws.FnExactReadUe': WHATEVER THE INPUT: true; the input reads as it did. -/
def fnExactReadUeSpec : ChangeSpec := { name := "fnExactReadUe", fn := fun _ => fun
  | [d] => { results := [.lit (.bool true)], args := [d] }
  | _ => none }
def fnExactReadUeRow : OpenClaim := { program := "ytglepnbcplldeaa", sum := "6365c4f947053eca77268d16e01de4218e6a9a000e94475920224b4531fbbf81", func := "loop.example/g01613/laws.FnExactReadUe", spec := "fnExactReadUe", apart := false }
def FnExactReadUeSaid : Prop := fnExactReadUeRow.holds Try.pinned (OpenSpec.ofChange fnExactReadUeSpec)

/-- ITS FALSE NEIGHBOUR: 'it returns false'. Refute it at one input. -/
def fnExactReadUeWrong : ChangeSpec := { name := "fnExactReadUe", fn := fun _ => fun
  | [d] => { results := [.lit (.bool false)], args := [d] }
  | _ => none }
def FnExactReadUeWrongFalsely : Prop := fnExactReadUeRow.holds Try.pinned (OpenSpec.ofChange fnExactReadUeWrong)

/-- 'laws.FnReads': WHATEVER THE INPUT: true; the input reads as it did. -/
def fnReadsSpec : ChangeSpec := { name := "fnReads", fn := fun _ => fun
  | [d] => { results := [.lit (.bool true)], args := [d] }
  | _ => none }
def fnReadsRow : OpenClaim := { program := "ytglepnbcplldeaa", sum := "6365c4f947053eca77268d16e01de4218e6a9a000e94475920224b4531fbbf81", func := "loop.example/g01613/laws.FnReads", spec := "fnReads", apart := false }
def FnReadsSaid : Prop := fnReadsRow.holds Try.pinned (OpenSpec.ofChange fnReadsSpec)

/-- ITS FALSE NEIGHBOUR: 'it returns false'. Refute it at one input. -/
def fnReadsWrong : ChangeSpec := { name := "fnReads", fn := fun _ => fun
  | [d] => { results := [.lit (.bool false)], args := [d] }
  | _ => none }
def FnReadsWrongFalsely : Prop := fnReadsRow.holds Try.pinned (OpenSpec.ofChange fnReadsWrong)

/-- 'laws.FnExactPeek': WHATEVER THE INPUT: true; the input reads as it did. -/
def fnExactPeekSpec : ChangeSpec := { name := "fnExactPeek", fn := fun _ => fun
  | [d1, d2] => { results := [.lit (.bool true)], args := [d1, d2] }
  | _ => none }
def fnExactPeekRow : OpenClaim := { program := "ytglepnbcplldeaa", sum := "6365c4f947053eca77268d16e01de4218e6a9a000e94475920224b4531fbbf81", func := "loop.example/g01613/laws.FnExactPeek", spec := "fnExactPeek", apart := false }
def FnExactPeekSaid : Prop := fnExactPeekRow.holds Try.pinned (OpenSpec.ofChange fnExactPeekSpec)

/-- ITS FALSE NEIGHBOUR: 'it returns false'. Refute it at one input. -/
def fnExactPeekWrong : ChangeSpec := { name := "fnExactPeek", fn := fun _ => fun
  | [d1, d2] => { results := [.lit (.bool false)], args := [d1, d2] }
  | _ => none }
def FnExactPeekWrongFalsely : Prop := fnExactPeekRow.holds Try.pinned (OpenSpec.ofChange fnExactPeekWrong)

/-- 'laws.FnExactSkip': WHATEVER THE INPUT: true; the input reads as it did. -/
def fnExactSkipSpec : ChangeSpec := { name := "fnExactSkip", fn := fun _ => fun
  | [d1, d2] => { results := [.lit (.bool true)], args := [d1, d2] }
  | _ => none }
def fnExactSkipRow : OpenClaim := { program := "ytglepnbcplldeaa", sum := "6365c4f947053eca77268d16e01de4218e6a9a000e94475920224b4531fbbf81", func := "loop.example/g01613/laws.FnExactSkip", spec := "fnExactSkip", apart := false }
def FnExactSkipSaid : Prop := fnExactSkipRow.holds Try.pinned (OpenSpec.ofChange fnExactSkipSpec)

/-- ITS FALSE NEIGHBOUR: 'it returns false'. Refute it at one input. -/
def fnExactSkipWrong : ChangeSpec := { name := "fnExactSkip", fn := fun _ => fun
  | [d1, d2] => { results := [.lit (.bool false)], args := [d1, d2] }
  | _ => none }
def FnExactSkipWrongFalsely : Prop := fnExactSkipRow.holds Try.pinned (OpenSpec.ofChange fnExactSkipWrong)

/-- 'laws.FnExactSameMb': WHATEVER THE INPUT: true; the input reads as it did. -/
def fnExactSameMbSpec : ChangeSpec := { name := "fnExactSameMb", fn := fun _ => fun
  | [d1, d2] => { results := [.lit (.bool true)], args := [d1, d2] }
  | _ => none }
def fnExactSameMbRow : OpenClaim := { program := "ytglepnbcplldeaa", sum := "6365c4f947053eca77268d16e01de4218e6a9a000e94475920224b4531fbbf81", func := "loop.example/g01613/laws.FnExactSameMb", spec := "fnExactSameMb", unfollowed := true, recurses := true, apart := false }
def FnExactSameMbSaid : Prop := fnExactSameMbRow.holds Try.pinned (OpenSpec.ofChange fnExactSameMbSpec)

/-- ITS FALSE NEIGHBOUR: 'it returns false'. Refute it at one input. -/
def fnExactSameMbWrong : ChangeSpec := { name := "fnExactSameMb", fn := fun _ => fun
  | [d1, d2] => { results := [.lit (.bool false)], args := [d1, d2] }
  | _ => none }
def FnExactSameMbWrongFalsely : Prop := fnExactSameMbRow.holds Try.pinned (OpenSpec.ofChange fnExactSameMbWrong)

/- THE SECOND FORM. 'bulk': how many values and letters a reading holds, each counted each time it is reached (what is shared counts as often as it is met; a slice's spare places count too). A statement '..UptoSaid' is the law's where the arguments, and the package variables that the reading takes, are together of bulk at most 1048576: NARROWER than '..Said'. Prove '..Said' where nothing that the law and all that it calls make is longer than what came in: it says more and counts as full. Else prove '..UptoSaid'. A law counts once. -/
mutual
def uptoBulk {H : Type} : DataW H → Nat
  | .lit (.string bytes) => bytes.length + 1
  | .lit _ => 1
  | .nil => 1
  | .ptr d => uptoBulk d + 1
  | .slice elems spare => uptoBulkAll elems + uptoBulkAll spare + 1
  | .agg parts => uptoBulkAll parts + 1
  | .iface _ d => uptoBulk d + 1
  | .map entries => uptoBulkEntries entries + 1
  | .held _ => 1
def uptoBulkAll {H : Type} : List (DataW H) → Nat
  | [] => 0
  | d :: r => uptoBulk d + uptoBulkAll r
def uptoBulkEntries {H : Type} : List (Lit × DataW H) → Nat
  | [] => 0
  | x :: r => uptoBulkEntry x + uptoBulkEntries r
def uptoBulkEntry {H : Type} : Lit × DataW H → Nat
  | (.string bytes, d) => bytes.length + uptoBulk d + 1
  | (_, d) => uptoBulk d + 1
 end
def uptoSmall : (H : Type) → List (DataW H) → Bool := fun _ ds => decide (uptoBulkAll ds ≤ 1048576)
def OpenSpec.upto (s : _root_.Go.ChangeSpec) : _root_.Go.OpenSpec := { _root_.Go.OpenSpec.ofChange s with cond := some uptoSmall }

/-- 'laws.FnExactCacheOk', WHERE WHAT IT READS IS OF BULK AT MOST 1048576: true; the input reads as it did. -/
def fnExactCacheOkUptoRow : OpenClaim := { program := "ytglepnbcplldeaa", sum := "6365c4f947053eca77268d16e01de4218e6a9a000e94475920224b4531fbbf81", func := "loop.example/g01613/laws.FnExactCacheOk", spec := "fnExactCacheOk", apart := false, narrowed := true }
def FnExactCacheOkUptoSaid : Prop := fnExactCacheOkUptoRow.holds Try.pinned (OpenSpec.upto fnExactCacheOkSpec)

/-- 'laws.FnExactPlaceIn', WHERE WHAT IT READS IS OF BULK AT MOST 1048576: true; the input reads as it did. -/
def fnExactPlaceInUptoRow : OpenClaim := { program := "ytglepnbcplldeaa", sum := "6365c4f947053eca77268d16e01de4218e6a9a000e94475920224b4531fbbf81", func := "loop.example/g01613/laws.FnExactPlaceIn", spec := "fnExactPlaceIn", apart := false, narrowed := true }
def FnExactPlaceInUptoSaid : Prop := fnExactPlaceInUptoRow.holds Try.pinned (OpenSpec.upto fnExactPlaceInSpec)

/-- 'laws.FnExactReadBits', WHERE WHAT IT READS IS OF BULK AT MOST 1048576: true; the input reads as it did. -/
def fnExactReadBitsUptoRow : OpenClaim := { program := "ytglepnbcplldeaa", sum := "6365c4f947053eca77268d16e01de4218e6a9a000e94475920224b4531fbbf81", func := "loop.example/g01613/laws.FnExactReadBits", spec := "fnExactReadBits", apart := false, narrowed := true }
def FnExactReadBitsUptoSaid : Prop := fnExactReadBitsUptoRow.holds Try.pinned (OpenSpec.upto fnExactReadBitsSpec)

/-- 'laws.FnExactStopOk', WHERE WHAT IT READS IS OF BULK AT MOST 1048576: true; the input reads as it did. -/
def fnExactStopOkUptoRow : OpenClaim := { program := "ytglepnbcplldeaa", sum := "6365c4f947053eca77268d16e01de4218e6a9a000e94475920224b4531fbbf81", func := "loop.example/g01613/laws.FnExactStopOk", spec := "fnExactStopOk", apart := false, narrowed := true }
def FnExactStopOkUptoSaid : Prop := fnExactStopOkUptoRow.holds Try.pinned (OpenSpec.upto fnExactStopOkSpec)

/-- 'laws.FnExactRefill', WHERE WHAT IT READS IS OF BULK AT MOST 1048576: true; the input reads as it did. -/
def fnExactRefillUptoRow : OpenClaim := { program := "ytglepnbcplldeaa", sum := "6365c4f947053eca77268d16e01de4218e6a9a000e94475920224b4531fbbf81", func := "loop.example/g01613/laws.FnExactRefill", spec := "fnExactRefill", apart := false, narrowed := true }
def FnExactRefillUptoSaid : Prop := fnExactRefillUptoRow.holds Try.pinned (OpenSpec.upto fnExactRefillSpec)

/-- 'laws.FnExactSettle', WHERE WHAT IT READS IS OF BULK AT MOST 1048576: true; the input reads as it did. -/
def fnExactSettleUptoRow : OpenClaim := { program := "ytglepnbcplldeaa", sum := "6365c4f947053eca77268d16e01de4218e6a9a000e94475920224b4531fbbf81", func := "loop.example/g01613/laws.FnExactSettle", spec := "fnExactSettle", apart := false, narrowed := true }
def FnExactSettleUptoSaid : Prop := fnExactSettleUptoRow.holds Try.pinned (OpenSpec.upto fnExactSettleSpec)

/-- 'laws.FnCaches', WHERE WHAT IT READS IS OF BULK AT MOST 1048576: true; the input reads as it did. -/
def fnCachesUptoRow : OpenClaim := { program := "ytglepnbcplldeaa", sum := "6365c4f947053eca77268d16e01de4218e6a9a000e94475920224b4531fbbf81", func := "loop.example/g01613/laws.FnCaches", spec := "fnCaches", apart := false, narrowed := true }
def FnCachesUptoSaid : Prop := fnCachesUptoRow.holds Try.pinned (OpenSpec.upto fnCachesSpec)

/-- 'laws.FnExactHeaderOk', WHERE WHAT IT READS IS OF BULK AT MOST 1048576: true; the input reads as it did. -/
def fnExactHeaderOkUptoRow : OpenClaim := { program := "ytglepnbcplldeaa", sum := "6365c4f947053eca77268d16e01de4218e6a9a000e94475920224b4531fbbf81", func := "loop.example/g01613/laws.FnExactHeaderOk", spec := "fnExactHeaderOk", apart := false, narrowed := true }
def FnExactHeaderOkUptoSaid : Prop := fnExactHeaderOkUptoRow.holds Try.pinned (OpenSpec.upto fnExactHeaderOkSpec)

/-- 'laws.FnExactReadUe', WHERE WHAT IT READS IS OF BULK AT MOST 1048576: true; the input reads as it did. -/
def fnExactReadUeUptoRow : OpenClaim := { program := "ytglepnbcplldeaa", sum := "6365c4f947053eca77268d16e01de4218e6a9a000e94475920224b4531fbbf81", func := "loop.example/g01613/laws.FnExactReadUe", spec := "fnExactReadUe", apart := false, narrowed := true }
def FnExactReadUeUptoSaid : Prop := fnExactReadUeUptoRow.holds Try.pinned (OpenSpec.upto fnExactReadUeSpec)

/-- 'laws.FnReads', WHERE WHAT IT READS IS OF BULK AT MOST 1048576: true; the input reads as it did. -/
def fnReadsUptoRow : OpenClaim := { program := "ytglepnbcplldeaa", sum := "6365c4f947053eca77268d16e01de4218e6a9a000e94475920224b4531fbbf81", func := "loop.example/g01613/laws.FnReads", spec := "fnReads", apart := false, narrowed := true }
def FnReadsUptoSaid : Prop := fnReadsUptoRow.holds Try.pinned (OpenSpec.upto fnReadsSpec)

/-- 'laws.FnExactPeek', WHERE WHAT IT READS IS OF BULK AT MOST 1048576: true; the input reads as it did. -/
def fnExactPeekUptoRow : OpenClaim := { program := "ytglepnbcplldeaa", sum := "6365c4f947053eca77268d16e01de4218e6a9a000e94475920224b4531fbbf81", func := "loop.example/g01613/laws.FnExactPeek", spec := "fnExactPeek", apart := false, narrowed := true }
def FnExactPeekUptoSaid : Prop := fnExactPeekUptoRow.holds Try.pinned (OpenSpec.upto fnExactPeekSpec)

/-- 'laws.FnExactSkip', WHERE WHAT IT READS IS OF BULK AT MOST 1048576: true; the input reads as it did. -/
def fnExactSkipUptoRow : OpenClaim := { program := "ytglepnbcplldeaa", sum := "6365c4f947053eca77268d16e01de4218e6a9a000e94475920224b4531fbbf81", func := "loop.example/g01613/laws.FnExactSkip", spec := "fnExactSkip", apart := false, narrowed := true }
def FnExactSkipUptoSaid : Prop := fnExactSkipUptoRow.holds Try.pinned (OpenSpec.upto fnExactSkipSpec)

/-- 'laws.FnExactSameMb', WHERE WHAT IT READS IS OF BULK AT MOST 1048576: true; the input reads as it did. -/
def fnExactSameMbUptoRow : OpenClaim := { program := "ytglepnbcplldeaa", sum := "6365c4f947053eca77268d16e01de4218e6a9a000e94475920224b4531fbbf81", func := "loop.example/g01613/laws.FnExactSameMb", spec := "fnExactSameMb", unfollowed := true, recurses := true, apart := false, narrowed := true }
def FnExactSameMbUptoSaid : Prop := fnExactSameMbUptoRow.holds Try.pinned (OpenSpec.upto fnExactSameMbSpec)

end Rows
end Go.Proofs.Ytglepnbcplldeaa
