/-
  No cell of these rows narrows 'for every input' (looked for: loops, veiled, ifaces, maps, wideKeys, modest, calm, conditions, laid).
  DERIVED. THE GIVEN ROWS OF THIS SEAT. 10 by the template 'for every input the law returns true; each argument reads behind the call as it read before'; 0 by the template 'total and deterministic' (their statements: YtbeplmdadjgamaaGreatTotals.lean).
  GIVEN WITH THE SEED: the statements are not yours to turn. If you find one false, say at which input.
  Laid BY PROGRAM, IN A SANDBOX (cutbox-rows.mjs): the forced cells as the released guide's own fill.sh prints them over the translation 497766480a8468f7… (all of the seat's roots in one cut). By AI agents, Wed Nov 11 2026. No macro, syntax, notation, axiom, sorry.
-/
import Derived.Test.YtbeplmdadjgamaaGreatChecked
import GoSem.Claim
import GoSem.ClaimJoined
import GoSem.ClaimMapViews
import Derived.JoinedTies
import Derived.KernelRfl
namespace Go.Proofs.YtbeplmdadjgamaaGreat
/- THE CELL 'sum', in the pinned program and in every row, IS THE sha256 OF THE DUMP (.gsa) THAT YtbeplmdadjgamaaGreatProg.lean LOADS. Nothing in Lean hashes anything: it is a label: what it is worth is what the hold of that sum in a sandbox is worth. -/
noncomputable def Tryz.pinned : Pinned := { name := "ytbeplmdadjgamaagreat", sum := "497766480a8468f75c6e2361827b4c781473878c7b44953995280a7c89c7595c", checked := Tryz.checked }
namespace Rows
def none {H : Type} : Left H := { results := [], args := [] }

/-- 'laws.FnExactDecideShard': WHATEVER THE INPUT: true; the input reads as it did. -/
def fnExactDecideShardSpec : ChangeSpec := { name := "fnExactDecideShard", fn := fun _ => fun
  | [d1, d2, d3] => { results := [.lit (.bool true)], args := [d1, d2, d3] }
  | _ => none }
def fnExactDecideShardRow : OpenClaim := { program := "ytbeplmdadjgamaagreat", sum := "497766480a8468f75c6e2361827b4c781473878c7b44953995280a7c89c7595c", func := "loop.example/g00203/laws.FnExactDecideShard", spec := "fnExactDecideShard", inPlace := ["slices.overlaps[loop.example/g00203/impl.Mark]", "slices.overlaps[loop.example/g00203/impl.Balance]"], unfollowed := true, recurses := true, apart := false }
def FnExactDecideShardSaid : Prop := fnExactDecideShardRow.holds Tryz.pinned (OpenSpec.ofChange fnExactDecideShardSpec)

/-- ITS FALSE NEIGHBOUR: 'it returns false'. Refute it at one input. -/
def fnExactDecideShardWrong : ChangeSpec := { name := "fnExactDecideShard", fn := fun _ => fun
  | [d1, d2, d3] => { results := [.lit (.bool false)], args := [d1, d2, d3] }
  | _ => none }
def FnExactDecideShardWrongFalsely : Prop := fnExactDecideShardRow.holds Tryz.pinned (OpenSpec.ofChange fnExactDecideShardWrong)

/-- 'laws.FnExactEngineFault': WHATEVER THE INPUT: true; the input reads as it did. -/
def fnExactEngineFaultSpec : ChangeSpec := { name := "fnExactEngineFault", fn := fun _ => fun
  | [d] => { results := [.lit (.bool true)], args := [d] }
  | _ => none }
def fnExactEngineFaultRow : OpenClaim := { program := "ytbeplmdadjgamaagreat", sum := "497766480a8468f75c6e2361827b4c781473878c7b44953995280a7c89c7595c", func := "loop.example/g00203/laws.FnExactEngineFault", spec := "fnExactEngineFault", inPlace := ["internal/bytealg.abigen_runtime_cmpstring"], unfollowed := true, recurses := true, apart := false }
def FnExactEngineFaultSaid : Prop := fnExactEngineFaultRow.holds Tryz.pinned (OpenSpec.ofChange fnExactEngineFaultSpec)

/-- ITS FALSE NEIGHBOUR: 'it returns false'. Refute it at one input. -/
def fnExactEngineFaultWrong : ChangeSpec := { name := "fnExactEngineFault", fn := fun _ => fun
  | [d] => { results := [.lit (.bool false)], args := [d] }
  | _ => none }
def FnExactEngineFaultWrongFalsely : Prop := fnExactEngineFaultRow.holds Tryz.pinned (OpenSpec.ofChange fnExactEngineFaultWrong)

/-- 'laws.FnExactFlushEngine': WHATEVER THE INPUT: true; the input reads as it did. -/
def fnExactFlushEngineSpec : ChangeSpec := { name := "fnExactFlushEngine", fn := fun _ => fun
  | [d] => { results := [.lit (.bool true)], args := [d] }
  | _ => none }
def fnExactFlushEngineRow : OpenClaim := { program := "ytbeplmdadjgamaagreat", sum := "497766480a8468f75c6e2361827b4c781473878c7b44953995280a7c89c7595c", func := "loop.example/g00203/laws.FnExactFlushEngine", spec := "fnExactFlushEngine", inPlace := ["internal/bytealg.abigen_runtime_cmpstring"], unfollowed := true, recurses := true, apart := false }
def FnExactFlushEngineSaid : Prop := fnExactFlushEngineRow.holds Tryz.pinned (OpenSpec.ofChange fnExactFlushEngineSpec)

/-- ITS FALSE NEIGHBOUR: 'it returns false'. Refute it at one input. -/
def fnExactFlushEngineWrong : ChangeSpec := { name := "fnExactFlushEngine", fn := fun _ => fun
  | [d] => { results := [.lit (.bool false)], args := [d] }
  | _ => none }
def FnExactFlushEngineWrongFalsely : Prop := fnExactFlushEngineRow.holds Tryz.pinned (OpenSpec.ofChange fnExactFlushEngineWrong)

/-- 'laws.FnEngineCrashes': WHATEVER THE INPUT: true; the input reads as it did. -/
def fnEngineCrashesSpec : ChangeSpec := { name := "fnEngineCrashes", fn := fun _ => fun
  | [d] => { results := [.lit (.bool true)], args := [d] }
  | _ => none }
def fnEngineCrashesRow : OpenClaim := { program := "ytbeplmdadjgamaagreat", sum := "497766480a8468f75c6e2361827b4c781473878c7b44953995280a7c89c7595c", func := "loop.example/g00203/laws.FnEngineCrashes", spec := "fnEngineCrashes", inPlace := ["internal/bytealg.abigen_runtime_cmpstring"], unfollowed := true, recurses := true, apart := false }
def FnEngineCrashesSaid : Prop := fnEngineCrashesRow.holds Tryz.pinned (OpenSpec.ofChange fnEngineCrashesSpec)

/-- ITS FALSE NEIGHBOUR: 'it returns false'. Refute it at one input. -/
def fnEngineCrashesWrong : ChangeSpec := { name := "fnEngineCrashes", fn := fun _ => fun
  | [d] => { results := [.lit (.bool false)], args := [d] }
  | _ => none }
def FnEngineCrashesWrongFalsely : Prop := fnEngineCrashesRow.holds Tryz.pinned (OpenSpec.ofChange fnEngineCrashesWrong)

/-- 'laws.FnExactCrashEngine': WHATEVER THE INPUT: true; the input reads as it did. -/
def fnExactCrashEngineSpec : ChangeSpec := { name := "fnExactCrashEngine", fn := fun _ => fun
  | [d1, d2] => { results := [.lit (.bool true)], args := [d1, d2] }
  | _ => none }
def fnExactCrashEngineRow : OpenClaim := { program := "ytbeplmdadjgamaagreat", sum := "497766480a8468f75c6e2361827b4c781473878c7b44953995280a7c89c7595c", func := "loop.example/g00203/laws.FnExactCrashEngine", spec := "fnExactCrashEngine", inPlace := ["internal/bytealg.abigen_runtime_cmpstring"], unfollowed := true, recurses := true, apart := false }
def FnExactCrashEngineSaid : Prop := fnExactCrashEngineRow.holds Tryz.pinned (OpenSpec.ofChange fnExactCrashEngineSpec)

/-- ITS FALSE NEIGHBOUR: 'it returns false'. Refute it at one input. -/
def fnExactCrashEngineWrong : ChangeSpec := { name := "fnExactCrashEngine", fn := fun _ => fun
  | [d1, d2] => { results := [.lit (.bool false)], args := [d1, d2] }
  | _ => none }
def FnExactCrashEngineWrongFalsely : Prop := fnExactCrashEngineRow.holds Tryz.pinned (OpenSpec.ofChange fnExactCrashEngineWrong)

/-- 'laws.FnExactReadKey': WHATEVER THE INPUT: true; the input reads as it did. -/
def fnExactReadKeySpec : ChangeSpec := { name := "fnExactReadKey", fn := fun _ => fun
  | [d1, d2, d3] => { results := [.lit (.bool true)], args := [d1, d2, d3] }
  | _ => none }
def fnExactReadKeyRow : OpenClaim := { program := "ytbeplmdadjgamaagreat", sum := "497766480a8468f75c6e2361827b4c781473878c7b44953995280a7c89c7595c", func := "loop.example/g00203/laws.FnExactReadKey", spec := "fnExactReadKey", inPlace := ["internal/bytealg.abigen_runtime_cmpstring"], unfollowed := true, recurses := true, apart := false }
def FnExactReadKeySaid : Prop := fnExactReadKeyRow.holds Tryz.pinned (OpenSpec.ofChange fnExactReadKeySpec)

/-- ITS FALSE NEIGHBOUR: 'it returns false'. Refute it at one input. -/
def fnExactReadKeyWrong : ChangeSpec := { name := "fnExactReadKey", fn := fun _ => fun
  | [d1, d2, d3] => { results := [.lit (.bool false)], args := [d1, d2, d3] }
  | _ => none }
def FnExactReadKeyWrongFalsely : Prop := fnExactReadKeyRow.holds Tryz.pinned (OpenSpec.ofChange fnExactReadKeyWrong)

/-- 'laws.FnExactAllRows': WHATEVER THE INPUT: true; the input reads as it did. -/
def fnExactAllRowsSpec : ChangeSpec := { name := "fnExactAllRows", fn := fun _ => fun
  | [d] => { results := [.lit (.bool true)], args := [d] }
  | _ => none }
def fnExactAllRowsRow : OpenClaim := { program := "ytbeplmdadjgamaagreat", sum := "497766480a8468f75c6e2361827b4c781473878c7b44953995280a7c89c7595c", func := "loop.example/g00203/laws.FnExactAllRows", spec := "fnExactAllRows", inPlace := ["internal/bytealg.abigen_runtime_cmpstring"], unfollowed := true, recurses := true, apart := false }
def FnExactAllRowsSaid : Prop := fnExactAllRowsRow.holds Tryz.pinned (OpenSpec.ofChange fnExactAllRowsSpec)

/-- ITS FALSE NEIGHBOUR: 'it returns false'. Refute it at one input. -/
def fnExactAllRowsWrong : ChangeSpec := { name := "fnExactAllRows", fn := fun _ => fun
  | [d] => { results := [.lit (.bool false)], args := [d] }
  | _ => none }
def FnExactAllRowsWrongFalsely : Prop := fnExactAllRowsRow.holds Tryz.pinned (OpenSpec.ofChange fnExactAllRowsWrong)

/-- 'laws.FnExactWriteBatch': WHATEVER THE INPUT: true; the input reads as it did. -/
def fnExactWriteBatchSpec : ChangeSpec := { name := "fnExactWriteBatch", fn := fun _ => fun
  | [d1, d2, d3] => { results := [.lit (.bool true)], args := [d1, d2, d3] }
  | _ => none }
def fnExactWriteBatchRow : OpenClaim := { program := "ytbeplmdadjgamaagreat", sum := "497766480a8468f75c6e2361827b4c781473878c7b44953995280a7c89c7595c", func := "loop.example/g00203/laws.FnExactWriteBatch", spec := "fnExactWriteBatch", inPlace := ["internal/bytealg.abigen_runtime_cmpstring"], unfollowed := true, recurses := true, apart := false }
def FnExactWriteBatchSaid : Prop := fnExactWriteBatchRow.holds Tryz.pinned (OpenSpec.ofChange fnExactWriteBatchSpec)

/-- ITS FALSE NEIGHBOUR: 'it returns false'. Refute it at one input. -/
def fnExactWriteBatchWrong : ChangeSpec := { name := "fnExactWriteBatch", fn := fun _ => fun
  | [d1, d2, d3] => { results := [.lit (.bool false)], args := [d1, d2, d3] }
  | _ => none }
def FnExactWriteBatchWrongFalsely : Prop := fnExactWriteBatchRow.holds Tryz.pinned (OpenSpec.ofChange fnExactWriteBatchWrong)

/-- 'laws.FnBatches': WHATEVER THE INPUT: true; the input reads as it did. -/
def fnBatchesSpec : ChangeSpec := { name := "fnBatches", fn := fun _ => fun
  | [d] => { results := [.lit (.bool true)], args := [d] }
  | _ => none }
def fnBatchesRow : OpenClaim := { program := "ytbeplmdadjgamaagreat", sum := "497766480a8468f75c6e2361827b4c781473878c7b44953995280a7c89c7595c", func := "loop.example/g00203/laws.FnBatches", spec := "fnBatches", inPlace := ["internal/bytealg.abigen_runtime_cmpstring"], unfollowed := true, recurses := true, apart := false }
def FnBatchesSaid : Prop := fnBatchesRow.holds Tryz.pinned (OpenSpec.ofChange fnBatchesSpec)

/-- ITS FALSE NEIGHBOUR: 'it returns false'. Refute it at one input. -/
def fnBatchesWrong : ChangeSpec := { name := "fnBatches", fn := fun _ => fun
  | [d] => { results := [.lit (.bool false)], args := [d] }
  | _ => none }
def FnBatchesWrongFalsely : Prop := fnBatchesRow.holds Tryz.pinned (OpenSpec.ofChange fnBatchesWrong)

/-- 'laws.FnFlushes': WHATEVER THE INPUT: true; the input reads as it did. -/
def fnFlushesSpec : ChangeSpec := { name := "fnFlushes", fn := fun _ => fun
  | [d] => { results := [.lit (.bool true)], args := [d] }
  | _ => none }
def fnFlushesRow : OpenClaim := { program := "ytbeplmdadjgamaagreat", sum := "497766480a8468f75c6e2361827b4c781473878c7b44953995280a7c89c7595c", func := "loop.example/g00203/laws.FnFlushes", spec := "fnFlushes", inPlace := ["internal/bytealg.abigen_runtime_cmpstring"], unfollowed := true, recurses := true, apart := false }
def FnFlushesSaid : Prop := fnFlushesRow.holds Tryz.pinned (OpenSpec.ofChange fnFlushesSpec)

/-- ITS FALSE NEIGHBOUR: 'it returns false'. Refute it at one input. -/
def fnFlushesWrong : ChangeSpec := { name := "fnFlushes", fn := fun _ => fun
  | [d] => { results := [.lit (.bool false)], args := [d] }
  | _ => none }
def FnFlushesWrongFalsely : Prop := fnFlushesRow.holds Tryz.pinned (OpenSpec.ofChange fnFlushesWrong)

/- THE SECOND FORM. 'bulk': how many values and letters a reading holds, each counted each time it is reached (what is shared counts as often as it is met; a slice's spare places count too). A statement '..UptoSaid' is the law's where the arguments, and the package variables that the reading takes, are together of bulk at most 1048576: NARROWER than '..Said'. Prove '..Said' where nothing that the law and all that it calls make is longer than what came in: it says more and counts as full. Else prove '..UptoSaid'. A law counts once. -/
mutual
def uptoBulk {H : Type} : DataW H → Nat
  | .lit (.string bytes) => bytes.length + 1
  | .lit _ => 1
  | .nil => 1
  | .ptr d => uptoBulk d + 1
  | .slice elems spare => uptoBulkAll elems + uptoBulkAll spare + 1
  | .agg parts => uptoBulkAll parts + 1
  | .iface _ d => uptoBulk d + 1
  | .map entries => uptoBulkEntries entries + 1
  | .held _ => 1
def uptoBulkAll {H : Type} : List (DataW H) → Nat
  | [] => 0
  | d :: r => uptoBulk d + uptoBulkAll r
def uptoBulkEntries {H : Type} : List (Lit × DataW H) → Nat
  | [] => 0
  | x :: r => uptoBulkEntry x + uptoBulkEntries r
def uptoBulkEntry {H : Type} : Lit × DataW H → Nat
  | (.string bytes, d) => bytes.length + uptoBulk d + 1
  | (_, d) => uptoBulk d + 1
 end
def uptoSmall : (H : Type) → List (DataW H) → Bool := fun _ ds => decide (uptoBulkAll ds ≤ 1048576)
def OpenSpec.upto (s : _root_.Go.ChangeSpec) : _root_.Go.OpenSpec := { _root_.Go.OpenSpec.ofChange s with cond := some uptoSmall }

/-- 'laws.FnExactDecideShard', WHERE WHAT IT READS IS OF BULK AT MOST 1048576: true; the input reads as it did. -/
def fnExactDecideShardUptoRow : OpenClaim := { program := "ytbeplmdadjgamaagreat", sum := "497766480a8468f75c6e2361827b4c781473878c7b44953995280a7c89c7595c", func := "loop.example/g00203/laws.FnExactDecideShard", spec := "fnExactDecideShard", inPlace := ["slices.overlaps[loop.example/g00203/impl.Mark]", "slices.overlaps[loop.example/g00203/impl.Balance]"], unfollowed := true, recurses := true, apart := false, narrowed := true }
def FnExactDecideShardUptoSaid : Prop := fnExactDecideShardUptoRow.holds Tryz.pinned (OpenSpec.upto fnExactDecideShardSpec)

/-- 'laws.FnExactEngineFault', WHERE WHAT IT READS IS OF BULK AT MOST 1048576: true; the input reads as it did. -/
def fnExactEngineFaultUptoRow : OpenClaim := { program := "ytbeplmdadjgamaagreat", sum := "497766480a8468f75c6e2361827b4c781473878c7b44953995280a7c89c7595c", func := "loop.example/g00203/laws.FnExactEngineFault", spec := "fnExactEngineFault", inPlace := ["internal/bytealg.abigen_runtime_cmpstring"], unfollowed := true, recurses := true, apart := false, narrowed := true }
def FnExactEngineFaultUptoSaid : Prop := fnExactEngineFaultUptoRow.holds Tryz.pinned (OpenSpec.upto fnExactEngineFaultSpec)

/-- 'laws.FnExactFlushEngine', WHERE WHAT IT READS IS OF BULK AT MOST 1048576: true; the input reads as it did. -/
def fnExactFlushEngineUptoRow : OpenClaim := { program := "ytbeplmdadjgamaagreat", sum := "497766480a8468f75c6e2361827b4c781473878c7b44953995280a7c89c7595c", func := "loop.example/g00203/laws.FnExactFlushEngine", spec := "fnExactFlushEngine", inPlace := ["internal/bytealg.abigen_runtime_cmpstring"], unfollowed := true, recurses := true, apart := false, narrowed := true }
def FnExactFlushEngineUptoSaid : Prop := fnExactFlushEngineUptoRow.holds Tryz.pinned (OpenSpec.upto fnExactFlushEngineSpec)

/-- 'laws.FnEngineCrashes', WHERE WHAT IT READS IS OF BULK AT MOST 1048576: true; the input reads as it did. -/
def fnEngineCrashesUptoRow : OpenClaim := { program := "ytbeplmdadjgamaagreat", sum := "497766480a8468f75c6e2361827b4c781473878c7b44953995280a7c89c7595c", func := "loop.example/g00203/laws.FnEngineCrashes", spec := "fnEngineCrashes", inPlace := ["internal/bytealg.abigen_runtime_cmpstring"], unfollowed := true, recurses := true, apart := false, narrowed := true }
def FnEngineCrashesUptoSaid : Prop := fnEngineCrashesUptoRow.holds Tryz.pinned (OpenSpec.upto fnEngineCrashesSpec)

/-- 'laws.FnExactCrashEngine', WHERE WHAT IT READS IS OF BULK AT MOST 1048576: true; the input reads as it did. -/
def fnExactCrashEngineUptoRow : OpenClaim := { program := "ytbeplmdadjgamaagreat", sum := "497766480a8468f75c6e2361827b4c781473878c7b44953995280a7c89c7595c", func := "loop.example/g00203/laws.FnExactCrashEngine", spec := "fnExactCrashEngine", inPlace := ["internal/bytealg.abigen_runtime_cmpstring"], unfollowed := true, recurses := true, apart := false, narrowed := true }
def FnExactCrashEngineUptoSaid : Prop := fnExactCrashEngineUptoRow.holds Tryz.pinned (OpenSpec.upto fnExactCrashEngineSpec)

/-- 'laws.FnExactReadKey', WHERE WHAT IT READS IS OF BULK AT MOST 1048576: true; the input reads as it did. -/
def fnExactReadKeyUptoRow : OpenClaim := { program := "ytbeplmdadjgamaagreat", sum := "497766480a8468f75c6e2361827b4c781473878c7b44953995280a7c89c7595c", func := "loop.example/g00203/laws.FnExactReadKey", spec := "fnExactReadKey", inPlace := ["internal/bytealg.abigen_runtime_cmpstring"], unfollowed := true, recurses := true, apart := false, narrowed := true }
def FnExactReadKeyUptoSaid : Prop := fnExactReadKeyUptoRow.holds Tryz.pinned (OpenSpec.upto fnExactReadKeySpec)

/-- 'laws.FnExactAllRows', WHERE WHAT IT READS IS OF BULK AT MOST 1048576: true; the input reads as it did. -/
def fnExactAllRowsUptoRow : OpenClaim := { program := "ytbeplmdadjgamaagreat", sum := "497766480a8468f75c6e2361827b4c781473878c7b44953995280a7c89c7595c", func := "loop.example/g00203/laws.FnExactAllRows", spec := "fnExactAllRows", inPlace := ["internal/bytealg.abigen_runtime_cmpstring"], unfollowed := true, recurses := true, apart := false, narrowed := true }
def FnExactAllRowsUptoSaid : Prop := fnExactAllRowsUptoRow.holds Tryz.pinned (OpenSpec.upto fnExactAllRowsSpec)

/-- 'laws.FnExactWriteBatch', WHERE WHAT IT READS IS OF BULK AT MOST 1048576: true; the input reads as it did. -/
def fnExactWriteBatchUptoRow : OpenClaim := { program := "ytbeplmdadjgamaagreat", sum := "497766480a8468f75c6e2361827b4c781473878c7b44953995280a7c89c7595c", func := "loop.example/g00203/laws.FnExactWriteBatch", spec := "fnExactWriteBatch", inPlace := ["internal/bytealg.abigen_runtime_cmpstring"], unfollowed := true, recurses := true, apart := false, narrowed := true }
def FnExactWriteBatchUptoSaid : Prop := fnExactWriteBatchUptoRow.holds Tryz.pinned (OpenSpec.upto fnExactWriteBatchSpec)

/-- 'laws.FnBatches', WHERE WHAT IT READS IS OF BULK AT MOST 1048576: true; the input reads as it did. -/
def fnBatchesUptoRow : OpenClaim := { program := "ytbeplmdadjgamaagreat", sum := "497766480a8468f75c6e2361827b4c781473878c7b44953995280a7c89c7595c", func := "loop.example/g00203/laws.FnBatches", spec := "fnBatches", inPlace := ["internal/bytealg.abigen_runtime_cmpstring"], unfollowed := true, recurses := true, apart := false, narrowed := true }
def FnBatchesUptoSaid : Prop := fnBatchesUptoRow.holds Tryz.pinned (OpenSpec.upto fnBatchesSpec)

/-- 'laws.FnFlushes', WHERE WHAT IT READS IS OF BULK AT MOST 1048576: true; the input reads as it did. -/
def fnFlushesUptoRow : OpenClaim := { program := "ytbeplmdadjgamaagreat", sum := "497766480a8468f75c6e2361827b4c781473878c7b44953995280a7c89c7595c", func := "loop.example/g00203/laws.FnFlushes", spec := "fnFlushes", inPlace := ["internal/bytealg.abigen_runtime_cmpstring"], unfollowed := true, recurses := true, apart := false, narrowed := true }
def FnFlushesUptoSaid : Prop := fnFlushesUptoRow.holds Tryz.pinned (OpenSpec.upto fnFlushesSpec)

end Rows
end Go.Proofs.YtbeplmdadjgamaaGreat
