/-
  No cell of these rows narrows 'for every input' (looked for: loops, veiled, ifaces, maps, wideKeys, modest, calm, conditions, laid).
  DERIVED. THE GIVEN ROWS OF THIS SEAT. 8 by the template 'for every input the law returns true; each argument reads behind the call as it read before'; 0 by the template 'total and deterministic' (their statements: YtlpfmkjihbancaaTotals.lean).
  GIVEN WITH THE SEED: the statements are not yours to turn. If you find one false, say at which input.
  Laid BY PROGRAM, IN A SANDBOX (cutbox-rows.mjs): the forced cells as the released guide's own fill.sh prints them over the translation 7bf55d51c3c4e9f9… (all of the seat's roots in one cut). By AI agents, Wed Nov 11 2026. No macro, syntax, notation, axiom, sorry.
-/
import Derived.Test.YtlpfmkjihbancaaChecked
import GoSem.Claim
import GoSem.ClaimJoined
import GoSem.ClaimMapViews
import Derived.JoinedTies
import Derived.KernelRfl
namespace Go.Proofs.Ytlpfmkjihbancaa
/- THE CELL 'sum', in the pinned program and in every row, IS THE sha256 OF THE DUMP (.gsa) THAT YtlpfmkjihbancaaProg.lean LOADS. Nothing in Lean hashes anything: it is a label: what it is worth is what the hold of that sum in a sandbox is worth. -/
noncomputable def Try.pinned : Pinned := { name := "ytlpfmkjihbancaa", sum := "7bf55d51c3c4e9f90271c619069ea959576cec57ae44a0d8208e6262384ac065", checked := Try.checked }
namespace Rows
def none {H : Type} : Left H := { results := [], args := [] }

/-- 'laws.FnExactLocksFault': WHATEVER THE INPUT: true; the input reads as it did. -/
def fnExactLocksFaultSpec : ChangeSpec := { name := "fnExactLocksFault", fn := fun _ => fun
  | [d] => { results := [.lit (.bool true)], args := [d] }
  | _ => none }
def fnExactLocksFaultRow : OpenClaim := { program := "ytlpfmkjihbancaa", sum := "7bf55d51c3c4e9f90271c619069ea959576cec57ae44a0d8208e6262384ac065", func := "loop.example/g00203/laws.FnExactLocksFault", spec := "fnExactLocksFault", inPlace := ["internal/bytealg.abigen_runtime_cmpstring"], unfollowed := true, recurses := true, apart := false }
def FnExactLocksFaultSaid : Prop := fnExactLocksFaultRow.holds Try.pinned (OpenSpec.ofChange fnExactLocksFaultSpec)

/-- ITS FALSE NEIGHBOUR: 'it returns false'. Refute it at one input. -/
def fnExactLocksFaultWrong : ChangeSpec := { name := "fnExactLocksFault", fn := fun _ => fun
  | [d] => { results := [.lit (.bool false)], args := [d] }
  | _ => none }
def FnExactLocksFaultWrongFalsely : Prop := fnExactLocksFaultRow.holds Try.pinned (OpenSpec.ofChange fnExactLocksFaultWrong)

/-- 'laws.FnExactNewShard': WHATEVER THE INPUT: true; the input reads as it did. -/
def fnExactNewShardSpec : ChangeSpec := { name := "fnExactNewShard", fn := fun _ => fun
  | [d1, d2] => { results := [.lit (.bool true)], args := [d1, d2] }
  | _ => none }
def fnExactNewShardRow : OpenClaim := { program := "ytlpfmkjihbancaa", sum := "7bf55d51c3c4e9f90271c619069ea959576cec57ae44a0d8208e6262384ac065", func := "loop.example/g00203/laws.FnExactNewShard", spec := "fnExactNewShard", apart := false }
def FnExactNewShardSaid : Prop := fnExactNewShardRow.holds Try.pinned (OpenSpec.ofChange fnExactNewShardSpec)

/-- ITS FALSE NEIGHBOUR: 'it returns false'. Refute it at one input. -/
def fnExactNewShardWrong : ChangeSpec := { name := "fnExactNewShard", fn := fun _ => fun
  | [d1, d2] => { results := [.lit (.bool false)], args := [d1, d2] }
  | _ => none }
def FnExactNewShardWrongFalsely : Prop := fnExactNewShardRow.holds Try.pinned (OpenSpec.ofChange fnExactNewShardWrong)

/-- 'laws.FnExactHoldersOf': WHATEVER THE INPUT: true; the input reads as it did. -/
def fnExactHoldersOfSpec : ChangeSpec := { name := "fnExactHoldersOf", fn := fun _ => fun
  | [d1, d2] => { results := [.lit (.bool true)], args := [d1, d2] }
  | _ => none }
def fnExactHoldersOfRow : OpenClaim := { program := "ytlpfmkjihbancaa", sum := "7bf55d51c3c4e9f90271c619069ea959576cec57ae44a0d8208e6262384ac065", func := "loop.example/g00203/laws.FnExactHoldersOf", spec := "fnExactHoldersOf", inPlace := ["internal/bytealg.abigen_runtime_cmpstring"], unfollowed := true, recurses := true, apart := false }
def FnExactHoldersOfSaid : Prop := fnExactHoldersOfRow.holds Try.pinned (OpenSpec.ofChange fnExactHoldersOfSpec)

/-- ITS FALSE NEIGHBOUR: 'it returns false'. Refute it at one input. -/
def fnExactHoldersOfWrong : ChangeSpec := { name := "fnExactHoldersOf", fn := fun _ => fun
  | [d1, d2] => { results := [.lit (.bool false)], args := [d1, d2] }
  | _ => none }
def FnExactHoldersOfWrongFalsely : Prop := fnExactHoldersOfRow.holds Try.pinned (OpenSpec.ofChange fnExactHoldersOfWrong)

/-- 'laws.FnExactPromiseAt': WHATEVER THE INPUT: true; the input reads as it did. -/
def fnExactPromiseAtSpec : ChangeSpec := { name := "fnExactPromiseAt", fn := fun _ => fun
  | [d1, d2, d3, d4] => { results := [.lit (.bool true)], args := [d1, d2, d3, d4] }
  | _ => none }
def fnExactPromiseAtRow : OpenClaim := { program := "ytlpfmkjihbancaa", sum := "7bf55d51c3c4e9f90271c619069ea959576cec57ae44a0d8208e6262384ac065", func := "loop.example/g00203/laws.FnExactPromiseAt", spec := "fnExactPromiseAt", inPlace := ["slices.overlaps[loop.example/g00203/impl.Slot]"], unfollowed := true, recurses := true, apart := false }
def FnExactPromiseAtSaid : Prop := fnExactPromiseAtRow.holds Try.pinned (OpenSpec.ofChange fnExactPromiseAtSpec)

/-- ITS FALSE NEIGHBOUR: 'it returns false'. Refute it at one input. -/
def fnExactPromiseAtWrong : ChangeSpec := { name := "fnExactPromiseAt", fn := fun _ => fun
  | [d1, d2, d3, d4] => { results := [.lit (.bool false)], args := [d1, d2, d3, d4] }
  | _ => none }
def FnExactPromiseAtWrongFalsely : Prop := fnExactPromiseAtRow.holds Try.pinned (OpenSpec.ofChange fnExactPromiseAtWrong)

/-- 'laws.FnExactAcceptAt': WHATEVER THE INPUT: true; the input reads as it did. -/
def fnExactAcceptAtSpec : ChangeSpec := { name := "fnExactAcceptAt", fn := fun _ => fun
  | [d1, d2, d3, d4, d5] => { results := [.lit (.bool true)], args := [d1, d2, d3, d4, d5] }
  | _ => none }
def fnExactAcceptAtRow : OpenClaim := { program := "ytlpfmkjihbancaa", sum := "7bf55d51c3c4e9f90271c619069ea959576cec57ae44a0d8208e6262384ac065", func := "loop.example/g00203/laws.FnExactAcceptAt", spec := "fnExactAcceptAt", inPlace := ["slices.overlaps[loop.example/g00203/impl.Slot]"], unfollowed := true, recurses := true, apart := false }
def FnExactAcceptAtSaid : Prop := fnExactAcceptAtRow.holds Try.pinned (OpenSpec.ofChange fnExactAcceptAtSpec)

/-- ITS FALSE NEIGHBOUR: 'it returns false'. Refute it at one input. -/
def fnExactAcceptAtWrong : ChangeSpec := { name := "fnExactAcceptAt", fn := fun _ => fun
  | [d1, d2, d3, d4, d5] => { results := [.lit (.bool false)], args := [d1, d2, d3, d4, d5] }
  | _ => none }
def FnExactAcceptAtWrongFalsely : Prop := fnExactAcceptAtRow.holds Try.pinned (OpenSpec.ofChange fnExactAcceptAtWrong)

/-- 'laws.FnExactPinTx': WHATEVER THE INPUT: true; the input reads as it did. -/
def fnExactPinTxSpec : ChangeSpec := { name := "fnExactPinTx", fn := fun _ => fun
  | [d1, d2] => { results := [.lit (.bool true)], args := [d1, d2] }
  | _ => none }
def fnExactPinTxRow : OpenClaim := { program := "ytlpfmkjihbancaa", sum := "7bf55d51c3c4e9f90271c619069ea959576cec57ae44a0d8208e6262384ac065", func := "loop.example/g00203/laws.FnExactPinTx", spec := "fnExactPinTx", inPlace := ["internal/bytealg.abigen_runtime_cmpstring", "slices.overlaps[int64]"], unfollowed := true, recurses := true, apart := false }
def FnExactPinTxSaid : Prop := fnExactPinTxRow.holds Try.pinned (OpenSpec.ofChange fnExactPinTxSpec)

/-- ITS FALSE NEIGHBOUR: 'it returns false'. Refute it at one input. -/
def fnExactPinTxWrong : ChangeSpec := { name := "fnExactPinTx", fn := fun _ => fun
  | [d1, d2] => { results := [.lit (.bool false)], args := [d1, d2] }
  | _ => none }
def FnExactPinTxWrongFalsely : Prop := fnExactPinTxRow.holds Try.pinned (OpenSpec.ofChange fnExactPinTxWrong)

/-- 'laws.FnExactReleaseLocks': WHATEVER THE INPUT: true; the input reads as it did. -/
def fnExactReleaseLocksSpec : ChangeSpec := { name := "fnExactReleaseLocks", fn := fun _ => fun
  | [d1, d2] => { results := [.lit (.bool true)], args := [d1, d2] }
  | _ => none }
def fnExactReleaseLocksRow : OpenClaim := { program := "ytlpfmkjihbancaa", sum := "7bf55d51c3c4e9f90271c619069ea959576cec57ae44a0d8208e6262384ac065", func := "loop.example/g00203/laws.FnExactReleaseLocks", spec := "fnExactReleaseLocks", inPlace := ["internal/bytealg.abigen_runtime_cmpstring", "slices.overlaps[loop.example/g00203/impl.Lock]"], unfollowed := true, recurses := true, apart := false }
def FnExactReleaseLocksSaid : Prop := fnExactReleaseLocksRow.holds Try.pinned (OpenSpec.ofChange fnExactReleaseLocksSpec)

/-- ITS FALSE NEIGHBOUR: 'it returns false'. Refute it at one input. -/
def fnExactReleaseLocksWrong : ChangeSpec := { name := "fnExactReleaseLocks", fn := fun _ => fun
  | [d1, d2] => { results := [.lit (.bool false)], args := [d1, d2] }
  | _ => none }
def FnExactReleaseLocksWrongFalsely : Prop := fnExactReleaseLocksRow.holds Try.pinned (OpenSpec.ofChange fnExactReleaseLocksWrong)

/-- 'laws.FnExactBlockersOf': WHATEVER THE INPUT: true; the input reads as it did. -/
def fnExactBlockersOfSpec : ChangeSpec := { name := "fnExactBlockersOf", fn := fun _ => fun
  | [d1, d2] => { results := [.lit (.bool true)], args := [d1, d2] }
  | _ => none }
def fnExactBlockersOfRow : OpenClaim := { program := "ytlpfmkjihbancaa", sum := "7bf55d51c3c4e9f90271c619069ea959576cec57ae44a0d8208e6262384ac065", func := "loop.example/g00203/laws.FnExactBlockersOf", spec := "fnExactBlockersOf", inPlace := ["internal/bytealg.abigen_runtime_cmpstring"], unfollowed := true, recurses := true, apart := false }
def FnExactBlockersOfSaid : Prop := fnExactBlockersOfRow.holds Try.pinned (OpenSpec.ofChange fnExactBlockersOfSpec)

/-- ITS FALSE NEIGHBOUR: 'it returns false'. Refute it at one input. -/
def fnExactBlockersOfWrong : ChangeSpec := { name := "fnExactBlockersOf", fn := fun _ => fun
  | [d1, d2] => { results := [.lit (.bool false)], args := [d1, d2] }
  | _ => none }
def FnExactBlockersOfWrongFalsely : Prop := fnExactBlockersOfRow.holds Try.pinned (OpenSpec.ofChange fnExactBlockersOfWrong)

/- THE SECOND FORM. 'bulk': how many values and letters a reading holds, each counted each time it is reached (what is shared counts as often as it is met; a slice's spare places count too). A statement '..UptoSaid' is the law's where the arguments, and the package variables that the reading takes, are together of bulk at most 1048576: NARROWER than '..Said'. Prove '..Said' where nothing that the law and all that it calls make is longer than what came in: it says more and counts as full. Else prove '..UptoSaid'. A law counts once. -/
mutual
def uptoBulk {H : Type} : DataW H → Nat
  | .lit (.string bytes) => bytes.length + 1
  | .lit _ => 1
  | .nil => 1
  | .ptr d => uptoBulk d + 1
  | .slice elems spare => uptoBulkAll elems + uptoBulkAll spare + 1
  | .agg parts => uptoBulkAll parts + 1
  | .iface _ d => uptoBulk d + 1
  | .map entries => uptoBulkEntries entries + 1
  | .held _ => 1
def uptoBulkAll {H : Type} : List (DataW H) → Nat
  | [] => 0
  | d :: r => uptoBulk d + uptoBulkAll r
def uptoBulkEntries {H : Type} : List (Lit × DataW H) → Nat
  | [] => 0
  | x :: r => uptoBulkEntry x + uptoBulkEntries r
def uptoBulkEntry {H : Type} : Lit × DataW H → Nat
  | (.string bytes, d) => bytes.length + uptoBulk d + 1
  | (_, d) => uptoBulk d + 1
 end
def uptoSmall : (H : Type) → List (DataW H) → Bool := fun _ ds => decide (uptoBulkAll ds ≤ 1048576)
def OpenSpec.upto (s : _root_.Go.ChangeSpec) : _root_.Go.OpenSpec := { _root_.Go.OpenSpec.ofChange s with cond := some uptoSmall }

/-- 'laws.FnExactLocksFault', WHERE WHAT IT READS IS OF BULK AT MOST 1048576: true; the input reads as it did. -/
def fnExactLocksFaultUptoRow : OpenClaim := { program := "ytlpfmkjihbancaa", sum := "7bf55d51c3c4e9f90271c619069ea959576cec57ae44a0d8208e6262384ac065", func := "loop.example/g00203/laws.FnExactLocksFault", spec := "fnExactLocksFault", inPlace := ["internal/bytealg.abigen_runtime_cmpstring"], unfollowed := true, recurses := true, apart := false, narrowed := true }
def FnExactLocksFaultUptoSaid : Prop := fnExactLocksFaultUptoRow.holds Try.pinned (OpenSpec.upto fnExactLocksFaultSpec)

/-- 'laws.FnExactNewShard', WHERE WHAT IT READS IS OF BULK AT MOST 1048576: true; the input reads as it did. -/
def fnExactNewShardUptoRow : OpenClaim := { program := "ytlpfmkjihbancaa", sum := "7bf55d51c3c4e9f90271c619069ea959576cec57ae44a0d8208e6262384ac065", func := "loop.example/g00203/laws.FnExactNewShard", spec := "fnExactNewShard", apart := false, narrowed := true }
def FnExactNewShardUptoSaid : Prop := fnExactNewShardUptoRow.holds Try.pinned (OpenSpec.upto fnExactNewShardSpec)

/-- 'laws.FnExactHoldersOf', WHERE WHAT IT READS IS OF BULK AT MOST 1048576: true; the input reads as it did. -/
def fnExactHoldersOfUptoRow : OpenClaim := { program := "ytlpfmkjihbancaa", sum := "7bf55d51c3c4e9f90271c619069ea959576cec57ae44a0d8208e6262384ac065", func := "loop.example/g00203/laws.FnExactHoldersOf", spec := "fnExactHoldersOf", inPlace := ["internal/bytealg.abigen_runtime_cmpstring"], unfollowed := true, recurses := true, apart := false, narrowed := true }
def FnExactHoldersOfUptoSaid : Prop := fnExactHoldersOfUptoRow.holds Try.pinned (OpenSpec.upto fnExactHoldersOfSpec)

/-- 'laws.FnExactPromiseAt', WHERE WHAT IT READS IS OF BULK AT MOST 1048576: true; the input reads as it did. -/
def fnExactPromiseAtUptoRow : OpenClaim := { program := "ytlpfmkjihbancaa", sum := "7bf55d51c3c4e9f90271c619069ea959576cec57ae44a0d8208e6262384ac065", func := "loop.example/g00203/laws.FnExactPromiseAt", spec := "fnExactPromiseAt", inPlace := ["slices.overlaps[loop.example/g00203/impl.Slot]"], unfollowed := true, recurses := true, apart := false, narrowed := true }
def FnExactPromiseAtUptoSaid : Prop := fnExactPromiseAtUptoRow.holds Try.pinned (OpenSpec.upto fnExactPromiseAtSpec)

/-- 'laws.FnExactAcceptAt', WHERE WHAT IT READS IS OF BULK AT MOST 1048576: true; the input reads as it did. -/
def fnExactAcceptAtUptoRow : OpenClaim := { program := "ytlpfmkjihbancaa", sum := "7bf55d51c3c4e9f90271c619069ea959576cec57ae44a0d8208e6262384ac065", func := "loop.example/g00203/laws.FnExactAcceptAt", spec := "fnExactAcceptAt", inPlace := ["slices.overlaps[loop.example/g00203/impl.Slot]"], unfollowed := true, recurses := true, apart := false, narrowed := true }
def FnExactAcceptAtUptoSaid : Prop := fnExactAcceptAtUptoRow.holds Try.pinned (OpenSpec.upto fnExactAcceptAtSpec)

/-- 'laws.FnExactPinTx', WHERE WHAT IT READS IS OF BULK AT MOST 1048576: true; the input reads as it did. -/
def fnExactPinTxUptoRow : OpenClaim := { program := "ytlpfmkjihbancaa", sum := "7bf55d51c3c4e9f90271c619069ea959576cec57ae44a0d8208e6262384ac065", func := "loop.example/g00203/laws.FnExactPinTx", spec := "fnExactPinTx", inPlace := ["internal/bytealg.abigen_runtime_cmpstring", "slices.overlaps[int64]"], unfollowed := true, recurses := true, apart := false, narrowed := true }
def FnExactPinTxUptoSaid : Prop := fnExactPinTxUptoRow.holds Try.pinned (OpenSpec.upto fnExactPinTxSpec)

/-- 'laws.FnExactReleaseLocks', WHERE WHAT IT READS IS OF BULK AT MOST 1048576: true; the input reads as it did. -/
def fnExactReleaseLocksUptoRow : OpenClaim := { program := "ytlpfmkjihbancaa", sum := "7bf55d51c3c4e9f90271c619069ea959576cec57ae44a0d8208e6262384ac065", func := "loop.example/g00203/laws.FnExactReleaseLocks", spec := "fnExactReleaseLocks", inPlace := ["internal/bytealg.abigen_runtime_cmpstring", "slices.overlaps[loop.example/g00203/impl.Lock]"], unfollowed := true, recurses := true, apart := false, narrowed := true }
def FnExactReleaseLocksUptoSaid : Prop := fnExactReleaseLocksUptoRow.holds Try.pinned (OpenSpec.upto fnExactReleaseLocksSpec)

/-- 'laws.FnExactBlockersOf', WHERE WHAT IT READS IS OF BULK AT MOST 1048576: true; the input reads as it did. -/
def fnExactBlockersOfUptoRow : OpenClaim := { program := "ytlpfmkjihbancaa", sum := "7bf55d51c3c4e9f90271c619069ea959576cec57ae44a0d8208e6262384ac065", func := "loop.example/g00203/laws.FnExactBlockersOf", spec := "fnExactBlockersOf", inPlace := ["internal/bytealg.abigen_runtime_cmpstring"], unfollowed := true, recurses := true, apart := false, narrowed := true }
def FnExactBlockersOfUptoSaid : Prop := fnExactBlockersOfUptoRow.holds Try.pinned (OpenSpec.upto fnExactBlockersOfSpec)

end Rows
end Go.Proofs.Ytlpfmkjihbancaa
