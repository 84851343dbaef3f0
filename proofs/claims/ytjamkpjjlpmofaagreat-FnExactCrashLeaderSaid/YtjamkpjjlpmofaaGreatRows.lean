/-
  No cell of these rows narrows 'for every input' (looked for: loops, veiled, ifaces, maps, wideKeys, modest, calm, conditions, laid).
  DERIVED. THE GIVEN ROWS OF THIS SEAT. 5 by the template 'for every input the law returns true; each argument reads behind the call as it read before'; 0 by the template 'total and deterministic' (their statements: YtjamkpjjlpmofaaGreatTotals.lean).
  GIVEN WITH THE SEED: the statements are not yours to turn. If you find one false, say at which input.
  Laid BY PROGRAM, IN A SANDBOX (cutbox-rows.mjs): the forced cells as the released guide's own fill.sh prints them over the translation f83d7ed7693728fc… (all of the seat's roots in one cut). By AI agents, Wed Nov 11 2026. No macro, syntax, notation, axiom, sorry.
-/
import Derived.Test.YtjamkpjjlpmofaaGreatChecked
import GoSem.Claim
import GoSem.ClaimJoined
import GoSem.ClaimMapViews
import Derived.JoinedTies
import Derived.KernelRfl
namespace Go.Proofs.YtjamkpjjlpmofaaGreat
/- THE CELL 'sum', in the pinned program and in every row, IS THE sha256 OF THE DUMP (.gsa) THAT YtjamkpjjlpmofaaGreatProg.lean LOADS. Nothing in Lean hashes anything: it is a label: what it is worth is what the hold of that sum in a sandbox is worth. -/
noncomputable def Tryz.pinned : Pinned := { name := "ytjamkpjjlpmofaagreat", sum := "f83d7ed7693728fcee052faba8d504ff44c6889d251a32081e97483e6ed01a16", checked := Tryz.checked }
namespace Rows
def none {H : Type} : Left H := { results := [], args := [] }

/-- 'laws.FnLocks': WHATEVER THE INPUT: true; the input reads as it did. -/
def fnLocksSpec : ChangeSpec := { name := "fnLocks", fn := fun _ => fun
  | [d] => { results := [.lit (.bool true)], args := [d] }
  | _ => none }
def fnLocksRow : OpenClaim := { program := "ytjamkpjjlpmofaagreat", sum := "f83d7ed7693728fcee052faba8d504ff44c6889d251a32081e97483e6ed01a16", func := "loop.example/g00203/laws.FnLocks", spec := "fnLocks", inPlace := ["internal/bytealg.abigen_runtime_cmpstring", "slices.overlaps[loop.example/g00203/impl.Lock]"], unfollowed := true, recurses := true, apart := false }
def FnLocksSaid : Prop := fnLocksRow.holds Tryz.pinned (OpenSpec.ofChange fnLocksSpec)

/-- ITS FALSE NEIGHBOUR: 'it returns false'. Refute it at one input. -/
def fnLocksWrong : ChangeSpec := { name := "fnLocks", fn := fun _ => fun
  | [d] => { results := [.lit (.bool false)], args := [d] }
  | _ => none }
def FnLocksWrongFalsely : Prop := fnLocksRow.holds Tryz.pinned (OpenSpec.ofChange fnLocksWrong)

/-- 'laws.FnDeadlocks': WHATEVER THE INPUT: true; the input reads as it did. -/
def fnDeadlocksSpec : ChangeSpec := { name := "fnDeadlocks", fn := fun _ => fun
  | [d] => { results := [.lit (.bool true)], args := [d] }
  | _ => none }
def fnDeadlocksRow : OpenClaim := { program := "ytjamkpjjlpmofaagreat", sum := "f83d7ed7693728fcee052faba8d504ff44c6889d251a32081e97483e6ed01a16", func := "loop.example/g00203/laws.FnDeadlocks", spec := "fnDeadlocks", inPlace := ["internal/bytealg.abigen_runtime_cmpstring", "slices.overlaps[loop.example/g00203/impl.Lock]", "slices.overlaps[int64]"], unfollowed := true, recurses := true, apart := false }
def FnDeadlocksSaid : Prop := fnDeadlocksRow.holds Tryz.pinned (OpenSpec.ofChange fnDeadlocksSpec)

/-- ITS FALSE NEIGHBOUR: 'it returns false'. Refute it at one input. -/
def fnDeadlocksWrong : ChangeSpec := { name := "fnDeadlocks", fn := fun _ => fun
  | [d] => { results := [.lit (.bool false)], args := [d] }
  | _ => none }
def FnDeadlocksWrongFalsely : Prop := fnDeadlocksRow.holds Tryz.pinned (OpenSpec.ofChange fnDeadlocksWrong)

/-- 'laws.FnExactClusterFault': WHATEVER THE INPUT: true; the input reads as it did. -/
def fnExactClusterFaultSpec : ChangeSpec := { name := "fnExactClusterFault", fn := fun _ => fun
  | [d] => { results := [.lit (.bool true)], args := [d] }
  | _ => none }
def fnExactClusterFaultRow : OpenClaim := { program := "ytjamkpjjlpmofaagreat", sum := "f83d7ed7693728fcee052faba8d504ff44c6889d251a32081e97483e6ed01a16", func := "loop.example/g00203/laws.FnExactClusterFault", spec := "fnExactClusterFault", unfollowed := true, recurses := true, apart := false }
def FnExactClusterFaultSaid : Prop := fnExactClusterFaultRow.holds Tryz.pinned (OpenSpec.ofChange fnExactClusterFaultSpec)

/-- ITS FALSE NEIGHBOUR: 'it returns false'. Refute it at one input. -/
def fnExactClusterFaultWrong : ChangeSpec := { name := "fnExactClusterFault", fn := fun _ => fun
  | [d] => { results := [.lit (.bool false)], args := [d] }
  | _ => none }
def FnExactClusterFaultWrongFalsely : Prop := fnExactClusterFaultRow.holds Tryz.pinned (OpenSpec.ofChange fnExactClusterFaultWrong)

/-- 'laws.FnExactCrashLeader': WHATEVER THE INPUT: true; the input reads as it did. -/
def fnExactCrashLeaderSpec : ChangeSpec := { name := "fnExactCrashLeader", fn := fun _ => fun
  | [d1, d2] => { results := [.lit (.bool true)], args := [d1, d2] }
  | _ => none }
def fnExactCrashLeaderRow : OpenClaim := { program := "ytjamkpjjlpmofaagreat", sum := "f83d7ed7693728fcee052faba8d504ff44c6889d251a32081e97483e6ed01a16", func := "loop.example/g00203/laws.FnExactCrashLeader", spec := "fnExactCrashLeader", unfollowed := true, recurses := true, apart := false }
def FnExactCrashLeaderSaid : Prop := fnExactCrashLeaderRow.holds Tryz.pinned (OpenSpec.ofChange fnExactCrashLeaderSpec)

/-- ITS FALSE NEIGHBOUR: 'it returns false'. Refute it at one input. -/
def fnExactCrashLeaderWrong : ChangeSpec := { name := "fnExactCrashLeader", fn := fun _ => fun
  | [d1, d2] => { results := [.lit (.bool false)], args := [d1, d2] }
  | _ => none }
def FnExactCrashLeaderWrongFalsely : Prop := fnExactCrashLeaderRow.holds Tryz.pinned (OpenSpec.ofChange fnExactCrashLeaderWrong)

/-- 'laws.FnSubmits': WHATEVER THE INPUT: true; the input reads as it did. -/
def fnSubmitsSpec : ChangeSpec := { name := "fnSubmits", fn := fun _ => fun
  | [d] => { results := [.lit (.bool true)], args := [d] }
  | _ => none }
def fnSubmitsRow : OpenClaim := { program := "ytjamkpjjlpmofaagreat", sum := "f83d7ed7693728fcee052faba8d504ff44c6889d251a32081e97483e6ed01a16", func := "loop.example/g00203/laws.FnSubmits", spec := "fnSubmits", unfollowed := true, recurses := true, apart := false }
def FnSubmitsSaid : Prop := fnSubmitsRow.holds Tryz.pinned (OpenSpec.ofChange fnSubmitsSpec)

/-- ITS FALSE NEIGHBOUR: 'it returns false'. Refute it at one input. -/
def fnSubmitsWrong : ChangeSpec := { name := "fnSubmits", fn := fun _ => fun
  | [d] => { results := [.lit (.bool false)], args := [d] }
  | _ => none }
def FnSubmitsWrongFalsely : Prop := fnSubmitsRow.holds Tryz.pinned (OpenSpec.ofChange fnSubmitsWrong)

/- THE SECOND FORM. 'bulk': how many values and letters a reading holds, each counted each time it is reached (what is shared counts as often as it is met; a slice's spare places count too). A statement '..UptoSaid' is the law's where the arguments, and the package variables that the reading takes, are together of bulk at most 1048576: NARROWER than '..Said'. Prove '..Said' where nothing that the law and all that it calls make is longer than what came in: it says more and counts as full. Else prove '..UptoSaid'. A law counts once. -/
mutual
def uptoBulk {H : Type} : DataW H → Nat
  | .lit (.string bytes) => bytes.length + 1
  | .lit _ => 1
  | .nil => 1
  | .ptr d => uptoBulk d + 1
  | .slice elems spare => uptoBulkAll elems + uptoBulkAll spare + 1
  | .agg parts => uptoBulkAll parts + 1
  | .iface _ d => uptoBulk d + 1
  | .map entries => uptoBulkEntries entries + 1
  | .held _ => 1
def uptoBulkAll {H : Type} : List (DataW H) → Nat
  | [] => 0
  | d :: r => uptoBulk d + uptoBulkAll r
def uptoBulkEntries {H : Type} : List (Lit × DataW H) → Nat
  | [] => 0
  | x :: r => uptoBulkEntry x + uptoBulkEntries r
def uptoBulkEntry {H : Type} : Lit × DataW H → Nat
  | (.string bytes, d) => bytes.length + uptoBulk d + 1
  | (_, d) => uptoBulk d + 1
 end
def uptoSmall : (H : Type) → List (DataW H) → Bool := fun _ ds => decide (uptoBulkAll ds ≤ 1048576)
def OpenSpec.upto (s : _root_.Go.ChangeSpec) : _root_.Go.OpenSpec := { _root_.Go.OpenSpec.ofChange s with cond := some uptoSmall }

/-- 'laws.FnLocks', WHERE WHAT IT READS IS OF BULK AT MOST 1048576: true; the input reads as it did. -/
def fnLocksUptoRow : OpenClaim := { program := "ytjamkpjjlpmofaagreat", sum := "f83d7ed7693728fcee052faba8d504ff44c6889d251a32081e97483e6ed01a16", func := "loop.example/g00203/laws.FnLocks", spec := "fnLocks", inPlace := ["internal/bytealg.abigen_runtime_cmpstring", "slices.overlaps[loop.example/g00203/impl.Lock]"], unfollowed := true, recurses := true, apart := false, narrowed := true }
def FnLocksUptoSaid : Prop := fnLocksUptoRow.holds Tryz.pinned (OpenSpec.upto fnLocksSpec)

/-- 'laws.FnDeadlocks', WHERE WHAT IT READS IS OF BULK AT MOST 1048576: true; the input reads as it did. -/
def fnDeadlocksUptoRow : OpenClaim := { program := "ytjamkpjjlpmofaagreat", sum := "f83d7ed7693728fcee052faba8d504ff44c6889d251a32081e97483e6ed01a16", func := "loop.example/g00203/laws.FnDeadlocks", spec := "fnDeadlocks", inPlace := ["internal/bytealg.abigen_runtime_cmpstring", "slices.overlaps[loop.example/g00203/impl.Lock]", "slices.overlaps[int64]"], unfollowed := true, recurses := true, apart := false, narrowed := true }
def FnDeadlocksUptoSaid : Prop := fnDeadlocksUptoRow.holds Tryz.pinned (OpenSpec.upto fnDeadlocksSpec)

/-- 'laws.FnExactClusterFault', WHERE WHAT IT READS IS OF BULK AT MOST 1048576: true; the input reads as it did. -/
def fnExactClusterFaultUptoRow : OpenClaim := { program := "ytjamkpjjlpmofaagreat", sum := "f83d7ed7693728fcee052faba8d504ff44c6889d251a32081e97483e6ed01a16", func := "loop.example/g00203/laws.FnExactClusterFault", spec := "fnExactClusterFault", unfollowed := true, recurses := true, apart := false, narrowed := true }
def FnExactClusterFaultUptoSaid : Prop := fnExactClusterFaultUptoRow.holds Tryz.pinned (OpenSpec.upto fnExactClusterFaultSpec)

/-- 'laws.FnExactCrashLeader', WHERE WHAT IT READS IS OF BULK AT MOST 1048576: true; the input reads as it did. -/
def fnExactCrashLeaderUptoRow : OpenClaim := { program := "ytjamkpjjlpmofaagreat", sum := "f83d7ed7693728fcee052faba8d504ff44c6889d251a32081e97483e6ed01a16", func := "loop.example/g00203/laws.FnExactCrashLeader", spec := "fnExactCrashLeader", unfollowed := true, recurses := true, apart := false, narrowed := true }
def FnExactCrashLeaderUptoSaid : Prop := fnExactCrashLeaderUptoRow.holds Tryz.pinned (OpenSpec.upto fnExactCrashLeaderSpec)

/-- 'laws.FnSubmits', WHERE WHAT IT READS IS OF BULK AT MOST 1048576: true; the input reads as it did. -/
def fnSubmitsUptoRow : OpenClaim := { program := "ytjamkpjjlpmofaagreat", sum := "f83d7ed7693728fcee052faba8d504ff44c6889d251a32081e97483e6ed01a16", func := "loop.example/g00203/laws.FnSubmits", spec := "fnSubmits", unfollowed := true, recurses := true, apart := false, narrowed := true }
def FnSubmitsUptoSaid : Prop := fnSubmitsUptoRow.holds Tryz.pinned (OpenSpec.upto fnSubmitsSpec)

end Rows
end Go.Proofs.YtjamkpjjlpmofaaGreat
