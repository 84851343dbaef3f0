/-
  No cell of these rows narrows 'for every input' (looked for: loops, veiled, ifaces, maps, wideKeys, modest, calm, conditions, laid).
  DERIVED. THE GIVEN ROWS OF THIS SEAT. 8 by the template 'for every input the law returns true; each argument reads behind the call as it read before'; 0 by the template 'total and deterministic' (their statements: YtccghpomkikjoaaGreatTotals.lean).
  GIVEN WITH THE SEED: the statements are not yours to turn. If you find one false, say at which input.
  Laid BY PROGRAM, IN A SANDBOX (cutbox-rows.mjs): the forced cells as the released guide's own fill.sh prints them over the translation 6023d2a84cbd9802… (all of the seat's roots in one cut). By AI agents, Wed Nov 11 2026. No macro, syntax, notation, axiom, sorry.
-/
import Derived.Test.YtccghpomkikjoaaGreatChecked
import GoSem.Claim
import GoSem.ClaimJoined
import GoSem.ClaimMapViews
import Derived.JoinedTies
import Derived.KernelRfl
namespace Go.Proofs.YtccghpomkikjoaaGreat
/- THE CELL 'sum', in the pinned program and in every row, IS THE sha256 OF THE DUMP (.gsa) THAT YtccghpomkikjoaaGreatProg.lean LOADS. Nothing in Lean hashes anything: it is a label: what it is worth is what the hold of that sum in a sandbox is worth. -/
noncomputable def Tryz.pinned : Pinned := { name := "ytccghpomkikjoaagreat", sum := "6023d2a84cbd98025cf4d8506b0feb8fd242de3ebc9bae14612789ba543d8c07", checked := Tryz.checked }
namespace Rows
def none {H : Type} : Left H := { results := [], args := [] }

/-- 'laws.FnExactRunBallot': WHATEVER THE INPUT: true; the input reads as it did. -/
def fnExactRunBallotSpec : ChangeSpec := { name := "fnExactRunBallot", fn := fun _ => fun
  | [d1, d2, d3, d4, d5, d6] => { results := [.lit (.bool true)], args := [d1, d2, d3, d4, d5, d6] }
  | _ => none }
def fnExactRunBallotRow : OpenClaim := { program := "ytccghpomkikjoaagreat", sum := "6023d2a84cbd98025cf4d8506b0feb8fd242de3ebc9bae14612789ba543d8c07", func := "loop.example/g00203/laws.FnExactRunBallot", spec := "fnExactRunBallot", inPlace := ["slices.overlaps[loop.example/g00203/impl.Slot]"], unfollowed := true, recurses := true, plainKeys := false, apart := false }
def FnExactRunBallotSaid : Prop := fnExactRunBallotRow.holds Tryz.pinned (OpenSpec.ofChange fnExactRunBallotSpec)

/-- ITS FALSE NEIGHBOUR: 'it returns false'. Refute it at one input. -/
def fnExactRunBallotWrong : ChangeSpec := { name := "fnExactRunBallot", fn := fun _ => fun
  | [d1, d2, d3, d4, d5, d6] => { results := [.lit (.bool false)], args := [d1, d2, d3, d4, d5, d6] }
  | _ => none }
def FnExactRunBallotWrongFalsely : Prop := fnExactRunBallotRow.holds Tryz.pinned (OpenSpec.ofChange fnExactRunBallotWrong)

/-- 'laws.FnExactOutcomeOf': WHATEVER THE INPUT: true; the input reads as it did. -/
def fnExactOutcomeOfSpec : ChangeSpec := { name := "fnExactOutcomeOf", fn := fun _ => fun
  | [d1, d2] => { results := [.lit (.bool true)], args := [d1, d2] }
  | _ => none }
def fnExactOutcomeOfRow : OpenClaim := { program := "ytccghpomkikjoaagreat", sum := "6023d2a84cbd98025cf4d8506b0feb8fd242de3ebc9bae14612789ba543d8c07", func := "loop.example/g00203/laws.FnExactOutcomeOf", spec := "fnExactOutcomeOf", unfollowed := true, recurses := true, plainKeys := false, apart := false }
def FnExactOutcomeOfSaid : Prop := fnExactOutcomeOfRow.holds Tryz.pinned (OpenSpec.ofChange fnExactOutcomeOfSpec)

/-- ITS FALSE NEIGHBOUR: 'it returns false'. Refute it at one input. -/
def fnExactOutcomeOfWrong : ChangeSpec := { name := "fnExactOutcomeOf", fn := fun _ => fun
  | [d1, d2] => { results := [.lit (.bool false)], args := [d1, d2] }
  | _ => none }
def FnExactOutcomeOfWrongFalsely : Prop := fnExactOutcomeOfRow.holds Tryz.pinned (OpenSpec.ofChange fnExactOutcomeOfWrong)

/-- 'laws.FnOutcomes': WHATEVER THE INPUT: true; the input reads as it did. -/
def fnOutcomesSpec : ChangeSpec := { name := "fnOutcomes", fn := fun _ => fun
  | [d] => { results := [.lit (.bool true)], args := [d] }
  | _ => none }
def fnOutcomesRow : OpenClaim := { program := "ytccghpomkikjoaagreat", sum := "6023d2a84cbd98025cf4d8506b0feb8fd242de3ebc9bae14612789ba543d8c07", func := "loop.example/g00203/laws.FnOutcomes", spec := "fnOutcomes", inPlace := ["slices.overlaps[loop.example/g00203/impl.Slot]"], unfollowed := true, recurses := true, plainKeys := false, apart := false }
def FnOutcomesSaid : Prop := fnOutcomesRow.holds Tryz.pinned (OpenSpec.ofChange fnOutcomesSpec)

/-- ITS FALSE NEIGHBOUR: 'it returns false'. Refute it at one input. -/
def fnOutcomesWrong : ChangeSpec := { name := "fnOutcomes", fn := fun _ => fun
  | [d] => { results := [.lit (.bool false)], args := [d] }
  | _ => none }
def FnOutcomesWrongFalsely : Prop := fnOutcomesRow.holds Tryz.pinned (OpenSpec.ofChange fnOutcomesWrong)

/-- 'laws.FnExactMessageFault': WHATEVER THE INPUT: true; the input reads as it did. -/
def fnExactMessageFaultSpec : ChangeSpec := { name := "fnExactMessageFault", fn := fun _ => fun
  | [d1, d2] => { results := [.lit (.bool true)], args := [d1, d2] }
  | _ => none }
def fnExactMessageFaultRow : OpenClaim := { program := "ytccghpomkikjoaagreat", sum := "6023d2a84cbd98025cf4d8506b0feb8fd242de3ebc9bae14612789ba543d8c07", func := "loop.example/g00203/laws.FnExactMessageFault", spec := "fnExactMessageFault", unfollowed := true, recurses := true, plainKeys := false, apart := false }
def FnExactMessageFaultSaid : Prop := fnExactMessageFaultRow.holds Tryz.pinned (OpenSpec.ofChange fnExactMessageFaultSpec)

/-- ITS FALSE NEIGHBOUR: 'it returns false'. Refute it at one input. -/
def fnExactMessageFaultWrong : ChangeSpec := { name := "fnExactMessageFault", fn := fun _ => fun
  | [d1, d2] => { results := [.lit (.bool false)], args := [d1, d2] }
  | _ => none }
def FnExactMessageFaultWrongFalsely : Prop := fnExactMessageFaultRow.holds Tryz.pinned (OpenSpec.ofChange fnExactMessageFaultWrong)

/-- 'laws.FnExactShardFault': WHATEVER THE INPUT: true; the input reads as it did. -/
def fnExactShardFaultSpec : ChangeSpec := { name := "fnExactShardFault", fn := fun _ => fun
  | [d] => { results := [.lit (.bool true)], args := [d] }
  | _ => none }
def fnExactShardFaultRow : OpenClaim := { program := "ytccghpomkikjoaagreat", sum := "6023d2a84cbd98025cf4d8506b0feb8fd242de3ebc9bae14612789ba543d8c07", func := "loop.example/g00203/laws.FnExactShardFault", spec := "fnExactShardFault", unfollowed := true, recurses := true, plainKeys := false, apart := false }
def FnExactShardFaultSaid : Prop := fnExactShardFaultRow.holds Tryz.pinned (OpenSpec.ofChange fnExactShardFaultSpec)

/-- ITS FALSE NEIGHBOUR: 'it returns false'. Refute it at one input. -/
def fnExactShardFaultWrong : ChangeSpec := { name := "fnExactShardFault", fn := fun _ => fun
  | [d] => { results := [.lit (.bool false)], args := [d] }
  | _ => none }
def FnExactShardFaultWrongFalsely : Prop := fnExactShardFaultRow.holds Tryz.pinned (OpenSpec.ofChange fnExactShardFaultWrong)

/-- 'laws.FnExactFreeOf': WHATEVER THE INPUT: true; the input reads as it did. -/
def fnExactFreeOfSpec : ChangeSpec := { name := "fnExactFreeOf", fn := fun _ => fun
  | [d1, d2, d3] => { results := [.lit (.bool true)], args := [d1, d2, d3] }
  | _ => none }
def fnExactFreeOfRow : OpenClaim := { program := "ytccghpomkikjoaagreat", sum := "6023d2a84cbd98025cf4d8506b0feb8fd242de3ebc9bae14612789ba543d8c07", func := "loop.example/g00203/laws.FnExactFreeOf", spec := "fnExactFreeOf", unfollowed := true, recurses := true, plainKeys := false, apart := false }
def FnExactFreeOfSaid : Prop := fnExactFreeOfRow.holds Tryz.pinned (OpenSpec.ofChange fnExactFreeOfSpec)

/-- ITS FALSE NEIGHBOUR: 'it returns false'. Refute it at one input. -/
def fnExactFreeOfWrong : ChangeSpec := { name := "fnExactFreeOf", fn := fun _ => fun
  | [d1, d2, d3] => { results := [.lit (.bool false)], args := [d1, d2, d3] }
  | _ => none }
def FnExactFreeOfWrongFalsely : Prop := fnExactFreeOfRow.holds Tryz.pinned (OpenSpec.ofChange fnExactFreeOfWrong)

/-- 'laws.FnExactInDoubt': WHATEVER THE INPUT: true; the input reads as it did. -/
def fnExactInDoubtSpec : ChangeSpec := { name := "fnExactInDoubt", fn := fun _ => fun
  | [d] => { results := [.lit (.bool true)], args := [d] }
  | _ => none }
def fnExactInDoubtRow : OpenClaim := { program := "ytccghpomkikjoaagreat", sum := "6023d2a84cbd98025cf4d8506b0feb8fd242de3ebc9bae14612789ba543d8c07", func := "loop.example/g00203/laws.FnExactInDoubt", spec := "fnExactInDoubt", unfollowed := true, recurses := true, plainKeys := false, apart := false }
def FnExactInDoubtSaid : Prop := fnExactInDoubtRow.holds Tryz.pinned (OpenSpec.ofChange fnExactInDoubtSpec)

/-- ITS FALSE NEIGHBOUR: 'it returns false'. Refute it at one input. -/
def fnExactInDoubtWrong : ChangeSpec := { name := "fnExactInDoubt", fn := fun _ => fun
  | [d] => { results := [.lit (.bool false)], args := [d] }
  | _ => none }
def FnExactInDoubtWrongFalsely : Prop := fnExactInDoubtRow.holds Tryz.pinned (OpenSpec.ofChange fnExactInDoubtWrong)

/-- 'laws.FnExactVoteShard': WHATEVER THE INPUT: true; the input reads as it did. -/
def fnExactVoteShardSpec : ChangeSpec := { name := "fnExactVoteShard", fn := fun _ => fun
  | [d1, d2] => { results := [.lit (.bool true)], args := [d1, d2] }
  | _ => none }
def fnExactVoteShardRow : OpenClaim := { program := "ytccghpomkikjoaagreat", sum := "6023d2a84cbd98025cf4d8506b0feb8fd242de3ebc9bae14612789ba543d8c07", func := "loop.example/g00203/laws.FnExactVoteShard", spec := "fnExactVoteShard", inPlace := ["slices.overlaps[loop.example/g00203/impl.Contract]", "slices.overlaps[loop.example/g00203/impl.Mark]"], unfollowed := true, recurses := true, plainKeys := false, apart := false }
def FnExactVoteShardSaid : Prop := fnExactVoteShardRow.holds Tryz.pinned (OpenSpec.ofChange fnExactVoteShardSpec)

/-- ITS FALSE NEIGHBOUR: 'it returns false'. Refute it at one input. -/
def fnExactVoteShardWrong : ChangeSpec := { name := "fnExactVoteShard", fn := fun _ => fun
  | [d1, d2] => { results := [.lit (.bool false)], args := [d1, d2] }
  | _ => none }
def FnExactVoteShardWrongFalsely : Prop := fnExactVoteShardRow.holds Tryz.pinned (OpenSpec.ofChange fnExactVoteShardWrong)

/- THE SECOND FORM. 'bulk': how many values and letters a reading holds, each counted each time it is reached (what is shared counts as often as it is met; a slice's spare places count too). A statement '..UptoSaid' is the law's where the arguments, and the package variables that the reading takes, are together of bulk at most 1048576: NARROWER than '..Said'. Prove '..Said' where nothing that the law and all that it calls make is longer than what came in: it says more and counts as full. Else prove '..UptoSaid'. A law counts once. -/
mutual
def uptoBulk {H : Type} : DataW H → Nat
  | .lit (.string bytes) => bytes.length + 1
  | .lit _ => 1
  | .nil => 1
  | .ptr d => uptoBulk d + 1
  | .slice elems spare => uptoBulkAll elems + uptoBulkAll spare + 1
  | .agg parts => uptoBulkAll parts + 1
  | .iface _ d => uptoBulk d + 1
  | .map entries => uptoBulkEntries entries + 1
  | .held _ => 1
def uptoBulkAll {H : Type} : List (DataW H) → Nat
  | [] => 0
  | d :: r => uptoBulk d + uptoBulkAll r
def uptoBulkEntries {H : Type} : List (Lit × DataW H) → Nat
  | [] => 0
  | x :: r => uptoBulkEntry x + uptoBulkEntries r
def uptoBulkEntry {H : Type} : Lit × DataW H → Nat
  | (.string bytes, d) => bytes.length + uptoBulk d + 1
  | (_, d) => uptoBulk d + 1
 end
def uptoSmall : (H : Type) → List (DataW H) → Bool := fun _ ds => decide (uptoBulkAll ds ≤ 1048576)
def OpenSpec.upto (s : _root_.Go.ChangeSpec) : _root_.Go.OpenSpec := { _root_.Go.OpenSpec.ofChange s with cond := some uptoSmall }

/-- 'laws.FnExactRunBallot', WHERE WHAT IT READS IS OF BULK AT MOST 1048576: true; the input reads as it did. -/
def fnExactRunBallotUptoRow : OpenClaim := { program := "ytccghpomkikjoaagreat", sum := "6023d2a84cbd98025cf4d8506b0feb8fd242de3ebc9bae14612789ba543d8c07", func := "loop.example/g00203/laws.FnExactRunBallot", spec := "fnExactRunBallot", inPlace := ["slices.overlaps[loop.example/g00203/impl.Slot]"], unfollowed := true, recurses := true, plainKeys := false, apart := false, narrowed := true }
def FnExactRunBallotUptoSaid : Prop := fnExactRunBallotUptoRow.holds Tryz.pinned (OpenSpec.upto fnExactRunBallotSpec)

/-- 'laws.FnExactOutcomeOf', WHERE WHAT IT READS IS OF BULK AT MOST 1048576: true; the input reads as it did. -/
def fnExactOutcomeOfUptoRow : OpenClaim := { program := "ytccghpomkikjoaagreat", sum := "6023d2a84cbd98025cf4d8506b0feb8fd242de3ebc9bae14612789ba543d8c07", func := "loop.example/g00203/laws.FnExactOutcomeOf", spec := "fnExactOutcomeOf", unfollowed := true, recurses := true, plainKeys := false, apart := false, narrowed := true }
def FnExactOutcomeOfUptoSaid : Prop := fnExactOutcomeOfUptoRow.holds Tryz.pinned (OpenSpec.upto fnExactOutcomeOfSpec)

/-- 'laws.FnOutcomes', WHERE WHAT IT READS IS OF BULK AT MOST 1048576: true; the input reads as it did. -/
def fnOutcomesUptoRow : OpenClaim := { program := "ytccghpomkikjoaagreat", sum := "6023d2a84cbd98025cf4d8506b0feb8fd242de3ebc9bae14612789ba543d8c07", func := "loop.example/g00203/laws.FnOutcomes", spec := "fnOutcomes", inPlace := ["slices.overlaps[loop.example/g00203/impl.Slot]"], unfollowed := true, recurses := true, plainKeys := false, apart := false, narrowed := true }
def FnOutcomesUptoSaid : Prop := fnOutcomesUptoRow.holds Tryz.pinned (OpenSpec.upto fnOutcomesSpec)

/-- 'laws.FnExactMessageFault', WHERE WHAT IT READS IS OF BULK AT MOST 1048576: true; the input reads as it did. -/
def fnExactMessageFaultUptoRow : OpenClaim := { program := "ytccghpomkikjoaagreat", sum := "6023d2a84cbd98025cf4d8506b0feb8fd242de3ebc9bae14612789ba543d8c07", func := "loop.example/g00203/laws.FnExactMessageFault", spec := "fnExactMessageFault", unfollowed := true, recurses := true, plainKeys := false, apart := false, narrowed := true }
def FnExactMessageFaultUptoSaid : Prop := fnExactMessageFaultUptoRow.holds Tryz.pinned (OpenSpec.upto fnExactMessageFaultSpec)

/-- 'laws.FnExactShardFault', WHERE WHAT IT READS IS OF BULK AT MOST 1048576: true; the input reads as it did. -/
def fnExactShardFaultUptoRow : OpenClaim := { program := "ytccghpomkikjoaagreat", sum := "6023d2a84cbd98025cf4d8506b0feb8fd242de3ebc9bae14612789ba543d8c07", func := "loop.example/g00203/laws.FnExactShardFault", spec := "fnExactShardFault", unfollowed := true, recurses := true, plainKeys := false, apart := false, narrowed := true }
def FnExactShardFaultUptoSaid : Prop := fnExactShardFaultUptoRow.holds Tryz.pinned (OpenSpec.upto fnExactShardFaultSpec)

/-- 'laws.FnExactFreeOf', WHERE WHAT IT READS IS OF BULK AT MOST 1048576: true; the input reads as it did. -/
def fnExactFreeOfUptoRow : OpenClaim := { program := "ytccghpomkikjoaagreat", sum := "6023d2a84cbd98025cf4d8506b0feb8fd242de3ebc9bae14612789ba543d8c07", func := "loop.example/g00203/laws.FnExactFreeOf", spec := "fnExactFreeOf", unfollowed := true, recurses := true, plainKeys := false, apart := false, narrowed := true }
def FnExactFreeOfUptoSaid : Prop := fnExactFreeOfUptoRow.holds Tryz.pinned (OpenSpec.upto fnExactFreeOfSpec)

/-- 'laws.FnExactInDoubt', WHERE WHAT IT READS IS OF BULK AT MOST 1048576: true; the input reads as it did. -/
def fnExactInDoubtUptoRow : OpenClaim := { program := "ytccghpomkikjoaagreat", sum := "6023d2a84cbd98025cf4d8506b0feb8fd242de3ebc9bae14612789ba543d8c07", func := "loop.example/g00203/laws.FnExactInDoubt", spec := "fnExactInDoubt", unfollowed := true, recurses := true, plainKeys := false, apart := false, narrowed := true }
def FnExactInDoubtUptoSaid : Prop := fnExactInDoubtUptoRow.holds Tryz.pinned (OpenSpec.upto fnExactInDoubtSpec)

/-- 'laws.FnExactVoteShard', WHERE WHAT IT READS IS OF BULK AT MOST 1048576: true; the input reads as it did. -/
def fnExactVoteShardUptoRow : OpenClaim := { program := "ytccghpomkikjoaagreat", sum := "6023d2a84cbd98025cf4d8506b0feb8fd242de3ebc9bae14612789ba543d8c07", func := "loop.example/g00203/laws.FnExactVoteShard", spec := "fnExactVoteShard", inPlace := ["slices.overlaps[loop.example/g00203/impl.Contract]", "slices.overlaps[loop.example/g00203/impl.Mark]"], unfollowed := true, recurses := true, plainKeys := false, apart := false, narrowed := true }
def FnExactVoteShardUptoSaid : Prop := fnExactVoteShardUptoRow.holds Tryz.pinned (OpenSpec.upto fnExactVoteShardSpec)

end Rows
end Go.Proofs.YtccghpomkikjoaaGreat
