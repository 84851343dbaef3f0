/-
  No cell of these rows narrows 'for every input' (looked for: loops, veiled, ifaces, maps, wideKeys, modest, calm, conditions, laid).
  DERIVED. THE GIVEN ROWS OF THIS SEAT. 12 by the template 'for every input the law returns true; each argument reads behind the call as it read before'; 0 by the template 'total and deterministic' (their statements: YtekndmbpphncmaaTotals.lean).
  GIVEN WITH THE SEED: the statements are not yours to turn. If you find one false, say at which input.
  Laid BY PROGRAM, IN A SANDBOX (cutbox-rows.mjs): the forced cells as the released guide's own fill.sh prints them over the translation f8dd82490820183b… (all of the seat's roots in one cut). By AI agents, Wed Nov 11 2026. No macro, syntax, notation, axiom, sorry.
-/
import Derived.Test.YtekndmbpphncmaaChecked
import GoSem.Claim
import GoSem.ClaimJoined
import GoSem.ClaimMapViews
import Derived.JoinedTies
import Derived.KernelRfl
namespace Go.Proofs.Ytekndmbpphncmaa
/- THE CELL 'sum', in the pinned program and in every row, IS THE sha256 OF THE DUMP (.gsa) THAT YtekndmbpphncmaaProg.lean LOADS. Nothing in Lean hashes anything: it is a label: what it is worth is what the hold of that sum in a sandbox is worth. -/
noncomputable def Try.pinned : Pinned := { name := "ytekndmbpphncmaa", sum := "f8dd82490820183be02531abfb7df3e70b8ac4ba8a8c32e6ba0e5633f7fece6f", checked := Try.checked }
namespace Rows
def none {H : Type} : Left H := { results := [], args := [] }

/-- 'laws.FnExactQuorumOf': WHATEVER THE INPUT: true; the input reads as it did. -/
def fnExactQuorumOfSpec : ChangeSpec := { name := "fnExactQuorumOf", fn := fun _ => fun
  | [d] => { results := [.lit (.bool true)], args := [d] }
  | _ => none }
def fnExactQuorumOfRow : OpenClaim := { program := "ytekndmbpphncmaa", sum := "f8dd82490820183be02531abfb7df3e70b8ac4ba8a8c32e6ba0e5633f7fece6f", func := "loop.example/g00203/laws.FnExactQuorumOf", spec := "fnExactQuorumOf", plainKeys := false, apart := false }
def FnExactQuorumOfSaid : Prop := fnExactQuorumOfRow.holds Try.pinned (OpenSpec.ofChange fnExactQuorumOfSpec)

/-- ITS FALSE NEIGHBOUR: 'it returns false'. Refute it at one input. -/
def fnExactQuorumOfWrong : ChangeSpec := { name := "fnExactQuorumOf", fn := fun _ => fun
  | [d] => { results := [.lit (.bool false)], args := [d] }
  | _ => none }
def FnExactQuorumOfWrongFalsely : Prop := fnExactQuorumOfRow.holds Try.pinned (OpenSpec.ofChange fnExactQuorumOfWrong)

/-- 'laws.FnQuorums': WHATEVER THE INPUT: true; the input reads as it did. -/
def fnQuorumsSpec : ChangeSpec := { name := "fnQuorums", fn := fun _ => fun
  | [d] => { results := [.lit (.bool true)], args := [d] }
  | _ => none }
def fnQuorumsRow : OpenClaim := { program := "ytekndmbpphncmaa", sum := "f8dd82490820183be02531abfb7df3e70b8ac4ba8a8c32e6ba0e5633f7fece6f", func := "loop.example/g00203/laws.FnQuorums", spec := "fnQuorums", unfollowed := true, recurses := true, plainKeys := false, apart := false }
def FnQuorumsSaid : Prop := fnQuorumsRow.holds Try.pinned (OpenSpec.ofChange fnQuorumsSpec)

/-- ITS FALSE NEIGHBOUR: 'it returns false'. Refute it at one input. -/
def fnQuorumsWrong : ChangeSpec := { name := "fnQuorums", fn := fun _ => fun
  | [d] => { results := [.lit (.bool false)], args := [d] }
  | _ => none }
def FnQuorumsWrongFalsely : Prop := fnQuorumsRow.holds Try.pinned (OpenSpec.ofChange fnQuorumsWrong)

/-- 'laws.FnExactPickValue': WHATEVER THE INPUT: true; the input reads as it did. -/
def fnExactPickValueSpec : ChangeSpec := { name := "fnExactPickValue", fn := fun _ => fun
  | [d1, d2] => { results := [.lit (.bool true)], args := [d1, d2] }
  | _ => none }
def fnExactPickValueRow : OpenClaim := { program := "ytekndmbpphncmaa", sum := "f8dd82490820183be02531abfb7df3e70b8ac4ba8a8c32e6ba0e5633f7fece6f", func := "loop.example/g00203/laws.FnExactPickValue", spec := "fnExactPickValue", unfollowed := true, recurses := true, plainKeys := false, apart := false }
def FnExactPickValueSaid : Prop := fnExactPickValueRow.holds Try.pinned (OpenSpec.ofChange fnExactPickValueSpec)

/-- ITS FALSE NEIGHBOUR: 'it returns false'. Refute it at one input. -/
def fnExactPickValueWrong : ChangeSpec := { name := "fnExactPickValue", fn := fun _ => fun
  | [d1, d2] => { results := [.lit (.bool false)], args := [d1, d2] }
  | _ => none }
def FnExactPickValueWrongFalsely : Prop := fnExactPickValueRow.holds Try.pinned (OpenSpec.ofChange fnExactPickValueWrong)

/-- 'laws.FnExactNewSlot': WHATEVER THE INPUT: true; the input reads as it did. -/
def fnExactNewSlotSpec : ChangeSpec := { name := "fnExactNewSlot", fn := fun _ => fun
  | [d1, d2] => { results := [.lit (.bool true)], args := [d1, d2] }
  | _ => none }
def fnExactNewSlotRow : OpenClaim := { program := "ytekndmbpphncmaa", sum := "f8dd82490820183be02531abfb7df3e70b8ac4ba8a8c32e6ba0e5633f7fece6f", func := "loop.example/g00203/laws.FnExactNewSlot", spec := "fnExactNewSlot", plainKeys := false, apart := false }
def FnExactNewSlotSaid : Prop := fnExactNewSlotRow.holds Try.pinned (OpenSpec.ofChange fnExactNewSlotSpec)

/-- ITS FALSE NEIGHBOUR: 'it returns false'. Refute it at one input. -/
def fnExactNewSlotWrong : ChangeSpec := { name := "fnExactNewSlot", fn := fun _ => fun
  | [d1, d2] => { results := [.lit (.bool false)], args := [d1, d2] }
  | _ => none }
def FnExactNewSlotWrongFalsely : Prop := fnExactNewSlotRow.holds Try.pinned (OpenSpec.ofChange fnExactNewSlotWrong)

/-- 'laws.FnExactSlotFault': WHATEVER THE INPUT: true; the input reads as it did. -/
def fnExactSlotFaultSpec : ChangeSpec := { name := "fnExactSlotFault", fn := fun _ => fun
  | [d] => { results := [.lit (.bool true)], args := [d] }
  | _ => none }
def fnExactSlotFaultRow : OpenClaim := { program := "ytekndmbpphncmaa", sum := "f8dd82490820183be02531abfb7df3e70b8ac4ba8a8c32e6ba0e5633f7fece6f", func := "loop.example/g00203/laws.FnExactSlotFault", spec := "fnExactSlotFault", plainKeys := false, apart := false }
def FnExactSlotFaultSaid : Prop := fnExactSlotFaultRow.holds Try.pinned (OpenSpec.ofChange fnExactSlotFaultSpec)

/-- ITS FALSE NEIGHBOUR: 'it returns false'. Refute it at one input. -/
def fnExactSlotFaultWrong : ChangeSpec := { name := "fnExactSlotFault", fn := fun _ => fun
  | [d] => { results := [.lit (.bool false)], args := [d] }
  | _ => none }
def FnExactSlotFaultWrongFalsely : Prop := fnExactSlotFaultRow.holds Try.pinned (OpenSpec.ofChange fnExactSlotFaultWrong)

/-- 'laws.FnPromises': WHATEVER THE INPUT: true; the input reads as it did. -/
def fnPromisesSpec : ChangeSpec := { name := "fnPromises", fn := fun _ => fun
  | [d] => { results := [.lit (.bool true)], args := [d] }
  | _ => none }
def fnPromisesRow : OpenClaim := { program := "ytekndmbpphncmaa", sum := "f8dd82490820183be02531abfb7df3e70b8ac4ba8a8c32e6ba0e5633f7fece6f", func := "loop.example/g00203/laws.FnPromises", spec := "fnPromises", plainKeys := false, apart := false }
def FnPromisesSaid : Prop := fnPromisesRow.holds Try.pinned (OpenSpec.ofChange fnPromisesSpec)

/-- ITS FALSE NEIGHBOUR: 'it returns false'. Refute it at one input. -/
def fnPromisesWrong : ChangeSpec := { name := "fnPromises", fn := fun _ => fun
  | [d] => { results := [.lit (.bool false)], args := [d] }
  | _ => none }
def FnPromisesWrongFalsely : Prop := fnPromisesRow.holds Try.pinned (OpenSpec.ofChange fnPromisesWrong)

/-- 'laws.FnExactPromiseSlot': WHATEVER THE INPUT: true; the input reads as it did. -/
def fnExactPromiseSlotSpec : ChangeSpec := { name := "fnExactPromiseSlot", fn := fun _ => fun
  | [d1, d2] => { results := [.lit (.bool true)], args := [d1, d2] }
  | _ => none }
def fnExactPromiseSlotRow : OpenClaim := { program := "ytekndmbpphncmaa", sum := "f8dd82490820183be02531abfb7df3e70b8ac4ba8a8c32e6ba0e5633f7fece6f", func := "loop.example/g00203/laws.FnExactPromiseSlot", spec := "fnExactPromiseSlot", plainKeys := false, apart := false }
def FnExactPromiseSlotSaid : Prop := fnExactPromiseSlotRow.holds Try.pinned (OpenSpec.ofChange fnExactPromiseSlotSpec)

/-- ITS FALSE NEIGHBOUR: 'it returns false'. Refute it at one input. -/
def fnExactPromiseSlotWrong : ChangeSpec := { name := "fnExactPromiseSlot", fn := fun _ => fun
  | [d1, d2] => { results := [.lit (.bool false)], args := [d1, d2] }
  | _ => none }
def FnExactPromiseSlotWrongFalsely : Prop := fnExactPromiseSlotRow.holds Try.pinned (OpenSpec.ofChange fnExactPromiseSlotWrong)

/-- 'laws.FnExactAcceptSlot': WHATEVER THE INPUT: true; the input reads as it did. -/
def fnExactAcceptSlotSpec : ChangeSpec := { name := "fnExactAcceptSlot", fn := fun _ => fun
  | [d1, d2, d3] => { results := [.lit (.bool true)], args := [d1, d2, d3] }
  | _ => none }
def fnExactAcceptSlotRow : OpenClaim := { program := "ytekndmbpphncmaa", sum := "f8dd82490820183be02531abfb7df3e70b8ac4ba8a8c32e6ba0e5633f7fece6f", func := "loop.example/g00203/laws.FnExactAcceptSlot", spec := "fnExactAcceptSlot", plainKeys := false, apart := false }
def FnExactAcceptSlotSaid : Prop := fnExactAcceptSlotRow.holds Try.pinned (OpenSpec.ofChange fnExactAcceptSlotSpec)

/-- ITS FALSE NEIGHBOUR: 'it returns false'. Refute it at one input. -/
def fnExactAcceptSlotWrong : ChangeSpec := { name := "fnExactAcceptSlot", fn := fun _ => fun
  | [d1, d2, d3] => { results := [.lit (.bool false)], args := [d1, d2, d3] }
  | _ => none }
def FnExactAcceptSlotWrongFalsely : Prop := fnExactAcceptSlotRow.holds Try.pinned (OpenSpec.ofChange fnExactAcceptSlotWrong)

/-- 'laws.FnExactAgreeSlots': WHATEVER THE INPUT: true; the input reads as it did. -/
def fnExactAgreeSlotsSpec : ChangeSpec := { name := "fnExactAgreeSlots", fn := fun _ => fun
  | [d] => { results := [.lit (.bool true)], args := [d] }
  | _ => none }
def fnExactAgreeSlotsRow : OpenClaim := { program := "ytekndmbpphncmaa", sum := "f8dd82490820183be02531abfb7df3e70b8ac4ba8a8c32e6ba0e5633f7fece6f", func := "loop.example/g00203/laws.FnExactAgreeSlots", spec := "fnExactAgreeSlots", unfollowed := true, recurses := true, plainKeys := false, apart := false }
def FnExactAgreeSlotsSaid : Prop := fnExactAgreeSlotsRow.holds Try.pinned (OpenSpec.ofChange fnExactAgreeSlotsSpec)

/-- ITS FALSE NEIGHBOUR: 'it returns false'. Refute it at one input. -/
def fnExactAgreeSlotsWrong : ChangeSpec := { name := "fnExactAgreeSlots", fn := fun _ => fun
  | [d] => { results := [.lit (.bool false)], args := [d] }
  | _ => none }
def FnExactAgreeSlotsWrongFalsely : Prop := fnExactAgreeSlotsRow.holds Try.pinned (OpenSpec.ofChange fnExactAgreeSlotsWrong)

/-- 'laws.FnExactChosenIn': WHATEVER THE INPUT: true; the input reads as it did. -/
def fnExactChosenInSpec : ChangeSpec := { name := "fnExactChosenIn", fn := fun _ => fun
  | [d] => { results := [.lit (.bool true)], args := [d] }
  | _ => none }
def fnExactChosenInRow : OpenClaim := { program := "ytekndmbpphncmaa", sum := "f8dd82490820183be02531abfb7df3e70b8ac4ba8a8c32e6ba0e5633f7fece6f", func := "loop.example/g00203/laws.FnExactChosenIn", spec := "fnExactChosenIn", unfollowed := true, recurses := true, plainKeys := false, apart := false }
def FnExactChosenInSaid : Prop := fnExactChosenInRow.holds Try.pinned (OpenSpec.ofChange fnExactChosenInSpec)

/-- ITS FALSE NEIGHBOUR: 'it returns false'. Refute it at one input. -/
def fnExactChosenInWrong : ChangeSpec := { name := "fnExactChosenIn", fn := fun _ => fun
  | [d] => { results := [.lit (.bool false)], args := [d] }
  | _ => none }
def FnExactChosenInWrongFalsely : Prop := fnExactChosenInRow.holds Try.pinned (OpenSpec.ofChange fnExactChosenInWrong)

/-- 'laws.FnExactAcceptorFault': WHATEVER THE INPUT: true; the input reads as it did. -/
def fnExactAcceptorFaultSpec : ChangeSpec := { name := "fnExactAcceptorFault", fn := fun _ => fun
  | [d] => { results := [.lit (.bool true)], args := [d] }
  | _ => none }
def fnExactAcceptorFaultRow : OpenClaim := { program := "ytekndmbpphncmaa", sum := "f8dd82490820183be02531abfb7df3e70b8ac4ba8a8c32e6ba0e5633f7fece6f", func := "loop.example/g00203/laws.FnExactAcceptorFault", spec := "fnExactAcceptorFault", plainKeys := false, apart := false }
def FnExactAcceptorFaultSaid : Prop := fnExactAcceptorFaultRow.holds Try.pinned (OpenSpec.ofChange fnExactAcceptorFaultSpec)

/-- ITS FALSE NEIGHBOUR: 'it returns false'. Refute it at one input. -/
def fnExactAcceptorFaultWrong : ChangeSpec := { name := "fnExactAcceptorFault", fn := fun _ => fun
  | [d] => { results := [.lit (.bool false)], args := [d] }
  | _ => none }
def FnExactAcceptorFaultWrongFalsely : Prop := fnExactAcceptorFaultRow.holds Try.pinned (OpenSpec.ofChange fnExactAcceptorFaultWrong)

/-- 'laws.FnExactSlotsFor': WHATEVER THE INPUT: true; the input reads as it did. -/
def fnExactSlotsForSpec : ChangeSpec := { name := "fnExactSlotsFor", fn := fun _ => fun
  | [d1, d2, d3] => { results := [.lit (.bool true)], args := [d1, d2, d3] }
  | _ => none }
def fnExactSlotsForRow : OpenClaim := { program := "ytekndmbpphncmaa", sum := "f8dd82490820183be02531abfb7df3e70b8ac4ba8a8c32e6ba0e5633f7fece6f", func := "loop.example/g00203/laws.FnExactSlotsFor", spec := "fnExactSlotsFor", unfollowed := true, recurses := true, plainKeys := false, apart := false }
def FnExactSlotsForSaid : Prop := fnExactSlotsForRow.holds Try.pinned (OpenSpec.ofChange fnExactSlotsForSpec)

/-- ITS FALSE NEIGHBOUR: 'it returns false'. Refute it at one input. -/
def fnExactSlotsForWrong : ChangeSpec := { name := "fnExactSlotsFor", fn := fun _ => fun
  | [d1, d2, d3] => { results := [.lit (.bool false)], args := [d1, d2, d3] }
  | _ => none }
def FnExactSlotsForWrongFalsely : Prop := fnExactSlotsForRow.holds Try.pinned (OpenSpec.ofChange fnExactSlotsForWrong)

/- THE SECOND FORM. 'bulk': how many values and letters a reading holds, each counted each time it is reached (what is shared counts as often as it is met; a slice's spare places count too). A statement '..UptoSaid' is the law's where the arguments, and the package variables that the reading takes, are together of bulk at most 1048576: NARROWER than '..Said'. Prove '..Said' where nothing that the law and all that it calls make is longer than what came in: it says more and counts as full. Else prove '..UptoSaid'. A law counts once. -/
mutual
def uptoBulk {H : Type} : DataW H → Nat
  | .lit (.string bytes) => bytes.length + 1
  | .lit _ => 1
  | .nil => 1
  | .ptr d => uptoBulk d + 1
  | .slice elems spare => uptoBulkAll elems + uptoBulkAll spare + 1
  | .agg parts => uptoBulkAll parts + 1
  | .iface _ d => uptoBulk d + 1
  | .map entries => uptoBulkEntries entries + 1
  | .held _ => 1
def uptoBulkAll {H : Type} : List (DataW H) → Nat
  | [] => 0
  | d :: r => uptoBulk d + uptoBulkAll r
def uptoBulkEntries {H : Type} : List (Lit × DataW H) → Nat
  | [] => 0
  | x :: r => uptoBulkEntry x + uptoBulkEntries r
def uptoBulkEntry {H : Type} : Lit × DataW H → Nat
  | (.string bytes, d) => bytes.length + uptoBulk d + 1
  | (_, d) => uptoBulk d + 1
 end
def uptoSmall : (H : Type) → List (DataW H) → Bool := fun _ ds => decide (uptoBulkAll ds ≤ 1048576)
def OpenSpec.upto (s : _root_.Go.ChangeSpec) : _root_.Go.OpenSpec := { _root_.Go.OpenSpec.ofChange s with cond := some uptoSmall }

/-- 'laws.FnExactQuorumOf', WHERE WHAT IT READS IS OF BULK AT MOST 1048576: true; the input reads as it did. -/
def fnExactQuorumOfUptoRow : OpenClaim := { program := "ytekndmbpphncmaa", sum := "f8dd82490820183be02531abfb7df3e70b8ac4ba8a8c32e6ba0e5633f7fece6f", func := "loop.example/g00203/laws.FnExactQuorumOf", spec := "fnExactQuorumOf", plainKeys := false, apart := false, narrowed := true }
def FnExactQuorumOfUptoSaid : Prop := fnExactQuorumOfUptoRow.holds Try.pinned (OpenSpec.upto fnExactQuorumOfSpec)

/-- 'laws.FnQuorums', WHERE WHAT IT READS IS OF BULK AT MOST 1048576: true; the input reads as it did. -/
def fnQuorumsUptoRow : OpenClaim := { program := "ytekndmbpphncmaa", sum := "f8dd82490820183be02531abfb7df3e70b8ac4ba8a8c32e6ba0e5633f7fece6f", func := "loop.example/g00203/laws.FnQuorums", spec := "fnQuorums", unfollowed := true, recurses := true, plainKeys := false, apart := false, narrowed := true }
def FnQuorumsUptoSaid : Prop := fnQuorumsUptoRow.holds Try.pinned (OpenSpec.upto fnQuorumsSpec)

/-- 'laws.FnExactPickValue', WHERE WHAT IT READS IS OF BULK AT MOST 1048576: true; the input reads as it did. -/
def fnExactPickValueUptoRow : OpenClaim := { program := "ytekndmbpphncmaa", sum := "f8dd82490820183be02531abfb7df3e70b8ac4ba8a8c32e6ba0e5633f7fece6f", func := "loop.example/g00203/laws.FnExactPickValue", spec := "fnExactPickValue", unfollowed := true, recurses := true, plainKeys := false, apart := false, narrowed := true }
def FnExactPickValueUptoSaid : Prop := fnExactPickValueUptoRow.holds Try.pinned (OpenSpec.upto fnExactPickValueSpec)

/-- 'laws.FnExactNewSlot', WHERE WHAT IT READS IS OF BULK AT MOST 1048576: true; the input reads as it did. -/
def fnExactNewSlotUptoRow : OpenClaim := { program := "ytekndmbpphncmaa", sum := "f8dd82490820183be02531abfb7df3e70b8ac4ba8a8c32e6ba0e5633f7fece6f", func := "loop.example/g00203/laws.FnExactNewSlot", spec := "fnExactNewSlot", plainKeys := false, apart := false, narrowed := true }
def FnExactNewSlotUptoSaid : Prop := fnExactNewSlotUptoRow.holds Try.pinned (OpenSpec.upto fnExactNewSlotSpec)

/-- 'laws.FnExactSlotFault', WHERE WHAT IT READS IS OF BULK AT MOST 1048576: true; the input reads as it did. -/
def fnExactSlotFaultUptoRow : OpenClaim := { program := "ytekndmbpphncmaa", sum := "f8dd82490820183be02531abfb7df3e70b8ac4ba8a8c32e6ba0e5633f7fece6f", func := "loop.example/g00203/laws.FnExactSlotFault", spec := "fnExactSlotFault", plainKeys := false, apart := false, narrowed := true }
def FnExactSlotFaultUptoSaid : Prop := fnExactSlotFaultUptoRow.holds Try.pinned (OpenSpec.upto fnExactSlotFaultSpec)

/-- 'laws.FnPromises', WHERE WHAT IT READS IS OF BULK AT MOST 1048576: true; the input reads as it did. -/
def fnPromisesUptoRow : OpenClaim := { program := "ytekndmbpphncmaa", sum := "f8dd82490820183be02531abfb7df3e70b8ac4ba8a8c32e6ba0e5633f7fece6f", func := "loop.example/g00203/laws.FnPromises", spec := "fnPromises", plainKeys := false, apart := false, narrowed := true }
def FnPromisesUptoSaid : Prop := fnPromisesUptoRow.holds Try.pinned (OpenSpec.upto fnPromisesSpec)

/-- 'laws.FnExactPromiseSlot', WHERE WHAT IT READS IS OF BULK AT MOST 1048576: true; the input reads as it did. -/
def fnExactPromiseSlotUptoRow : OpenClaim := { program := "ytekndmbpphncmaa", sum := "f8dd82490820183be02531abfb7df3e70b8ac4ba8a8c32e6ba0e5633f7fece6f", func := "loop.example/g00203/laws.FnExactPromiseSlot", spec := "fnExactPromiseSlot", plainKeys := false, apart := false, narrowed := true }
def FnExactPromiseSlotUptoSaid : Prop := fnExactPromiseSlotUptoRow.holds Try.pinned (OpenSpec.upto fnExactPromiseSlotSpec)

/-- 'laws.FnExactAcceptSlot', WHERE WHAT IT READS IS OF BULK AT MOST 1048576: true; the input reads as it did. -/
def fnExactAcceptSlotUptoRow : OpenClaim := { program := "ytekndmbpphncmaa", sum := "f8dd82490820183be02531abfb7df3e70b8ac4ba8a8c32e6ba0e5633f7fece6f", func := "loop.example/g00203/laws.FnExactAcceptSlot", spec := "fnExactAcceptSlot", plainKeys := false, apart := false, narrowed := true }
def FnExactAcceptSlotUptoSaid : Prop := fnExactAcceptSlotUptoRow.holds Try.pinned (OpenSpec.upto fnExactAcceptSlotSpec)

/-- 'laws.FnExactAgreeSlots', WHERE WHAT IT READS IS OF BULK AT MOST 1048576: true; the input reads as it did. -/
def fnExactAgreeSlotsUptoRow : OpenClaim := { program := "ytekndmbpphncmaa", sum := "f8dd82490820183be02531abfb7df3e70b8ac4ba8a8c32e6ba0e5633f7fece6f", func := "loop.example/g00203/laws.FnExactAgreeSlots", spec := "fnExactAgreeSlots", unfollowed := true, recurses := true, plainKeys := false, apart := false, narrowed := true }
def FnExactAgreeSlotsUptoSaid : Prop := fnExactAgreeSlotsUptoRow.holds Try.pinned (OpenSpec.upto fnExactAgreeSlotsSpec)

/-- 'laws.FnExactChosenIn', WHERE WHAT IT READS IS OF BULK AT MOST 1048576: true; the input reads as it did. -/
def fnExactChosenInUptoRow : OpenClaim := { program := "ytekndmbpphncmaa", sum := "f8dd82490820183be02531abfb7df3e70b8ac4ba8a8c32e6ba0e5633f7fece6f", func := "loop.example/g00203/laws.FnExactChosenIn", spec := "fnExactChosenIn", unfollowed := true, recurses := true, plainKeys := false, apart := false, narrowed := true }
def FnExactChosenInUptoSaid : Prop := fnExactChosenInUptoRow.holds Try.pinned (OpenSpec.upto fnExactChosenInSpec)

/-- 'laws.FnExactAcceptorFault', WHERE WHAT IT READS IS OF BULK AT MOST 1048576: true; the input reads as it did. -/
def fnExactAcceptorFaultUptoRow : OpenClaim := { program := "ytekndmbpphncmaa", sum := "f8dd82490820183be02531abfb7df3e70b8ac4ba8a8c32e6ba0e5633f7fece6f", func := "loop.example/g00203/laws.FnExactAcceptorFault", spec := "fnExactAcceptorFault", plainKeys := false, apart := false, narrowed := true }
def FnExactAcceptorFaultUptoSaid : Prop := fnExactAcceptorFaultUptoRow.holds Try.pinned (OpenSpec.upto fnExactAcceptorFaultSpec)

/-- 'laws.FnExactSlotsFor', WHERE WHAT IT READS IS OF BULK AT MOST 1048576: true; the input reads as it did. -/
def fnExactSlotsForUptoRow : OpenClaim := { program := "ytekndmbpphncmaa", sum := "f8dd82490820183be02531abfb7df3e70b8ac4ba8a8c32e6ba0e5633f7fece6f", func := "loop.example/g00203/laws.FnExactSlotsFor", spec := "fnExactSlotsFor", unfollowed := true, recurses := true, plainKeys := false, apart := false, narrowed := true }
def FnExactSlotsForUptoSaid : Prop := fnExactSlotsForUptoRow.holds Try.pinned (OpenSpec.upto fnExactSlotsForSpec)

end Rows
end Go.Proofs.Ytekndmbpphncmaa
