/- Each function of the program is as its plain function says, for FnPromises. No condition. -/
import Derived.Test.YtekndmbpphncmaaRvP8
import Derived.Test.YtekndmbpphncmaaProg
import Derived.KernelRfl
namespace Go.RvP
open Go Go.Rv Go.Proofs
set_option maxRecDepth 100000
theorem hm : Try.prog.follows .mixedOrders = true := by kernel_rfl
theorem hT : TabOK Try.prog T := tabOK_of (by kernel_rfl)
noncomputable def BB : Bodies := [(67, Try.f67), (94, Try.f94)]
theorem hBB : BodyOK Try.prog BB := (bodyOK_cons Try.func67 (by kernel_rfl) (bodyOK_cons Try.func94 (by kernel_rfl) bodyOK_nil))
theorem e_laws_lwBig (n : Nat) (x) : afun [] T BB 0 n Try.f18 a_laws_lwBig S_laws_lwBig.ps S_laws_lwBig.rs x = p_laws_lwBig n x := by kernel_rfl
theorem ok_laws_lwBig : EnvOK Try.prog G_laws_lwBig := envOK_cons hm hT envOK_nil Try.func18 (by kernel_rfl) hBB fun x r hr => ⟨FU, (e_laws_lwBig FU x).trans hr⟩
theorem e_spec_l1Next (n : Nat) (x) : afun G_laws_lwBig T BB 0 n Try.f71 a_spec_l1Next S_spec_l1Next.ps S_spec_l1Next.rs x = p_spec_l1Next n x := by kernel_rfl
theorem ok_spec_l1Next : EnvOK Try.prog G_spec_l1Next := envOK_cons hm hT ok_laws_lwBig Try.func71 (by kernel_rfl) hBB fun x r hr => ⟨FU, (e_spec_l1Next FU x).trans hr⟩
theorem e_spec_l1In (n : Nat) (x) : afun G_spec_l1Next T BB 0 n Try.f63 a_spec_l1In S_spec_l1In.ps S_spec_l1In.rs x = p_spec_l1In n x := by kernel_rfl
theorem ok_spec_l1In : EnvOK Try.prog G_spec_l1In := envOK_cons hm hT ok_spec_l1Next Try.func63 (by kernel_rfl) hBB fun x r hr => ⟨FU, (e_spec_l1In FU x).trans hr⟩
theorem e_spec_l1Id (n : Nat) (x) : afun G_spec_l1In T BB 0 n Try.f82 a_spec_l1Id S_spec_l1Id.ps S_spec_l1Id.rs x = p_spec_l1Id n x := by kernel_rfl
theorem ok_spec_l1Id : EnvOK Try.prog G_spec_l1Id := envOK_cons hm hT ok_spec_l1In Try.func82 (by kernel_rfl) hBB fun x r hr => ⟨FU, (e_spec_l1Id FU x).trans hr⟩
theorem e_spec_l8None (n : Nat) (x) : afun G_spec_l1Id T BB 0 n Try.f69 a_spec_l8None S_spec_l8None.ps S_spec_l8None.rs x = p_spec_l8None n x := by kernel_rfl
theorem ok_spec_l8None : EnvOK Try.prog G_spec_l8None := envOK_cons hm hT ok_spec_l1Id Try.func69 (by kernel_rfl) hBB fun x r hr => ⟨FU, (e_spec_l8None FU x).trans hr⟩
theorem e_spec_NewSlot (n : Nat) (x) : afun G_spec_l8None T BB 0 n Try.f25 a_spec_NewSlot S_spec_NewSlot.ps S_spec_NewSlot.rs x = p_spec_NewSlot n x := by kernel_rfl
theorem ok_spec_NewSlot : EnvOK Try.prog G_spec_NewSlot := envOK_cons hm hT ok_spec_l8None Try.func25 (by kernel_rfl) hBB fun x r hr => ⟨FU, (e_spec_NewSlot FU x).trans hr⟩
theorem e_spec_l8Ballot (n : Nat) (x) : afun G_spec_NewSlot T BB 0 n Try.f77 a_spec_l8Ballot S_spec_l8Ballot.ps S_spec_l8Ballot.rs x = p_spec_l8Ballot n x := by kernel_rfl
theorem ok_spec_l8Ballot : EnvOK Try.prog G_spec_l8Ballot := envOK_cons hm hT ok_spec_NewSlot Try.func77 (by kernel_rfl) hBB fun x r hr => ⟨FU, (e_spec_l8Ballot FU x).trans hr⟩
theorem e_spec_l8Value (n : Nat) (x) : afun G_spec_l8Ballot T BB 0 n Try.f78 a_spec_l8Value S_spec_l8Value.ps S_spec_l8Value.rs x = p_spec_l8Value n x := by kernel_rfl
theorem ok_spec_l8Value : EnvOK Try.prog G_spec_l8Value := envOK_cons hm hT ok_spec_l8Ballot Try.func78 (by kernel_rfl) hBB fun x r hr => ⟨FU, (e_spec_l8Value FU x).trans hr⟩
theorem e_spec_l8Last (n : Nat) (x) : afun G_spec_l8Value T BB 0 n Try.f87 a_spec_l8Last S_spec_l8Last.ps S_spec_l8Last.rs x = p_spec_l8Last n x := by kernel_rfl
theorem ok_spec_l8Last : EnvOK Try.prog G_spec_l8Last := envOK_cons hm hT ok_spec_l8Value Try.func87 (by kernel_rfl) hBB fun x r hr => ⟨FU, (e_spec_l8Last FU x).trans hr⟩
theorem e_spec_SlotFault (n : Nat) (x) : afun G_spec_l8Last T BB 0 n Try.f31 a_spec_SlotFault S_spec_SlotFault.ps S_spec_SlotFault.rs x = p_spec_SlotFault n x := by kernel_rfl
theorem ok_spec_SlotFault : EnvOK Try.prog G_spec_SlotFault := envOK_cons hm hT ok_spec_l8Last Try.func31 (by kernel_rfl) hBB fun x r hr => ⟨FU, (e_spec_SlotFault FU x).trans hr⟩
theorem e_spec_l8Copy (n : Nat) (x) : afun G_spec_SlotFault T BB 0 n Try.f93 a_spec_l8Copy S_spec_l8Copy.ps S_spec_l8Copy.rs x = p_spec_l8Copy n x := by kernel_rfl
theorem ok_spec_l8Copy : EnvOK Try.prog G_spec_l8Copy := envOK_cons hm hT ok_spec_SlotFault Try.func93 (by kernel_rfl) hBB fun x r hr => ⟨FU, (e_spec_l8Copy FU x).trans hr⟩
theorem e_spec_PromiseSlot (n : Nat) (x) : afun G_spec_l8Copy T BB 0 n Try.f37 a_spec_PromiseSlot S_spec_PromiseSlot.ps S_spec_PromiseSlot.rs x = p_spec_PromiseSlot n x := by kernel_rfl
theorem ok_spec_PromiseSlot : EnvOK Try.prog G_spec_PromiseSlot := envOK_cons hm hT ok_spec_l8Copy Try.func37 (by kernel_rfl) hBB fun x r hr => ⟨FU, (e_spec_PromiseSlot FU x).trans hr⟩
theorem e_spec_l1Chance (n : Nat) (x) : afun G_spec_PromiseSlot T BB 0 n Try.f70 a_spec_l1Chance S_spec_l1Chance.ps S_spec_l1Chance.rs x = p_spec_l1Chance n x := by kernel_rfl
theorem ok_spec_l1Chance : EnvOK Try.prog G_spec_l1Chance := envOK_cons hm hT ok_spec_PromiseSlot Try.func70 (by kernel_rfl) hBB fun x r hr => ⟨FU, (e_spec_l1Chance FU x).trans hr⟩
theorem e_spec_AcceptSlot (n : Nat) (x) : afun G_spec_l1Chance T BB 1 n Try.f39 a_spec_AcceptSlot S_spec_AcceptSlot.ps S_spec_AcceptSlot.rs x = p_spec_AcceptSlot n x := by kernel_rfl
theorem ok_spec_AcceptSlot : EnvOK Try.prog G_spec_AcceptSlot := envOK_cons hm hT ok_spec_l1Chance Try.func39 (by kernel_rfl) hBB fun x r hr => ⟨FU, (e_spec_AcceptSlot FU x).trans hr⟩
theorem e_spec_l1Pick (n : Nat) (x) : afun G_spec_AcceptSlot T BB 0 n Try.f68 a_spec_l1Pick S_spec_l1Pick.ps S_spec_l1Pick.rs x = p_spec_l1Pick n x := by kernel_rfl
theorem ok_spec_l1Pick : EnvOK Try.prog G_spec_l1Pick := envOK_cons hm hT ok_spec_AcceptSlot Try.func68 (by kernel_rfl) hBB fun x r hr => ⟨FU, (e_spec_l1Pick FU x).trans hr⟩
theorem e_spec_l8Slot (n : Nat) (x) : afun G_spec_l1Pick T BB 0 n Try.f90 a_spec_l8Slot S_spec_l8Slot.ps S_spec_l8Slot.rs x = p_spec_l8Slot n x := by kernel_rfl
theorem ok_spec_l8Slot : EnvOK Try.prog G_spec_l8Slot := envOK_cons hm hT ok_spec_l1Pick Try.func90 (by kernel_rfl) hBB fun x r hr => ⟨FU, (e_spec_l8Slot FU x).trans hr⟩
theorem e_spec_DrawPromiseSlot (n : Nat) (x) : afun G_spec_l8Slot T BB 1 n Try.f35 a_spec_DrawPromiseSlot S_spec_DrawPromiseSlot.ps S_spec_DrawPromiseSlot.rs x = p_spec_DrawPromiseSlot n x := by kernel_rfl
theorem ok_spec_DrawPromiseSlot : EnvOK Try.prog G_spec_DrawPromiseSlot := envOK_cons hm hT ok_spec_l8Slot Try.func35 (by kernel_rfl) hBB fun x r hr => ⟨FU, (e_spec_DrawPromiseSlot FU x).trans hr⟩
theorem e_impl_within (n : Nat) (x) : afun G_spec_DrawPromiseSlot T BB 0 n Try.f65 a_impl_within S_impl_within.ps S_impl_within.rs x = p_impl_within n x := by kernel_rfl
theorem ok_impl_within : EnvOK Try.prog G_impl_within := envOK_cons hm hT ok_spec_DrawPromiseSlot Try.func65 (by kernel_rfl) hBB fun x r hr => ⟨FU, (e_impl_within FU x).trans hr⟩
theorem e_impl_isId (n : Nat) (x) : afun G_impl_within T BB 0 n Try.f83 a_impl_isId S_impl_isId.ps S_impl_isId.rs x = p_impl_isId n x := by kernel_rfl
theorem ok_impl_isId : EnvOK Try.prog G_impl_isId := envOK_cons hm hT ok_impl_within Try.func83 (by kernel_rfl) hBB fun x r hr => ⟨FU, (e_impl_isId FU x).trans hr⟩
theorem e_impl_isShard (n : Nat) (x) : afun G_impl_isId T BB 0 n Try.f84 a_impl_isShard S_impl_isShard.ps S_impl_isShard.rs x = p_impl_isShard n x := by kernel_rfl
theorem ok_impl_isShard : EnvOK Try.prog G_impl_isShard := envOK_cons hm hT ok_impl_isId Try.func84 (by kernel_rfl) hBB fun x r hr => ⟨FU, (e_impl_isShard FU x).trans hr⟩
theorem e_impl_isBallot (n : Nat) (x) : afun G_impl_isShard T BB 0 n Try.f91 a_impl_isBallot S_impl_isBallot.ps S_impl_isBallot.rs x = p_impl_isBallot n x := by kernel_rfl
theorem ok_impl_isBallot : EnvOK Try.prog G_impl_isBallot := envOK_cons hm hT ok_impl_isShard Try.func91 (by kernel_rfl) hBB fun x r hr => ⟨FU, (e_impl_isBallot FU x).trans hr⟩
theorem e_impl_isValue (n : Nat) (x) : afun G_impl_isBallot T BB 0 n Try.f76 a_impl_isValue S_impl_isValue.ps S_impl_isValue.rs x = p_impl_isValue n x := by kernel_rfl
theorem ok_impl_isValue : EnvOK Try.prog G_impl_isValue := envOK_cons hm hT ok_impl_isBallot Try.func76 (by kernel_rfl) hBB fun x r hr => ⟨FU, (e_impl_isValue FU x).trans hr⟩
theorem e_impl_isVote (n : Nat) (x) : afun G_impl_isValue T BB 0 n Try.f75 a_impl_isVote S_impl_isVote.ps S_impl_isVote.rs x = p_impl_isVote n x := by kernel_rfl
theorem ok_impl_isVote : EnvOK Try.prog G_impl_isVote := envOK_cons hm hT ok_impl_isValue Try.func75 (by kernel_rfl) hBB fun x r hr => ⟨FU, (e_impl_isVote FU x).trans hr⟩
theorem e_impl_castFault (n : Nat) (x) : afun G_impl_isVote T BB 0 n Try.f88 a_impl_castFault S_impl_castFault.ps S_impl_castFault.rs x = p_impl_castFault n x := by kernel_rfl
theorem ok_impl_castFault : EnvOK Try.prog G_impl_castFault := envOK_cons hm hT ok_impl_isVote Try.func88 (by kernel_rfl) hBB fun x r hr => ⟨FU, (e_impl_castFault FU x).trans hr⟩
theorem e_impl_noVote (n : Nat) (x) : afun G_impl_castFault T BB 0 n Try.f74 a_impl_noVote S_impl_noVote.ps S_impl_noVote.rs x = p_impl_noVote n x := by kernel_rfl
theorem ok_impl_noVote : EnvOK Try.prog G_impl_noVote := envOK_cons hm hT ok_impl_castFault Try.func74 (by kernel_rfl) hBB fun x r hr => ⟨FU, (e_impl_noVote FU x).trans hr⟩
theorem e_impl_lastCast (n : Nat) (x) : afun G_impl_noVote T BB 0 n Try.f89 a_impl_lastCast S_impl_lastCast.ps S_impl_lastCast.rs x = p_impl_lastCast n x := by kernel_rfl
theorem ok_impl_lastCast : EnvOK Try.prog G_impl_lastCast := envOK_cons hm hT ok_impl_noVote Try.func89 (by kernel_rfl) hBB fun x r hr => ⟨FU, (e_impl_lastCast FU x).trans hr⟩
theorem e_impl_SlotFault (n : Nat) (x) : afun G_impl_lastCast T BB 0 n Try.f33 a_impl_SlotFault S_impl_SlotFault.ps S_impl_SlotFault.rs x = p_impl_SlotFault n x := by kernel_rfl
theorem ok_impl_SlotFault : EnvOK Try.prog G_impl_SlotFault := envOK_cons hm hT ok_impl_lastCast Try.func33 (by kernel_rfl) hBB fun x r hr => ⟨FU, (e_impl_SlotFault FU x).trans hr⟩
theorem e_slices_Clone_impl_Vote_impl_Vote (n : Nat) (x) : afun G_impl_SlotFault T BB 0 n Try.f112 a_slices_Clone_impl_Vote_impl_Vote S_slices_Clone_impl_Vote_impl_Vote.ps S_slices_Clone_impl_Vote_impl_Vote.rs x = p_slices_Clone_impl_Vote_impl_Vote n x := by kernel_rfl
theorem ok_slices_Clone_impl_Vote_impl_Vote : EnvOK Try.prog G_slices_Clone_impl_Vote_impl_Vote := envOK_cons hm hT ok_impl_SlotFault Try.func112 (by kernel_rfl) hBB fun x r hr => ⟨FU, (e_slices_Clone_impl_Vote_impl_Vote FU x).trans hr⟩
theorem e_impl_copySlot (n : Nat) (x) : afun G_slices_Clone_impl_Vote_impl_Vote T BB 0 n Try.f92 a_impl_copySlot S_impl_copySlot.ps S_impl_copySlot.rs x = p_impl_copySlot n x := by kernel_rfl
theorem ok_impl_copySlot : EnvOK Try.prog G_impl_copySlot := envOK_cons hm hT ok_slices_Clone_impl_Vote_impl_Vote Try.func92 (by kernel_rfl) hBB fun x r hr => ⟨FU, (e_impl_copySlot FU x).trans hr⟩
theorem e_impl_PromiseSlot (n : Nat) (x) : afun G_impl_copySlot T BB 0 n Try.f36 a_impl_PromiseSlot S_impl_PromiseSlot.ps S_impl_PromiseSlot.rs x = p_impl_PromiseSlot n x := by kernel_rfl
theorem ok_impl_PromiseSlot : EnvOK Try.prog G_impl_PromiseSlot := envOK_cons hm hT ok_impl_copySlot Try.func36 (by kernel_rfl) hBB fun x r hr => ⟨FU, (e_impl_PromiseSlot FU x).trans hr⟩
theorem e_impl_AcceptSlot (n : Nat) (x) : afun G_impl_PromiseSlot T BB 0 n Try.f38 a_impl_AcceptSlot S_impl_AcceptSlot.ps S_impl_AcceptSlot.rs x = p_impl_AcceptSlot n x := by kernel_rfl
theorem ok_impl_AcceptSlot : EnvOK Try.prog G_impl_AcceptSlot := envOK_cons hm hT ok_impl_PromiseSlot Try.func38 (by kernel_rfl) hBB fun x r hr => ⟨FU, (e_impl_AcceptSlot FU x).trans hr⟩
theorem e_laws_FnPromises (n : Nat) (x) : afun G_impl_AcceptSlot T BB 0 n Try.f8 a_laws_FnPromises S_laws_FnPromises.ps S_laws_FnPromises.rs x = p_laws_FnPromises n x := by kernel_rfl
theorem ok_laws_FnPromises : EnvOK Try.prog G_laws_FnPromises := envOK_cons hm hT ok_impl_AcceptSlot Try.func8 (by kernel_rfl) hBB fun x r hr => ⟨FU, (e_laws_FnPromises FU x).trans hr⟩
end Go.RvP
