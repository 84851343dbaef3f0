/- Each function of the program is as its plain function says, for FnExactAcceptSlot. No condition. -/
import Derived.Test.YtekndmbpphncmaaRvP10
import Derived.Test.YtekndmbpphncmaaProg
import Derived.KernelRfl
namespace Go.RvP
open Go Go.Rv Go.Proofs
set_option maxRecDepth 100000
theorem hm : Try.prog.follows .mixedOrders = true := by kernel_rfl
theorem hT : TabOK Try.prog T := tabOK_of (by kernel_rfl)
noncomputable def BB : Bodies := [(28, Try.f28), (40, Try.f40), (94, Try.f94), (95, Try.f95)]
theorem hBB : BodyOK Try.prog BB := (bodyOK_cons Try.func28 (by kernel_rfl) (bodyOK_cons Try.func40 (by kernel_rfl) (bodyOK_cons Try.func94 (by kernel_rfl) (bodyOK_cons Try.func95 (by kernel_rfl) bodyOK_nil))))
theorem e_laws_szVoteS (n : Nat) (x) : afun [] T BB 0 n Try.f22 a_laws_szVoteS S_laws_szVoteS.ps S_laws_szVoteS.rs x = p_laws_szVoteS n x := by kernel_rfl
theorem ok_laws_szVoteS : EnvOK Try.prog G_laws_szVoteS := envOK_cons hm hT envOK_nil Try.func22 (by kernel_rfl) hBB fun x r hr => ⟨FU, (e_laws_szVoteS FU x).trans hr⟩
theorem e_laws_szSlot (n : Nat) (x) : afun G_laws_szVoteS T BB 0 n Try.f30 a_laws_szSlot S_laws_szSlot.ps S_laws_szSlot.rs x = p_laws_szSlot n x := by kernel_rfl
theorem ok_laws_szSlot : EnvOK Try.prog G_laws_szSlot := envOK_cons hm hT ok_laws_szVoteS Try.func30 (by kernel_rfl) hBB fun x r hr => ⟨FU, (e_laws_szSlot FU x).trans hr⟩
theorem e_laws_toVote (n : Nat) (x) : afun G_laws_szSlot T BB 0 n Try.f80 a_laws_toVote S_laws_toVote.ps S_laws_toVote.rs x = p_laws_toVote n x := by kernel_rfl
theorem ok_laws_toVote : EnvOK Try.prog G_laws_toVote := envOK_cons hm hT ok_laws_szSlot Try.func80 (by kernel_rfl) hBB fun x r hr => ⟨FU, (e_laws_toVote FU x).trans hr⟩
theorem e_laws_toVoteS (n : Nat) (x) : afun G_laws_toVote T BB 0 n Try.f23 a_laws_toVoteS S_laws_toVoteS.ps S_laws_toVoteS.rs x = p_laws_toVoteS n x := by kernel_rfl
theorem ok_laws_toVoteS : EnvOK Try.prog G_laws_toVoteS := envOK_cons hm hT ok_laws_toVote Try.func23 (by kernel_rfl) hBB fun x r hr => ⟨FU, (e_laws_toVoteS FU x).trans hr⟩
theorem e_laws_toSlot (n : Nat) (x) : afun G_laws_toVoteS T BB 0 n Try.f32 a_laws_toSlot S_laws_toSlot.ps S_laws_toSlot.rs x = p_laws_toSlot n x := by kernel_rfl
theorem ok_laws_toSlot : EnvOK Try.prog G_laws_toSlot := envOK_cons hm hT ok_laws_toVoteS Try.func32 (by kernel_rfl) hBB fun x r hr => ⟨FU, (e_laws_toSlot FU x).trans hr⟩
theorem e_spec_l1In (n : Nat) (x) : afun G_laws_toSlot T BB 0 n Try.f63 a_spec_l1In S_spec_l1In.ps S_spec_l1In.rs x = p_spec_l1In n x := by kernel_rfl
theorem ok_spec_l1In : EnvOK Try.prog G_spec_l1In := envOK_cons hm hT ok_laws_toSlot Try.func63 (by kernel_rfl) hBB fun x r hr => ⟨FU, (e_spec_l1In FU x).trans hr⟩
theorem e_spec_l1Id (n : Nat) (x) : afun G_spec_l1In T BB 0 n Try.f82 a_spec_l1Id S_spec_l1Id.ps S_spec_l1Id.rs x = p_spec_l1Id n x := by kernel_rfl
theorem ok_spec_l1Id : EnvOK Try.prog G_spec_l1Id := envOK_cons hm hT ok_spec_l1In Try.func82 (by kernel_rfl) hBB fun x r hr => ⟨FU, (e_spec_l1Id FU x).trans hr⟩
theorem e_spec_l8Ballot (n : Nat) (x) : afun G_spec_l1Id T BB 0 n Try.f77 a_spec_l8Ballot S_spec_l8Ballot.ps S_spec_l8Ballot.rs x = p_spec_l8Ballot n x := by kernel_rfl
theorem ok_spec_l8Ballot : EnvOK Try.prog G_spec_l8Ballot := envOK_cons hm hT ok_spec_l1Id Try.func77 (by kernel_rfl) hBB fun x r hr => ⟨FU, (e_spec_l8Ballot FU x).trans hr⟩
theorem e_spec_l8Value (n : Nat) (x) : afun G_spec_l8Ballot T BB 0 n Try.f78 a_spec_l8Value S_spec_l8Value.ps S_spec_l8Value.rs x = p_spec_l8Value n x := by kernel_rfl
theorem ok_spec_l8Value : EnvOK Try.prog G_spec_l8Value := envOK_cons hm hT ok_spec_l8Ballot Try.func78 (by kernel_rfl) hBB fun x r hr => ⟨FU, (e_spec_l8Value FU x).trans hr⟩
theorem e_spec_l8None (n : Nat) (x) : afun G_spec_l8Value T BB 0 n Try.f69 a_spec_l8None S_spec_l8None.ps S_spec_l8None.rs x = p_spec_l8None n x := by kernel_rfl
theorem ok_spec_l8None : EnvOK Try.prog G_spec_l8None := envOK_cons hm hT ok_spec_l8Value Try.func69 (by kernel_rfl) hBB fun x r hr => ⟨FU, (e_spec_l8None FU x).trans hr⟩
theorem e_spec_l8Last (n : Nat) (x) : afun G_spec_l8None T BB 0 n Try.f87 a_spec_l8Last S_spec_l8Last.ps S_spec_l8Last.rs x = p_spec_l8Last n x := by kernel_rfl
theorem ok_spec_l8Last : EnvOK Try.prog G_spec_l8Last := envOK_cons hm hT ok_spec_l8None Try.func87 (by kernel_rfl) hBB fun x r hr => ⟨FU, (e_spec_l8Last FU x).trans hr⟩
theorem e_spec_SlotFault (n : Nat) (x) : afun G_spec_l8Last T BB 0 n Try.f31 a_spec_SlotFault S_spec_SlotFault.ps S_spec_SlotFault.rs x = p_spec_SlotFault n x := by kernel_rfl
theorem ok_spec_SlotFault : EnvOK Try.prog G_spec_SlotFault := envOK_cons hm hT ok_spec_l8Last Try.func31 (by kernel_rfl) hBB fun x r hr => ⟨FU, (e_spec_SlotFault FU x).trans hr⟩
theorem e_spec_l8Copy (n : Nat) (x) : afun G_spec_SlotFault T BB 0 n Try.f93 a_spec_l8Copy S_spec_l8Copy.ps S_spec_l8Copy.rs x = p_spec_l8Copy n x := by kernel_rfl
theorem ok_spec_l8Copy : EnvOK Try.prog G_spec_l8Copy := envOK_cons hm hT ok_spec_SlotFault Try.func93 (by kernel_rfl) hBB fun x r hr => ⟨FU, (e_spec_l8Copy FU x).trans hr⟩
theorem e_spec_AcceptSlot (n : Nat) (x) : afun G_spec_l8Copy T BB 1 n Try.f39 a_spec_AcceptSlot S_spec_AcceptSlot.ps S_spec_AcceptSlot.rs x = p_spec_AcceptSlot n x := by kernel_rfl
theorem ok_spec_AcceptSlot : EnvOK Try.prog G_spec_AcceptSlot := envOK_cons hm hT ok_spec_l8Copy Try.func39 (by kernel_rfl) hBB fun x r hr => ⟨FU, (e_spec_AcceptSlot FU x).trans hr⟩
theorem e_impl_within (n : Nat) (x) : afun G_spec_AcceptSlot T BB 0 n Try.f65 a_impl_within S_impl_within.ps S_impl_within.rs x = p_impl_within n x := by kernel_rfl
theorem ok_impl_within : EnvOK Try.prog G_impl_within := envOK_cons hm hT ok_spec_AcceptSlot Try.func65 (by kernel_rfl) hBB fun x r hr => ⟨FU, (e_impl_within FU x).trans hr⟩
theorem e_impl_isId (n : Nat) (x) : afun G_impl_within T BB 0 n Try.f83 a_impl_isId S_impl_isId.ps S_impl_isId.rs x = p_impl_isId n x := by kernel_rfl
theorem ok_impl_isId : EnvOK Try.prog G_impl_isId := envOK_cons hm hT ok_impl_within Try.func83 (by kernel_rfl) hBB fun x r hr => ⟨FU, (e_impl_isId FU x).trans hr⟩
theorem e_impl_isShard (n : Nat) (x) : afun G_impl_isId T BB 0 n Try.f84 a_impl_isShard S_impl_isShard.ps S_impl_isShard.rs x = p_impl_isShard n x := by kernel_rfl
theorem ok_impl_isShard : EnvOK Try.prog G_impl_isShard := envOK_cons hm hT ok_impl_isId Try.func84 (by kernel_rfl) hBB fun x r hr => ⟨FU, (e_impl_isShard FU x).trans hr⟩
theorem e_impl_isBallot (n : Nat) (x) : afun G_impl_isShard T BB 0 n Try.f91 a_impl_isBallot S_impl_isBallot.ps S_impl_isBallot.rs x = p_impl_isBallot n x := by kernel_rfl
theorem ok_impl_isBallot : EnvOK Try.prog G_impl_isBallot := envOK_cons hm hT ok_impl_isShard Try.func91 (by kernel_rfl) hBB fun x r hr => ⟨FU, (e_impl_isBallot FU x).trans hr⟩
theorem e_impl_isValue (n : Nat) (x) : afun G_impl_isBallot T BB 0 n Try.f76 a_impl_isValue S_impl_isValue.ps S_impl_isValue.rs x = p_impl_isValue n x := by kernel_rfl
theorem ok_impl_isValue : EnvOK Try.prog G_impl_isValue := envOK_cons hm hT ok_impl_isBallot Try.func76 (by kernel_rfl) hBB fun x r hr => ⟨FU, (e_impl_isValue FU x).trans hr⟩
theorem e_impl_isVote (n : Nat) (x) : afun G_impl_isValue T BB 0 n Try.f75 a_impl_isVote S_impl_isVote.ps S_impl_isVote.rs x = p_impl_isVote n x := by kernel_rfl
theorem ok_impl_isVote : EnvOK Try.prog G_impl_isVote := envOK_cons hm hT ok_impl_isValue Try.func75 (by kernel_rfl) hBB fun x r hr => ⟨FU, (e_impl_isVote FU x).trans hr⟩
theorem e_impl_castFault (n : Nat) (x) : afun G_impl_isVote T BB 0 n Try.f88 a_impl_castFault S_impl_castFault.ps S_impl_castFault.rs x = p_impl_castFault n x := by kernel_rfl
theorem ok_impl_castFault : EnvOK Try.prog G_impl_castFault := envOK_cons hm hT ok_impl_isVote Try.func88 (by kernel_rfl) hBB fun x r hr => ⟨FU, (e_impl_castFault FU x).trans hr⟩
theorem e_impl_noVote (n : Nat) (x) : afun G_impl_castFault T BB 0 n Try.f74 a_impl_noVote S_impl_noVote.ps S_impl_noVote.rs x = p_impl_noVote n x := by kernel_rfl
theorem ok_impl_noVote : EnvOK Try.prog G_impl_noVote := envOK_cons hm hT ok_impl_castFault Try.func74 (by kernel_rfl) hBB fun x r hr => ⟨FU, (e_impl_noVote FU x).trans hr⟩
theorem e_impl_lastCast (n : Nat) (x) : afun G_impl_noVote T BB 0 n Try.f89 a_impl_lastCast S_impl_lastCast.ps S_impl_lastCast.rs x = p_impl_lastCast n x := by kernel_rfl
theorem ok_impl_lastCast : EnvOK Try.prog G_impl_lastCast := envOK_cons hm hT ok_impl_noVote Try.func89 (by kernel_rfl) hBB fun x r hr => ⟨FU, (e_impl_lastCast FU x).trans hr⟩
theorem e_impl_SlotFault (n : Nat) (x) : afun G_impl_lastCast T BB 0 n Try.f33 a_impl_SlotFault S_impl_SlotFault.ps S_impl_SlotFault.rs x = p_impl_SlotFault n x := by kernel_rfl
theorem ok_impl_SlotFault : EnvOK Try.prog G_impl_SlotFault := envOK_cons hm hT ok_impl_lastCast Try.func33 (by kernel_rfl) hBB fun x r hr => ⟨FU, (e_impl_SlotFault FU x).trans hr⟩
theorem e_slices_Clone_impl_Vote_impl_Vote (n : Nat) (x) : afun G_impl_SlotFault T BB 0 n Try.f112 a_slices_Clone_impl_Vote_impl_Vote S_slices_Clone_impl_Vote_impl_Vote.ps S_slices_Clone_impl_Vote_impl_Vote.rs x = p_slices_Clone_impl_Vote_impl_Vote n x := by kernel_rfl
theorem ok_slices_Clone_impl_Vote_impl_Vote : EnvOK Try.prog G_slices_Clone_impl_Vote_impl_Vote := envOK_cons hm hT ok_impl_SlotFault Try.func112 (by kernel_rfl) hBB fun x r hr => ⟨FU, (e_slices_Clone_impl_Vote_impl_Vote FU x).trans hr⟩
theorem e_impl_copySlot (n : Nat) (x) : afun G_slices_Clone_impl_Vote_impl_Vote T BB 0 n Try.f92 a_impl_copySlot S_impl_copySlot.ps S_impl_copySlot.rs x = p_impl_copySlot n x := by kernel_rfl
theorem ok_impl_copySlot : EnvOK Try.prog G_impl_copySlot := envOK_cons hm hT ok_slices_Clone_impl_Vote_impl_Vote Try.func92 (by kernel_rfl) hBB fun x r hr => ⟨FU, (e_impl_copySlot FU x).trans hr⟩
theorem e_impl_AcceptSlot (n : Nat) (x) : afun G_impl_copySlot T BB 0 n Try.f38 a_impl_AcceptSlot S_impl_AcceptSlot.ps S_impl_AcceptSlot.rs x = p_impl_AcceptSlot n x := by kernel_rfl
theorem ok_impl_AcceptSlot : EnvOK Try.prog G_impl_AcceptSlot := envOK_cons hm hT ok_impl_copySlot Try.func38 (by kernel_rfl) hBB fun x r hr => ⟨FU, (e_impl_AcceptSlot FU x).trans hr⟩
theorem e_laws_eqVote (n : Nat) (x) : afun G_impl_AcceptSlot T BB 0 n Try.f81 a_laws_eqVote S_laws_eqVote.ps S_laws_eqVote.rs x = p_laws_eqVote n x := by kernel_rfl
theorem ok_laws_eqVote : EnvOK Try.prog G_laws_eqVote := envOK_cons hm hT ok_impl_AcceptSlot Try.func81 (by kernel_rfl) hBB fun x r hr => ⟨FU, (e_laws_eqVote FU x).trans hr⟩
theorem e_laws_eqVoteS (n : Nat) (x) : afun G_laws_eqVote T BB 0 n Try.f24 a_laws_eqVoteS S_laws_eqVoteS.ps S_laws_eqVoteS.rs x = p_laws_eqVoteS n x := by kernel_rfl
theorem ok_laws_eqVoteS : EnvOK Try.prog G_laws_eqVoteS := envOK_cons hm hT ok_laws_eqVote Try.func24 (by kernel_rfl) hBB fun x r hr => ⟨FU, (e_laws_eqVoteS FU x).trans hr⟩
theorem e_laws_eqSlot (n : Nat) (x) : afun G_laws_eqVoteS T BB 0 n Try.f34 a_laws_eqSlot S_laws_eqSlot.ps S_laws_eqSlot.rs x = p_laws_eqSlot n x := by kernel_rfl
theorem ok_laws_eqSlot : EnvOK Try.prog G_laws_eqSlot := envOK_cons hm hT ok_laws_eqVoteS Try.func34 (by kernel_rfl) hBB fun x r hr => ⟨FU, (e_laws_eqSlot FU x).trans hr⟩
theorem e_laws_eqSlotResult (n : Nat) (x) : afun G_laws_eqSlot T BB 0 n Try.f27 a_laws_eqSlotResult S_laws_eqSlotResult.ps S_laws_eqSlotResult.rs x = p_laws_eqSlotResult n x := by kernel_rfl
theorem ok_laws_eqSlotResult : EnvOK Try.prog G_laws_eqSlotResult := envOK_cons hm hT ok_laws_eqSlot Try.func27 (by kernel_rfl) hBB fun x r hr => ⟨FU, (e_laws_eqSlotResult FU x).trans hr⟩
theorem e_laws_heldVoteS (n : Nat) (x) : afun G_laws_eqSlotResult T BB 0 n Try.f111 a_laws_heldVoteS S_laws_heldVoteS.ps S_laws_heldVoteS.rs x = p_laws_heldVoteS n x := by kernel_rfl
theorem ok_laws_heldVoteS : EnvOK Try.prog G_laws_heldVoteS := envOK_cons hm hT ok_laws_eqSlotResult Try.func111 (by kernel_rfl) hBB fun x r hr => ⟨FU, (e_laws_heldVoteS FU x).trans hr⟩
theorem e_laws_heldSlot (n : Nat) (x) : afun G_laws_heldVoteS T BB 0 n Try.f86 a_laws_heldSlot S_laws_heldSlot.ps S_laws_heldSlot.rs x = p_laws_heldSlot n x := by kernel_rfl
theorem ok_laws_heldSlot : EnvOK Try.prog G_laws_heldSlot := envOK_cons hm hT ok_laws_heldVoteS Try.func86 (by kernel_rfl) hBB fun x r hr => ⟨FU, (e_laws_heldSlot FU x).trans hr⟩
theorem e_laws_heldSlotResult (n : Nat) (x) : afun G_laws_heldSlot T BB 0 n Try.f29 a_laws_heldSlotResult S_laws_heldSlotResult.ps S_laws_heldSlotResult.rs x = p_laws_heldSlotResult n x := by kernel_rfl
theorem ok_laws_heldSlotResult : EnvOK Try.prog G_laws_heldSlotResult := envOK_cons hm hT ok_laws_heldSlot Try.func29 (by kernel_rfl) hBB fun x r hr => ⟨FU, (e_laws_heldSlotResult FU x).trans hr⟩
theorem e_laws_FnExactAcceptSlot (n : Nat) (x) : afun G_laws_heldSlotResult T BB 3 n Try.f10 a_laws_FnExactAcceptSlot S_laws_FnExactAcceptSlot.ps S_laws_FnExactAcceptSlot.rs x = p_laws_FnExactAcceptSlot n x := by kernel_rfl
theorem ok_laws_FnExactAcceptSlot : EnvOK Try.prog G_laws_FnExactAcceptSlot := envOK_cons hm hT ok_laws_heldSlotResult Try.func10 (by kernel_rfl) hBB fun x r hr => ⟨FU, (e_laws_FnExactAcceptSlot FU x).trans hr⟩
end Go.RvP
