/- Each function of the program is as its plain function says, for FnExactNewSlot. No condition. -/
import Derived.Test.YtekndmbpphncmaaRvP6
import Derived.Test.YtekndmbpphncmaaProg
import Derived.KernelRfl
namespace Go.RvP
open Go Go.Rv Go.Proofs
set_option maxRecDepth 100000
theorem hm : Try.prog.follows .mixedOrders = true := by kernel_rfl
theorem hT : TabOK Try.prog T := tabOK_of (by kernel_rfl)
noncomputable def BB : Bodies := [(28, Try.f28), (40, Try.f40), (95, Try.f95)]
theorem hBB : BodyOK Try.prog BB := (bodyOK_cons Try.func28 (by kernel_rfl) (bodyOK_cons Try.func40 (by kernel_rfl) (bodyOK_cons Try.func95 (by kernel_rfl) bodyOK_nil)))
theorem e_spec_l1In (n : Nat) (x) : afun [] T BB 0 n Try.f63 a_spec_l1In S_spec_l1In.ps S_spec_l1In.rs x = p_spec_l1In n x := by kernel_rfl
theorem ok_spec_l1In : EnvOK Try.prog G_spec_l1In := envOK_cons hm hT envOK_nil Try.func63 (by kernel_rfl) hBB fun x r hr => ⟨FU, (e_spec_l1In FU x).trans hr⟩
theorem e_spec_l1Id (n : Nat) (x) : afun G_spec_l1In T BB 0 n Try.f82 a_spec_l1Id S_spec_l1Id.ps S_spec_l1Id.rs x = p_spec_l1Id n x := by kernel_rfl
theorem ok_spec_l1Id : EnvOK Try.prog G_spec_l1Id := envOK_cons hm hT ok_spec_l1In Try.func82 (by kernel_rfl) hBB fun x r hr => ⟨FU, (e_spec_l1Id FU x).trans hr⟩
theorem e_spec_l8None (n : Nat) (x) : afun G_spec_l1Id T BB 0 n Try.f69 a_spec_l8None S_spec_l8None.ps S_spec_l8None.rs x = p_spec_l8None n x := by kernel_rfl
theorem ok_spec_l8None : EnvOK Try.prog G_spec_l8None := envOK_cons hm hT ok_spec_l1Id Try.func69 (by kernel_rfl) hBB fun x r hr => ⟨FU, (e_spec_l8None FU x).trans hr⟩
theorem e_spec_NewSlot (n : Nat) (x) : afun G_spec_l8None T BB 0 n Try.f25 a_spec_NewSlot S_spec_NewSlot.ps S_spec_NewSlot.rs x = p_spec_NewSlot n x := by kernel_rfl
theorem ok_spec_NewSlot : EnvOK Try.prog G_spec_NewSlot := envOK_cons hm hT ok_spec_l8None Try.func25 (by kernel_rfl) hBB fun x r hr => ⟨FU, (e_spec_NewSlot FU x).trans hr⟩
theorem e_impl_within (n : Nat) (x) : afun G_spec_NewSlot T BB 0 n Try.f65 a_impl_within S_impl_within.ps S_impl_within.rs x = p_impl_within n x := by kernel_rfl
theorem ok_impl_within : EnvOK Try.prog G_impl_within := envOK_cons hm hT ok_spec_NewSlot Try.func65 (by kernel_rfl) hBB fun x r hr => ⟨FU, (e_impl_within FU x).trans hr⟩
theorem e_impl_isId (n : Nat) (x) : afun G_impl_within T BB 0 n Try.f83 a_impl_isId S_impl_isId.ps S_impl_isId.rs x = p_impl_isId n x := by kernel_rfl
theorem ok_impl_isId : EnvOK Try.prog G_impl_isId := envOK_cons hm hT ok_impl_within Try.func83 (by kernel_rfl) hBB fun x r hr => ⟨FU, (e_impl_isId FU x).trans hr⟩
theorem e_impl_isShard (n : Nat) (x) : afun G_impl_isId T BB 0 n Try.f84 a_impl_isShard S_impl_isShard.ps S_impl_isShard.rs x = p_impl_isShard n x := by kernel_rfl
theorem ok_impl_isShard : EnvOK Try.prog G_impl_isShard := envOK_cons hm hT ok_impl_isId Try.func84 (by kernel_rfl) hBB fun x r hr => ⟨FU, (e_impl_isShard FU x).trans hr⟩
theorem e_impl_noVote (n : Nat) (x) : afun G_impl_isShard T BB 0 n Try.f74 a_impl_noVote S_impl_noVote.ps S_impl_noVote.rs x = p_impl_noVote n x := by kernel_rfl
theorem ok_impl_noVote : EnvOK Try.prog G_impl_noVote := envOK_cons hm hT ok_impl_isShard Try.func74 (by kernel_rfl) hBB fun x r hr => ⟨FU, (e_impl_noVote FU x).trans hr⟩
theorem e_impl_newSlot (n : Nat) (x) : afun G_impl_noVote T BB 0 n Try.f85 a_impl_newSlot S_impl_newSlot.ps S_impl_newSlot.rs x = p_impl_newSlot n x := by kernel_rfl
theorem ok_impl_newSlot : EnvOK Try.prog G_impl_newSlot := envOK_cons hm hT ok_impl_noVote Try.func85 (by kernel_rfl) hBB fun x r hr => ⟨FU, (e_impl_newSlot FU x).trans hr⟩
theorem e_impl_NewSlot (n : Nat) (x) : afun G_impl_newSlot T BB 0 n Try.f26 a_impl_NewSlot S_impl_NewSlot.ps S_impl_NewSlot.rs x = p_impl_NewSlot n x := by kernel_rfl
theorem ok_impl_NewSlot : EnvOK Try.prog G_impl_NewSlot := envOK_cons hm hT ok_impl_newSlot Try.func26 (by kernel_rfl) hBB fun x r hr => ⟨FU, (e_impl_NewSlot FU x).trans hr⟩
theorem e_laws_eqVote (n : Nat) (x) : afun G_impl_NewSlot T BB 0 n Try.f81 a_laws_eqVote S_laws_eqVote.ps S_laws_eqVote.rs x = p_laws_eqVote n x := by kernel_rfl
theorem ok_laws_eqVote : EnvOK Try.prog G_laws_eqVote := envOK_cons hm hT ok_impl_NewSlot Try.func81 (by kernel_rfl) hBB fun x r hr => ⟨FU, (e_laws_eqVote FU x).trans hr⟩
theorem e_laws_eqVoteS (n : Nat) (x) : afun G_laws_eqVote T BB 0 n Try.f24 a_laws_eqVoteS S_laws_eqVoteS.ps S_laws_eqVoteS.rs x = p_laws_eqVoteS n x := by kernel_rfl
theorem ok_laws_eqVoteS : EnvOK Try.prog G_laws_eqVoteS := envOK_cons hm hT ok_laws_eqVote Try.func24 (by kernel_rfl) hBB fun x r hr => ⟨FU, (e_laws_eqVoteS FU x).trans hr⟩
theorem e_laws_eqSlot (n : Nat) (x) : afun G_laws_eqVoteS T BB 0 n Try.f34 a_laws_eqSlot S_laws_eqSlot.ps S_laws_eqSlot.rs x = p_laws_eqSlot n x := by kernel_rfl
theorem ok_laws_eqSlot : EnvOK Try.prog G_laws_eqSlot := envOK_cons hm hT ok_laws_eqVoteS Try.func34 (by kernel_rfl) hBB fun x r hr => ⟨FU, (e_laws_eqSlot FU x).trans hr⟩
theorem e_laws_eqSlotResult (n : Nat) (x) : afun G_laws_eqSlot T BB 0 n Try.f27 a_laws_eqSlotResult S_laws_eqSlotResult.ps S_laws_eqSlotResult.rs x = p_laws_eqSlotResult n x := by kernel_rfl
theorem ok_laws_eqSlotResult : EnvOK Try.prog G_laws_eqSlotResult := envOK_cons hm hT ok_laws_eqSlot Try.func27 (by kernel_rfl) hBB fun x r hr => ⟨FU, (e_laws_eqSlotResult FU x).trans hr⟩
theorem e_laws_heldVoteS (n : Nat) (x) : afun G_laws_eqSlotResult T BB 0 n Try.f111 a_laws_heldVoteS S_laws_heldVoteS.ps S_laws_heldVoteS.rs x = p_laws_heldVoteS n x := by kernel_rfl
theorem ok_laws_heldVoteS : EnvOK Try.prog G_laws_heldVoteS := envOK_cons hm hT ok_laws_eqSlotResult Try.func111 (by kernel_rfl) hBB fun x r hr => ⟨FU, (e_laws_heldVoteS FU x).trans hr⟩
theorem e_laws_heldSlot (n : Nat) (x) : afun G_laws_heldVoteS T BB 0 n Try.f86 a_laws_heldSlot S_laws_heldSlot.ps S_laws_heldSlot.rs x = p_laws_heldSlot n x := by kernel_rfl
theorem ok_laws_heldSlot : EnvOK Try.prog G_laws_heldSlot := envOK_cons hm hT ok_laws_heldVoteS Try.func86 (by kernel_rfl) hBB fun x r hr => ⟨FU, (e_laws_heldSlot FU x).trans hr⟩
theorem e_laws_heldSlotResult (n : Nat) (x) : afun G_laws_heldSlot T BB 0 n Try.f29 a_laws_heldSlotResult S_laws_heldSlotResult.ps S_laws_heldSlotResult.rs x = p_laws_heldSlotResult n x := by kernel_rfl
theorem ok_laws_heldSlotResult : EnvOK Try.prog G_laws_heldSlotResult := envOK_cons hm hT ok_laws_heldSlot Try.func29 (by kernel_rfl) hBB fun x r hr => ⟨FU, (e_laws_heldSlotResult FU x).trans hr⟩
theorem e_laws_FnExactNewSlot (n : Nat) (x) : afun G_laws_heldSlotResult T BB 3 n Try.f6 a_laws_FnExactNewSlot S_laws_FnExactNewSlot.ps S_laws_FnExactNewSlot.rs x = p_laws_FnExactNewSlot n x := by kernel_rfl
theorem ok_laws_FnExactNewSlot : EnvOK Try.prog G_laws_FnExactNewSlot := envOK_cons hm hT ok_laws_heldSlotResult Try.func6 (by kernel_rfl) hBB fun x r hr => ⟨FU, (e_laws_FnExactNewSlot FU x).trans hr⟩
end Go.RvP
