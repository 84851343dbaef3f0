/- Each function of the program is as its plain function says, for FnQuorums. No condition. -/
import Derived.Test.YtekndmbpphncmaaRvP4
import Derived.Test.YtekndmbpphncmaaProg
import Derived.KernelRfl
namespace Go.RvP
open Go Go.Rv Go.Proofs
set_option maxRecDepth 100000
theorem hm : Try.prog.follows .mixedOrders = true := by kernel_rfl
theorem hT : TabOK Try.prog T := tabOK_of (by kernel_rfl)
noncomputable def BB : Bodies := [(67, Try.f67), (72, Try.f72), (110, Try.f110)]
theorem hBB : BodyOK Try.prog BB := (bodyOK_cons Try.func67 (by kernel_rfl) (bodyOK_cons Try.func72 (by kernel_rfl) (bodyOK_cons Try.func110 (by kernel_rfl) bodyOK_nil)))
theorem e_laws_lwBig (n : Nat) (x) : afun [] T BB 0 n Try.f18 a_laws_lwBig S_laws_lwBig.ps S_laws_lwBig.rs x = p_laws_lwBig n x := by kernel_rfl
theorem ok_laws_lwBig : EnvOK Try.prog G_laws_lwBig := envOK_cons hm hT envOK_nil Try.func18 (by kernel_rfl) hBB fun x r hr => ⟨FU, (e_laws_lwBig FU x).trans hr⟩
theorem e_impl_within (n : Nat) (x) : afun G_laws_lwBig T BB 0 n Try.f65 a_impl_within S_impl_within.ps S_impl_within.rs x = p_impl_within n x := by kernel_rfl
theorem ok_impl_within : EnvOK Try.prog G_impl_within := envOK_cons hm hT ok_laws_lwBig Try.func65 (by kernel_rfl) hBB fun x r hr => ⟨FU, (e_impl_within FU x).trans hr⟩
theorem e_impl_quorum (n : Nat) (x) : afun G_impl_within T BB 0 n Try.f66 a_impl_quorum S_impl_quorum.ps S_impl_quorum.rs x = p_impl_quorum n x := by kernel_rfl
theorem ok_impl_quorum : EnvOK Try.prog G_impl_quorum := envOK_cons hm hT ok_impl_within Try.func66 (by kernel_rfl) hBB fun x r hr => ⟨FU, (e_impl_quorum FU x).trans hr⟩
theorem e_impl_QuorumOf (n : Nat) (x) : afun G_impl_quorum T BB 0 n Try.f16 a_impl_QuorumOf S_impl_QuorumOf.ps S_impl_QuorumOf.rs x = p_impl_QuorumOf n x := by kernel_rfl
theorem ok_impl_QuorumOf : EnvOK Try.prog G_impl_QuorumOf := envOK_cons hm hT ok_impl_quorum Try.func16 (by kernel_rfl) hBB fun x r hr => ⟨FU, (e_impl_QuorumOf FU x).trans hr⟩
theorem e_spec_l1Next (n : Nat) (x) : afun G_impl_QuorumOf T BB 0 n Try.f71 a_spec_l1Next S_spec_l1Next.ps S_spec_l1Next.rs x = p_spec_l1Next n x := by kernel_rfl
theorem ok_spec_l1Next : EnvOK Try.prog G_spec_l1Next := envOK_cons hm hT ok_impl_QuorumOf Try.func71 (by kernel_rfl) hBB fun x r hr => ⟨FU, (e_spec_l1Next FU x).trans hr⟩
theorem e_spec_l1Pick (n : Nat) (x) : afun G_spec_l1Next T BB 0 n Try.f68 a_spec_l1Pick S_spec_l1Pick.ps S_spec_l1Pick.rs x = p_spec_l1Pick n x := by kernel_rfl
theorem ok_spec_l1Pick : EnvOK Try.prog G_spec_l1Pick := envOK_cons hm hT ok_spec_l1Next Try.func68 (by kernel_rfl) hBB fun x r hr => ⟨FU, (e_spec_l1Pick FU x).trans hr⟩
theorem e_spec_l8None (n : Nat) (x) : afun G_spec_l1Pick T BB 0 n Try.f69 a_spec_l8None S_spec_l8None.ps S_spec_l8None.rs x = p_spec_l8None n x := by kernel_rfl
theorem ok_spec_l8None : EnvOK Try.prog G_spec_l8None := envOK_cons hm hT ok_spec_l1Pick Try.func69 (by kernel_rfl) hBB fun x r hr => ⟨FU, (e_spec_l8None FU x).trans hr⟩
theorem e_spec_l1Chance (n : Nat) (x) : afun G_spec_l8None T BB 0 n Try.f70 a_spec_l1Chance S_spec_l1Chance.ps S_spec_l1Chance.rs x = p_spec_l1Chance n x := by kernel_rfl
theorem ok_spec_l1Chance : EnvOK Try.prog G_spec_l1Chance := envOK_cons hm hT ok_spec_l8None Try.func70 (by kernel_rfl) hBB fun x r hr => ⟨FU, (e_spec_l1Chance FU x).trans hr⟩
theorem e_spec_DrawPickValue (n : Nat) (x) : afun G_spec_l1Chance T BB 1 n Try.f19 a_spec_DrawPickValue S_spec_DrawPickValue.ps S_spec_DrawPickValue.rs x = p_spec_DrawPickValue n x := by kernel_rfl
theorem ok_spec_DrawPickValue : EnvOK Try.prog G_spec_DrawPickValue := envOK_cons hm hT ok_spec_l1Chance Try.func19 (by kernel_rfl) hBB fun x r hr => ⟨FU, (e_spec_DrawPickValue FU x).trans hr⟩
theorem e_impl_noVote (n : Nat) (x) : afun G_spec_DrawPickValue T BB 0 n Try.f74 a_impl_noVote S_impl_noVote.ps S_impl_noVote.rs x = p_impl_noVote n x := by kernel_rfl
theorem ok_impl_noVote : EnvOK Try.prog G_impl_noVote := envOK_cons hm hT ok_spec_DrawPickValue Try.func74 (by kernel_rfl) hBB fun x r hr => ⟨FU, (e_impl_noVote FU x).trans hr⟩
theorem e_impl_isBallot (n : Nat) (x) : afun G_impl_noVote T BB 0 n Try.f91 a_impl_isBallot S_impl_isBallot.ps S_impl_isBallot.rs x = p_impl_isBallot n x := by kernel_rfl
theorem ok_impl_isBallot : EnvOK Try.prog G_impl_isBallot := envOK_cons hm hT ok_impl_noVote Try.func91 (by kernel_rfl) hBB fun x r hr => ⟨FU, (e_impl_isBallot FU x).trans hr⟩
theorem e_impl_isValue (n : Nat) (x) : afun G_impl_isBallot T BB 0 n Try.f76 a_impl_isValue S_impl_isValue.ps S_impl_isValue.rs x = p_impl_isValue n x := by kernel_rfl
theorem ok_impl_isValue : EnvOK Try.prog G_impl_isValue := envOK_cons hm hT ok_impl_isBallot Try.func76 (by kernel_rfl) hBB fun x r hr => ⟨FU, (e_impl_isValue FU x).trans hr⟩
theorem e_impl_isVote (n : Nat) (x) : afun G_impl_isValue T BB 0 n Try.f75 a_impl_isVote S_impl_isVote.ps S_impl_isVote.rs x = p_impl_isVote n x := by kernel_rfl
theorem ok_impl_isVote : EnvOK Try.prog G_impl_isVote := envOK_cons hm hT ok_impl_isValue Try.func75 (by kernel_rfl) hBB fun x r hr => ⟨FU, (e_impl_isVote FU x).trans hr⟩
theorem e_impl_PickValue_1 (n : Nat) (x) : afun G_impl_isVote T BB 0 n Try.f73 a_impl_PickValue_1 S_impl_PickValue_1.ps S_impl_PickValue_1.rs x = p_impl_PickValue_1 n x := by kernel_rfl
theorem ok_impl_PickValue_1 : EnvOK Try.prog G_impl_PickValue_1 := envOK_cons hm hT ok_impl_isVote Try.func73 (by kernel_rfl) hBB fun x r hr => ⟨FU, (e_impl_PickValue_1 FU x).trans hr⟩
theorem e_impl_PickValue (n : Nat) (x) : afun G_impl_PickValue_1 T BB 2 n Try.f20 a_impl_PickValue S_impl_PickValue.ps S_impl_PickValue.rs x = p_impl_PickValue n x := by kernel_rfl
theorem ok_impl_PickValue : EnvOK Try.prog G_impl_PickValue := envOK_cons hm hT ok_impl_PickValue_1 Try.func20 (by kernel_rfl) hBB fun x r hr => ⟨FU, (e_impl_PickValue FU x).trans hr⟩
theorem e_spec_l1In (n : Nat) (x) : afun G_impl_PickValue T BB 0 n Try.f63 a_spec_l1In S_spec_l1In.ps S_spec_l1In.rs x = p_spec_l1In n x := by kernel_rfl
theorem ok_spec_l1In : EnvOK Try.prog G_spec_l1In := envOK_cons hm hT ok_impl_PickValue Try.func63 (by kernel_rfl) hBB fun x r hr => ⟨FU, (e_spec_l1In FU x).trans hr⟩
theorem e_spec_l8Ballot (n : Nat) (x) : afun G_spec_l1In T BB 0 n Try.f77 a_spec_l8Ballot S_spec_l8Ballot.ps S_spec_l8Ballot.rs x = p_spec_l8Ballot n x := by kernel_rfl
theorem ok_spec_l8Ballot : EnvOK Try.prog G_spec_l8Ballot := envOK_cons hm hT ok_spec_l1In Try.func77 (by kernel_rfl) hBB fun x r hr => ⟨FU, (e_spec_l8Ballot FU x).trans hr⟩
theorem e_spec_l8Value (n : Nat) (x) : afun G_spec_l8Ballot T BB 0 n Try.f78 a_spec_l8Value S_spec_l8Value.ps S_spec_l8Value.rs x = p_spec_l8Value n x := by kernel_rfl
theorem ok_spec_l8Value : EnvOK Try.prog G_spec_l8Value := envOK_cons hm hT ok_spec_l8Ballot Try.func78 (by kernel_rfl) hBB fun x r hr => ⟨FU, (e_spec_l8Value FU x).trans hr⟩
theorem e_spec_l8Pick (n : Nat) (x) : afun G_spec_l8Value T BB 0 n Try.f79 a_spec_l8Pick S_spec_l8Pick.ps S_spec_l8Pick.rs x = p_spec_l8Pick n x := by kernel_rfl
theorem ok_spec_l8Pick : EnvOK Try.prog G_spec_l8Pick := envOK_cons hm hT ok_spec_l8Value Try.func79 (by kernel_rfl) hBB fun x r hr => ⟨FU, (e_spec_l8Pick FU x).trans hr⟩
theorem e_spec_PickValue (n : Nat) (x) : afun G_spec_l8Pick T BB 0 n Try.f21 a_spec_PickValue S_spec_PickValue.ps S_spec_PickValue.rs x = p_spec_PickValue n x := by kernel_rfl
theorem ok_spec_PickValue : EnvOK Try.prog G_spec_PickValue := envOK_cons hm hT ok_spec_l8Pick Try.func21 (by kernel_rfl) hBB fun x r hr => ⟨FU, (e_spec_PickValue FU x).trans hr⟩
theorem e_laws_FnQuorums (n : Nat) (x) : afun G_spec_PickValue T BB 0 n Try.f4 a_laws_FnQuorums S_laws_FnQuorums.ps S_laws_FnQuorums.rs x = p_laws_FnQuorums n x := by kernel_rfl
theorem ok_laws_FnQuorums : EnvOK Try.prog G_laws_FnQuorums := envOK_cons hm hT ok_spec_PickValue Try.func4 (by kernel_rfl) hBB fun x r hr => ⟨FU, (e_laws_FnQuorums FU x).trans hr⟩
end Go.RvP
