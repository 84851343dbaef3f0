/- Each function of the program is as its plain function says, for FnExactPickValue. No condition. -/
import Derived.Test.YtekndmbpphncmaaRvP5
import Derived.Test.YtekndmbpphncmaaProg
import Derived.KernelRfl
namespace Go.RvP
open Go Go.Rv Go.Proofs
set_option maxRecDepth 100000
theorem hm : Try.prog.follows .mixedOrders = true := by kernel_rfl
theorem hT : TabOK Try.prog T := tabOK_of (by kernel_rfl)
noncomputable def BB : Bodies := [(72, Try.f72), (110, Try.f110)]
theorem hBB : BodyOK Try.prog BB := (bodyOK_cons Try.func72 (by kernel_rfl) (bodyOK_cons Try.func110 (by kernel_rfl) bodyOK_nil))
theorem e_laws_szVoteS (n : Nat) (x) : afun [] T BB 0 n Try.f22 a_laws_szVoteS S_laws_szVoteS.ps S_laws_szVoteS.rs x = p_laws_szVoteS n x := by kernel_rfl
theorem ok_laws_szVoteS : EnvOK Try.prog G_laws_szVoteS := envOK_cons hm hT envOK_nil Try.func22 (by kernel_rfl) hBB fun x r hr => ⟨FU, (e_laws_szVoteS FU x).trans hr⟩
theorem e_laws_toVote (n : Nat) (x) : afun G_laws_szVoteS T BB 0 n Try.f80 a_laws_toVote S_laws_toVote.ps S_laws_toVote.rs x = p_laws_toVote n x := by kernel_rfl
theorem ok_laws_toVote : EnvOK Try.prog G_laws_toVote := envOK_cons hm hT ok_laws_szVoteS Try.func80 (by kernel_rfl) hBB fun x r hr => ⟨FU, (e_laws_toVote FU x).trans hr⟩
theorem e_laws_toVoteS (n : Nat) (x) : afun G_laws_toVote T BB 0 n Try.f23 a_laws_toVoteS S_laws_toVoteS.ps S_laws_toVoteS.rs x = p_laws_toVoteS n x := by kernel_rfl
theorem ok_laws_toVoteS : EnvOK Try.prog G_laws_toVoteS := envOK_cons hm hT ok_laws_toVote Try.func23 (by kernel_rfl) hBB fun x r hr => ⟨FU, (e_laws_toVoteS FU x).trans hr⟩
theorem e_spec_l8None (n : Nat) (x) : afun G_laws_toVoteS T BB 0 n Try.f69 a_spec_l8None S_spec_l8None.ps S_spec_l8None.rs x = p_spec_l8None n x := by kernel_rfl
theorem ok_spec_l8None : EnvOK Try.prog G_spec_l8None := envOK_cons hm hT ok_laws_toVoteS Try.func69 (by kernel_rfl) hBB fun x r hr => ⟨FU, (e_spec_l8None FU x).trans hr⟩
theorem e_spec_l1In (n : Nat) (x) : afun G_spec_l8None T BB 0 n Try.f63 a_spec_l1In S_spec_l1In.ps S_spec_l1In.rs x = p_spec_l1In n x := by kernel_rfl
theorem ok_spec_l1In : EnvOK Try.prog G_spec_l1In := envOK_cons hm hT ok_spec_l8None Try.func63 (by kernel_rfl) hBB fun x r hr => ⟨FU, (e_spec_l1In FU x).trans hr⟩
theorem e_spec_l8Ballot (n : Nat) (x) : afun G_spec_l1In T BB 0 n Try.f77 a_spec_l8Ballot S_spec_l8Ballot.ps S_spec_l8Ballot.rs x = p_spec_l8Ballot n x := by kernel_rfl
theorem ok_spec_l8Ballot : EnvOK Try.prog G_spec_l8Ballot := envOK_cons hm hT ok_spec_l1In Try.func77 (by kernel_rfl) hBB fun x r hr => ⟨FU, (e_spec_l8Ballot FU x).trans hr⟩
theorem e_spec_l8Value (n : Nat) (x) : afun G_spec_l8Ballot T BB 0 n Try.f78 a_spec_l8Value S_spec_l8Value.ps S_spec_l8Value.rs x = p_spec_l8Value n x := by kernel_rfl
theorem ok_spec_l8Value : EnvOK Try.prog G_spec_l8Value := envOK_cons hm hT ok_spec_l8Ballot Try.func78 (by kernel_rfl) hBB fun x r hr => ⟨FU, (e_spec_l8Value FU x).trans hr⟩
theorem e_spec_l8Pick (n : Nat) (x) : afun G_spec_l8Value T BB 0 n Try.f79 a_spec_l8Pick S_spec_l8Pick.ps S_spec_l8Pick.rs x = p_spec_l8Pick n x := by kernel_rfl
theorem ok_spec_l8Pick : EnvOK Try.prog G_spec_l8Pick := envOK_cons hm hT ok_spec_l8Value Try.func79 (by kernel_rfl) hBB fun x r hr => ⟨FU, (e_spec_l8Pick FU x).trans hr⟩
theorem e_spec_PickValue (n : Nat) (x) : afun G_spec_l8Pick T BB 0 n Try.f21 a_spec_PickValue S_spec_PickValue.ps S_spec_PickValue.rs x = p_spec_PickValue n x := by kernel_rfl
theorem ok_spec_PickValue : EnvOK Try.prog G_spec_PickValue := envOK_cons hm hT ok_spec_l8Pick Try.func21 (by kernel_rfl) hBB fun x r hr => ⟨FU, (e_spec_PickValue FU x).trans hr⟩
theorem e_impl_noVote (n : Nat) (x) : afun G_spec_PickValue T BB 0 n Try.f74 a_impl_noVote S_impl_noVote.ps S_impl_noVote.rs x = p_impl_noVote n x := by kernel_rfl
theorem ok_impl_noVote : EnvOK Try.prog G_impl_noVote := envOK_cons hm hT ok_spec_PickValue Try.func74 (by kernel_rfl) hBB fun x r hr => ⟨FU, (e_impl_noVote FU x).trans hr⟩
theorem e_impl_within (n : Nat) (x) : afun G_impl_noVote T BB 0 n Try.f65 a_impl_within S_impl_within.ps S_impl_within.rs x = p_impl_within n x := by kernel_rfl
theorem ok_impl_within : EnvOK Try.prog G_impl_within := envOK_cons hm hT ok_impl_noVote Try.func65 (by kernel_rfl) hBB fun x r hr => ⟨FU, (e_impl_within FU x).trans hr⟩
theorem e_impl_isBallot (n : Nat) (x) : afun G_impl_within T BB 0 n Try.f91 a_impl_isBallot S_impl_isBallot.ps S_impl_isBallot.rs x = p_impl_isBallot n x := by kernel_rfl
theorem ok_impl_isBallot : EnvOK Try.prog G_impl_isBallot := envOK_cons hm hT ok_impl_within Try.func91 (by kernel_rfl) hBB fun x r hr => ⟨FU, (e_impl_isBallot FU x).trans hr⟩
theorem e_impl_isValue (n : Nat) (x) : afun G_impl_isBallot T BB 0 n Try.f76 a_impl_isValue S_impl_isValue.ps S_impl_isValue.rs x = p_impl_isValue n x := by kernel_rfl
theorem ok_impl_isValue : EnvOK Try.prog G_impl_isValue := envOK_cons hm hT ok_impl_isBallot Try.func76 (by kernel_rfl) hBB fun x r hr => ⟨FU, (e_impl_isValue FU x).trans hr⟩
theorem e_impl_isVote (n : Nat) (x) : afun G_impl_isValue T BB 0 n Try.f75 a_impl_isVote S_impl_isVote.ps S_impl_isVote.rs x = p_impl_isVote n x := by kernel_rfl
theorem ok_impl_isVote : EnvOK Try.prog G_impl_isVote := envOK_cons hm hT ok_impl_isValue Try.func75 (by kernel_rfl) hBB fun x r hr => ⟨FU, (e_impl_isVote FU x).trans hr⟩
theorem e_impl_PickValue_1 (n : Nat) (x) : afun G_impl_isVote T BB 0 n Try.f73 a_impl_PickValue_1 S_impl_PickValue_1.ps S_impl_PickValue_1.rs x = p_impl_PickValue_1 n x := by kernel_rfl
theorem ok_impl_PickValue_1 : EnvOK Try.prog G_impl_PickValue_1 := envOK_cons hm hT ok_impl_isVote Try.func73 (by kernel_rfl) hBB fun x r hr => ⟨FU, (e_impl_PickValue_1 FU x).trans hr⟩
theorem e_impl_PickValue (n : Nat) (x) : afun G_impl_PickValue_1 T BB 2 n Try.f20 a_impl_PickValue S_impl_PickValue.ps S_impl_PickValue.rs x = p_impl_PickValue n x := by kernel_rfl
theorem ok_impl_PickValue : EnvOK Try.prog G_impl_PickValue := envOK_cons hm hT ok_impl_PickValue_1 Try.func20 (by kernel_rfl) hBB fun x r hr => ⟨FU, (e_impl_PickValue FU x).trans hr⟩
theorem e_laws_eqIntResult (n : Nat) (x) : afun G_impl_PickValue T BB 0 n Try.f17 a_laws_eqIntResult S_laws_eqIntResult.ps S_laws_eqIntResult.rs x = p_laws_eqIntResult n x := by kernel_rfl
theorem ok_laws_eqIntResult : EnvOK Try.prog G_laws_eqIntResult := envOK_cons hm hT ok_impl_PickValue Try.func17 (by kernel_rfl) hBB fun x r hr => ⟨FU, (e_laws_eqIntResult FU x).trans hr⟩
theorem e_laws_eqVote (n : Nat) (x) : afun G_laws_eqIntResult T BB 0 n Try.f81 a_laws_eqVote S_laws_eqVote.ps S_laws_eqVote.rs x = p_laws_eqVote n x := by kernel_rfl
theorem ok_laws_eqVote : EnvOK Try.prog G_laws_eqVote := envOK_cons hm hT ok_laws_eqIntResult Try.func81 (by kernel_rfl) hBB fun x r hr => ⟨FU, (e_laws_eqVote FU x).trans hr⟩
theorem e_laws_eqVoteS (n : Nat) (x) : afun G_laws_eqVote T BB 0 n Try.f24 a_laws_eqVoteS S_laws_eqVoteS.ps S_laws_eqVoteS.rs x = p_laws_eqVoteS n x := by kernel_rfl
theorem ok_laws_eqVoteS : EnvOK Try.prog G_laws_eqVoteS := envOK_cons hm hT ok_laws_eqVote Try.func24 (by kernel_rfl) hBB fun x r hr => ⟨FU, (e_laws_eqVoteS FU x).trans hr⟩
theorem e_laws_FnExactPickValue (n : Nat) (x) : afun G_laws_eqVoteS T BB 0 n Try.f5 a_laws_FnExactPickValue S_laws_FnExactPickValue.ps S_laws_FnExactPickValue.rs x = p_laws_FnExactPickValue n x := by kernel_rfl
theorem ok_laws_FnExactPickValue : EnvOK Try.prog G_laws_FnExactPickValue := envOK_cons hm hT ok_laws_eqVoteS Try.func5 (by kernel_rfl) hBB fun x r hr => ⟨FU, (e_laws_FnExactPickValue FU x).trans hr⟩
end Go.RvP
