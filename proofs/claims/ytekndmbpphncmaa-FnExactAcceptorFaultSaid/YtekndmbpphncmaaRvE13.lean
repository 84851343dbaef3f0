/- Each function of the program is as its plain function says, for FnExactAcceptorFault. No condition. -/
import Derived.Test.YtekndmbpphncmaaRvP13
import Derived.Test.YtekndmbpphncmaaProg
import Derived.KernelRfl
namespace Go.RvP
open Go Go.Rv Go.Proofs
set_option maxRecDepth 100000
theorem hm : Try.prog.follows .mixedOrders = true := by kernel_rfl
theorem hT : TabOK Try.prog T := tabOK_of (by kernel_rfl)
theorem e_laws_szVoteS (n : Nat) (x) : afun [] T n Try.f22 a_laws_szVoteS S_laws_szVoteS.ps S_laws_szVoteS.rs x = p_laws_szVoteS n x := by kernel_rfl
theorem ok_laws_szVoteS : EnvOK Try.prog G_laws_szVoteS := envOK_cons hm hT envOK_nil Try.func22 (by kernel_rfl) fun x r hr => ⟨FU, (e_laws_szVoteS FU x).trans hr⟩
theorem e_laws_szSlot (n : Nat) (x) : afun G_laws_szVoteS T n Try.f30 a_laws_szSlot S_laws_szSlot.ps S_laws_szSlot.rs x = p_laws_szSlot n x := by kernel_rfl
theorem ok_laws_szSlot : EnvOK Try.prog G_laws_szSlot := envOK_cons hm hT ok_laws_szVoteS Try.func30 (by kernel_rfl) fun x r hr => ⟨FU, (e_laws_szSlot FU x).trans hr⟩
theorem e_laws_szSlotS (n : Nat) (x) : afun G_laws_szSlot T n Try.f41 a_laws_szSlotS S_laws_szSlotS.ps S_laws_szSlotS.rs x = p_laws_szSlotS n x := by kernel_rfl
theorem ok_laws_szSlotS : EnvOK Try.prog G_laws_szSlotS := envOK_cons hm hT ok_laws_szSlot Try.func41 (by kernel_rfl) fun x r hr => ⟨FU, (e_laws_szSlotS FU x).trans hr⟩
theorem e_laws_szAcceptor (n : Nat) (x) : afun G_laws_szSlotS T n Try.f49 a_laws_szAcceptor S_laws_szAcceptor.ps S_laws_szAcceptor.rs x = p_laws_szAcceptor n x := by kernel_rfl
theorem ok_laws_szAcceptor : EnvOK Try.prog G_laws_szAcceptor := envOK_cons hm hT ok_laws_szSlotS Try.func49 (by kernel_rfl) fun x r hr => ⟨FU, (e_laws_szAcceptor FU x).trans hr⟩
theorem e_laws_toVote (n : Nat) (x) : afun G_laws_szAcceptor T n Try.f80 a_laws_toVote S_laws_toVote.ps S_laws_toVote.rs x = p_laws_toVote n x := by kernel_rfl
theorem ok_laws_toVote : EnvOK Try.prog G_laws_toVote := envOK_cons hm hT ok_laws_szAcceptor Try.func80 (by kernel_rfl) fun x r hr => ⟨FU, (e_laws_toVote FU x).trans hr⟩
theorem e_laws_toVoteS (n : Nat) (x) : afun G_laws_toVote T n Try.f23 a_laws_toVoteS S_laws_toVoteS.ps S_laws_toVoteS.rs x = p_laws_toVoteS n x := by kernel_rfl
theorem ok_laws_toVoteS : EnvOK Try.prog G_laws_toVoteS := envOK_cons hm hT ok_laws_toVote Try.func23 (by kernel_rfl) fun x r hr => ⟨FU, (e_laws_toVoteS FU x).trans hr⟩
theorem e_laws_toSlot (n : Nat) (x) : afun G_laws_toVoteS T n Try.f32 a_laws_toSlot S_laws_toSlot.ps S_laws_toSlot.rs x = p_laws_toSlot n x := by kernel_rfl
theorem ok_laws_toSlot : EnvOK Try.prog G_laws_toSlot := envOK_cons hm hT ok_laws_toVoteS Try.func32 (by kernel_rfl) fun x r hr => ⟨FU, (e_laws_toSlot FU x).trans hr⟩
theorem e_laws_toSlotS (n : Nat) (x) : afun G_laws_toSlot T n Try.f43 a_laws_toSlotS S_laws_toSlotS.ps S_laws_toSlotS.rs x = p_laws_toSlotS n x := by kernel_rfl
theorem ok_laws_toSlotS : EnvOK Try.prog G_laws_toSlotS := envOK_cons hm hT ok_laws_toSlot Try.func43 (by kernel_rfl) fun x r hr => ⟨FU, (e_laws_toSlotS FU x).trans hr⟩
theorem e_laws_toAcceptor (n : Nat) (x) : afun G_laws_toSlotS T n Try.f51 a_laws_toAcceptor S_laws_toAcceptor.ps S_laws_toAcceptor.rs x = p_laws_toAcceptor n x := by kernel_rfl
theorem ok_laws_toAcceptor : EnvOK Try.prog G_laws_toAcceptor := envOK_cons hm hT ok_laws_toSlotS Try.func51 (by kernel_rfl) fun x r hr => ⟨FU, (e_laws_toAcceptor FU x).trans hr⟩
theorem e_spec_l1In (n : Nat) (x) : afun G_laws_toAcceptor T n Try.f63 a_spec_l1In S_spec_l1In.ps S_spec_l1In.rs x = p_spec_l1In n x := by kernel_rfl
theorem ok_spec_l1In : EnvOK Try.prog G_spec_l1In := envOK_cons hm hT ok_laws_toAcceptor Try.func63 (by kernel_rfl) fun x r hr => ⟨FU, (e_spec_l1In FU x).trans hr⟩
theorem e_spec_l1Id (n : Nat) (x) : afun G_spec_l1In T n Try.f82 a_spec_l1Id S_spec_l1Id.ps S_spec_l1Id.rs x = p_spec_l1Id n x := by kernel_rfl
theorem ok_spec_l1Id : EnvOK Try.prog G_spec_l1Id := envOK_cons hm hT ok_spec_l1In Try.func82 (by kernel_rfl) fun x r hr => ⟨FU, (e_spec_l1Id FU x).trans hr⟩
theorem e_spec_l8Ballot (n : Nat) (x) : afun G_spec_l1Id T n Try.f77 a_spec_l8Ballot S_spec_l8Ballot.ps S_spec_l8Ballot.rs x = p_spec_l8Ballot n x := by kernel_rfl
theorem ok_spec_l8Ballot : EnvOK Try.prog G_spec_l8Ballot := envOK_cons hm hT ok_spec_l1Id Try.func77 (by kernel_rfl) fun x r hr => ⟨FU, (e_spec_l8Ballot FU x).trans hr⟩
theorem e_spec_l8Value (n : Nat) (x) : afun G_spec_l8Ballot T n Try.f78 a_spec_l8Value S_spec_l8Value.ps S_spec_l8Value.rs x = p_spec_l8Value n x := by kernel_rfl
theorem ok_spec_l8Value : EnvOK Try.prog G_spec_l8Value := envOK_cons hm hT ok_spec_l8Ballot Try.func78 (by kernel_rfl) fun x r hr => ⟨FU, (e_spec_l8Value FU x).trans hr⟩
theorem e_spec_l8None (n : Nat) (x) : afun G_spec_l8Value T n Try.f69 a_spec_l8None S_spec_l8None.ps S_spec_l8None.rs x = p_spec_l8None n x := by kernel_rfl
theorem ok_spec_l8None : EnvOK Try.prog G_spec_l8None := envOK_cons hm hT ok_spec_l8Value Try.func69 (by kernel_rfl) fun x r hr => ⟨FU, (e_spec_l8None FU x).trans hr⟩
theorem e_spec_l8Last (n : Nat) (x) : afun G_spec_l8None T n Try.f87 a_spec_l8Last S_spec_l8Last.ps S_spec_l8Last.rs x = p_spec_l8Last n x := by kernel_rfl
theorem ok_spec_l8Last : EnvOK Try.prog G_spec_l8Last := envOK_cons hm hT ok_spec_l8None Try.func87 (by kernel_rfl) fun x r hr => ⟨FU, (e_spec_l8Last FU x).trans hr⟩
theorem e_spec_SlotFault (n : Nat) (x) : afun G_spec_l8Last T n Try.f31 a_spec_SlotFault S_spec_SlotFault.ps S_spec_SlotFault.rs x = p_spec_SlotFault n x := by kernel_rfl
theorem ok_spec_SlotFault : EnvOK Try.prog G_spec_SlotFault := envOK_cons hm hT ok_spec_l8Last Try.func31 (by kernel_rfl) fun x r hr => ⟨FU, (e_spec_SlotFault FU x).trans hr⟩
theorem e_spec_l9Ahead (n : Nat) (x) : afun G_spec_SlotFault T n Try.f101 a_spec_l9Ahead S_spec_l9Ahead.ps S_spec_l9Ahead.rs x = p_spec_l9Ahead n x := by kernel_rfl
theorem ok_spec_l9Ahead : EnvOK Try.prog G_spec_l9Ahead := envOK_cons hm hT ok_spec_SlotFault Try.func101 (by kernel_rfl) fun x r hr => ⟨FU, (e_spec_l9Ahead FU x).trans hr⟩
theorem e_spec_AcceptorFault (n : Nat) (x) : afun G_spec_l9Ahead T n Try.f50 a_spec_AcceptorFault S_spec_AcceptorFault.ps S_spec_AcceptorFault.rs x = p_spec_AcceptorFault n x := by kernel_rfl
theorem ok_spec_AcceptorFault : EnvOK Try.prog G_spec_AcceptorFault := envOK_cons hm hT ok_spec_l9Ahead Try.func50 (by kernel_rfl) fun x r hr => ⟨FU, (e_spec_AcceptorFault FU x).trans hr⟩
theorem e_impl_within (n : Nat) (x) : afun G_spec_AcceptorFault T n Try.f65 a_impl_within S_impl_within.ps S_impl_within.rs x = p_impl_within n x := by kernel_rfl
theorem ok_impl_within : EnvOK Try.prog G_impl_within := envOK_cons hm hT ok_spec_AcceptorFault Try.func65 (by kernel_rfl) fun x r hr => ⟨FU, (e_impl_within FU x).trans hr⟩
theorem e_impl_isId (n : Nat) (x) : afun G_impl_within T n Try.f83 a_impl_isId S_impl_isId.ps S_impl_isId.rs x = p_impl_isId n x := by kernel_rfl
theorem ok_impl_isId : EnvOK Try.prog G_impl_isId := envOK_cons hm hT ok_impl_within Try.func83 (by kernel_rfl) fun x r hr => ⟨FU, (e_impl_isId FU x).trans hr⟩
theorem e_impl_isShard (n : Nat) (x) : afun G_impl_isId T n Try.f84 a_impl_isShard S_impl_isShard.ps S_impl_isShard.rs x = p_impl_isShard n x := by kernel_rfl
theorem ok_impl_isShard : EnvOK Try.prog G_impl_isShard := envOK_cons hm hT ok_impl_isId Try.func84 (by kernel_rfl) fun x r hr => ⟨FU, (e_impl_isShard FU x).trans hr⟩
theorem e_impl_isBallot (n : Nat) (x) : afun G_impl_isShard T n Try.f91 a_impl_isBallot S_impl_isBallot.ps S_impl_isBallot.rs x = p_impl_isBallot n x := by kernel_rfl
theorem ok_impl_isBallot : EnvOK Try.prog G_impl_isBallot := envOK_cons hm hT ok_impl_isShard Try.func91 (by kernel_rfl) fun x r hr => ⟨FU, (e_impl_isBallot FU x).trans hr⟩
theorem e_impl_isValue (n : Nat) (x) : afun G_impl_isBallot T n Try.f76 a_impl_isValue S_impl_isValue.ps S_impl_isValue.rs x = p_impl_isValue n x := by kernel_rfl
theorem ok_impl_isValue : EnvOK Try.prog G_impl_isValue := envOK_cons hm hT ok_impl_isBallot Try.func76 (by kernel_rfl) fun x r hr => ⟨FU, (e_impl_isValue FU x).trans hr⟩
theorem e_impl_isVote (n : Nat) (x) : afun G_impl_isValue T n Try.f75 a_impl_isVote S_impl_isVote.ps S_impl_isVote.rs x = p_impl_isVote n x := by kernel_rfl
theorem ok_impl_isVote : EnvOK Try.prog G_impl_isVote := envOK_cons hm hT ok_impl_isValue Try.func75 (by kernel_rfl) fun x r hr => ⟨FU, (e_impl_isVote FU x).trans hr⟩
theorem e_impl_castFault (n : Nat) (x) : afun G_impl_isVote T n Try.f88 a_impl_castFault S_impl_castFault.ps S_impl_castFault.rs x = p_impl_castFault n x := by kernel_rfl
theorem ok_impl_castFault : EnvOK Try.prog G_impl_castFault := envOK_cons hm hT ok_impl_isVote Try.func88 (by kernel_rfl) fun x r hr => ⟨FU, (e_impl_castFault FU x).trans hr⟩
theorem e_impl_noVote (n : Nat) (x) : afun G_impl_castFault T n Try.f74 a_impl_noVote S_impl_noVote.ps S_impl_noVote.rs x = p_impl_noVote n x := by kernel_rfl
theorem ok_impl_noVote : EnvOK Try.prog G_impl_noVote := envOK_cons hm hT ok_impl_castFault Try.func74 (by kernel_rfl) fun x r hr => ⟨FU, (e_impl_noVote FU x).trans hr⟩
theorem e_impl_lastCast (n : Nat) (x) : afun G_impl_noVote T n Try.f89 a_impl_lastCast S_impl_lastCast.ps S_impl_lastCast.rs x = p_impl_lastCast n x := by kernel_rfl
theorem ok_impl_lastCast : EnvOK Try.prog G_impl_lastCast := envOK_cons hm hT ok_impl_noVote Try.func89 (by kernel_rfl) fun x r hr => ⟨FU, (e_impl_lastCast FU x).trans hr⟩
theorem e_impl_SlotFault (n : Nat) (x) : afun G_impl_lastCast T n Try.f33 a_impl_SlotFault S_impl_SlotFault.ps S_impl_SlotFault.rs x = p_impl_SlotFault n x := by kernel_rfl
theorem ok_impl_SlotFault : EnvOK Try.prog G_impl_SlotFault := envOK_cons hm hT ok_impl_lastCast Try.func33 (by kernel_rfl) fun x r hr => ⟨FU, (e_impl_SlotFault FU x).trans hr⟩
theorem e_cmp_isNaN_int64 (n : Nat) (x) : afun G_impl_SlotFault T n Try.f128 a_cmp_isNaN_int64 S_cmp_isNaN_int64.ps S_cmp_isNaN_int64.rs x = p_cmp_isNaN_int64 n x := by kernel_rfl
theorem ok_cmp_isNaN_int64 : EnvOK Try.prog G_cmp_isNaN_int64 := envOK_cons hm hT ok_impl_SlotFault Try.func128 (by kernel_rfl) fun x r hr => ⟨FU, (e_cmp_isNaN_int64 FU x).trans hr⟩
theorem e_cmp_Compare_int64 (n : Nat) (x) : afun G_cmp_isNaN_int64 T n Try.f121 a_cmp_Compare_int64 S_cmp_Compare_int64.ps S_cmp_Compare_int64.rs x = p_cmp_Compare_int64 n x := by kernel_rfl
theorem ok_cmp_Compare_int64 : EnvOK Try.prog G_cmp_Compare_int64 := envOK_cons hm hT ok_cmp_isNaN_int64 Try.func121 (by kernel_rfl) fun x r hr => ⟨FU, (e_cmp_Compare_int64 FU x).trans hr⟩
theorem e_cmp_Or_int (n : Nat) (x) : afun G_cmp_Compare_int64 T n Try.f120 a_cmp_Or_int S_cmp_Or_int.ps S_cmp_Or_int.rs x = p_cmp_Or_int n x := by kernel_rfl
theorem ok_cmp_Or_int : EnvOK Try.prog G_cmp_Or_int := envOK_cons hm hT ok_cmp_Compare_int64 Try.func120 (by kernel_rfl) fun x r hr => ⟨FU, (e_cmp_Or_int FU x).trans hr⟩
theorem e_impl_compareSlots (n : Nat) (x) : afun G_cmp_Or_int T n Try.f102 a_impl_compareSlots S_impl_compareSlots.ps S_impl_compareSlots.rs x = p_impl_compareSlots n x := by kernel_rfl
theorem ok_impl_compareSlots : EnvOK Try.prog G_impl_compareSlots := envOK_cons hm hT ok_cmp_Or_int Try.func102 (by kernel_rfl) fun x r hr => ⟨FU, (e_impl_compareSlots FU x).trans hr⟩
theorem e_impl_AcceptorFault (n : Nat) (x) : afun G_impl_compareSlots T n Try.f52 a_impl_AcceptorFault S_impl_AcceptorFault.ps S_impl_AcceptorFault.rs x = p_impl_AcceptorFault n x := by kernel_rfl
theorem ok_impl_AcceptorFault : EnvOK Try.prog G_impl_AcceptorFault := envOK_cons hm hT ok_impl_compareSlots Try.func52 (by kernel_rfl) fun x r hr => ⟨FU, (e_impl_AcceptorFault FU x).trans hr⟩
theorem e_laws_eqVote (n : Nat) (x) : afun G_impl_AcceptorFault T n Try.f81 a_laws_eqVote S_laws_eqVote.ps S_laws_eqVote.rs x = p_laws_eqVote n x := by kernel_rfl
theorem ok_laws_eqVote : EnvOK Try.prog G_laws_eqVote := envOK_cons hm hT ok_impl_AcceptorFault Try.func81 (by kernel_rfl) fun x r hr => ⟨FU, (e_laws_eqVote FU x).trans hr⟩
theorem e_laws_eqVoteS (n : Nat) (x) : afun G_laws_eqVote T n Try.f24 a_laws_eqVoteS S_laws_eqVoteS.ps S_laws_eqVoteS.rs x = p_laws_eqVoteS n x := by kernel_rfl
theorem ok_laws_eqVoteS : EnvOK Try.prog G_laws_eqVoteS := envOK_cons hm hT ok_laws_eqVote Try.func24 (by kernel_rfl) fun x r hr => ⟨FU, (e_laws_eqVoteS FU x).trans hr⟩
theorem e_laws_eqSlot (n : Nat) (x) : afun G_laws_eqVoteS T n Try.f34 a_laws_eqSlot S_laws_eqSlot.ps S_laws_eqSlot.rs x = p_laws_eqSlot n x := by kernel_rfl
theorem ok_laws_eqSlot : EnvOK Try.prog G_laws_eqSlot := envOK_cons hm hT ok_laws_eqVoteS Try.func34 (by kernel_rfl) fun x r hr => ⟨FU, (e_laws_eqSlot FU x).trans hr⟩
theorem e_laws_eqSlotS (n : Nat) (x) : afun G_laws_eqSlot T n Try.f45 a_laws_eqSlotS S_laws_eqSlotS.ps S_laws_eqSlotS.rs x = p_laws_eqSlotS n x := by kernel_rfl
theorem ok_laws_eqSlotS : EnvOK Try.prog G_laws_eqSlotS := envOK_cons hm hT ok_laws_eqSlot Try.func45 (by kernel_rfl) fun x r hr => ⟨FU, (e_laws_eqSlotS FU x).trans hr⟩
theorem e_laws_eqAcceptor (n : Nat) (x) : afun G_laws_eqSlotS T n Try.f53 a_laws_eqAcceptor S_laws_eqAcceptor.ps S_laws_eqAcceptor.rs x = p_laws_eqAcceptor n x := by kernel_rfl
theorem ok_laws_eqAcceptor : EnvOK Try.prog G_laws_eqAcceptor := envOK_cons hm hT ok_laws_eqSlotS Try.func53 (by kernel_rfl) fun x r hr => ⟨FU, (e_laws_eqAcceptor FU x).trans hr⟩
theorem e_laws_FnExactAcceptorFault (n : Nat) (x) : afun G_laws_eqAcceptor T n Try.f13 a_laws_FnExactAcceptorFault S_laws_FnExactAcceptorFault.ps S_laws_FnExactAcceptorFault.rs x = p_laws_FnExactAcceptorFault n x := by kernel_rfl
theorem ok_laws_FnExactAcceptorFault : EnvOK Try.prog G_laws_FnExactAcceptorFault := envOK_cons hm hT ok_laws_eqAcceptor Try.func13 (by kernel_rfl) fun x r hr => ⟨FU, (e_laws_FnExactAcceptorFault FU x).trans hr⟩
end Go.RvP
