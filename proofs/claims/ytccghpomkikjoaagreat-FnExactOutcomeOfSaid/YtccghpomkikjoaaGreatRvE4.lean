/- Each function of the program is as its plain function says, for FnExactOutcomeOf. No condition. -/
import Derived.Test.YtccghpomkikjoaaGreatRvP4
import Derived.Test.YtccghpomkikjoaaGreatProg
import Derived.KernelRfl
import Derived.WalkKit
namespace Go.RvP
open Go Go.Rv Go.Proofs Go.Shelf Go.RowKit Go.Lib Go.Sort
set_option maxRecDepth 100000
theorem hm : Tryz.prog.follows .mixedOrders = true := by kernel_rfl
theorem hT : TabOK Tryz.prog T := tabOK_of (by kernel_rfl)
noncomputable def BB : Bodies := [(188, Tryz.f188), (189, Tryz.f189), (266, Tryz.f266), (307, Tryz.f307), (313, Tryz.f313), (314, Tryz.f314), (342, Tryz.f342)]
theorem hBB : BodyOK Tryz.prog BB := (bodyOK_cons Tryz.func188 (by kernel_rfl) (bodyOK_cons Tryz.func189 (by kernel_rfl) (bodyOK_cons Tryz.func266 (by kernel_rfl) (bodyOK_cons Tryz.func307 (by kernel_rfl) (bodyOK_cons Tryz.func313 (by kernel_rfl) (bodyOK_cons Tryz.func314 (by kernel_rfl) (bodyOK_cons Tryz.func342 (by kernel_rfl) bodyOK_nil)))))))
theorem e_laws_szVoteS (n : Nat) (x) : afun [] T BB 0 n Tryz.f301 a_laws_szVoteS S_laws_szVoteS.ps S_laws_szVoteS.rs x = p_laws_szVoteS n x := by kernel_rfl
theorem ok_laws_szVoteS : EnvOK Tryz.prog G_laws_szVoteS := envOK_cons hm hT envOK_nil Tryz.func301 (by kernel_rfl) hBB fun x r hr => ⟨FU, (e_laws_szVoteS FU x).trans hr⟩
theorem e_laws_szSlot (n : Nat) (x) : afun G_laws_szVoteS T BB 0 n Tryz.f247 a_laws_szSlot S_laws_szSlot.ps S_laws_szSlot.rs x = p_laws_szSlot n x := by kernel_rfl
theorem ok_laws_szSlot : EnvOK Tryz.prog G_laws_szSlot := envOK_cons hm hT ok_laws_szVoteS Tryz.func247 (by kernel_rfl) hBB fun x r hr => ⟨FU, (e_laws_szSlot FU x).trans hr⟩
theorem e_laws_szSlotS (n : Nat) (x) : afun G_laws_szSlot T BB 0 n Tryz.f151 a_laws_szSlotS S_laws_szSlotS.ps S_laws_szSlotS.rs x = p_laws_szSlotS n x := by kernel_rfl
theorem ok_laws_szSlotS : EnvOK Tryz.prog G_laws_szSlotS := envOK_cons hm hT ok_laws_szSlot Tryz.func151 (by kernel_rfl) hBB fun x r hr => ⟨FU, (e_laws_szSlotS FU x).trans hr⟩
theorem e_laws_szAcceptor (n : Nat) (x) : afun G_laws_szSlotS T BB 0 n Tryz.f59 a_laws_szAcceptor S_laws_szAcceptor.ps S_laws_szAcceptor.rs x = p_laws_szAcceptor n x := by kernel_rfl
theorem ok_laws_szAcceptor : EnvOK Tryz.prog G_laws_szAcceptor := envOK_cons hm hT ok_laws_szSlotS Tryz.func59 (by kernel_rfl) hBB fun x r hr => ⟨FU, (e_laws_szAcceptor FU x).trans hr⟩
theorem e_laws_szAcceptorS (n : Nat) (x) : afun G_laws_szAcceptor T BB 0 n Tryz.f11 a_laws_szAcceptorS S_laws_szAcceptorS.ps S_laws_szAcceptorS.rs x = p_laws_szAcceptorS n x := by kernel_rfl
theorem ok_laws_szAcceptorS : EnvOK Tryz.prog G_laws_szAcceptorS := envOK_cons hm hT ok_laws_szAcceptor Tryz.func11 (by kernel_rfl) hBB fun x r hr => ⟨FU, (e_laws_szAcceptorS FU x).trans hr⟩
theorem e_laws_szLegS (n : Nat) (x) : afun G_laws_szAcceptorS T BB 0 n Tryz.f85 a_laws_szLegS S_laws_szLegS.ps S_laws_szLegS.rs x = p_laws_szLegS n x := by kernel_rfl
theorem ok_laws_szLegS : EnvOK Tryz.prog G_laws_szLegS := envOK_cons hm hT ok_laws_szAcceptorS Tryz.func85 (by kernel_rfl) hBB fun x r hr => ⟨FU, (e_laws_szLegS FU x).trans hr⟩
theorem e_laws_szContract (n : Nat) (x) : afun G_laws_szLegS T BB 0 n Tryz.f23 a_laws_szContract S_laws_szContract.ps S_laws_szContract.rs x = p_laws_szContract n x := by kernel_rfl
theorem ok_laws_szContract : EnvOK Tryz.prog G_laws_szContract := envOK_cons hm hT ok_laws_szLegS Tryz.func23 (by kernel_rfl) hBB fun x r hr => ⟨FU, (e_laws_szContract FU x).trans hr⟩
theorem e_laws_toVote (n : Nat) (x) : afun G_laws_szContract T BB 0 n Tryz.f105 a_laws_toVote S_laws_toVote.ps S_laws_toVote.rs x = p_laws_toVote n x := by kernel_rfl
theorem ok_laws_toVote : EnvOK Tryz.prog G_laws_toVote := envOK_cons hm hT ok_laws_szContract Tryz.func105 (by kernel_rfl) hBB fun x r hr => ⟨FU, (e_laws_toVote FU x).trans hr⟩
theorem e_laws_toVoteS (n : Nat) (x) : afun G_laws_toVote T BB 0 n Tryz.f303 a_laws_toVoteS S_laws_toVoteS.ps S_laws_toVoteS.rs x = p_laws_toVoteS n x := by kernel_rfl
theorem ok_laws_toVoteS : EnvOK Tryz.prog G_laws_toVoteS := envOK_cons hm hT ok_laws_toVote Tryz.func303 (by kernel_rfl) hBB fun x r hr => ⟨FU, (e_laws_toVoteS FU x).trans hr⟩
theorem e_laws_toSlot (n : Nat) (x) : afun G_laws_toVoteS T BB 0 n Tryz.f252 a_laws_toSlot S_laws_toSlot.ps S_laws_toSlot.rs x = p_laws_toSlot n x := by kernel_rfl
theorem ok_laws_toSlot : EnvOK Tryz.prog G_laws_toSlot := envOK_cons hm hT ok_laws_toVoteS Tryz.func252 (by kernel_rfl) hBB fun x r hr => ⟨FU, (e_laws_toSlot FU x).trans hr⟩
theorem e_laws_toSlotS (n : Nat) (x) : afun G_laws_toSlot T BB 0 n Tryz.f161 a_laws_toSlotS S_laws_toSlotS.ps S_laws_toSlotS.rs x = p_laws_toSlotS n x := by kernel_rfl
theorem ok_laws_toSlotS : EnvOK Tryz.prog G_laws_toSlotS := envOK_cons hm hT ok_laws_toSlot Tryz.func161 (by kernel_rfl) hBB fun x r hr => ⟨FU, (e_laws_toSlotS FU x).trans hr⟩
theorem e_laws_toAcceptor (n : Nat) (x) : afun G_laws_toSlotS T BB 0 n Tryz.f69 a_laws_toAcceptor S_laws_toAcceptor.ps S_laws_toAcceptor.rs x = p_laws_toAcceptor n x := by kernel_rfl
theorem ok_laws_toAcceptor : EnvOK Tryz.prog G_laws_toAcceptor := envOK_cons hm hT ok_laws_toSlotS Tryz.func69 (by kernel_rfl) hBB fun x r hr => ⟨FU, (e_laws_toAcceptor FU x).trans hr⟩
theorem e_laws_toAcceptorS (n : Nat) (x) : afun G_laws_toAcceptor T BB 0 n Tryz.f13 a_laws_toAcceptorS S_laws_toAcceptorS.ps S_laws_toAcceptorS.rs x = p_laws_toAcceptorS n x := by kernel_rfl
theorem ok_laws_toAcceptorS : EnvOK Tryz.prog G_laws_toAcceptorS := envOK_cons hm hT ok_laws_toAcceptor Tryz.func13 (by kernel_rfl) hBB fun x r hr => ⟨FU, (e_laws_toAcceptorS FU x).trans hr⟩
theorem e_laws_toLeg (n : Nat) (x) : afun G_laws_toAcceptorS T BB 0 n Tryz.f185 a_laws_toLeg S_laws_toLeg.ps S_laws_toLeg.rs x = p_laws_toLeg n x := by kernel_rfl
theorem ok_laws_toLeg : EnvOK Tryz.prog G_laws_toLeg := envOK_cons hm hT ok_laws_toAcceptorS Tryz.func185 (by kernel_rfl) hBB fun x r hr => ⟨FU, (e_laws_toLeg FU x).trans hr⟩
theorem e_laws_toLegS (n : Nat) (x) : afun G_laws_toLeg T BB 0 n Tryz.f89 a_laws_toLegS S_laws_toLegS.ps S_laws_toLegS.rs x = p_laws_toLegS n x := by kernel_rfl
theorem ok_laws_toLegS : EnvOK Tryz.prog G_laws_toLegS := envOK_cons hm hT ok_laws_toLeg Tryz.func89 (by kernel_rfl) hBB fun x r hr => ⟨FU, (e_laws_toLegS FU x).trans hr⟩
theorem e_laws_toContract (n : Nat) (x) : afun G_laws_toLegS T BB 0 n Tryz.f25 a_laws_toContract S_laws_toContract.ps S_laws_toContract.rs x = p_laws_toContract n x := by kernel_rfl
theorem ok_laws_toContract : EnvOK Tryz.prog G_laws_toContract := envOK_cons hm hT ok_laws_toLegS Tryz.func25 (by kernel_rfl) hBB fun x r hr => ⟨FU, (e_laws_toContract FU x).trans hr⟩
theorem e_spec_l1In (n : Nat) (x) : afun G_laws_toContract T BB 0 n Tryz.f63 a_spec_l1In S_spec_l1In.ps S_spec_l1In.rs x = p_spec_l1In n x := by kernel_rfl
theorem ok_spec_l1In : EnvOK Tryz.prog G_spec_l1In := envOK_cons hm hT ok_laws_toContract Tryz.func63 (by kernel_rfl) hBB fun x r hr => ⟨FU, (e_spec_l1In FU x).trans hr⟩
theorem e_spec_l1Id (n : Nat) (x) : afun G_spec_l1In T BB 0 n Tryz.f181 a_spec_l1Id S_spec_l1Id.ps S_spec_l1Id.rs x = p_spec_l1Id n x := by kernel_rfl
theorem ok_spec_l1Id : EnvOK Tryz.prog G_spec_l1Id := envOK_cons hm hT ok_spec_l1In Tryz.func181 (by kernel_rfl) hBB fun x r hr => ⟨FU, (e_spec_l1Id FU x).trans hr⟩
theorem e_spec_l8Ballot (n : Nat) (x) : afun G_spec_l1Id T BB 0 n Tryz.f61 a_spec_l8Ballot S_spec_l8Ballot.ps S_spec_l8Ballot.rs x = p_spec_l8Ballot n x := by kernel_rfl
theorem ok_spec_l8Ballot : EnvOK Tryz.prog G_spec_l8Ballot := envOK_cons hm hT ok_spec_l1Id Tryz.func61 (by kernel_rfl) hBB fun x r hr => ⟨FU, (e_spec_l8Ballot FU x).trans hr⟩
theorem e_spec_l8Value (n : Nat) (x) : afun G_spec_l8Ballot T BB 0 n Tryz.f62 a_spec_l8Value S_spec_l8Value.ps S_spec_l8Value.rs x = p_spec_l8Value n x := by kernel_rfl
theorem ok_spec_l8Value : EnvOK Tryz.prog G_spec_l8Value := envOK_cons hm hT ok_spec_l8Ballot Tryz.func62 (by kernel_rfl) hBB fun x r hr => ⟨FU, (e_spec_l8Value FU x).trans hr⟩
theorem e_spec_l8None (n : Nat) (x) : afun G_spec_l8Value T BB 0 n Tryz.f159 a_spec_l8None S_spec_l8None.ps S_spec_l8None.rs x = p_spec_l8None n x := by kernel_rfl
theorem ok_spec_l8None : EnvOK Tryz.prog G_spec_l8None := envOK_cons hm hT ok_spec_l8Value Tryz.func159 (by kernel_rfl) hBB fun x r hr => ⟨FU, (e_spec_l8None FU x).trans hr⟩
theorem e_spec_l8Last (n : Nat) (x) : afun G_spec_l8None T BB 0 n Tryz.f302 a_spec_l8Last S_spec_l8Last.ps S_spec_l8Last.rs x = p_spec_l8Last n x := by kernel_rfl
theorem ok_spec_l8Last : EnvOK Tryz.prog G_spec_l8Last := envOK_cons hm hT ok_spec_l8None Tryz.func302 (by kernel_rfl) hBB fun x r hr => ⟨FU, (e_spec_l8Last FU x).trans hr⟩
theorem e_spec_SlotFault (n : Nat) (x) : afun G_spec_l8Last T BB 0 n Tryz.f250 a_spec_SlotFault S_spec_SlotFault.ps S_spec_SlotFault.rs x = p_spec_SlotFault n x := by kernel_rfl
theorem ok_spec_SlotFault : EnvOK Tryz.prog G_spec_SlotFault := envOK_cons hm hT ok_spec_l8Last Tryz.func250 (by kernel_rfl) hBB fun x r hr => ⟨FU, (e_spec_SlotFault FU x).trans hr⟩
theorem e_spec_l9Ahead (n : Nat) (x) : afun G_spec_SlotFault T BB 0 n Tryz.f263 a_spec_l9Ahead S_spec_l9Ahead.ps S_spec_l9Ahead.rs x = p_spec_l9Ahead n x := by kernel_rfl
theorem ok_spec_l9Ahead : EnvOK Tryz.prog G_spec_l9Ahead := envOK_cons hm hT ok_spec_SlotFault Tryz.func263 (by kernel_rfl) hBB fun x r hr => ⟨FU, (e_spec_l9Ahead FU x).trans hr⟩
theorem e_spec_AcceptorFault (n : Nat) (x) : afun G_spec_l9Ahead T BB 0 n Tryz.f180 a_spec_AcceptorFault S_spec_AcceptorFault.ps S_spec_AcceptorFault.rs x = p_spec_AcceptorFault n x := by kernel_rfl
theorem ok_spec_AcceptorFault : EnvOK Tryz.prog G_spec_AcceptorFault := envOK_cons hm hT ok_spec_l9Ahead Tryz.func180 (by kernel_rfl) hBB fun x r hr => ⟨FU, (e_spec_AcceptorFault FU x).trans hr⟩
theorem e_spec_l9List (n : Nat) (x) : afun G_spec_AcceptorFault T BB 0 n Tryz.f86 a_spec_l9List S_spec_l9List.ps S_spec_l9List.rs x = p_spec_l9List n x := by kernel_rfl
theorem ok_spec_l9List : EnvOK Tryz.prog G_spec_l9List := envOK_cons hm hT ok_spec_AcceptorFault Tryz.func86 (by kernel_rfl) hBB fun x r hr => ⟨FU, (e_spec_l9List FU x).trans hr⟩
theorem e_spec_LegFault (n : Nat) (x) : afun G_spec_l9List T BB 0 n Tryz.f182 a_spec_LegFault S_spec_LegFault.ps S_spec_LegFault.rs x = p_spec_LegFault n x := by kernel_rfl
theorem ok_spec_LegFault : EnvOK Tryz.prog G_spec_LegFault := envOK_cons hm hT ok_spec_l9List Tryz.func182 (by kernel_rfl) hBB fun x r hr => ⟨FU, (e_spec_LegFault FU x).trans hr⟩
theorem e_spec_ContractFault (n : Nat) (x) : afun G_spec_LegFault T BB 0 n Tryz.f87 a_spec_ContractFault S_spec_ContractFault.ps S_spec_ContractFault.rs x = p_spec_ContractFault n x := by kernel_rfl
theorem ok_spec_ContractFault : EnvOK Tryz.prog G_spec_ContractFault := envOK_cons hm hT ok_spec_LegFault Tryz.func87 (by kernel_rfl) hBB fun x r hr => ⟨FU, (e_spec_ContractFault FU x).trans hr⟩
theorem e_spec_l1Put (n : Nat) (x) : afun G_spec_ContractFault T BB 0 n Tryz.f264 a_spec_l1Put S_spec_l1Put.ps S_spec_l1Put.rs x = p_spec_l1Put n x := by kernel_rfl
theorem ok_spec_l1Put : EnvOK Tryz.prog G_spec_l1Put := envOK_cons hm hT ok_spec_ContractFault Tryz.func264 (by kernel_rfl) hBB fun x r hr => ⟨FU, (e_spec_l1Put FU x).trans hr⟩
theorem e_spec_l1Shards (n : Nat) (x) : afun G_spec_l1Put T BB 0 n Tryz.f183 a_spec_l1Shards S_spec_l1Shards.ps S_spec_l1Shards.rs x = p_spec_l1Shards n x := by kernel_rfl
theorem ok_spec_l1Shards : EnvOK Tryz.prog G_spec_l1Shards := envOK_cons hm hT ok_spec_l1Put Tryz.func183 (by kernel_rfl) hBB fun x r hr => ⟨FU, (e_spec_l1Shards FU x).trans hr⟩
theorem e_spec_l8Copy (n : Nat) (x) : afun G_spec_l1Shards T BB 0 n Tryz.f248 a_spec_l8Copy S_spec_l8Copy.ps S_spec_l8Copy.rs x = p_spec_l8Copy n x := by kernel_rfl
theorem ok_spec_l8Copy : EnvOK Tryz.prog G_spec_l8Copy := envOK_cons hm hT ok_spec_l1Shards Tryz.func248 (by kernel_rfl) hBB fun x r hr => ⟨FU, (e_spec_l8Copy FU x).trans hr⟩
theorem e_spec_NewSlot (n : Nat) (x) : afun G_spec_l8Copy T BB 0 n Tryz.f152 a_spec_NewSlot S_spec_NewSlot.ps S_spec_NewSlot.rs x = p_spec_NewSlot n x := by kernel_rfl
theorem ok_spec_NewSlot : EnvOK Tryz.prog G_spec_NewSlot := envOK_cons hm hT ok_spec_l8Copy Tryz.func152 (by kernel_rfl) hBB fun x r hr => ⟨FU, (e_spec_NewSlot FU x).trans hr⟩
theorem e_spec_l9Slot (n : Nat) (x) : afun G_spec_NewSlot T BB 0 n Tryz.f158 a_spec_l9Slot S_spec_l9Slot.ps S_spec_l9Slot.rs x = p_spec_l9Slot n x := by kernel_rfl
theorem ok_spec_l9Slot : EnvOK Tryz.prog G_spec_l9Slot := envOK_cons hm hT ok_spec_NewSlot Tryz.func158 (by kernel_rfl) hBB fun x r hr => ⟨FU, (e_spec_l9Slot FU x).trans hr⟩
theorem e_spec_l9Slots (n : Nat) (x) : afun G_spec_l9Slot T BB 0 n Tryz.f153 a_spec_l9Slots S_spec_l9Slots.ps S_spec_l9Slots.rs x = p_spec_l9Slots n x := by kernel_rfl
theorem ok_spec_l9Slots : EnvOK Tryz.prog G_spec_l9Slots := envOK_cons hm hT ok_spec_l9Slot Tryz.func153 (by kernel_rfl) hBB fun x r hr => ⟨FU, (e_spec_l9Slots FU x).trans hr⟩
theorem e_spec_l8Cast (n : Nat) (x) : afun G_spec_l9Slots T BB 0 n Tryz.f311 a_spec_l8Cast S_spec_l8Cast.ps S_spec_l8Cast.rs x = p_spec_l8Cast n x := by kernel_rfl
theorem ok_spec_l8Cast : EnvOK Tryz.prog G_spec_l8Cast := envOK_cons hm hT ok_spec_l9Slots Tryz.func311 (by kernel_rfl) hBB fun x r hr => ⟨FU, (e_spec_l8Cast FU x).trans hr⟩
theorem e_spec_l8Quorum (n : Nat) (x) : afun G_spec_l8Cast T BB 0 n Tryz.f66 a_spec_l8Quorum S_spec_l8Quorum.ps S_spec_l8Quorum.rs x = p_spec_l8Quorum n x := by kernel_rfl
theorem ok_spec_l8Quorum : EnvOK Tryz.prog G_spec_l8Quorum := envOK_cons hm hT ok_spec_l8Cast Tryz.func66 (by kernel_rfl) hBB fun x r hr => ⟨FU, (e_spec_l8Quorum FU x).trans hr⟩
theorem e_spec_l8Chosen (n : Nat) (x) : afun G_spec_l8Quorum T BB 0 n Tryz.f265 a_spec_l8Chosen S_spec_l8Chosen.ps S_spec_l8Chosen.rs x = p_spec_l8Chosen n x := by kernel_rfl
theorem ok_spec_l8Chosen : EnvOK Tryz.prog G_spec_l8Chosen := envOK_cons hm hT ok_spec_l8Quorum Tryz.func265 (by kernel_rfl) hBB fun x r hr => ⟨FU, (e_spec_l8Chosen FU x).trans hr⟩
theorem e_spec_l9Chosen (n : Nat) (x) : afun G_spec_l8Chosen T BB 0 n Tryz.f184 a_spec_l9Chosen S_spec_l9Chosen.ps S_spec_l9Chosen.rs x = p_spec_l9Chosen n x := by kernel_rfl
theorem ok_spec_l9Chosen : EnvOK Tryz.prog G_spec_l9Chosen := envOK_cons hm hT ok_spec_l8Chosen Tryz.func184 (by kernel_rfl) hBB fun x r hr => ⟨FU, (e_spec_l9Chosen FU x).trans hr⟩
theorem e_spec_l9Outcome (n : Nat) (x) : afun G_spec_l9Chosen T BB 0 n Tryz.f88 a_spec_l9Outcome S_spec_l9Outcome.ps S_spec_l9Outcome.rs x = p_spec_l9Outcome n x := by kernel_rfl
theorem ok_spec_l9Outcome : EnvOK Tryz.prog G_spec_l9Outcome := envOK_cons hm hT ok_spec_l9Chosen Tryz.func88 (by kernel_rfl) hBB fun x r hr => ⟨FU, (e_spec_l9Outcome FU x).trans hr⟩
theorem e_spec_OutcomeOf (n : Nat) (x) : afun G_spec_l9Outcome T BB 0 n Tryz.f24 a_spec_OutcomeOf S_spec_OutcomeOf.ps S_spec_OutcomeOf.rs x = p_spec_OutcomeOf n x := by kernel_rfl
theorem ok_spec_OutcomeOf : EnvOK Tryz.prog G_spec_OutcomeOf := envOK_cons hm hT ok_spec_l9Outcome Tryz.func24 (by kernel_rfl) hBB fun x r hr => ⟨FU, (e_spec_OutcomeOf FU x).trans hr⟩
theorem e_impl_size_impl_Acceptor (n : Nat) (x) : afun G_spec_OutcomeOf T BB 0 n Tryz.f76 a_impl_size_impl_Acceptor S_impl_size_impl_Acceptor.ps S_impl_size_impl_Acceptor.rs x = p_impl_size_impl_Acceptor n x := by kernel_rfl
theorem ok_impl_size_impl_Acceptor : EnvOK Tryz.prog G_impl_size_impl_Acceptor := envOK_cons hm hT ok_spec_OutcomeOf Tryz.func76 (by kernel_rfl) hBB fun x r hr => ⟨FU, (e_impl_size_impl_Acceptor FU x).trans hr⟩
theorem e_impl_within (n : Nat) (x) : afun G_impl_size_impl_Acceptor T BB 0 n Tryz.f106 a_impl_within S_impl_within.ps S_impl_within.rs x = p_impl_within n x := by kernel_rfl
theorem ok_impl_within : EnvOK Tryz.prog G_impl_within := envOK_cons hm hT ok_impl_size_impl_Acceptor Tryz.func106 (by kernel_rfl) hBB fun x r hr => ⟨FU, (e_impl_within FU x).trans hr⟩
theorem e_impl_isId (n : Nat) (x) : afun G_impl_within T BB 0 n Tryz.f163 a_impl_isId S_impl_isId.ps S_impl_isId.rs x = p_impl_isId n x := by kernel_rfl
theorem ok_impl_isId : EnvOK Tryz.prog G_impl_isId := envOK_cons hm hT ok_impl_within Tryz.func163 (by kernel_rfl) hBB fun x r hr => ⟨FU, (e_impl_isId FU x).trans hr⟩
theorem e_impl_isShard (n : Nat) (x) : afun G_impl_isId T BB 0 n Tryz.f124 a_impl_isShard S_impl_isShard.ps S_impl_isShard.rs x = p_impl_isShard n x := by kernel_rfl
theorem ok_impl_isShard : EnvOK Tryz.prog G_impl_isShard := envOK_cons hm hT ok_impl_isId Tryz.func124 (by kernel_rfl) hBB fun x r hr => ⟨FU, (e_impl_isShard FU x).trans hr⟩
theorem e_impl_isBallot (n : Nat) (x) : afun G_impl_isShard T BB 0 n Tryz.f73 a_impl_isBallot S_impl_isBallot.ps S_impl_isBallot.rs x = p_impl_isBallot n x := by kernel_rfl
theorem ok_impl_isBallot : EnvOK Tryz.prog G_impl_isBallot := envOK_cons hm hT ok_impl_isShard Tryz.func73 (by kernel_rfl) hBB fun x r hr => ⟨FU, (e_impl_isBallot FU x).trans hr⟩
theorem e_impl_isValue (n : Nat) (x) : afun G_impl_isBallot T BB 0 n Tryz.f74 a_impl_isValue S_impl_isValue.ps S_impl_isValue.rs x = p_impl_isValue n x := by kernel_rfl
theorem ok_impl_isValue : EnvOK Tryz.prog G_impl_isValue := envOK_cons hm hT ok_impl_isBallot Tryz.func74 (by kernel_rfl) hBB fun x r hr => ⟨FU, (e_impl_isValue FU x).trans hr⟩
theorem e_impl_isVote (n : Nat) (x) : afun G_impl_isValue T BB 0 n Tryz.f174 a_impl_isVote S_impl_isVote.ps S_impl_isVote.rs x = p_impl_isVote n x := by kernel_rfl
theorem ok_impl_isVote : EnvOK Tryz.prog G_impl_isVote := envOK_cons hm hT ok_impl_isValue Tryz.func174 (by kernel_rfl) hBB fun x r hr => ⟨FU, (e_impl_isVote FU x).trans hr⟩
theorem e_impl_castFault (n : Nat) (x) : afun G_impl_isVote T BB 0 n Tryz.f304 a_impl_castFault S_impl_castFault.ps S_impl_castFault.rs x = p_impl_castFault n x := by kernel_rfl
theorem ok_impl_castFault : EnvOK Tryz.prog G_impl_castFault := envOK_cons hm hT ok_impl_isVote Tryz.func304 (by kernel_rfl) hBB fun x r hr => ⟨FU, (e_impl_castFault FU x).trans hr⟩
theorem e_impl_noVote (n : Nat) (x) : afun G_impl_castFault T BB 0 n Tryz.f173 a_impl_noVote S_impl_noVote.ps S_impl_noVote.rs x = p_impl_noVote n x := by kernel_rfl
theorem ok_impl_noVote : EnvOK Tryz.prog G_impl_noVote := envOK_cons hm hT ok_impl_castFault Tryz.func173 (by kernel_rfl) hBB fun x r hr => ⟨FU, (e_impl_noVote FU x).trans hr⟩
theorem e_impl_lastCast (n : Nat) (x) : afun G_impl_noVote T BB 0 n Tryz.f305 a_impl_lastCast S_impl_lastCast.ps S_impl_lastCast.rs x = p_impl_lastCast n x := by kernel_rfl
theorem ok_impl_lastCast : EnvOK Tryz.prog G_impl_lastCast := envOK_cons hm hT ok_impl_noVote Tryz.func305 (by kernel_rfl) hBB fun x r hr => ⟨FU, (e_impl_lastCast FU x).trans hr⟩
theorem e_impl_SlotFault (n : Nat) (x) : afun G_impl_lastCast T BB 0 n Tryz.f253 a_impl_SlotFault S_impl_SlotFault.ps S_impl_SlotFault.rs x = p_impl_SlotFault n x := by kernel_rfl
theorem ok_impl_SlotFault : EnvOK Tryz.prog G_impl_SlotFault := envOK_cons hm hT ok_impl_lastCast Tryz.func253 (by kernel_rfl) hBB fun x r hr => ⟨FU, (e_impl_SlotFault FU x).trans hr⟩
theorem e_cmp_isNaN_int64 (n : Nat) (x) : afun G_impl_SlotFault T BB 0 n Tryz.f334 a_cmp_isNaN_int64 S_cmp_isNaN_int64.ps S_cmp_isNaN_int64.rs x = p_cmp_isNaN_int64 n x := by kernel_rfl
theorem ok_cmp_isNaN_int64 : EnvOK Tryz.prog G_cmp_isNaN_int64 := envOK_cons hm hT ok_impl_SlotFault Tryz.func334 (by kernel_rfl) hBB fun x r hr => ⟨FU, (e_cmp_isNaN_int64 FU x).trans hr⟩
theorem e_cmp_Compare_int64 (n : Nat) (x) : afun G_cmp_isNaN_int64 T BB 0 n Tryz.f282 a_cmp_Compare_int64 S_cmp_Compare_int64.ps S_cmp_Compare_int64.rs x = p_cmp_Compare_int64 n x := by kernel_rfl
theorem ok_cmp_Compare_int64 : EnvOK Tryz.prog G_cmp_Compare_int64 := envOK_cons hm hT ok_cmp_isNaN_int64 Tryz.func282 (by kernel_rfl) hBB fun x r hr => ⟨FU, (e_cmp_Compare_int64 FU x).trans hr⟩
theorem e_cmp_Or_int (n : Nat) (x) : afun G_cmp_Compare_int64 T BB 0 n Tryz.f281 a_cmp_Or_int S_cmp_Or_int.ps S_cmp_Or_int.rs x = p_cmp_Or_int n x := by kernel_rfl
theorem ok_cmp_Or_int : EnvOK Tryz.prog G_cmp_Or_int := envOK_cons hm hT ok_cmp_Compare_int64 Tryz.func281 (by kernel_rfl) hBB fun x r hr => ⟨FU, (e_cmp_Or_int FU x).trans hr⟩
theorem e_impl_compareSlots (n : Nat) (x) : afun G_cmp_Or_int T BB 0 n Tryz.f254 a_impl_compareSlots S_impl_compareSlots.ps S_impl_compareSlots.rs x = p_impl_compareSlots n x := by kernel_rfl
theorem ok_impl_compareSlots : EnvOK Tryz.prog G_impl_compareSlots := envOK_cons hm hT ok_cmp_Or_int Tryz.func254 (by kernel_rfl) hBB fun x r hr => ⟨FU, (e_impl_compareSlots FU x).trans hr⟩
theorem e_impl_AcceptorFault (n : Nat) (x) : afun G_impl_compareSlots T BB 0 n Tryz.f162 a_impl_AcceptorFault S_impl_AcceptorFault.ps S_impl_AcceptorFault.rs x = p_impl_AcceptorFault n x := by kernel_rfl
theorem ok_impl_AcceptorFault : EnvOK Tryz.prog G_impl_AcceptorFault := envOK_cons hm hT ok_impl_compareSlots Tryz.func162 (by kernel_rfl) hBB fun x r hr => ⟨FU, (e_impl_AcceptorFault FU x).trans hr⟩
theorem e_impl_listFault (n : Nat) (x) : afun G_impl_AcceptorFault T BB 0 n Tryz.f71 a_impl_listFault S_impl_listFault.ps S_impl_listFault.rs x = p_impl_listFault n x := by kernel_rfl
theorem ok_impl_listFault : EnvOK Tryz.prog G_impl_listFault := envOK_cons hm hT ok_impl_AcceptorFault Tryz.func71 (by kernel_rfl) hBB fun x r hr => ⟨FU, (e_impl_listFault FU x).trans hr⟩
theorem e_impl_size_impl_Leg (n : Nat) (x) : afun G_impl_listFault T BB 0 n Tryz.f186 a_impl_size_impl_Leg S_impl_size_impl_Leg.ps S_impl_size_impl_Leg.rs x = p_impl_size_impl_Leg n x := by kernel_rfl
theorem ok_impl_size_impl_Leg : EnvOK Tryz.prog G_impl_size_impl_Leg := envOK_cons hm hT ok_impl_listFault Tryz.func186 (by kernel_rfl) hBB fun x r hr => ⟨FU, (e_impl_size_impl_Leg FU x).trans hr⟩
theorem e_impl_isAsset (n : Nat) (x) : afun G_impl_size_impl_Leg T BB 0 n Tryz.f233 a_impl_isAsset S_impl_isAsset.ps S_impl_isAsset.rs x = p_impl_isAsset n x := by kernel_rfl
theorem ok_impl_isAsset : EnvOK Tryz.prog G_impl_isAsset := envOK_cons hm hT ok_impl_size_impl_Leg Tryz.func233 (by kernel_rfl) hBB fun x r hr => ⟨FU, (e_impl_isAsset FU x).trans hr⟩
theorem e_impl_isPlace (n : Nat) (x) : afun G_impl_isAsset T BB 0 n Tryz.f139 a_impl_isPlace S_impl_isPlace.ps S_impl_isPlace.rs x = p_impl_isPlace n x := by kernel_rfl
theorem ok_impl_isPlace : EnvOK Tryz.prog G_impl_isPlace := envOK_cons hm hT ok_impl_isAsset Tryz.func139 (by kernel_rfl) hBB fun x r hr => ⟨FU, (e_impl_isPlace FU x).trans hr⟩
theorem e_impl_LegFault (n : Nat) (x) : afun G_impl_isPlace T BB 0 n Tryz.f187 a_impl_LegFault S_impl_LegFault.ps S_impl_LegFault.rs x = p_impl_LegFault n x := by kernel_rfl
theorem ok_impl_LegFault : EnvOK Tryz.prog G_impl_LegFault := envOK_cons hm hT ok_impl_isPlace Tryz.func187 (by kernel_rfl) hBB fun x r hr => ⟨FU, (e_impl_LegFault FU x).trans hr⟩
theorem e_impl_samePlace (n : Nat) (x) : afun G_impl_LegFault T BB 0 n Tryz.f190 a_impl_samePlace S_impl_samePlace.ps S_impl_samePlace.rs x = p_impl_samePlace n x := by kernel_rfl
theorem ok_impl_samePlace : EnvOK Tryz.prog G_impl_samePlace := envOK_cons hm hT ok_impl_LegFault Tryz.func190 (by kernel_rfl) hBB fun x r hr => ⟨FU, (e_impl_samePlace FU x).trans hr⟩
theorem e_impl_ContractFault (n : Nat) (x) : afun G_impl_samePlace T BB 3 n Tryz.f90 a_impl_ContractFault S_impl_ContractFault.ps S_impl_ContractFault.rs x = p_impl_ContractFault n x := by kernel_rfl
theorem ok_impl_ContractFault : EnvOK Tryz.prog G_impl_ContractFault := envOK_cons hm hT ok_impl_samePlace Tryz.func90 (by kernel_rfl) hBB fun x r hr => ⟨FU, (e_impl_ContractFault FU x).trans hr⟩
theorem e_impl_firstOf (n : Nat) (x) : afun G_impl_ContractFault T BB 0 n Tryz.f70 a_impl_firstOf S_impl_firstOf.ps S_impl_firstOf.rs x = p_impl_firstOf n x := by kernel_rfl
theorem ok_impl_firstOf : EnvOK Tryz.prog G_impl_firstOf := envOK_cons hm hT ok_impl_ContractFault Tryz.func70 (by kernel_rfl) hBB fun x r hr => ⟨FU, (e_impl_firstOf FU x).trans hr⟩
def ren_slices_Sort_int64_int64 : Go.Shelf.Ren := ⟨fun n => if n = 5 then 195 else if n = 8 then 270 else if n = 7 then 269 else if n = 19 then 327 else if n = 20 then 328 else if n = 10 then 318 else if n = 11 then 319 else if n = 12 then 320 else if n = 13 then 321 else if n = 14 then 322 else if n = 15 then 323 else if n = 16 then 324 else if n = 17 then 325 else if n = 18 then 326 else if n = 30 then 344 else if n = 31 then 345 else if n = 32 then 346 else if n = 33 then 347 else if n = 34 then 348 else if n = 35 then 334 else if n = 40 then 360 else n, fun n => if n = 23 then 23 else if n = 25 then 2 else if n = 3 then 3 else if n = 32 then 309 else if n = 22 then 23 else if n = 0 then 0 else if n = 44 then 355 else if n = 46 then 357 else if n = 4 then 4 else if n = 36 then 349 else if n = 35 then 348 else if n = 41 then 270 else if n = 5 then 5 else if n = 9 then 9 else if n = 53 then 377 else if n = 57 then 381 else if n = 63 then 390 else if n = 64 then 391 else n, fun n => n⟩
theorem lays_slices_Sort_int64_int64 : Go.Proofs.SlLaysM.n5 Tryz.prog ren_slices_Sort_int64_int64 where
  mixed := by kernel_rfl
  f5 := ⟨"slices.Sort[[]int64,int64]", by decide, Tryz.func195.trans (congrArg some (by kernel_rfl))⟩
  f7 := ⟨"slices.pdqsortOrdered[int64]", by decide, Tryz.func269.trans (congrArg some (by kernel_rfl))⟩
  f8 := Tryz.func270.trans (congrArg some (by kernel_rfl))
  f10 := ⟨"slices.insertionSortOrdered[int64]", by decide, Tryz.func318.trans (congrArg some (by kernel_rfl))⟩
  f11 := ⟨"slices.heapSortOrdered[int64]", by decide, Tryz.func319.trans (congrArg some (by kernel_rfl))⟩
  f12 := ⟨"slices.breakPatternsOrdered[int64]", by decide, Tryz.func320.trans (congrArg some (by kernel_rfl))⟩
  f13 := ⟨"slices.choosePivotOrdered[int64]", by decide, Tryz.func321.trans (congrArg some (by kernel_rfl))⟩
  f14 := ⟨"slices.reverseRangeOrdered[int64]", by decide, Tryz.func322.trans (congrArg some (by kernel_rfl))⟩
  f15 := ⟨"slices.partialInsertionSortOrdered[int64]", by decide, Tryz.func323.trans (congrArg some (by kernel_rfl))⟩
  f16 := ⟨"cmp.Less[int64]", by decide, Tryz.func324.trans (congrArg some (by kernel_rfl))⟩
  f17 := ⟨"slices.partitionEqualOrdered[int64]", by decide, Tryz.func325.trans (congrArg some (by kernel_rfl))⟩
  f18 := ⟨"slices.partitionOrdered[int64]", by decide, Tryz.func326.trans (congrArg some (by kernel_rfl))⟩
  f19 := Tryz.func327.trans (congrArg some (by kernel_rfl))
  f20 := Tryz.func328.trans (congrArg some (by kernel_rfl))
  f30 := ⟨"slices.siftDownOrdered[int64]", by decide, Tryz.func344.trans (congrArg some (by kernel_rfl))⟩
  f31 := Tryz.func345.trans (congrArg some (by kernel_rfl))
  f32 := Tryz.func346.trans (congrArg some (by kernel_rfl))
  f33 := ⟨"slices.medianAdjacentOrdered[int64]", by decide, Tryz.func347.trans (congrArg some (by kernel_rfl))⟩
  f34 := ⟨"slices.medianOrdered[int64]", by decide, Tryz.func348.trans (congrArg some (by kernel_rfl))⟩
  f35 := ⟨"cmp.isNaN[int64]", by decide, Tryz.func334.trans (congrArg some (by kernel_rfl))⟩
  f40 := ⟨"slices.order2Ordered[int64]", by decide, Tryz.func360.trans (congrArg some (by kernel_rfl))⟩
  t0 := Tryz.underlying0
  a0 := Tryz.isAgg0
  z0 := Tryz.sizeOf0
  v0 := Tryz.zeroValue0
  t3 := Tryz.underlying3
  a3 := Tryz.isAgg3
  z3 := Tryz.sizeOf3
  v3 := Tryz.zeroValue3
  t4 := Tryz.underlying4
  a4 := Tryz.isAgg4
  z4 := Tryz.sizeOf4
  v4 := Tryz.zeroValue4
  t5 := Tryz.underlying5
  a5 := Tryz.isAgg5
  z5 := Tryz.sizeOf5
  v5 := Tryz.zeroValue5
  t9 := Tryz.underlying9
  a9 := Tryz.isAgg9
  z9 := Tryz.sizeOf9
  v9 := Tryz.zeroValue9
  t22 := Tryz.underlying23
  a22 := Tryz.isAgg23
  z22 := Tryz.sizeOf23
  v22 := Tryz.zeroValue23
  t23 := Tryz.underlying23
  a23 := Tryz.isAgg23
  z23 := Tryz.sizeOf23
  v23 := Tryz.zeroValue23
  t25 := Tryz.underlying2
  a25 := Tryz.isAgg2
  z25 := Tryz.sizeOf2
  v25 := Tryz.zeroValue2
  t32 := Tryz.underlying309
  a32 := Tryz.isAgg309
  z32 := Tryz.sizeOf309
  v32 := Tryz.zeroValue309
  t35 := Tryz.underlying348
  a35 := Tryz.isAgg348
  z35 := Tryz.sizeOf348
  v35 := Tryz.zeroValue348
  t36 := Tryz.underlying349
  a36 := Tryz.isAgg349
  z36 := Tryz.sizeOf349
  v36 := Tryz.zeroValue349
  t41 := Tryz.underlying270
  a41 := Tryz.isAgg270
  z41 := Tryz.sizeOf270
  v41 := Tryz.zeroValue270
  t44 := Tryz.underlying355
  a44 := Tryz.isAgg355
  z44 := Tryz.sizeOf355
  v44 := Tryz.zeroValue355
  t46 := Tryz.underlying357
  a46 := Tryz.isAgg357
  z46 := Tryz.sizeOf357
  v46 := Tryz.zeroValue357
  t53 := Tryz.underlying377
  a53 := Tryz.isAgg377
  z53 := Tryz.sizeOf377
  v53 := Tryz.zeroValue377
  t57 := Tryz.underlying381
  a57 := Tryz.isAgg381
  z57 := Tryz.sizeOf381
  v57 := Tryz.zeroValue381
  t63 := Tryz.underlying390
  a63 := Tryz.isAgg390
  z63 := Tryz.sizeOf390
  v63 := Tryz.zeroValue390
  t64 := Tryz.underlying391
  a64 := Tryz.isAgg391
  z64 := Tryz.sizeOf391
  v64 := Tryz.zeroValue391
theorem sound_slices_Sort_int64_int64 : Sound Tryz.prog 195 S_slices_Sort_int64_int64 := sound_sortI lays_slices_Sort_int64_int64 rfl
theorem ok_slices_Sort_int64_int64 : EnvOK Tryz.prog G_slices_Sort_int64_int64 := envOK_sound ok_impl_firstOf ⟨_, Tryz.func195, by kernel_rfl, by kernel_rfl⟩ sound_slices_Sort_int64_int64
theorem e_slices_Compact_int64_int64 (n : Nat) (x) : afun G_slices_Sort_int64_int64 T BB 0 n Tryz.f196 a_slices_Compact_int64_int64 S_slices_Compact_int64_int64.ps S_slices_Compact_int64_int64.rs x = p_slices_Compact_int64_int64 n x := by kernel_rfl
theorem ok_slices_Compact_int64_int64 : EnvOK Tryz.prog G_slices_Compact_int64_int64 := envOK_cons hm hT ok_slices_Sort_int64_int64 Tryz.func196 (by kernel_rfl) hBB fun x r hr => ⟨FU, (e_slices_Compact_int64_int64 FU x).trans hr⟩
theorem e_impl_shardsOf (n : Nat) (x) : afun G_slices_Compact_int64_int64 T BB 0 n Tryz.f95 a_impl_shardsOf S_impl_shardsOf.ps S_impl_shardsOf.rs x = p_impl_shardsOf n x := by kernel_rfl
theorem ok_impl_shardsOf : EnvOK Tryz.prog G_impl_shardsOf := envOK_cons hm hT ok_slices_Compact_int64_int64 Tryz.func95 (by kernel_rfl) hBB fun x r hr => ⟨FU, (e_impl_shardsOf FU x).trans hr⟩
theorem e_impl_Acceptor_slotAt (n : Nat) (x) : afun G_impl_shardsOf T BB 1 n Tryz.f258 a_impl_Acceptor_slotAt S_impl_Acceptor_slotAt.ps S_impl_Acceptor_slotAt.rs x = p_impl_Acceptor_slotAt n x := by kernel_rfl
theorem ok_impl_Acceptor_slotAt : EnvOK Tryz.prog G_impl_Acceptor_slotAt := envOK_cons hm hT ok_impl_shardsOf Tryz.func258 (by kernel_rfl) hBB fun x r hr => ⟨FU, (e_impl_Acceptor_slotAt FU x).trans hr⟩
theorem e_impl_newSlot (n : Nat) (x) : afun G_impl_Acceptor_slotAt T BB 0 n Tryz.f164 a_impl_newSlot S_impl_newSlot.ps S_impl_newSlot.rs x = p_impl_newSlot n x := by kernel_rfl
theorem ok_impl_newSlot : EnvOK Tryz.prog G_impl_newSlot := envOK_cons hm hT ok_impl_Acceptor_slotAt Tryz.func164 (by kernel_rfl) hBB fun x r hr => ⟨FU, (e_impl_newSlot FU x).trans hr⟩
theorem e_slices_Clone_impl_Vote_impl_Vote (n : Nat) (x) : afun G_impl_newSlot T BB 0 n Tryz.f306 a_slices_Clone_impl_Vote_impl_Vote S_slices_Clone_impl_Vote_impl_Vote.ps S_slices_Clone_impl_Vote_impl_Vote.rs x = p_slices_Clone_impl_Vote_impl_Vote n x := by kernel_rfl
theorem ok_slices_Clone_impl_Vote_impl_Vote : EnvOK Tryz.prog G_slices_Clone_impl_Vote_impl_Vote := envOK_cons hm hT ok_impl_newSlot Tryz.func306 (by kernel_rfl) hBB fun x r hr => ⟨FU, (e_slices_Clone_impl_Vote_impl_Vote FU x).trans hr⟩
theorem e_impl_copySlot (n : Nat) (x) : afun G_slices_Clone_impl_Vote_impl_Vote T BB 0 n Tryz.f256 a_impl_copySlot S_impl_copySlot.ps S_impl_copySlot.rs x = p_impl_copySlot n x := by kernel_rfl
theorem ok_impl_copySlot : EnvOK Tryz.prog G_impl_copySlot := envOK_cons hm hT ok_slices_Clone_impl_Vote_impl_Vote Tryz.func256 (by kernel_rfl) hBB fun x r hr => ⟨FU, (e_impl_copySlot FU x).trans hr⟩
theorem e_impl_Acceptor_slot (n : Nat) (x) : afun G_impl_copySlot T BB 0 n Tryz.f257 a_impl_Acceptor_slot S_impl_Acceptor_slot.ps S_impl_Acceptor_slot.rs x = p_impl_Acceptor_slot n x := by kernel_rfl
theorem ok_impl_Acceptor_slot : EnvOK Tryz.prog G_impl_Acceptor_slot := envOK_cons hm hT ok_impl_copySlot Tryz.func257 (by kernel_rfl) hBB fun x r hr => ⟨FU, (e_impl_Acceptor_slot FU x).trans hr⟩
theorem e_impl_slotsFor (n : Nat) (x) : afun G_impl_Acceptor_slot T BB 0 n Tryz.f192 a_impl_slotsFor S_impl_slotsFor.ps S_impl_slotsFor.rs x = p_impl_slotsFor n x := by kernel_rfl
theorem ok_impl_slotsFor : EnvOK Tryz.prog G_impl_slotsFor := envOK_cons hm hT ok_impl_Acceptor_slot Tryz.func192 (by kernel_rfl) hBB fun x r hr => ⟨FU, (e_impl_slotsFor FU x).trans hr⟩
theorem e_impl_size_impl_Slot (n : Nat) (x) : afun G_impl_slotsFor T BB 0 n Tryz.f312 a_impl_size_impl_Slot S_impl_size_impl_Slot.ps S_impl_size_impl_Slot.rs x = p_impl_size_impl_Slot n x := by kernel_rfl
theorem ok_impl_size_impl_Slot : EnvOK Tryz.prog G_impl_size_impl_Slot := envOK_cons hm hT ok_impl_slotsFor Tryz.func312 (by kernel_rfl) hBB fun x r hr => ⟨FU, (e_impl_size_impl_Slot FU x).trans hr⟩
theorem e_impl_slotsFault (n : Nat) (x) : afun G_impl_size_impl_Slot T BB 3 n Tryz.f267 a_impl_slotsFault S_impl_slotsFault.ps S_impl_slotsFault.rs x = p_impl_slotsFault n x := by kernel_rfl
theorem ok_impl_slotsFault : EnvOK Tryz.prog G_impl_slotsFault := envOK_cons hm hT ok_impl_size_impl_Slot Tryz.func267 (by kernel_rfl) hBB fun x r hr => ⟨FU, (e_impl_slotsFault FU x).trans hr⟩
theorem e_slices_Compact_impl_Vote_impl_Vote (n : Nat) (x) : afun G_impl_slotsFault T BB 0 n Tryz.f315 a_slices_Compact_impl_Vote_impl_Vote S_slices_Compact_impl_Vote_impl_Vote.ps S_slices_Compact_impl_Vote_impl_Vote.rs x = p_slices_Compact_impl_Vote_impl_Vote n x := by kernel_rfl
theorem ok_slices_Compact_impl_Vote_impl_Vote : EnvOK Tryz.prog G_slices_Compact_impl_Vote_impl_Vote := envOK_cons hm hT ok_impl_slotsFault Tryz.func315 (by kernel_rfl) hBB fun x r hr => ⟨FU, (e_slices_Compact_impl_Vote_impl_Vote FU x).trans hr⟩
theorem e_impl_quorum (n : Nat) (x) : afun G_slices_Compact_impl_Vote_impl_Vote T BB 0 n Tryz.f79 a_impl_quorum S_impl_quorum.ps S_impl_quorum.rs x = p_impl_quorum n x := by kernel_rfl
theorem ok_impl_quorum : EnvOK Tryz.prog G_impl_quorum := envOK_cons hm hT ok_slices_Compact_impl_Vote_impl_Vote Tryz.func79 (by kernel_rfl) hBB fun x r hr => ⟨FU, (e_impl_quorum FU x).trans hr⟩
def ren_slices_SortFunc_impl_Vote_impl_Vote : Go.Shelf.Ren := ⟨fun n => if n = 6 then 316 else if n = 15 then 270 else if n = 14 then 343 else if n = 28 then 327 else if n = 29 then 328 else if n = 20 then 352 else if n = 21 then 353 else if n = 22 then 354 else if n = 23 then 355 else if n = 24 then 356 else if n = 25 then 357 else if n = 26 then 358 else if n = 27 then 359 else if n = 46 then 362 else if n = 47 then 345 else if n = 48 then 346 else if n = 49 then 363 else if n = 50 then 364 else if n = 57 then 365 else n, fun n => if n = 22 then 122 else if n = 24 then 79 else if n = 25 then 346 else if n = 3 then 3 else if n = 39 then 309 else if n = 0 then 0 else if n = 53 then 355 else if n = 55 then 357 else if n = 4 then 4 else if n = 46 then 349 else if n = 45 then 348 else if n = 50 then 270 else if n = 5 then 5 else if n = 9 then 9 else if n = 66 then 377 else if n = 70 then 381 else if n = 76 then 390 else if n = 77 then 391 else n, fun n => n⟩
theorem lays_slices_SortFunc_impl_Vote_impl_Vote : Go.Proofs.SlLaysF0.n6 Tryz.prog ren_slices_SortFunc_impl_Vote_impl_Vote where
  mixed := by kernel_rfl
  f6 := ⟨"slices.SortFunc[[]loop.example/g00203/impl.Vote,loop.example/g00203/impl.Vote]", by decide, Tryz.func316.trans (congrArg some (by kernel_rfl))⟩
  f14 := ⟨"slices.pdqsortCmpFunc[loop.example/g00203/impl.Vote]", by decide, Tryz.func343.trans (congrArg some (by kernel_rfl))⟩
  f15 := Tryz.func270.trans (congrArg some (by kernel_rfl))
  f20 := ⟨"slices.insertionSortCmpFunc[loop.example/g00203/impl.Vote]", by decide, Tryz.func352.trans (congrArg some (by kernel_rfl))⟩
  f21 := ⟨"slices.heapSortCmpFunc[loop.example/g00203/impl.Vote]", by decide, Tryz.func353.trans (congrArg some (by kernel_rfl))⟩
  f22 := ⟨"slices.breakPatternsCmpFunc[loop.example/g00203/impl.Vote]", by decide, Tryz.func354.trans (congrArg some (by kernel_rfl))⟩
  f23 := ⟨"slices.choosePivotCmpFunc[loop.example/g00203/impl.Vote]", by decide, Tryz.func355.trans (congrArg some (by kernel_rfl))⟩
  f24 := ⟨"slices.reverseRangeCmpFunc[loop.example/g00203/impl.Vote]", by decide, Tryz.func356.trans (congrArg some (by kernel_rfl))⟩
  f25 := ⟨"slices.partialInsertionSortCmpFunc[loop.example/g00203/impl.Vote]", by decide, Tryz.func357.trans (congrArg some (by kernel_rfl))⟩
  f26 := ⟨"slices.partitionEqualCmpFunc[loop.example/g00203/impl.Vote]", by decide, Tryz.func358.trans (congrArg some (by kernel_rfl))⟩
  f27 := ⟨"slices.partitionCmpFunc[loop.example/g00203/impl.Vote]", by decide, Tryz.func359.trans (congrArg some (by kernel_rfl))⟩
  f28 := Tryz.func327.trans (congrArg some (by kernel_rfl))
  f29 := Tryz.func328.trans (congrArg some (by kernel_rfl))
  f46 := ⟨"slices.siftDownCmpFunc[loop.example/g00203/impl.Vote]", by decide, Tryz.func362.trans (congrArg some (by kernel_rfl))⟩
  f47 := Tryz.func345.trans (congrArg some (by kernel_rfl))
  f48 := Tryz.func346.trans (congrArg some (by kernel_rfl))
  f49 := ⟨"slices.medianAdjacentCmpFunc[loop.example/g00203/impl.Vote]", by decide, Tryz.func363.trans (congrArg some (by kernel_rfl))⟩
  f50 := ⟨"slices.medianCmpFunc[loop.example/g00203/impl.Vote]", by decide, Tryz.func364.trans (congrArg some (by kernel_rfl))⟩
  f57 := ⟨"slices.order2CmpFunc[loop.example/g00203/impl.Vote]", by decide, Tryz.func365.trans (congrArg some (by kernel_rfl))⟩
  t0 := Tryz.underlying0
  a0 := Tryz.isAgg0
  z0 := Tryz.sizeOf0
  v0 := Tryz.zeroValue0
  t3 := Tryz.underlying3
  a3 := Tryz.isAgg3
  z3 := Tryz.sizeOf3
  v3 := Tryz.zeroValue3
  t4 := Tryz.underlying4
  a4 := Tryz.isAgg4
  z4 := Tryz.sizeOf4
  v4 := Tryz.zeroValue4
  t5 := Tryz.underlying5
  a5 := Tryz.isAgg5
  z5 := Tryz.sizeOf5
  v5 := Tryz.zeroValue5
  t9 := Tryz.underlying9
  a9 := Tryz.isAgg9
  z9 := Tryz.sizeOf9
  v9 := Tryz.zeroValue9
  t22 := Tryz.underlying122
  a22 := Tryz.isAgg122
  z22 := Tryz.sizeOf122
  v22 := Tryz.zeroValue122
  t25 := Tryz.underlying346
  a25 := Tryz.isAgg346
  z25 := Tryz.sizeOf346
  v25 := Tryz.zeroValue346
  t39 := Tryz.underlying309
  a39 := Tryz.isAgg309
  z39 := Tryz.sizeOf309
  v39 := Tryz.zeroValue309
  t45 := Tryz.underlying348
  a45 := Tryz.isAgg348
  z45 := Tryz.sizeOf348
  v45 := Tryz.zeroValue348
  t46 := Tryz.underlying349
  a46 := Tryz.isAgg349
  z46 := Tryz.sizeOf349
  v46 := Tryz.zeroValue349
  t50 := Tryz.underlying270
  a50 := Tryz.isAgg270
  z50 := Tryz.sizeOf270
  v50 := Tryz.zeroValue270
  t53 := Tryz.underlying355
  a53 := Tryz.isAgg355
  z53 := Tryz.sizeOf355
  v53 := Tryz.zeroValue355
  t55 := Tryz.underlying357
  a55 := Tryz.isAgg357
  z55 := Tryz.sizeOf357
  v55 := Tryz.zeroValue357
  t66 := Tryz.underlying377
  a66 := Tryz.isAgg377
  z66 := Tryz.sizeOf377
  v66 := Tryz.zeroValue377
  t70 := Tryz.underlying381
  a70 := Tryz.isAgg381
  z70 := Tryz.sizeOf381
  v70 := Tryz.zeroValue381
  t76 := Tryz.underlying390
  a76 := Tryz.isAgg390
  z76 := Tryz.sizeOf390
  v76 := Tryz.zeroValue390
  t77 := Tryz.underlying391
  a77 := Tryz.isAgg391
  z77 := Tryz.sizeOf391
  v77 := Tryz.zeroValue391
set_option maxHeartbeats 1000000 in
theorem closure_slices_SortFunc_impl_Vote_impl_Vote (W : World) (x y) (hx : okVote x = true) (hy : okVote y = true) : Calls Tryz.prog 317 #[.agg (encVote x).toArray, .agg (encVote y).toArray] W fun e w' => e = .returned (.int .i64 (cfVote x y)) ∧ ∃ q os', w' = Go.Sort.grow (W.drewN q) os' := by
  unfold encVote cfVote
  go_enter Tryz.func317, Tryz.ntmps317
  go_wp2_with fail
  go_ret
  exact ⟨by rw [IntWalk.i64_left]; rfl, 0, _, by rw [alloc_eq_grow, alloc_eq_grow, grow_grow]; rfl⟩
theorem sound_slices_SortFunc_impl_Vote_impl_Vote : Sound Tryz.prog 316 S_slices_SortFunc_impl_Vote_impl_Vote := sound_sort lays_slices_SortFunc_impl_Vote_impl_Vote rfl hencVote (by decide) (fun _ => rfl) (fun x v hv => by simp [encVote] at hv; rcases hv with rfl | rfl <;> rfl) Tryz.isAgg79 Tryz.sizeOf79 swoVote (enters_of Tryz.func317 (by kernel_rfl) rfl) closure_slices_SortFunc_impl_Vote_impl_Vote
theorem ok_slices_SortFunc_impl_Vote_impl_Vote : EnvOK Tryz.prog G_slices_SortFunc_impl_Vote_impl_Vote := envOK_sound ok_impl_quorum ⟨_, Tryz.func316, by kernel_rfl, by kernel_rfl⟩ sound_slices_SortFunc_impl_Vote_impl_Vote
theorem e_impl_chosen (n : Nat) (x) : afun G_slices_SortFunc_impl_Vote_impl_Vote T BB 0 n Tryz.f268 a_impl_chosen S_impl_chosen.ps S_impl_chosen.rs x = p_impl_chosen n x := by kernel_rfl
theorem ok_impl_chosen : EnvOK Tryz.prog G_impl_chosen := envOK_cons hm hT ok_slices_SortFunc_impl_Vote_impl_Vote Tryz.func268 (by kernel_rfl) hBB fun x r hr => ⟨FU, (e_impl_chosen FU x).trans hr⟩
theorem e_impl_ChosenIn (n : Nat) (x) : afun G_impl_chosen T BB 0 n Tryz.f191 a_impl_ChosenIn S_impl_ChosenIn.ps S_impl_ChosenIn.rs x = p_impl_ChosenIn n x := by kernel_rfl
theorem ok_impl_ChosenIn : EnvOK Tryz.prog G_impl_ChosenIn := envOK_cons hm hT ok_impl_chosen Tryz.func191 (by kernel_rfl) hBB fun x r hr => ⟨FU, (e_impl_ChosenIn FU x).trans hr⟩
theorem e_impl_outcomeOf (n : Nat) (x) : afun G_impl_ChosenIn T BB 0 n Tryz.f91 a_impl_outcomeOf S_impl_outcomeOf.ps S_impl_outcomeOf.rs x = p_impl_outcomeOf n x := by kernel_rfl
theorem ok_impl_outcomeOf : EnvOK Tryz.prog G_impl_outcomeOf := envOK_cons hm hT ok_impl_ChosenIn Tryz.func91 (by kernel_rfl) hBB fun x r hr => ⟨FU, (e_impl_outcomeOf FU x).trans hr⟩
theorem e_impl_OutcomeOf (n : Nat) (x) : afun G_impl_outcomeOf T BB 0 n Tryz.f26 a_impl_OutcomeOf S_impl_OutcomeOf.ps S_impl_OutcomeOf.rs x = p_impl_OutcomeOf n x := by kernel_rfl
theorem ok_impl_OutcomeOf : EnvOK Tryz.prog G_impl_OutcomeOf := envOK_cons hm hT ok_impl_outcomeOf Tryz.func26 (by kernel_rfl) hBB fun x r hr => ⟨FU, (e_impl_OutcomeOf FU x).trans hr⟩
theorem e_laws_eqIntResult (n : Nat) (x) : afun G_impl_OutcomeOf T BB 0 n Tryz.f27 a_laws_eqIntResult S_laws_eqIntResult.ps S_laws_eqIntResult.rs x = p_laws_eqIntResult n x := by kernel_rfl
theorem ok_laws_eqIntResult : EnvOK Tryz.prog G_laws_eqIntResult := envOK_cons hm hT ok_impl_OutcomeOf Tryz.func27 (by kernel_rfl) hBB fun x r hr => ⟨FU, (e_laws_eqIntResult FU x).trans hr⟩
theorem e_laws_eqVote (n : Nat) (x) : afun G_laws_eqIntResult T BB 0 n Tryz.f280 a_laws_eqVote S_laws_eqVote.ps S_laws_eqVote.rs x = p_laws_eqVote n x := by kernel_rfl
theorem ok_laws_eqVote : EnvOK Tryz.prog G_laws_eqVote := envOK_cons hm hT ok_laws_eqIntResult Tryz.func280 (by kernel_rfl) hBB fun x r hr => ⟨FU, (e_laws_eqVote FU x).trans hr⟩
theorem e_laws_eqVoteS (n : Nat) (x) : afun G_laws_eqVote T BB 0 n Tryz.f310 a_laws_eqVoteS S_laws_eqVoteS.ps S_laws_eqVoteS.rs x = p_laws_eqVoteS n x := by kernel_rfl
theorem ok_laws_eqVoteS : EnvOK Tryz.prog G_laws_eqVoteS := envOK_cons hm hT ok_laws_eqVote Tryz.func310 (by kernel_rfl) hBB fun x r hr => ⟨FU, (e_laws_eqVoteS FU x).trans hr⟩
theorem e_laws_eqSlot (n : Nat) (x) : afun G_laws_eqVoteS T BB 0 n Tryz.f261 a_laws_eqSlot S_laws_eqSlot.ps S_laws_eqSlot.rs x = p_laws_eqSlot n x := by kernel_rfl
theorem ok_laws_eqSlot : EnvOK Tryz.prog G_laws_eqSlot := envOK_cons hm hT ok_laws_eqVoteS Tryz.func261 (by kernel_rfl) hBB fun x r hr => ⟨FU, (e_laws_eqSlot FU x).trans hr⟩
theorem e_laws_eqSlotS (n : Nat) (x) : afun G_laws_eqSlot T BB 0 n Tryz.f177 a_laws_eqSlotS S_laws_eqSlotS.ps S_laws_eqSlotS.rs x = p_laws_eqSlotS n x := by kernel_rfl
theorem ok_laws_eqSlotS : EnvOK Tryz.prog G_laws_eqSlotS := envOK_cons hm hT ok_laws_eqSlot Tryz.func177 (by kernel_rfl) hBB fun x r hr => ⟨FU, (e_laws_eqSlotS FU x).trans hr⟩
theorem e_laws_eqAcceptor (n : Nat) (x) : afun G_laws_eqSlotS T BB 0 n Tryz.f82 a_laws_eqAcceptor S_laws_eqAcceptor.ps S_laws_eqAcceptor.rs x = p_laws_eqAcceptor n x := by kernel_rfl
theorem ok_laws_eqAcceptor : EnvOK Tryz.prog G_laws_eqAcceptor := envOK_cons hm hT ok_laws_eqSlotS Tryz.func82 (by kernel_rfl) hBB fun x r hr => ⟨FU, (e_laws_eqAcceptor FU x).trans hr⟩
theorem e_laws_eqAcceptorS (n : Nat) (x) : afun G_laws_eqAcceptor T BB 0 n Tryz.f17 a_laws_eqAcceptorS S_laws_eqAcceptorS.ps S_laws_eqAcceptorS.rs x = p_laws_eqAcceptorS n x := by kernel_rfl
theorem ok_laws_eqAcceptorS : EnvOK Tryz.prog G_laws_eqAcceptorS := envOK_cons hm hT ok_laws_eqAcceptor Tryz.func17 (by kernel_rfl) hBB fun x r hr => ⟨FU, (e_laws_eqAcceptorS FU x).trans hr⟩
theorem e_laws_eqLeg (n : Nat) (x) : afun G_laws_eqAcceptorS T BB 0 n Tryz.f193 a_laws_eqLeg S_laws_eqLeg.ps S_laws_eqLeg.rs x = p_laws_eqLeg n x := by kernel_rfl
theorem ok_laws_eqLeg : EnvOK Tryz.prog G_laws_eqLeg := envOK_cons hm hT ok_laws_eqAcceptorS Tryz.func193 (by kernel_rfl) hBB fun x r hr => ⟨FU, (e_laws_eqLeg FU x).trans hr⟩
theorem e_laws_eqLegS (n : Nat) (x) : afun G_laws_eqLeg T BB 0 n Tryz.f92 a_laws_eqLegS S_laws_eqLegS.ps S_laws_eqLegS.rs x = p_laws_eqLegS n x := by kernel_rfl
theorem ok_laws_eqLegS : EnvOK Tryz.prog G_laws_eqLegS := envOK_cons hm hT ok_laws_eqLeg Tryz.func92 (by kernel_rfl) hBB fun x r hr => ⟨FU, (e_laws_eqLegS FU x).trans hr⟩
theorem e_laws_eqContract (n : Nat) (x) : afun G_laws_eqLegS T BB 0 n Tryz.f28 a_laws_eqContract S_laws_eqContract.ps S_laws_eqContract.rs x = p_laws_eqContract n x := by kernel_rfl
theorem ok_laws_eqContract : EnvOK Tryz.prog G_laws_eqContract := envOK_cons hm hT ok_laws_eqLegS Tryz.func28 (by kernel_rfl) hBB fun x r hr => ⟨FU, (e_laws_eqContract FU x).trans hr⟩
theorem e_laws_FnExactOutcomeOf (n : Nat) (x) : afun G_laws_eqContract T BB 0 n Tryz.f4 a_laws_FnExactOutcomeOf S_laws_FnExactOutcomeOf.ps S_laws_FnExactOutcomeOf.rs x = p_laws_FnExactOutcomeOf n x := by kernel_rfl
theorem ok_laws_FnExactOutcomeOf : EnvOK Tryz.prog G_laws_FnExactOutcomeOf := envOK_cons hm hT ok_laws_eqContract Tryz.func4 (by kernel_rfl) hBB fun x r hr => ⟨FU, (e_laws_FnExactOutcomeOf FU x).trans hr⟩
end Go.RvP
