/- Each function of the program is as its plain function says, for FnExactChosenAt. No condition. -/
import Derived.Test.YtccghpomkikjoaaRvP4
import Derived.Test.YtccghpomkikjoaaProg
import Derived.KernelRfl
import Derived.WalkKit
namespace Go.RvP
open Go Go.Rv Go.Proofs Go.Shelf Go.RowKit Go.Lib Go.Sort
set_option maxRecDepth 100000
theorem hm : Try.prog.follows .mixedOrders = true := by kernel_rfl
theorem hT : TabOK Try.prog T := tabOK_of (by kernel_rfl)
noncomputable def BB : Bodies := [(81, Try.f81), (82, Try.f82), (124, Try.f124), (160, Try.f160)]
theorem hBB : BodyOK Try.prog BB := (bodyOK_cons Try.func81 (by kernel_rfl) (bodyOK_cons Try.func82 (by kernel_rfl) (bodyOK_cons Try.func124 (by kernel_rfl) (bodyOK_cons Try.func160 (by kernel_rfl) bodyOK_nil))))
theorem e_laws_szVoteS (n : Nat) (x) : afun [] T BB 0 n Try.f173 a_laws_szVoteS S_laws_szVoteS.ps S_laws_szVoteS.rs x = p_laws_szVoteS n x := by kernel_rfl
theorem ok_laws_szVoteS : EnvOK Try.prog G_laws_szVoteS := envOK_cons hm hT envOK_nil Try.func173 (by kernel_rfl) hBB fun x r hr => ⟨FU, (e_laws_szVoteS FU x).trans hr⟩
theorem e_laws_szSlot (n : Nat) (x) : afun G_laws_szVoteS T BB 0 n Try.f127 a_laws_szSlot S_laws_szSlot.ps S_laws_szSlot.rs x = p_laws_szSlot n x := by kernel_rfl
theorem ok_laws_szSlot : EnvOK Try.prog G_laws_szSlot := envOK_cons hm hT ok_laws_szVoteS Try.func127 (by kernel_rfl) hBB fun x r hr => ⟨FU, (e_laws_szSlot FU x).trans hr⟩
theorem e_laws_szSlotS (n : Nat) (x) : afun G_laws_szSlot T BB 0 n Try.f88 a_laws_szSlotS S_laws_szSlotS.ps S_laws_szSlotS.rs x = p_laws_szSlotS n x := by kernel_rfl
theorem ok_laws_szSlotS : EnvOK Try.prog G_laws_szSlotS := envOK_cons hm hT ok_laws_szSlot Try.func88 (by kernel_rfl) hBB fun x r hr => ⟨FU, (e_laws_szSlotS FU x).trans hr⟩
theorem e_laws_szAcceptor (n : Nat) (x) : afun G_laws_szSlotS T BB 0 n Try.f45 a_laws_szAcceptor S_laws_szAcceptor.ps S_laws_szAcceptor.rs x = p_laws_szAcceptor n x := by kernel_rfl
theorem ok_laws_szAcceptor : EnvOK Try.prog G_laws_szAcceptor := envOK_cons hm hT ok_laws_szSlotS Try.func45 (by kernel_rfl) hBB fun x r hr => ⟨FU, (e_laws_szAcceptor FU x).trans hr⟩
theorem e_laws_szAcceptorS (n : Nat) (x) : afun G_laws_szAcceptor T BB 0 n Try.f13 a_laws_szAcceptorS S_laws_szAcceptorS.ps S_laws_szAcceptorS.rs x = p_laws_szAcceptorS n x := by kernel_rfl
theorem ok_laws_szAcceptorS : EnvOK Try.prog G_laws_szAcceptorS := envOK_cons hm hT ok_laws_szAcceptor Try.func13 (by kernel_rfl) hBB fun x r hr => ⟨FU, (e_laws_szAcceptorS FU x).trans hr⟩
theorem e_laws_toVote (n : Nat) (x) : afun G_laws_szAcceptorS T BB 0 n Try.f177 a_laws_toVote S_laws_toVote.ps S_laws_toVote.rs x = p_laws_toVote n x := by kernel_rfl
theorem ok_laws_toVote : EnvOK Try.prog G_laws_toVote := envOK_cons hm hT ok_laws_szAcceptorS Try.func177 (by kernel_rfl) hBB fun x r hr => ⟨FU, (e_laws_toVote FU x).trans hr⟩
theorem e_laws_toVoteS (n : Nat) (x) : afun G_laws_toVote T BB 0 n Try.f178 a_laws_toVoteS S_laws_toVoteS.ps S_laws_toVoteS.rs x = p_laws_toVoteS n x := by kernel_rfl
theorem ok_laws_toVoteS : EnvOK Try.prog G_laws_toVoteS := envOK_cons hm hT ok_laws_toVote Try.func178 (by kernel_rfl) hBB fun x r hr => ⟨FU, (e_laws_toVoteS FU x).trans hr⟩
theorem e_laws_toSlot (n : Nat) (x) : afun G_laws_toVoteS T BB 0 n Try.f134 a_laws_toSlot S_laws_toSlot.ps S_laws_toSlot.rs x = p_laws_toSlot n x := by kernel_rfl
theorem ok_laws_toSlot : EnvOK Try.prog G_laws_toSlot := envOK_cons hm hT ok_laws_toVoteS Try.func134 (by kernel_rfl) hBB fun x r hr => ⟨FU, (e_laws_toSlot FU x).trans hr⟩
theorem e_laws_toSlotS (n : Nat) (x) : afun G_laws_toSlot T BB 0 n Try.f93 a_laws_toSlotS S_laws_toSlotS.ps S_laws_toSlotS.rs x = p_laws_toSlotS n x := by kernel_rfl
theorem ok_laws_toSlotS : EnvOK Try.prog G_laws_toSlotS := envOK_cons hm hT ok_laws_toSlot Try.func93 (by kernel_rfl) hBB fun x r hr => ⟨FU, (e_laws_toSlotS FU x).trans hr⟩
theorem e_laws_toAcceptor (n : Nat) (x) : afun G_laws_toSlotS T BB 0 n Try.f48 a_laws_toAcceptor S_laws_toAcceptor.ps S_laws_toAcceptor.rs x = p_laws_toAcceptor n x := by kernel_rfl
theorem ok_laws_toAcceptor : EnvOK Try.prog G_laws_toAcceptor := envOK_cons hm hT ok_laws_toSlotS Try.func48 (by kernel_rfl) hBB fun x r hr => ⟨FU, (e_laws_toAcceptor FU x).trans hr⟩
theorem e_laws_toAcceptorS (n : Nat) (x) : afun G_laws_toAcceptor T BB 0 n Try.f15 a_laws_toAcceptorS S_laws_toAcceptorS.ps S_laws_toAcceptorS.rs x = p_laws_toAcceptorS n x := by kernel_rfl
theorem ok_laws_toAcceptorS : EnvOK Try.prog G_laws_toAcceptorS := envOK_cons hm hT ok_laws_toAcceptor Try.func15 (by kernel_rfl) hBB fun x r hr => ⟨FU, (e_laws_toAcceptorS FU x).trans hr⟩
theorem e_spec_l1In (n : Nat) (x) : afun G_laws_toAcceptorS T BB 0 n Try.f52 a_spec_l1In S_spec_l1In.ps S_spec_l1In.rs x = p_spec_l1In n x := by kernel_rfl
theorem ok_spec_l1In : EnvOK Try.prog G_spec_l1In := envOK_cons hm hT ok_laws_toAcceptorS Try.func52 (by kernel_rfl) hBB fun x r hr => ⟨FU, (e_spec_l1In FU x).trans hr⟩
theorem e_spec_l1Id (n : Nat) (x) : afun G_spec_l1In T BB 0 n Try.f129 a_spec_l1Id S_spec_l1Id.ps S_spec_l1Id.rs x = p_spec_l1Id n x := by kernel_rfl
theorem ok_spec_l1Id : EnvOK Try.prog G_spec_l1Id := envOK_cons hm hT ok_spec_l1In Try.func129 (by kernel_rfl) hBB fun x r hr => ⟨FU, (e_spec_l1Id FU x).trans hr⟩
theorem e_spec_l8Ballot (n : Nat) (x) : afun G_spec_l1Id T BB 0 n Try.f196 a_spec_l8Ballot S_spec_l8Ballot.ps S_spec_l8Ballot.rs x = p_spec_l8Ballot n x := by kernel_rfl
theorem ok_spec_l8Ballot : EnvOK Try.prog G_spec_l8Ballot := envOK_cons hm hT ok_spec_l1Id Try.func196 (by kernel_rfl) hBB fun x r hr => ⟨FU, (e_spec_l8Ballot FU x).trans hr⟩
theorem e_spec_l8Value (n : Nat) (x) : afun G_spec_l8Ballot T BB 0 n Try.f197 a_spec_l8Value S_spec_l8Value.ps S_spec_l8Value.rs x = p_spec_l8Value n x := by kernel_rfl
theorem ok_spec_l8Value : EnvOK Try.prog G_spec_l8Value := envOK_cons hm hT ok_spec_l8Ballot Try.func197 (by kernel_rfl) hBB fun x r hr => ⟨FU, (e_spec_l8Value FU x).trans hr⟩
theorem e_spec_l8None (n : Nat) (x) : afun G_spec_l8Value T BB 0 n Try.f130 a_spec_l8None S_spec_l8None.ps S_spec_l8None.rs x = p_spec_l8None n x := by kernel_rfl
theorem ok_spec_l8None : EnvOK Try.prog G_spec_l8None := envOK_cons hm hT ok_spec_l8Value Try.func130 (by kernel_rfl) hBB fun x r hr => ⟨FU, (e_spec_l8None FU x).trans hr⟩
theorem e_spec_l8Last (n : Nat) (x) : afun G_spec_l8None T BB 0 n Try.f198 a_spec_l8Last S_spec_l8Last.ps S_spec_l8Last.rs x = p_spec_l8Last n x := by kernel_rfl
theorem ok_spec_l8Last : EnvOK Try.prog G_spec_l8Last := envOK_cons hm hT ok_spec_l8None Try.func198 (by kernel_rfl) hBB fun x r hr => ⟨FU, (e_spec_l8Last FU x).trans hr⟩
theorem e_spec_SlotFault (n : Nat) (x) : afun G_spec_l8Last T BB 0 n Try.f174 a_spec_SlotFault S_spec_SlotFault.ps S_spec_SlotFault.rs x = p_spec_SlotFault n x := by kernel_rfl
theorem ok_spec_SlotFault : EnvOK Try.prog G_spec_SlotFault := envOK_cons hm hT ok_spec_l8Last Try.func174 (by kernel_rfl) hBB fun x r hr => ⟨FU, (e_spec_SlotFault FU x).trans hr⟩
theorem e_spec_l9Ahead (n : Nat) (x) : afun G_spec_SlotFault T BB 0 n Try.f175 a_spec_l9Ahead S_spec_l9Ahead.ps S_spec_l9Ahead.rs x = p_spec_l9Ahead n x := by kernel_rfl
theorem ok_spec_l9Ahead : EnvOK Try.prog G_spec_l9Ahead := envOK_cons hm hT ok_spec_SlotFault Try.func175 (by kernel_rfl) hBB fun x r hr => ⟨FU, (e_spec_l9Ahead FU x).trans hr⟩
theorem e_spec_AcceptorFault (n : Nat) (x) : afun G_spec_l9Ahead T BB 0 n Try.f128 a_spec_AcceptorFault S_spec_AcceptorFault.ps S_spec_AcceptorFault.rs x = p_spec_AcceptorFault n x := by kernel_rfl
theorem ok_spec_AcceptorFault : EnvOK Try.prog G_spec_AcceptorFault := envOK_cons hm hT ok_spec_l9Ahead Try.func128 (by kernel_rfl) hBB fun x r hr => ⟨FU, (e_spec_AcceptorFault FU x).trans hr⟩
theorem e_spec_l9List (n : Nat) (x) : afun G_spec_AcceptorFault T BB 0 n Try.f89 a_spec_l9List S_spec_l9List.ps S_spec_l9List.rs x = p_spec_l9List n x := by kernel_rfl
theorem ok_spec_l9List : EnvOK Try.prog G_spec_l9List := envOK_cons hm hT ok_spec_AcceptorFault Try.func89 (by kernel_rfl) hBB fun x r hr => ⟨FU, (e_spec_l9List FU x).trans hr⟩
theorem e_spec_NewSlot (n : Nat) (x) : afun G_spec_l9List T BB 0 n Try.f90 a_spec_NewSlot S_spec_NewSlot.ps S_spec_NewSlot.rs x = p_spec_NewSlot n x := by kernel_rfl
theorem ok_spec_NewSlot : EnvOK Try.prog G_spec_NewSlot := envOK_cons hm hT ok_spec_l9List Try.func90 (by kernel_rfl) hBB fun x r hr => ⟨FU, (e_spec_NewSlot FU x).trans hr⟩
theorem e_spec_l8Copy (n : Nat) (x) : afun G_spec_NewSlot T BB 0 n Try.f176 a_spec_l8Copy S_spec_l8Copy.ps S_spec_l8Copy.rs x = p_spec_l8Copy n x := by kernel_rfl
theorem ok_spec_l8Copy : EnvOK Try.prog G_spec_l8Copy := envOK_cons hm hT ok_spec_NewSlot Try.func176 (by kernel_rfl) hBB fun x r hr => ⟨FU, (e_spec_l8Copy FU x).trans hr⟩
theorem e_spec_l9Slot (n : Nat) (x) : afun G_spec_l8Copy T BB 0 n Try.f131 a_spec_l9Slot S_spec_l9Slot.ps S_spec_l9Slot.rs x = p_spec_l9Slot n x := by kernel_rfl
theorem ok_spec_l9Slot : EnvOK Try.prog G_spec_l9Slot := envOK_cons hm hT ok_spec_l8Copy Try.func131 (by kernel_rfl) hBB fun x r hr => ⟨FU, (e_spec_l9Slot FU x).trans hr⟩
theorem e_spec_l9Slots (n : Nat) (x) : afun G_spec_l9Slot T BB 0 n Try.f91 a_spec_l9Slots S_spec_l9Slots.ps S_spec_l9Slots.rs x = p_spec_l9Slots n x := by kernel_rfl
theorem ok_spec_l9Slots : EnvOK Try.prog G_spec_l9Slots := envOK_cons hm hT ok_spec_l9Slot Try.func91 (by kernel_rfl) hBB fun x r hr => ⟨FU, (e_spec_l9Slots FU x).trans hr⟩
theorem e_spec_SlotsFor (n : Nat) (x) : afun G_spec_l9Slots T BB 0 n Try.f46 a_spec_SlotsFor S_spec_SlotsFor.ps S_spec_SlotsFor.rs x = p_spec_SlotsFor n x := by kernel_rfl
theorem ok_spec_SlotsFor : EnvOK Try.prog G_spec_SlotsFor := envOK_cons hm hT ok_spec_l9Slots Try.func46 (by kernel_rfl) hBB fun x r hr => ⟨FU, (e_spec_SlotsFor FU x).trans hr⟩
theorem e_spec_l8Cast (n : Nat) (x) : afun G_spec_SlotsFor T BB 0 n Try.f132 a_spec_l8Cast S_spec_l8Cast.ps S_spec_l8Cast.rs x = p_spec_l8Cast n x := by kernel_rfl
theorem ok_spec_l8Cast : EnvOK Try.prog G_spec_l8Cast := envOK_cons hm hT ok_spec_SlotsFor Try.func132 (by kernel_rfl) hBB fun x r hr => ⟨FU, (e_spec_l8Cast FU x).trans hr⟩
theorem e_spec_l8Quorum (n : Nat) (x) : afun G_spec_l8Cast T BB 0 n Try.f133 a_spec_l8Quorum S_spec_l8Quorum.ps S_spec_l8Quorum.rs x = p_spec_l8Quorum n x := by kernel_rfl
theorem ok_spec_l8Quorum : EnvOK Try.prog G_spec_l8Quorum := envOK_cons hm hT ok_spec_l8Cast Try.func133 (by kernel_rfl) hBB fun x r hr => ⟨FU, (e_spec_l8Quorum FU x).trans hr⟩
theorem e_spec_l8Chosen (n : Nat) (x) : afun G_spec_l8Quorum T BB 0 n Try.f92 a_spec_l8Chosen S_spec_l8Chosen.ps S_spec_l8Chosen.rs x = p_spec_l8Chosen n x := by kernel_rfl
theorem ok_spec_l8Chosen : EnvOK Try.prog G_spec_l8Chosen := envOK_cons hm hT ok_spec_l8Quorum Try.func92 (by kernel_rfl) hBB fun x r hr => ⟨FU, (e_spec_l8Chosen FU x).trans hr⟩
theorem e_spec_l9Chosen (n : Nat) (x) : afun G_spec_l8Chosen T BB 0 n Try.f47 a_spec_l9Chosen S_spec_l9Chosen.ps S_spec_l9Chosen.rs x = p_spec_l9Chosen n x := by kernel_rfl
theorem ok_spec_l9Chosen : EnvOK Try.prog G_spec_l9Chosen := envOK_cons hm hT ok_spec_l8Chosen Try.func47 (by kernel_rfl) hBB fun x r hr => ⟨FU, (e_spec_l9Chosen FU x).trans hr⟩
theorem e_spec_ChosenAt (n : Nat) (x) : afun G_spec_l9Chosen T BB 0 n Try.f14 a_spec_ChosenAt S_spec_ChosenAt.ps S_spec_ChosenAt.rs x = p_spec_ChosenAt n x := by kernel_rfl
theorem ok_spec_ChosenAt : EnvOK Try.prog G_spec_ChosenAt := envOK_cons hm hT ok_spec_l9Chosen Try.func14 (by kernel_rfl) hBB fun x r hr => ⟨FU, (e_spec_ChosenAt FU x).trans hr⟩
theorem e_impl_size_impl_Acceptor (n : Nat) (x) : afun G_spec_ChosenAt T BB 0 n Try.f33 a_impl_size_impl_Acceptor S_impl_size_impl_Acceptor.ps S_impl_size_impl_Acceptor.rs x = p_impl_size_impl_Acceptor n x := by kernel_rfl
theorem ok_impl_size_impl_Acceptor : EnvOK Try.prog G_impl_size_impl_Acceptor := envOK_cons hm hT ok_spec_ChosenAt Try.func33 (by kernel_rfl) hBB fun x r hr => ⟨FU, (e_impl_size_impl_Acceptor FU x).trans hr⟩
theorem e_impl_within (n : Nat) (x) : afun G_impl_size_impl_Acceptor T BB 0 n Try.f56 a_impl_within S_impl_within.ps S_impl_within.rs x = p_impl_within n x := by kernel_rfl
theorem ok_impl_within : EnvOK Try.prog G_impl_within := envOK_cons hm hT ok_impl_size_impl_Acceptor Try.func56 (by kernel_rfl) hBB fun x r hr => ⟨FU, (e_impl_within FU x).trans hr⟩
theorem e_impl_isId (n : Nat) (x) : afun G_impl_within T BB 0 n Try.f64 a_impl_isId S_impl_isId.ps S_impl_isId.rs x = p_impl_isId n x := by kernel_rfl
theorem ok_impl_isId : EnvOK Try.prog G_impl_isId := envOK_cons hm hT ok_impl_within Try.func64 (by kernel_rfl) hBB fun x r hr => ⟨FU, (e_impl_isId FU x).trans hr⟩
theorem e_impl_isShard (n : Nat) (x) : afun G_impl_isId T BB 0 n Try.f65 a_impl_isShard S_impl_isShard.ps S_impl_isShard.rs x = p_impl_isShard n x := by kernel_rfl
theorem ok_impl_isShard : EnvOK Try.prog G_impl_isShard := envOK_cons hm hT ok_impl_isId Try.func65 (by kernel_rfl) hBB fun x r hr => ⟨FU, (e_impl_isShard FU x).trans hr⟩
theorem e_impl_isBallot (n : Nat) (x) : afun G_impl_isShard T BB 0 n Try.f30 a_impl_isBallot S_impl_isBallot.ps S_impl_isBallot.rs x = p_impl_isBallot n x := by kernel_rfl
theorem ok_impl_isBallot : EnvOK Try.prog G_impl_isBallot := envOK_cons hm hT ok_impl_isShard Try.func30 (by kernel_rfl) hBB fun x r hr => ⟨FU, (e_impl_isBallot FU x).trans hr⟩
theorem e_impl_isValue (n : Nat) (x) : afun G_impl_isBallot T BB 0 n Try.f31 a_impl_isValue S_impl_isValue.ps S_impl_isValue.rs x = p_impl_isValue n x := by kernel_rfl
theorem ok_impl_isValue : EnvOK Try.prog G_impl_isValue := envOK_cons hm hT ok_impl_isBallot Try.func31 (by kernel_rfl) hBB fun x r hr => ⟨FU, (e_impl_isValue FU x).trans hr⟩
theorem e_impl_isVote (n : Nat) (x) : afun G_impl_isValue T BB 0 n Try.f75 a_impl_isVote S_impl_isVote.ps S_impl_isVote.rs x = p_impl_isVote n x := by kernel_rfl
theorem ok_impl_isVote : EnvOK Try.prog G_impl_isVote := envOK_cons hm hT ok_impl_isValue Try.func75 (by kernel_rfl) hBB fun x r hr => ⟨FU, (e_impl_isVote FU x).trans hr⟩
theorem e_impl_castFault (n : Nat) (x) : afun G_impl_isVote T BB 0 n Try.f122 a_impl_castFault S_impl_castFault.ps S_impl_castFault.rs x = p_impl_castFault n x := by kernel_rfl
theorem ok_impl_castFault : EnvOK Try.prog G_impl_castFault := envOK_cons hm hT ok_impl_isVote Try.func122 (by kernel_rfl) hBB fun x r hr => ⟨FU, (e_impl_castFault FU x).trans hr⟩
theorem e_impl_noVote (n : Nat) (x) : afun G_impl_castFault T BB 0 n Try.f74 a_impl_noVote S_impl_noVote.ps S_impl_noVote.rs x = p_impl_noVote n x := by kernel_rfl
theorem ok_impl_noVote : EnvOK Try.prog G_impl_noVote := envOK_cons hm hT ok_impl_castFault Try.func74 (by kernel_rfl) hBB fun x r hr => ⟨FU, (e_impl_noVote FU x).trans hr⟩
theorem e_impl_lastCast (n : Nat) (x) : afun G_impl_noVote T BB 0 n Try.f123 a_impl_lastCast S_impl_lastCast.ps S_impl_lastCast.rs x = p_impl_lastCast n x := by kernel_rfl
theorem ok_impl_lastCast : EnvOK Try.prog G_impl_lastCast := envOK_cons hm hT ok_impl_noVote Try.func123 (by kernel_rfl) hBB fun x r hr => ⟨FU, (e_impl_lastCast FU x).trans hr⟩
theorem e_impl_SlotFault (n : Nat) (x) : afun G_impl_lastCast T BB 0 n Try.f79 a_impl_SlotFault S_impl_SlotFault.ps S_impl_SlotFault.rs x = p_impl_SlotFault n x := by kernel_rfl
theorem ok_impl_SlotFault : EnvOK Try.prog G_impl_SlotFault := envOK_cons hm hT ok_impl_lastCast Try.func79 (by kernel_rfl) hBB fun x r hr => ⟨FU, (e_impl_SlotFault FU x).trans hr⟩
theorem e_cmp_isNaN_int64 (n : Nat) (x) : afun G_impl_SlotFault T BB 0 n Try.f189 a_cmp_isNaN_int64 S_cmp_isNaN_int64.ps S_cmp_isNaN_int64.rs x = p_cmp_isNaN_int64 n x := by kernel_rfl
theorem ok_cmp_isNaN_int64 : EnvOK Try.prog G_cmp_isNaN_int64 := envOK_cons hm hT ok_impl_SlotFault Try.func189 (by kernel_rfl) hBB fun x r hr => ⟨FU, (e_cmp_isNaN_int64 FU x).trans hr⟩
theorem e_cmp_Compare_int64 (n : Nat) (x) : afun G_cmp_isNaN_int64 T BB 0 n Try.f159 a_cmp_Compare_int64 S_cmp_Compare_int64.ps S_cmp_Compare_int64.rs x = p_cmp_Compare_int64 n x := by kernel_rfl
theorem ok_cmp_Compare_int64 : EnvOK Try.prog G_cmp_Compare_int64 := envOK_cons hm hT ok_cmp_isNaN_int64 Try.func159 (by kernel_rfl) hBB fun x r hr => ⟨FU, (e_cmp_Compare_int64 FU x).trans hr⟩
theorem e_cmp_Or_int (n : Nat) (x) : afun G_cmp_Compare_int64 T BB 0 n Try.f158 a_cmp_Or_int S_cmp_Or_int.ps S_cmp_Or_int.rs x = p_cmp_Or_int n x := by kernel_rfl
theorem ok_cmp_Or_int : EnvOK Try.prog G_cmp_Or_int := envOK_cons hm hT ok_cmp_Compare_int64 Try.func158 (by kernel_rfl) hBB fun x r hr => ⟨FU, (e_cmp_Or_int FU x).trans hr⟩
theorem e_impl_compareSlots (n : Nat) (x) : afun G_cmp_Or_int T BB 0 n Try.f117 a_impl_compareSlots S_impl_compareSlots.ps S_impl_compareSlots.rs x = p_impl_compareSlots n x := by kernel_rfl
theorem ok_impl_compareSlots : EnvOK Try.prog G_impl_compareSlots := envOK_cons hm hT ok_cmp_Or_int Try.func117 (by kernel_rfl) hBB fun x r hr => ⟨FU, (e_impl_compareSlots FU x).trans hr⟩
theorem e_impl_AcceptorFault (n : Nat) (x) : afun G_impl_compareSlots T BB 0 n Try.f63 a_impl_AcceptorFault S_impl_AcceptorFault.ps S_impl_AcceptorFault.rs x = p_impl_AcceptorFault n x := by kernel_rfl
theorem ok_impl_AcceptorFault : EnvOK Try.prog G_impl_AcceptorFault := envOK_cons hm hT ok_impl_compareSlots Try.func63 (by kernel_rfl) hBB fun x r hr => ⟨FU, (e_impl_AcceptorFault FU x).trans hr⟩
theorem e_impl_listFault (n : Nat) (x) : afun G_impl_AcceptorFault T BB 0 n Try.f28 a_impl_listFault S_impl_listFault.ps S_impl_listFault.rs x = p_impl_listFault n x := by kernel_rfl
theorem ok_impl_listFault : EnvOK Try.prog G_impl_listFault := envOK_cons hm hT ok_impl_AcceptorFault Try.func28 (by kernel_rfl) hBB fun x r hr => ⟨FU, (e_impl_listFault FU x).trans hr⟩
theorem e_impl_newSlot (n : Nat) (x) : afun G_impl_listFault T BB 0 n Try.f66 a_impl_newSlot S_impl_newSlot.ps S_impl_newSlot.rs x = p_impl_newSlot n x := by kernel_rfl
theorem ok_impl_newSlot : EnvOK Try.prog G_impl_newSlot := envOK_cons hm hT ok_impl_listFault Try.func66 (by kernel_rfl) hBB fun x r hr => ⟨FU, (e_impl_newSlot FU x).trans hr⟩
theorem e_impl_NewSlot (n : Nat) (x) : afun G_impl_newSlot T BB 0 n Try.f29 a_impl_NewSlot S_impl_NewSlot.ps S_impl_NewSlot.rs x = p_impl_NewSlot n x := by kernel_rfl
theorem ok_impl_NewSlot : EnvOK Try.prog G_impl_NewSlot := envOK_cons hm hT ok_impl_newSlot Try.func29 (by kernel_rfl) hBB fun x r hr => ⟨FU, (e_impl_NewSlot FU x).trans hr⟩
theorem e_impl_firstOf (n : Nat) (x) : afun G_impl_NewSlot T BB 0 n Try.f27 a_impl_firstOf S_impl_firstOf.ps S_impl_firstOf.rs x = p_impl_firstOf n x := by kernel_rfl
theorem ok_impl_firstOf : EnvOK Try.prog G_impl_firstOf := envOK_cons hm hT ok_impl_NewSlot Try.func27 (by kernel_rfl) hBB fun x r hr => ⟨FU, (e_impl_firstOf FU x).trans hr⟩
theorem e_impl_Acceptor_slotAt (n : Nat) (x) : afun G_impl_firstOf T BB 1 n Try.f120 a_impl_Acceptor_slotAt S_impl_Acceptor_slotAt.ps S_impl_Acceptor_slotAt.rs x = p_impl_Acceptor_slotAt n x := by kernel_rfl
theorem ok_impl_Acceptor_slotAt : EnvOK Try.prog G_impl_Acceptor_slotAt := envOK_cons hm hT ok_impl_firstOf Try.func120 (by kernel_rfl) hBB fun x r hr => ⟨FU, (e_impl_Acceptor_slotAt FU x).trans hr⟩
theorem e_slices_Clone_impl_Vote_impl_Vote (n : Nat) (x) : afun G_impl_Acceptor_slotAt T BB 0 n Try.f84 a_slices_Clone_impl_Vote_impl_Vote S_slices_Clone_impl_Vote_impl_Vote.ps S_slices_Clone_impl_Vote_impl_Vote.rs x = p_slices_Clone_impl_Vote_impl_Vote n x := by kernel_rfl
theorem ok_slices_Clone_impl_Vote_impl_Vote : EnvOK Try.prog G_slices_Clone_impl_Vote_impl_Vote := envOK_cons hm hT ok_impl_Acceptor_slotAt Try.func84 (by kernel_rfl) hBB fun x r hr => ⟨FU, (e_slices_Clone_impl_Vote_impl_Vote FU x).trans hr⟩
theorem e_impl_copySlot (n : Nat) (x) : afun G_slices_Clone_impl_Vote_impl_Vote T BB 0 n Try.f119 a_impl_copySlot S_impl_copySlot.ps S_impl_copySlot.rs x = p_impl_copySlot n x := by kernel_rfl
theorem ok_impl_copySlot : EnvOK Try.prog G_impl_copySlot := envOK_cons hm hT ok_slices_Clone_impl_Vote_impl_Vote Try.func119 (by kernel_rfl) hBB fun x r hr => ⟨FU, (e_impl_copySlot FU x).trans hr⟩
theorem e_impl_Acceptor_slot (n : Nat) (x) : afun G_impl_copySlot T BB 0 n Try.f78 a_impl_Acceptor_slot S_impl_Acceptor_slot.ps S_impl_Acceptor_slot.rs x = p_impl_Acceptor_slot n x := by kernel_rfl
theorem ok_impl_Acceptor_slot : EnvOK Try.prog G_impl_Acceptor_slot := envOK_cons hm hT ok_impl_copySlot Try.func78 (by kernel_rfl) hBB fun x r hr => ⟨FU, (e_impl_Acceptor_slot FU x).trans hr⟩
theorem e_impl_slotsFor (n : Nat) (x) : afun G_impl_Acceptor_slot T BB 0 n Try.f39 a_impl_slotsFor S_impl_slotsFor.ps S_impl_slotsFor.rs x = p_impl_slotsFor n x := by kernel_rfl
theorem ok_impl_slotsFor : EnvOK Try.prog G_impl_slotsFor := envOK_cons hm hT ok_impl_Acceptor_slot Try.func39 (by kernel_rfl) hBB fun x r hr => ⟨FU, (e_impl_slotsFor FU x).trans hr⟩
theorem e_impl_SlotsFor (n : Nat) (x) : afun G_impl_slotsFor T BB 0 n Try.f10 a_impl_SlotsFor S_impl_SlotsFor.ps S_impl_SlotsFor.rs x = p_impl_SlotsFor n x := by kernel_rfl
theorem ok_impl_SlotsFor : EnvOK Try.prog G_impl_SlotsFor := envOK_cons hm hT ok_impl_slotsFor Try.func10 (by kernel_rfl) hBB fun x r hr => ⟨FU, (e_impl_SlotsFor FU x).trans hr⟩
theorem e_impl_size_impl_Slot (n : Nat) (x) : afun G_impl_SlotsFor T BB 0 n Try.f80 a_impl_size_impl_Slot S_impl_size_impl_Slot.ps S_impl_size_impl_Slot.rs x = p_impl_size_impl_Slot n x := by kernel_rfl
theorem ok_impl_size_impl_Slot : EnvOK Try.prog G_impl_size_impl_Slot := envOK_cons hm hT ok_impl_SlotsFor Try.func80 (by kernel_rfl) hBB fun x r hr => ⟨FU, (e_impl_size_impl_Slot FU x).trans hr⟩
theorem e_impl_slotsFault (n : Nat) (x) : afun G_impl_size_impl_Slot T BB 3 n Try.f41 a_impl_slotsFault S_impl_slotsFault.ps S_impl_slotsFault.rs x = p_impl_slotsFault n x := by kernel_rfl
theorem ok_impl_slotsFault : EnvOK Try.prog G_impl_slotsFault := envOK_cons hm hT ok_impl_size_impl_Slot Try.func41 (by kernel_rfl) hBB fun x r hr => ⟨FU, (e_impl_slotsFault FU x).trans hr⟩
theorem e_slices_Compact_impl_Vote_impl_Vote (n : Nat) (x) : afun G_impl_slotsFault T BB 0 n Try.f83 a_slices_Compact_impl_Vote_impl_Vote S_slices_Compact_impl_Vote_impl_Vote.ps S_slices_Compact_impl_Vote_impl_Vote.rs x = p_slices_Compact_impl_Vote_impl_Vote n x := by kernel_rfl
theorem ok_slices_Compact_impl_Vote_impl_Vote : EnvOK Try.prog G_slices_Compact_impl_Vote_impl_Vote := envOK_cons hm hT ok_impl_slotsFault Try.func83 (by kernel_rfl) hBB fun x r hr => ⟨FU, (e_slices_Compact_impl_Vote_impl_Vote FU x).trans hr⟩
theorem e_impl_quorum (n : Nat) (x) : afun G_slices_Compact_impl_Vote_impl_Vote T BB 0 n Try.f36 a_impl_quorum S_impl_quorum.ps S_impl_quorum.rs x = p_impl_quorum n x := by kernel_rfl
theorem ok_impl_quorum : EnvOK Try.prog G_impl_quorum := envOK_cons hm hT ok_slices_Compact_impl_Vote_impl_Vote Try.func36 (by kernel_rfl) hBB fun x r hr => ⟨FU, (e_impl_quorum FU x).trans hr⟩
def ren_slices_SortFunc_impl_Vote_impl_Vote : Go.Shelf.Ren := ⟨fun n => if n = 6 then 85 else if n = 15 then 126 else if n = 14 then 125 else if n = 28 then 171 else if n = 29 then 172 else if n = 20 then 163 else if n = 21 then 164 else if n = 22 then 165 else if n = 23 then 166 else if n = 24 then 167 else if n = 25 then 168 else if n = 26 then 169 else if n = 27 then 170 else if n = 46 then 191 else if n = 47 then 192 else if n = 48 then 193 else if n = 49 then 194 else if n = 50 then 195 else if n = 57 then 204 else n, fun n => if n = 22 then 71 else if n = 24 then 70 else if n = 25 then 136 else if n = 3 then 3 else if n = 39 then 169 else if n = 0 then 0 else if n = 53 then 216 else if n = 55 then 218 else if n = 4 then 4 else if n = 46 then 210 else if n = 45 then 209 else if n = 50 then 161 else if n = 5 then 5 else if n = 9 then 9 else if n = 66 then 239 else if n = 70 then 243 else if n = 76 then 251 else if n = 77 then 252 else n, fun n => n⟩
theorem lays_slices_SortFunc_impl_Vote_impl_Vote : Go.Proofs.SlLaysF0.n6 Try.prog ren_slices_SortFunc_impl_Vote_impl_Vote where
  mixed := by kernel_rfl
  f6 := ⟨"slices.SortFunc[[]loop.example/g00203/impl.Vote,loop.example/g00203/impl.Vote]", by decide, Try.func85.trans (congrArg some (by kernel_rfl))⟩
  f14 := ⟨"slices.pdqsortCmpFunc[loop.example/g00203/impl.Vote]", by decide, Try.func125.trans (congrArg some (by kernel_rfl))⟩
  f15 := Try.func126.trans (congrArg some (by kernel_rfl))
  f20 := ⟨"slices.insertionSortCmpFunc[loop.example/g00203/impl.Vote]", by decide, Try.func163.trans (congrArg some (by kernel_rfl))⟩
  f21 := ⟨"slices.heapSortCmpFunc[loop.example/g00203/impl.Vote]", by decide, Try.func164.trans (congrArg some (by kernel_rfl))⟩
  f22 := ⟨"slices.breakPatternsCmpFunc[loop.example/g00203/impl.Vote]", by decide, Try.func165.trans (congrArg some (by kernel_rfl))⟩
  f23 := ⟨"slices.choosePivotCmpFunc[loop.example/g00203/impl.Vote]", by decide, Try.func166.trans (congrArg some (by kernel_rfl))⟩
  f24 := ⟨"slices.reverseRangeCmpFunc[loop.example/g00203/impl.Vote]", by decide, Try.func167.trans (congrArg some (by kernel_rfl))⟩
  f25 := ⟨"slices.partialInsertionSortCmpFunc[loop.example/g00203/impl.Vote]", by decide, Try.func168.trans (congrArg some (by kernel_rfl))⟩
  f26 := ⟨"slices.partitionEqualCmpFunc[loop.example/g00203/impl.Vote]", by decide, Try.func169.trans (congrArg some (by kernel_rfl))⟩
  f27 := ⟨"slices.partitionCmpFunc[loop.example/g00203/impl.Vote]", by decide, Try.func170.trans (congrArg some (by kernel_rfl))⟩
  f28 := Try.func171.trans (congrArg some (by kernel_rfl))
  f29 := Try.func172.trans (congrArg some (by kernel_rfl))
  f46 := ⟨"slices.siftDownCmpFunc[loop.example/g00203/impl.Vote]", by decide, Try.func191.trans (congrArg some (by kernel_rfl))⟩
  f47 := Try.func192.trans (congrArg some (by kernel_rfl))
  f48 := Try.func193.trans (congrArg some (by kernel_rfl))
  f49 := ⟨"slices.medianAdjacentCmpFunc[loop.example/g00203/impl.Vote]", by decide, Try.func194.trans (congrArg some (by kernel_rfl))⟩
  f50 := ⟨"slices.medianCmpFunc[loop.example/g00203/impl.Vote]", by decide, Try.func195.trans (congrArg some (by kernel_rfl))⟩
  f57 := ⟨"slices.order2CmpFunc[loop.example/g00203/impl.Vote]", by decide, Try.func204.trans (congrArg some (by kernel_rfl))⟩
  t0 := Try.underlying0
  a0 := Try.isAgg0
  z0 := Try.sizeOf0
  v0 := Try.zeroValue0
  t3 := Try.underlying3
  a3 := Try.isAgg3
  z3 := Try.sizeOf3
  v3 := Try.zeroValue3
  t4 := Try.underlying4
  a4 := Try.isAgg4
  z4 := Try.sizeOf4
  v4 := Try.zeroValue4
  t5 := Try.underlying5
  a5 := Try.isAgg5
  z5 := Try.sizeOf5
  v5 := Try.zeroValue5
  t9 := Try.underlying9
  a9 := Try.isAgg9
  z9 := Try.sizeOf9
  v9 := Try.zeroValue9
  t22 := Try.underlying71
  a22 := Try.isAgg71
  z22 := Try.sizeOf71
  v22 := Try.zeroValue71
  t25 := Try.underlying136
  a25 := Try.isAgg136
  z25 := Try.sizeOf136
  v25 := Try.zeroValue136
  t39 := Try.underlying169
  a39 := Try.isAgg169
  z39 := Try.sizeOf169
  v39 := Try.zeroValue169
  t45 := Try.underlying209
  a45 := Try.isAgg209
  z45 := Try.sizeOf209
  v45 := Try.zeroValue209
  t46 := Try.underlying210
  a46 := Try.isAgg210
  z46 := Try.sizeOf210
  v46 := Try.zeroValue210
  t50 := Try.underlying161
  a50 := Try.isAgg161
  z50 := Try.sizeOf161
  v50 := Try.zeroValue161
  t53 := Try.underlying216
  a53 := Try.isAgg216
  z53 := Try.sizeOf216
  v53 := Try.zeroValue216
  t55 := Try.underlying218
  a55 := Try.isAgg218
  z55 := Try.sizeOf218
  v55 := Try.zeroValue218
  t66 := Try.underlying239
  a66 := Try.isAgg239
  z66 := Try.sizeOf239
  v66 := Try.zeroValue239
  t70 := Try.underlying243
  a70 := Try.isAgg243
  z70 := Try.sizeOf243
  v70 := Try.zeroValue243
  t76 := Try.underlying251
  a76 := Try.isAgg251
  z76 := Try.sizeOf251
  v76 := Try.zeroValue251
  t77 := Try.underlying252
  a77 := Try.isAgg252
  z77 := Try.sizeOf252
  v77 := Try.zeroValue252
set_option maxHeartbeats 1000000 in
theorem closure_slices_SortFunc_impl_Vote_impl_Vote (W : World) (x y) (hx : okVote x = true) (hy : okVote y = true) : Calls Try.prog 86 #[.agg (encVote x).toArray, .agg (encVote y).toArray] W fun e w' => e = .returned (.int .i64 (cfVote x y)) ∧ ∃ q os', w' = Go.Sort.grow (W.drewN q) os' := by
  unfold encVote cfVote
  go_enter Try.func86, Try.ntmps86
  go_wp2_with fail
  go_ret
  exact ⟨by rw [IntWalk.i64_left]; rfl, 0, _, by rw [alloc_eq_grow, alloc_eq_grow, grow_grow]; rfl⟩
theorem sound_slices_SortFunc_impl_Vote_impl_Vote : Sound Try.prog 85 S_slices_SortFunc_impl_Vote_impl_Vote := sound_sort lays_slices_SortFunc_impl_Vote_impl_Vote rfl hencVote (by decide) (fun _ => rfl) (fun x v hv => by simp [encVote] at hv; rcases hv with rfl | rfl <;> rfl) Try.isAgg70 Try.sizeOf70 swoVote (enters_of Try.func86 (by kernel_rfl) rfl) closure_slices_SortFunc_impl_Vote_impl_Vote
theorem ok_slices_SortFunc_impl_Vote_impl_Vote : EnvOK Try.prog G_slices_SortFunc_impl_Vote_impl_Vote := envOK_sound ok_impl_quorum ⟨_, Try.func85, by kernel_rfl, by kernel_rfl⟩ sound_slices_SortFunc_impl_Vote_impl_Vote
theorem e_impl_chosen (n : Nat) (x) : afun G_slices_SortFunc_impl_Vote_impl_Vote T BB 0 n Try.f42 a_impl_chosen S_impl_chosen.ps S_impl_chosen.rs x = p_impl_chosen n x := by kernel_rfl
theorem ok_impl_chosen : EnvOK Try.prog G_impl_chosen := envOK_cons hm hT ok_slices_SortFunc_impl_Vote_impl_Vote Try.func42 (by kernel_rfl) hBB fun x r hr => ⟨FU, (e_impl_chosen FU x).trans hr⟩
theorem e_impl_ChosenIn (n : Nat) (x) : afun G_impl_chosen T BB 0 n Try.f40 a_impl_ChosenIn S_impl_ChosenIn.ps S_impl_ChosenIn.rs x = p_impl_ChosenIn n x := by kernel_rfl
theorem ok_impl_ChosenIn : EnvOK Try.prog G_impl_ChosenIn := envOK_cons hm hT ok_impl_chosen Try.func40 (by kernel_rfl) hBB fun x r hr => ⟨FU, (e_impl_ChosenIn FU x).trans hr⟩
theorem e_impl_ChosenAt (n : Nat) (x) : afun G_impl_ChosenIn T BB 0 n Try.f11 a_impl_ChosenAt S_impl_ChosenAt.ps S_impl_ChosenAt.rs x = p_impl_ChosenAt n x := by kernel_rfl
theorem ok_impl_ChosenAt : EnvOK Try.prog G_impl_ChosenAt := envOK_cons hm hT ok_impl_ChosenIn Try.func11 (by kernel_rfl) hBB fun x r hr => ⟨FU, (e_impl_ChosenAt FU x).trans hr⟩
theorem e_laws_eqIntResult (n : Nat) (x) : afun G_impl_ChosenAt T BB 0 n Try.f16 a_laws_eqIntResult S_laws_eqIntResult.ps S_laws_eqIntResult.rs x = p_laws_eqIntResult n x := by kernel_rfl
theorem ok_laws_eqIntResult : EnvOK Try.prog G_laws_eqIntResult := envOK_cons hm hT ok_impl_ChosenAt Try.func16 (by kernel_rfl) hBB fun x r hr => ⟨FU, (e_laws_eqIntResult FU x).trans hr⟩
theorem e_laws_eqVote (n : Nat) (x) : afun G_laws_eqIntResult T BB 0 n Try.f179 a_laws_eqVote S_laws_eqVote.ps S_laws_eqVote.rs x = p_laws_eqVote n x := by kernel_rfl
theorem ok_laws_eqVote : EnvOK Try.prog G_laws_eqVote := envOK_cons hm hT ok_laws_eqIntResult Try.func179 (by kernel_rfl) hBB fun x r hr => ⟨FU, (e_laws_eqVote FU x).trans hr⟩
theorem e_laws_eqVoteS (n : Nat) (x) : afun G_laws_eqVote T BB 0 n Try.f180 a_laws_eqVoteS S_laws_eqVoteS.ps S_laws_eqVoteS.rs x = p_laws_eqVoteS n x := by kernel_rfl
theorem ok_laws_eqVoteS : EnvOK Try.prog G_laws_eqVoteS := envOK_cons hm hT ok_laws_eqVote Try.func180 (by kernel_rfl) hBB fun x r hr => ⟨FU, (e_laws_eqVoteS FU x).trans hr⟩
theorem e_laws_eqSlot (n : Nat) (x) : afun G_laws_eqVoteS T BB 0 n Try.f135 a_laws_eqSlot S_laws_eqSlot.ps S_laws_eqSlot.rs x = p_laws_eqSlot n x := by kernel_rfl
theorem ok_laws_eqSlot : EnvOK Try.prog G_laws_eqSlot := envOK_cons hm hT ok_laws_eqVoteS Try.func135 (by kernel_rfl) hBB fun x r hr => ⟨FU, (e_laws_eqSlot FU x).trans hr⟩
theorem e_laws_eqSlotS (n : Nat) (x) : afun G_laws_eqSlot T BB 0 n Try.f94 a_laws_eqSlotS S_laws_eqSlotS.ps S_laws_eqSlotS.rs x = p_laws_eqSlotS n x := by kernel_rfl
theorem ok_laws_eqSlotS : EnvOK Try.prog G_laws_eqSlotS := envOK_cons hm hT ok_laws_eqSlot Try.func94 (by kernel_rfl) hBB fun x r hr => ⟨FU, (e_laws_eqSlotS FU x).trans hr⟩
theorem e_laws_eqAcceptor (n : Nat) (x) : afun G_laws_eqSlotS T BB 0 n Try.f49 a_laws_eqAcceptor S_laws_eqAcceptor.ps S_laws_eqAcceptor.rs x = p_laws_eqAcceptor n x := by kernel_rfl
theorem ok_laws_eqAcceptor : EnvOK Try.prog G_laws_eqAcceptor := envOK_cons hm hT ok_laws_eqSlotS Try.func49 (by kernel_rfl) hBB fun x r hr => ⟨FU, (e_laws_eqAcceptor FU x).trans hr⟩
theorem e_laws_eqAcceptorS (n : Nat) (x) : afun G_laws_eqAcceptor T BB 0 n Try.f17 a_laws_eqAcceptorS S_laws_eqAcceptorS.ps S_laws_eqAcceptorS.rs x = p_laws_eqAcceptorS n x := by kernel_rfl
theorem ok_laws_eqAcceptorS : EnvOK Try.prog G_laws_eqAcceptorS := envOK_cons hm hT ok_laws_eqAcceptor Try.func17 (by kernel_rfl) hBB fun x r hr => ⟨FU, (e_laws_eqAcceptorS FU x).trans hr⟩
theorem e_laws_FnExactChosenAt (n : Nat) (x) : afun G_laws_eqAcceptorS T BB 0 n Try.f4 a_laws_FnExactChosenAt S_laws_FnExactChosenAt.ps S_laws_FnExactChosenAt.rs x = p_laws_FnExactChosenAt n x := by kernel_rfl
theorem ok_laws_FnExactChosenAt : EnvOK Try.prog G_laws_FnExactChosenAt := envOK_cons hm hT ok_laws_eqAcceptorS Try.func4 (by kernel_rfl) hBB fun x r hr => ⟨FU, (e_laws_FnExactChosenAt FU x).trans hr⟩
end Go.RvP
