/- Each function of the program is as its plain function says, for FnExactRunBallot. No condition. -/
import Derived.Test.YtccghpomkikjoaaGreatRvP3
import Derived.Test.YtccghpomkikjoaaGreatProg
import Derived.KernelRfl
import Derived.WalkKit
import Derived.Shelf.RegionOpenPlain
namespace Go.RvP
open Go Go.Rv Go.Proofs Go.Shelf Go.RowKit Go.Lib
set_option maxRecDepth 100000
theorem hm : Tryz.prog.follows .mixedOrders = true := by kernel_rfl
theorem hT : TabOK Tryz.prog T := tabOK_of (by kernel_rfl)
noncomputable def BB : Bodies := [(21, Tryz.f21), (165, Tryz.f165), (166, Tryz.f166), (168, Tryz.f168), (169, Tryz.f169), (171, Tryz.f171), (175, Tryz.f175), (251, Tryz.f251), (255, Tryz.f255), (260, Tryz.f260), (307, Tryz.f307)]
theorem hBB : BodyOK Tryz.prog BB := (bodyOK_cons Tryz.func21 (by kernel_rfl) (bodyOK_cons Tryz.func165 (by kernel_rfl) (bodyOK_cons Tryz.func166 (by kernel_rfl) (bodyOK_cons Tryz.func168 (by kernel_rfl) (bodyOK_cons Tryz.func169 (by kernel_rfl) (bodyOK_cons Tryz.func171 (by kernel_rfl) (bodyOK_cons Tryz.func175 (by kernel_rfl) (bodyOK_cons Tryz.func251 (by kernel_rfl) (bodyOK_cons Tryz.func255 (by kernel_rfl) (bodyOK_cons Tryz.func260 (by kernel_rfl) (bodyOK_cons Tryz.func307 (by kernel_rfl) bodyOK_nil)))))))))))
theorem e_laws_szVoteS (n : Nat) (x) : afun [] T BB 0 n Tryz.f301 a_laws_szVoteS S_laws_szVoteS.ps S_laws_szVoteS.rs x = p_laws_szVoteS n x := by kernel_rfl
theorem ok_laws_szVoteS : EnvOK Tryz.prog G_laws_szVoteS := envOK_cons hm hT envOK_nil Tryz.func301 (by kernel_rfl) hBB fun x r hr => ⟨FU, (e_laws_szVoteS FU x).trans hr⟩
theorem e_laws_szSlot (n : Nat) (x) : afun G_laws_szVoteS T BB 0 n Tryz.f247 a_laws_szSlot S_laws_szSlot.ps S_laws_szSlot.rs x = p_laws_szSlot n x := by kernel_rfl
theorem ok_laws_szSlot : EnvOK Tryz.prog G_laws_szSlot := envOK_cons hm hT ok_laws_szVoteS Tryz.func247 (by kernel_rfl) hBB fun x r hr => ⟨FU, (e_laws_szSlot FU x).trans hr⟩
theorem e_laws_szSlotS (n : Nat) (x) : afun G_laws_szSlot T BB 0 n Tryz.f151 a_laws_szSlotS S_laws_szSlotS.ps S_laws_szSlotS.rs x = p_laws_szSlotS n x := by kernel_rfl
theorem ok_laws_szSlotS : EnvOK Tryz.prog G_laws_szSlotS := envOK_cons hm hT ok_laws_szSlot Tryz.func151 (by kernel_rfl) hBB fun x r hr => ⟨FU, (e_laws_szSlotS FU x).trans hr⟩
theorem e_laws_szAcceptor (n : Nat) (x) : afun G_laws_szSlotS T BB 0 n Tryz.f59 a_laws_szAcceptor S_laws_szAcceptor.ps S_laws_szAcceptor.rs x = p_laws_szAcceptor n x := by kernel_rfl
theorem ok_laws_szAcceptor : EnvOK Tryz.prog G_laws_szAcceptor := envOK_cons hm hT ok_laws_szSlotS Tryz.func59 (by kernel_rfl) hBB fun x r hr => ⟨FU, (e_laws_szAcceptor FU x).trans hr⟩
theorem e_laws_szAcceptorS (n : Nat) (x) : afun G_laws_szAcceptor T BB 0 n Tryz.f11 a_laws_szAcceptorS S_laws_szAcceptorS.ps S_laws_szAcceptorS.rs x = p_laws_szAcceptorS n x := by kernel_rfl
theorem ok_laws_szAcceptorS : EnvOK Tryz.prog G_laws_szAcceptorS := envOK_cons hm hT ok_laws_szAcceptor Tryz.func11 (by kernel_rfl) hBB fun x r hr => ⟨FU, (e_laws_szAcceptorS FU x).trans hr⟩
theorem e_laws_toVote (n : Nat) (x) : afun G_laws_szAcceptorS T BB 0 n Tryz.f105 a_laws_toVote S_laws_toVote.ps S_laws_toVote.rs x = p_laws_toVote n x := by kernel_rfl
theorem ok_laws_toVote : EnvOK Tryz.prog G_laws_toVote := envOK_cons hm hT ok_laws_szAcceptorS Tryz.func105 (by kernel_rfl) hBB fun x r hr => ⟨FU, (e_laws_toVote FU x).trans hr⟩
theorem e_laws_toVoteS (n : Nat) (x) : afun G_laws_toVote T BB 0 n Tryz.f303 a_laws_toVoteS S_laws_toVoteS.ps S_laws_toVoteS.rs x = p_laws_toVoteS n x := by kernel_rfl
theorem ok_laws_toVoteS : EnvOK Tryz.prog G_laws_toVoteS := envOK_cons hm hT ok_laws_toVote Tryz.func303 (by kernel_rfl) hBB fun x r hr => ⟨FU, (e_laws_toVoteS FU x).trans hr⟩
theorem e_laws_toSlot (n : Nat) (x) : afun G_laws_toVoteS T BB 0 n Tryz.f252 a_laws_toSlot S_laws_toSlot.ps S_laws_toSlot.rs x = p_laws_toSlot n x := by kernel_rfl
theorem ok_laws_toSlot : EnvOK Tryz.prog G_laws_toSlot := envOK_cons hm hT ok_laws_toVoteS Tryz.func252 (by kernel_rfl) hBB fun x r hr => ⟨FU, (e_laws_toSlot FU x).trans hr⟩
theorem e_laws_toSlotS (n : Nat) (x) : afun G_laws_toSlot T BB 0 n Tryz.f161 a_laws_toSlotS S_laws_toSlotS.ps S_laws_toSlotS.rs x = p_laws_toSlotS n x := by kernel_rfl
theorem ok_laws_toSlotS : EnvOK Tryz.prog G_laws_toSlotS := envOK_cons hm hT ok_laws_toSlot Tryz.func161 (by kernel_rfl) hBB fun x r hr => ⟨FU, (e_laws_toSlotS FU x).trans hr⟩
theorem e_laws_toAcceptor (n : Nat) (x) : afun G_laws_toSlotS T BB 0 n Tryz.f69 a_laws_toAcceptor S_laws_toAcceptor.ps S_laws_toAcceptor.rs x = p_laws_toAcceptor n x := by kernel_rfl
theorem ok_laws_toAcceptor : EnvOK Tryz.prog G_laws_toAcceptor := envOK_cons hm hT ok_laws_toSlotS Tryz.func69 (by kernel_rfl) hBB fun x r hr => ⟨FU, (e_laws_toAcceptor FU x).trans hr⟩
theorem e_laws_toAcceptorS (n : Nat) (x) : afun G_laws_toAcceptor T BB 0 n Tryz.f13 a_laws_toAcceptorS S_laws_toAcceptorS.ps S_laws_toAcceptorS.rs x = p_laws_toAcceptorS n x := by kernel_rfl
theorem ok_laws_toAcceptorS : EnvOK Tryz.prog G_laws_toAcceptorS := envOK_cons hm hT ok_laws_toAcceptor Tryz.func13 (by kernel_rfl) hBB fun x r hr => ⟨FU, (e_laws_toAcceptorS FU x).trans hr⟩
theorem e_laws_toInt64S (n : Nat) (x) : afun G_laws_toAcceptorS T BB 0 n Tryz.f14 a_laws_toInt64S S_laws_toInt64S.ps S_laws_toInt64S.rs x = p_laws_toInt64S n x := by kernel_rfl
theorem ok_laws_toInt64S : EnvOK Tryz.prog G_laws_toInt64S := envOK_cons hm hT ok_laws_toAcceptorS Tryz.func14 (by kernel_rfl) hBB fun x r hr => ⟨FU, (e_laws_toInt64S FU x).trans hr⟩
theorem e_spec_l1In (n : Nat) (x) : afun G_laws_toInt64S T BB 0 n Tryz.f63 a_spec_l1In S_spec_l1In.ps S_spec_l1In.rs x = p_spec_l1In n x := by kernel_rfl
theorem ok_spec_l1In : EnvOK Tryz.prog G_spec_l1In := envOK_cons hm hT ok_laws_toInt64S Tryz.func63 (by kernel_rfl) hBB fun x r hr => ⟨FU, (e_spec_l1In FU x).trans hr⟩
theorem e_spec_l1Id (n : Nat) (x) : afun G_spec_l1In T BB 0 n Tryz.f181 a_spec_l1Id S_spec_l1Id.ps S_spec_l1Id.rs x = p_spec_l1Id n x := by kernel_rfl
theorem ok_spec_l1Id : EnvOK Tryz.prog G_spec_l1Id := envOK_cons hm hT ok_spec_l1In Tryz.func181 (by kernel_rfl) hBB fun x r hr => ⟨FU, (e_spec_l1Id FU x).trans hr⟩
theorem e_spec_l8Ballot (n : Nat) (x) : afun G_spec_l1Id T BB 0 n Tryz.f61 a_spec_l8Ballot S_spec_l8Ballot.ps S_spec_l8Ballot.rs x = p_spec_l8Ballot n x := by kernel_rfl
theorem ok_spec_l8Ballot : EnvOK Tryz.prog G_spec_l8Ballot := envOK_cons hm hT ok_spec_l1Id Tryz.func61 (by kernel_rfl) hBB fun x r hr => ⟨FU, (e_spec_l8Ballot FU x).trans hr⟩
theorem e_spec_l8Value (n : Nat) (x) : afun G_spec_l8Ballot T BB 0 n Tryz.f62 a_spec_l8Value S_spec_l8Value.ps S_spec_l8Value.rs x = p_spec_l8Value n x := by kernel_rfl
theorem ok_spec_l8Value : EnvOK Tryz.prog G_spec_l8Value := envOK_cons hm hT ok_spec_l8Ballot Tryz.func62 (by kernel_rfl) hBB fun x r hr => ⟨FU, (e_spec_l8Value FU x).trans hr⟩
theorem e_spec_l8None (n : Nat) (x) : afun G_spec_l8Value T BB 0 n Tryz.f159 a_spec_l8None S_spec_l8None.ps S_spec_l8None.rs x = p_spec_l8None n x := by kernel_rfl
theorem ok_spec_l8None : EnvOK Tryz.prog G_spec_l8None := envOK_cons hm hT ok_spec_l8Value Tryz.func159 (by kernel_rfl) hBB fun x r hr => ⟨FU, (e_spec_l8None FU x).trans hr⟩
theorem e_spec_l8Last (n : Nat) (x) : afun G_spec_l8None T BB 0 n Tryz.f302 a_spec_l8Last S_spec_l8Last.ps S_spec_l8Last.rs x = p_spec_l8Last n x := by kernel_rfl
theorem ok_spec_l8Last : EnvOK Tryz.prog G_spec_l8Last := envOK_cons hm hT ok_spec_l8None Tryz.func302 (by kernel_rfl) hBB fun x r hr => ⟨FU, (e_spec_l8Last FU x).trans hr⟩
theorem e_spec_SlotFault (n : Nat) (x) : afun G_spec_l8Last T BB 0 n Tryz.f250 a_spec_SlotFault S_spec_SlotFault.ps S_spec_SlotFault.rs x = p_spec_SlotFault n x := by kernel_rfl
theorem ok_spec_SlotFault : EnvOK Tryz.prog G_spec_SlotFault := envOK_cons hm hT ok_spec_l8Last Tryz.func250 (by kernel_rfl) hBB fun x r hr => ⟨FU, (e_spec_SlotFault FU x).trans hr⟩
theorem e_spec_l9Ahead (n : Nat) (x) : afun G_spec_SlotFault T BB 0 n Tryz.f263 a_spec_l9Ahead S_spec_l9Ahead.ps S_spec_l9Ahead.rs x = p_spec_l9Ahead n x := by kernel_rfl
theorem ok_spec_l9Ahead : EnvOK Tryz.prog G_spec_l9Ahead := envOK_cons hm hT ok_spec_SlotFault Tryz.func263 (by kernel_rfl) hBB fun x r hr => ⟨FU, (e_spec_l9Ahead FU x).trans hr⟩
theorem e_spec_AcceptorFault (n : Nat) (x) : afun G_spec_l9Ahead T BB 0 n Tryz.f180 a_spec_AcceptorFault S_spec_AcceptorFault.ps S_spec_AcceptorFault.rs x = p_spec_AcceptorFault n x := by kernel_rfl
theorem ok_spec_AcceptorFault : EnvOK Tryz.prog G_spec_AcceptorFault := envOK_cons hm hT ok_spec_l9Ahead Tryz.func180 (by kernel_rfl) hBB fun x r hr => ⟨FU, (e_spec_AcceptorFault FU x).trans hr⟩
theorem e_spec_l9List (n : Nat) (x) : afun G_spec_AcceptorFault T BB 0 n Tryz.f86 a_spec_l9List S_spec_l9List.ps S_spec_l9List.rs x = p_spec_l9List n x := by kernel_rfl
theorem ok_spec_l9List : EnvOK Tryz.prog G_spec_l9List := envOK_cons hm hT ok_spec_AcceptorFault Tryz.func86 (by kernel_rfl) hBB fun x r hr => ⟨FU, (e_spec_l9List FU x).trans hr⟩
theorem e_spec_NewSlot (n : Nat) (x) : afun G_spec_l9List T BB 0 n Tryz.f152 a_spec_NewSlot S_spec_NewSlot.ps S_spec_NewSlot.rs x = p_spec_NewSlot n x := by kernel_rfl
theorem ok_spec_NewSlot : EnvOK Tryz.prog G_spec_NewSlot := envOK_cons hm hT ok_spec_l9List Tryz.func152 (by kernel_rfl) hBB fun x r hr => ⟨FU, (e_spec_NewSlot FU x).trans hr⟩
theorem e_spec_l8Copy (n : Nat) (x) : afun G_spec_NewSlot T BB 0 n Tryz.f248 a_spec_l8Copy S_spec_l8Copy.ps S_spec_l8Copy.rs x = p_spec_l8Copy n x := by kernel_rfl
theorem ok_spec_l8Copy : EnvOK Tryz.prog G_spec_l8Copy := envOK_cons hm hT ok_spec_NewSlot Tryz.func248 (by kernel_rfl) hBB fun x r hr => ⟨FU, (e_spec_l8Copy FU x).trans hr⟩
theorem e_spec_l9Slot (n : Nat) (x) : afun G_spec_l8Copy T BB 0 n Tryz.f158 a_spec_l9Slot S_spec_l9Slot.ps S_spec_l9Slot.rs x = p_spec_l9Slot n x := by kernel_rfl
theorem ok_spec_l9Slot : EnvOK Tryz.prog G_spec_l9Slot := envOK_cons hm hT ok_spec_l8Copy Tryz.func158 (by kernel_rfl) hBB fun x r hr => ⟨FU, (e_spec_l9Slot FU x).trans hr⟩
theorem e_spec_l9Slots (n : Nat) (x) : afun G_spec_l9Slot T BB 0 n Tryz.f153 a_spec_l9Slots S_spec_l9Slots.ps S_spec_l9Slots.rs x = p_spec_l9Slots n x := by kernel_rfl
theorem ok_spec_l9Slots : EnvOK Tryz.prog G_spec_l9Slots := envOK_cons hm hT ok_spec_l9Slot Tryz.func153 (by kernel_rfl) hBB fun x r hr => ⟨FU, (e_spec_l9Slots FU x).trans hr⟩
theorem e_spec_SlotsFor (n : Nat) (x) : afun G_spec_l9Slots T BB 0 n Tryz.f60 a_spec_SlotsFor S_spec_SlotsFor.ps S_spec_SlotsFor.rs x = p_spec_SlotsFor n x := by kernel_rfl
theorem ok_spec_SlotsFor : EnvOK Tryz.prog G_spec_SlotsFor := envOK_cons hm hT ok_spec_l9Slots Tryz.func60 (by kernel_rfl) hBB fun x r hr => ⟨FU, (e_spec_SlotsFor FU x).trans hr⟩
theorem e_spec_l9Copy (n : Nat) (x) : afun G_spec_SlotsFor T BB 0 n Tryz.f154 a_spec_l9Copy S_spec_l9Copy.ps S_spec_l9Copy.rs x = p_spec_l9Copy n x := by kernel_rfl
theorem ok_spec_l9Copy : EnvOK Tryz.prog G_spec_l9Copy := envOK_cons hm hT ok_spec_SlotsFor Tryz.func154 (by kernel_rfl) hBB fun x r hr => ⟨FU, (e_spec_l9Copy FU x).trans hr⟩
theorem e_spec_l9All (n : Nat) (x) : afun G_spec_l9Copy T BB 0 n Tryz.f64 a_spec_l9All S_spec_l9All.ps S_spec_l9All.rs x = p_spec_l9All n x := by kernel_rfl
theorem ok_spec_l9All : EnvOK Tryz.prog G_spec_l9All := envOK_cons hm hT ok_spec_l9Copy Tryz.func64 (by kernel_rfl) hBB fun x r hr => ⟨FU, (e_spec_l9All FU x).trans hr⟩
theorem e_spec_l9Asked (n : Nat) (x) : afun G_spec_l9All T BB 0 n Tryz.f155 a_spec_l9Asked S_spec_l9Asked.ps S_spec_l9Asked.rs x = p_spec_l9Asked n x := by kernel_rfl
theorem ok_spec_l9Asked : EnvOK Tryz.prog G_spec_l9Asked := envOK_cons hm hT ok_spec_l9All Tryz.func155 (by kernel_rfl) hBB fun x r hr => ⟨FU, (e_spec_l9Asked FU x).trans hr⟩
theorem e_spec_PromiseSlot (n : Nat) (x) : afun G_spec_l9Asked T BB 0 n Tryz.f157 a_spec_PromiseSlot S_spec_PromiseSlot.ps S_spec_PromiseSlot.rs x = p_spec_PromiseSlot n x := by kernel_rfl
theorem ok_spec_PromiseSlot : EnvOK Tryz.prog G_spec_PromiseSlot := envOK_cons hm hT ok_spec_l9Asked Tryz.func157 (by kernel_rfl) hBB fun x r hr => ⟨FU, (e_spec_PromiseSlot FU x).trans hr⟩
theorem e_spec_l9Set (n : Nat) (x) : afun G_spec_PromiseSlot T BB 0 n Tryz.f249 a_spec_l9Set S_spec_l9Set.ps S_spec_l9Set.rs x = p_spec_l9Set n x := by kernel_rfl
theorem ok_spec_l9Set : EnvOK Tryz.prog G_spec_l9Set := envOK_cons hm hT ok_spec_PromiseSlot Tryz.func249 (by kernel_rfl) hBB fun x r hr => ⟨FU, (e_spec_l9Set FU x).trans hr⟩
theorem e_spec_l9Told (n : Nat) (x) : afun G_spec_l9Set T BB 0 n Tryz.f156 a_spec_l9Told S_spec_l9Told.ps S_spec_l9Told.rs x = p_spec_l9Told n x := by kernel_rfl
theorem ok_spec_l9Told : EnvOK Tryz.prog G_spec_l9Told := envOK_cons hm hT ok_spec_l9Set Tryz.func156 (by kernel_rfl) hBB fun x r hr => ⟨FU, (e_spec_l9Told FU x).trans hr⟩
theorem e_spec_PromiseAt (n : Nat) (x) : afun G_spec_l9Told T BB 0 n Tryz.f65 a_spec_PromiseAt S_spec_PromiseAt.ps S_spec_PromiseAt.rs x = p_spec_PromiseAt n x := by kernel_rfl
theorem ok_spec_PromiseAt : EnvOK Tryz.prog G_spec_PromiseAt := envOK_cons hm hT ok_spec_l9Told Tryz.func65 (by kernel_rfl) hBB fun x r hr => ⟨FU, (e_spec_PromiseAt FU x).trans hr⟩
theorem e_spec_l8Quorum (n : Nat) (x) : afun G_spec_PromiseAt T BB 0 n Tryz.f66 a_spec_l8Quorum S_spec_l8Quorum.ps S_spec_l8Quorum.rs x = p_spec_l8Quorum n x := by kernel_rfl
theorem ok_spec_l8Quorum : EnvOK Tryz.prog G_spec_l8Quorum := envOK_cons hm hT ok_spec_PromiseAt Tryz.func66 (by kernel_rfl) hBB fun x r hr => ⟨FU, (e_spec_l8Quorum FU x).trans hr⟩
theorem e_spec_l8Pick (n : Nat) (x) : afun G_spec_l8Quorum T BB 0 n Tryz.f67 a_spec_l8Pick S_spec_l8Pick.ps S_spec_l8Pick.rs x = p_spec_l8Pick n x := by kernel_rfl
theorem ok_spec_l8Pick : EnvOK Tryz.prog G_spec_l8Pick := envOK_cons hm hT ok_spec_l8Quorum Tryz.func67 (by kernel_rfl) hBB fun x r hr => ⟨FU, (e_spec_l8Pick FU x).trans hr⟩
theorem e_spec_AcceptSlot (n : Nat) (x) : afun G_spec_l8Pick T BB 1 n Tryz.f160 a_spec_AcceptSlot S_spec_AcceptSlot.ps S_spec_AcceptSlot.rs x = p_spec_AcceptSlot n x := by kernel_rfl
theorem ok_spec_AcceptSlot : EnvOK Tryz.prog G_spec_AcceptSlot := envOK_cons hm hT ok_spec_l8Pick Tryz.func160 (by kernel_rfl) hBB fun x r hr => ⟨FU, (e_spec_AcceptSlot FU x).trans hr⟩
theorem e_spec_AcceptAt (n : Nat) (x) : afun G_spec_AcceptSlot T BB 0 n Tryz.f68 a_spec_AcceptAt S_spec_AcceptAt.ps S_spec_AcceptAt.rs x = p_spec_AcceptAt n x := by kernel_rfl
theorem ok_spec_AcceptAt : EnvOK Tryz.prog G_spec_AcceptAt := envOK_cons hm hT ok_spec_AcceptSlot Tryz.func68 (by kernel_rfl) hBB fun x r hr => ⟨FU, (e_spec_AcceptAt FU x).trans hr⟩
theorem e_spec_RunBallot (n : Nat) (x) : afun G_spec_AcceptAt T BB 0 n Tryz.f12 a_spec_RunBallot S_spec_RunBallot.ps S_spec_RunBallot.rs x = p_spec_RunBallot n x := by kernel_rfl
theorem ok_spec_RunBallot : EnvOK Tryz.prog G_spec_RunBallot := envOK_cons hm hT ok_spec_AcceptAt Tryz.func12 (by kernel_rfl) hBB fun x r hr => ⟨FU, (e_spec_RunBallot FU x).trans hr⟩
theorem e_impl_size_impl_Acceptor (n : Nat) (x) : afun G_spec_RunBallot T BB 0 n Tryz.f76 a_impl_size_impl_Acceptor S_impl_size_impl_Acceptor.ps S_impl_size_impl_Acceptor.rs x = p_impl_size_impl_Acceptor n x := by kernel_rfl
theorem ok_impl_size_impl_Acceptor : EnvOK Tryz.prog G_impl_size_impl_Acceptor := envOK_cons hm hT ok_spec_RunBallot Tryz.func76 (by kernel_rfl) hBB fun x r hr => ⟨FU, (e_impl_size_impl_Acceptor FU x).trans hr⟩
theorem e_impl_within (n : Nat) (x) : afun G_impl_size_impl_Acceptor T BB 0 n Tryz.f106 a_impl_within S_impl_within.ps S_impl_within.rs x = p_impl_within n x := by kernel_rfl
theorem ok_impl_within : EnvOK Tryz.prog G_impl_within := envOK_cons hm hT ok_impl_size_impl_Acceptor Tryz.func106 (by kernel_rfl) hBB fun x r hr => ⟨FU, (e_impl_within FU x).trans hr⟩
theorem e_impl_isId (n : Nat) (x) : afun G_impl_within T BB 0 n Tryz.f163 a_impl_isId S_impl_isId.ps S_impl_isId.rs x = p_impl_isId n x := by kernel_rfl
theorem ok_impl_isId : EnvOK Tryz.prog G_impl_isId := envOK_cons hm hT ok_impl_within Tryz.func163 (by kernel_rfl) hBB fun x r hr => ⟨FU, (e_impl_isId FU x).trans hr⟩
theorem e_impl_isShard (n : Nat) (x) : afun G_impl_isId T BB 0 n Tryz.f124 a_impl_isShard S_impl_isShard.ps S_impl_isShard.rs x = p_impl_isShard n x := by kernel_rfl
theorem ok_impl_isShard : EnvOK Tryz.prog G_impl_isShard := envOK_cons hm hT ok_impl_isId Tryz.func124 (by kernel_rfl) hBB fun x r hr => ⟨FU, (e_impl_isShard FU x).trans hr⟩
theorem e_impl_isBallot (n : Nat) (x) : afun G_impl_isShard T BB 0 n Tryz.f73 a_impl_isBallot S_impl_isBallot.ps S_impl_isBallot.rs x = p_impl_isBallot n x := by kernel_rfl
theorem ok_impl_isBallot : EnvOK Tryz.prog G_impl_isBallot := envOK_cons hm hT ok_impl_isShard Tryz.func73 (by kernel_rfl) hBB fun x r hr => ⟨FU, (e_impl_isBallot FU x).trans hr⟩
theorem e_impl_isValue (n : Nat) (x) : afun G_impl_isBallot T BB 0 n Tryz.f74 a_impl_isValue S_impl_isValue.ps S_impl_isValue.rs x = p_impl_isValue n x := by kernel_rfl
theorem ok_impl_isValue : EnvOK Tryz.prog G_impl_isValue := envOK_cons hm hT ok_impl_isBallot Tryz.func74 (by kernel_rfl) hBB fun x r hr => ⟨FU, (e_impl_isValue FU x).trans hr⟩
theorem e_impl_isVote (n : Nat) (x) : afun G_impl_isValue T BB 0 n Tryz.f174 a_impl_isVote S_impl_isVote.ps S_impl_isVote.rs x = p_impl_isVote n x := by kernel_rfl
theorem ok_impl_isVote : EnvOK Tryz.prog G_impl_isVote := envOK_cons hm hT ok_impl_isValue Tryz.func174 (by kernel_rfl) hBB fun x r hr => ⟨FU, (e_impl_isVote FU x).trans hr⟩
theorem e_impl_castFault (n : Nat) (x) : afun G_impl_isVote T BB 0 n Tryz.f304 a_impl_castFault S_impl_castFault.ps S_impl_castFault.rs x = p_impl_castFault n x := by kernel_rfl
theorem ok_impl_castFault : EnvOK Tryz.prog G_impl_castFault := envOK_cons hm hT ok_impl_isVote Tryz.func304 (by kernel_rfl) hBB fun x r hr => ⟨FU, (e_impl_castFault FU x).trans hr⟩
theorem e_impl_noVote (n : Nat) (x) : afun G_impl_castFault T BB 0 n Tryz.f173 a_impl_noVote S_impl_noVote.ps S_impl_noVote.rs x = p_impl_noVote n x := by kernel_rfl
theorem ok_impl_noVote : EnvOK Tryz.prog G_impl_noVote := envOK_cons hm hT ok_impl_castFault Tryz.func173 (by kernel_rfl) hBB fun x r hr => ⟨FU, (e_impl_noVote FU x).trans hr⟩
theorem e_impl_lastCast (n : Nat) (x) : afun G_impl_noVote T BB 0 n Tryz.f305 a_impl_lastCast S_impl_lastCast.ps S_impl_lastCast.rs x = p_impl_lastCast n x := by kernel_rfl
theorem ok_impl_lastCast : EnvOK Tryz.prog G_impl_lastCast := envOK_cons hm hT ok_impl_noVote Tryz.func305 (by kernel_rfl) hBB fun x r hr => ⟨FU, (e_impl_lastCast FU x).trans hr⟩
theorem e_impl_SlotFault (n : Nat) (x) : afun G_impl_lastCast T BB 0 n Tryz.f253 a_impl_SlotFault S_impl_SlotFault.ps S_impl_SlotFault.rs x = p_impl_SlotFault n x := by kernel_rfl
theorem ok_impl_SlotFault : EnvOK Tryz.prog G_impl_SlotFault := envOK_cons hm hT ok_impl_lastCast Tryz.func253 (by kernel_rfl) hBB fun x r hr => ⟨FU, (e_impl_SlotFault FU x).trans hr⟩
theorem e_cmp_isNaN_int64 (n : Nat) (x) : afun G_impl_SlotFault T BB 0 n Tryz.f334 a_cmp_isNaN_int64 S_cmp_isNaN_int64.ps S_cmp_isNaN_int64.rs x = p_cmp_isNaN_int64 n x := by kernel_rfl
theorem ok_cmp_isNaN_int64 : EnvOK Tryz.prog G_cmp_isNaN_int64 := envOK_cons hm hT ok_impl_SlotFault Tryz.func334 (by kernel_rfl) hBB fun x r hr => ⟨FU, (e_cmp_isNaN_int64 FU x).trans hr⟩
theorem e_cmp_Compare_int64 (n : Nat) (x) : afun G_cmp_isNaN_int64 T BB 0 n Tryz.f282 a_cmp_Compare_int64 S_cmp_Compare_int64.ps S_cmp_Compare_int64.rs x = p_cmp_Compare_int64 n x := by kernel_rfl
theorem ok_cmp_Compare_int64 : EnvOK Tryz.prog G_cmp_Compare_int64 := envOK_cons hm hT ok_cmp_isNaN_int64 Tryz.func282 (by kernel_rfl) hBB fun x r hr => ⟨FU, (e_cmp_Compare_int64 FU x).trans hr⟩
theorem e_cmp_Or_int (n : Nat) (x) : afun G_cmp_Compare_int64 T BB 0 n Tryz.f281 a_cmp_Or_int S_cmp_Or_int.ps S_cmp_Or_int.rs x = p_cmp_Or_int n x := by kernel_rfl
theorem ok_cmp_Or_int : EnvOK Tryz.prog G_cmp_Or_int := envOK_cons hm hT ok_cmp_Compare_int64 Tryz.func281 (by kernel_rfl) hBB fun x r hr => ⟨FU, (e_cmp_Or_int FU x).trans hr⟩
theorem e_impl_compareSlots (n : Nat) (x) : afun G_cmp_Or_int T BB 0 n Tryz.f254 a_impl_compareSlots S_impl_compareSlots.ps S_impl_compareSlots.rs x = p_impl_compareSlots n x := by kernel_rfl
theorem ok_impl_compareSlots : EnvOK Tryz.prog G_impl_compareSlots := envOK_cons hm hT ok_cmp_Or_int Tryz.func254 (by kernel_rfl) hBB fun x r hr => ⟨FU, (e_impl_compareSlots FU x).trans hr⟩
theorem e_impl_AcceptorFault (n : Nat) (x) : afun G_impl_compareSlots T BB 0 n Tryz.f162 a_impl_AcceptorFault S_impl_AcceptorFault.ps S_impl_AcceptorFault.rs x = p_impl_AcceptorFault n x := by kernel_rfl
theorem ok_impl_AcceptorFault : EnvOK Tryz.prog G_impl_AcceptorFault := envOK_cons hm hT ok_impl_compareSlots Tryz.func162 (by kernel_rfl) hBB fun x r hr => ⟨FU, (e_impl_AcceptorFault FU x).trans hr⟩
theorem e_impl_listFault (n : Nat) (x) : afun G_impl_AcceptorFault T BB 0 n Tryz.f71 a_impl_listFault S_impl_listFault.ps S_impl_listFault.rs x = p_impl_listFault n x := by kernel_rfl
theorem ok_impl_listFault : EnvOK Tryz.prog G_impl_listFault := envOK_cons hm hT ok_impl_AcceptorFault Tryz.func71 (by kernel_rfl) hBB fun x r hr => ⟨FU, (e_impl_listFault FU x).trans hr⟩
theorem e_impl_newSlot (n : Nat) (x) : afun G_impl_listFault T BB 0 n Tryz.f164 a_impl_newSlot S_impl_newSlot.ps S_impl_newSlot.rs x = p_impl_newSlot n x := by kernel_rfl
theorem ok_impl_newSlot : EnvOK Tryz.prog G_impl_newSlot := envOK_cons hm hT ok_impl_listFault Tryz.func164 (by kernel_rfl) hBB fun x r hr => ⟨FU, (e_impl_newSlot FU x).trans hr⟩
theorem e_impl_NewSlot (n : Nat) (x) : afun G_impl_newSlot T BB 0 n Tryz.f72 a_impl_NewSlot S_impl_NewSlot.ps S_impl_NewSlot.rs x = p_impl_NewSlot n x := by kernel_rfl
theorem ok_impl_NewSlot : EnvOK Tryz.prog G_impl_NewSlot := envOK_cons hm hT ok_impl_newSlot Tryz.func72 (by kernel_rfl) hBB fun x r hr => ⟨FU, (e_impl_NewSlot FU x).trans hr⟩
theorem e_impl_firstOf (n : Nat) (x) : afun G_impl_NewSlot T BB 0 n Tryz.f70 a_impl_firstOf S_impl_firstOf.ps S_impl_firstOf.rs x = p_impl_firstOf n x := by kernel_rfl
theorem ok_impl_firstOf : EnvOK Tryz.prog G_impl_firstOf := envOK_cons hm hT ok_impl_NewSlot Tryz.func70 (by kernel_rfl) hBB fun x r hr => ⟨FU, (e_impl_firstOf FU x).trans hr⟩
theorem e_impl_reachedFault (n : Nat) (x) : afun G_impl_firstOf T BB 3 n Tryz.f75 a_impl_reachedFault S_impl_reachedFault.ps S_impl_reachedFault.rs x = p_impl_reachedFault n x := by kernel_rfl
theorem ok_impl_reachedFault : EnvOK Tryz.prog G_impl_reachedFault := envOK_cons hm hT ok_impl_firstOf Tryz.func75 (by kernel_rfl) hBB fun x r hr => ⟨FU, (e_impl_reachedFault FU x).trans hr⟩
theorem e_slices_Clone_impl_Vote_impl_Vote (n : Nat) (x) : afun G_impl_reachedFault T BB 0 n Tryz.f306 a_slices_Clone_impl_Vote_impl_Vote S_slices_Clone_impl_Vote_impl_Vote.ps S_slices_Clone_impl_Vote_impl_Vote.rs x = p_slices_Clone_impl_Vote_impl_Vote n x := by kernel_rfl
theorem ok_slices_Clone_impl_Vote_impl_Vote : EnvOK Tryz.prog G_slices_Clone_impl_Vote_impl_Vote := envOK_cons hm hT ok_impl_reachedFault Tryz.func306 (by kernel_rfl) hBB fun x r hr => ⟨FU, (e_slices_Clone_impl_Vote_impl_Vote FU x).trans hr⟩
theorem e_impl_copySlot (n : Nat) (x) : afun G_slices_Clone_impl_Vote_impl_Vote T BB 0 n Tryz.f256 a_impl_copySlot S_impl_copySlot.ps S_impl_copySlot.rs x = p_impl_copySlot n x := by kernel_rfl
theorem ok_impl_copySlot : EnvOK Tryz.prog G_impl_copySlot := envOK_cons hm hT ok_slices_Clone_impl_Vote_impl_Vote Tryz.func256 (by kernel_rfl) hBB fun x r hr => ⟨FU, (e_impl_copySlot FU x).trans hr⟩
theorem e_impl_copyAcceptor (n : Nat) (x) : afun G_impl_copySlot T BB 0 n Tryz.f167 a_impl_copyAcceptor S_impl_copyAcceptor.ps S_impl_copyAcceptor.rs x = p_impl_copyAcceptor n x := by kernel_rfl
theorem ok_impl_copyAcceptor : EnvOK Tryz.prog G_impl_copyAcceptor := envOK_cons hm hT ok_impl_copySlot Tryz.func167 (by kernel_rfl) hBB fun x r hr => ⟨FU, (e_impl_copyAcceptor FU x).trans hr⟩
theorem e_impl_copyAcceptors (n : Nat) (x) : afun G_impl_copyAcceptor T BB 0 n Tryz.f77 a_impl_copyAcceptors S_impl_copyAcceptors.ps S_impl_copyAcceptors.rs x = p_impl_copyAcceptors n x := by kernel_rfl
theorem ok_impl_copyAcceptors : EnvOK Tryz.prog G_impl_copyAcceptors := envOK_cons hm hT ok_impl_copyAcceptor Tryz.func77 (by kernel_rfl) hBB fun x r hr => ⟨FU, (e_impl_copyAcceptors FU x).trans hr⟩
theorem e_impl_Acceptor_slotAt (n : Nat) (x) : afun G_impl_copyAcceptors T BB 1 n Tryz.f258 a_impl_Acceptor_slotAt S_impl_Acceptor_slotAt.ps S_impl_Acceptor_slotAt.rs x = p_impl_Acceptor_slotAt n x := by kernel_rfl
theorem ok_impl_Acceptor_slotAt : EnvOK Tryz.prog G_impl_Acceptor_slotAt := envOK_cons hm hT ok_impl_copyAcceptors Tryz.func258 (by kernel_rfl) hBB fun x r hr => ⟨FU, (e_impl_Acceptor_slotAt FU x).trans hr⟩
theorem e_impl_Acceptor_slot (n : Nat) (x) : afun G_impl_Acceptor_slotAt T BB 0 n Tryz.f257 a_impl_Acceptor_slot S_impl_Acceptor_slot.ps S_impl_Acceptor_slot.rs x = p_impl_Acceptor_slot n x := by kernel_rfl
theorem ok_impl_Acceptor_slot : EnvOK Tryz.prog G_impl_Acceptor_slot := envOK_cons hm hT ok_impl_Acceptor_slotAt Tryz.func257 (by kernel_rfl) hBB fun x r hr => ⟨FU, (e_impl_Acceptor_slot FU x).trans hr⟩
theorem e_impl_PromiseSlot (n : Nat) (x) : afun G_impl_Acceptor_slot T BB 0 n Tryz.f170 a_impl_PromiseSlot S_impl_PromiseSlot.ps S_impl_PromiseSlot.rs x = p_impl_PromiseSlot n x := by kernel_rfl
theorem ok_impl_PromiseSlot : EnvOK Tryz.prog G_impl_PromiseSlot := envOK_cons hm hT ok_impl_Acceptor_slot Tryz.func170 (by kernel_rfl) hBB fun x r hr => ⟨FU, (e_impl_PromiseSlot FU x).trans hr⟩
theorem info135_slices_Insert_impl_Slot_impl_Slot : ∃ i z, Tryz.prog.info? 135 = some i ∧ i.zero = some z ∧ i.size = 6 ∧ i.bytes = 64 ∧ z.cells.size = 6 := by
  have h : (Tryz.prog.info? 135).map (fun i => (i.size, i.bytes, i.zero.map fun z => z.cells.size)) = some (6, 64, some 6) := by kernel_rfl
  cases hi : Tryz.prog.info? 135 with
  | none => rw [hi] at h; cases h
  | some i =>
    rw [hi] at h
    simp only [Option.map_some, Option.some.injEq, Prod.mk.injEq] at h
    obtain ⟨h1, h2, h3⟩ := h
    cases hz : i.zero with
    | none => rw [hz] at h3; cases h3
    | some z =>
      rw [hz] at h3
      exact ⟨i, z, rfl, hz, h1, h2, by simpa using h3⟩
set_option maxHeartbeats 4000000 in
set_option maxRecDepth 100000 in
theorem ins_grow_slices_Insert_impl_Slot_impl_Slot (w : World) (b n i gv cv : Nat) (cur curv : Array Value) (fl vl : List Value) (hi : i < n) (hbig : (n + 1) * 64 ≤ 140737488355328) (hb : w.heap[b]? = some (.cells cur 135 (0, 0))) (hfl : cur.toList.take (n * 6) = fl) (hfs : fl.length = n * 6)
    (hv : w.heap[gv]? = some (.cells curv 135 (0, 0))) (hvl : curv.toList.take 6 = vl) (hvs : vl.length = 6) (h1c : ∀ v ∈ fl, v.oneCell' = true) (h1v : ∀ v ∈ vl, v.oneCell' = true) :
    Calls Tryz.prog 259 #[.slice (some ⟨b, 0, none⟩) n n, .int .i64 i, .slice (some ⟨gv, 0, none⟩) 1 cv] w fun e w' => ∃ G row, n + 1 ≤ G ∧ G ≤ maxLen ∧ e = .returned (.slice (some ⟨w.heap.size, 0, none⟩) (n + 1) G) ∧
      w'.os = w.os ∧ w'.tape = w.tape ∧ w'.output = w.output ∧ w'.heap = w.heap.push (.cells row 135 (0, 0)) ∧ row.size = G * 6 ∧ row.toList.take ((n + 1) * 6) = insC 6 i fl vl := by
  obtain ⟨i0, z, hi0, hz0, hzs, hzb, hzc⟩ := info135_slices_Insert_impl_Slot_impl_Slot
  have u63 := Tryz.underlying115
  have hsz : (Tryz.prog.info? 135).map (·.size) = some 6 := by rw [hi0]; simp [hzs]
  have hbl : b < w.heap.size := (Array.getElem?_eq_some_iff.1 hb).1
  have hvb : gv < w.heap.size := (Array.getElem?_eq_some_iff.1 hv).1
  have hz3 : (n : Int) < (n : Int) + 1 := by omega
  have hkk : (n : Int) + 1 - (i : Int) = ((n + 1 - i : Nat) : Int) := by omega
  have hik : i + (n + 1 - i) = n + 1 := by omega
  have hcell : ∀ (W : World), W.heap[b]? = w.heap[b]? → ∀ j v, fl[j]? = some v → W.cell? ⟨b, j, none⟩ = some v := fun W hW j v hj => by
    rw [← hfl, List.getElem?_take] at hj
    split at hj
    · simp only [World.cell?, hW, hb]
      rw [← Array.getElem?_toList]; exact hj
    · cases hj
  have hold : (Builtin.firstCells i0.size i (.slice (some ⟨b, 0, none⟩) i n)).run Tryz.prog w.drew = .ok (fl.take (i * 6)).toArray w.drew := by
    rw [hzs]
    exact run_firstCells_some w.drew 6 i ⟨b, 0, none⟩ i n (fl.take (i * 6)) (by rw [List.length_take]; omega) (fun j v hj => by
      rw [Addr.add_lit, Nat.zero_add]
      rw [List.getElem?_take] at hj
      split at hj
      · exact hcell w.drew rfl j v hj
      · cases hj)
  have hrz : ∀ ty, (Builtin.append_ #[115, 3] ty #[.slice (some ⟨b, 0, none⟩) i n, .int .i64 ((n : Int) + 1 - (i : Int))]).run Tryz.prog w =
      .ok (.slice (some ⟨w.heap.size, 0, none⟩) (n + 1) (grownCap w (n + 1) n 135)) (w.drew.alloc (.cells ((fl.take (i * 6)).toArray ++ Builtin.zeroCells z.cells (n + 1 - i) ++ Builtin.zeroCells z.cells (grownCap w (n + 1) n 135 - (n + 1))) 135)) := fun ty => by
    have h := Lib.run_append_grow_zeros (P := Tryz.prog) w 115 3 ty 135 i0 z .i64 .i64 Tryz.underlying115 Tryz.underlying3 hi0 hz0 (some ⟨b, 0, none⟩) i n (fl.take (i * 6)) hold (n + 1 - i) (by omega) (by omega) (by omega) (by omega) (by rw [hzb]; omega) (by rw [hzb, hik]; exact growslice_fits (by omega) hbig)
    rw [hik] at h
    rw [hkk]
    exact h
  obtain ⟨G, hG⟩ : ∃ G, G = grownCap w (n + 1) n 135 := ⟨_, rfl⟩
  rw [← hG] at hrz
  have hGn : n + 1 ≤ G := by rw [hG]; exact grownCap_ge w _ _ _
  have hG63 : G ≤ maxLen := by rw [hG]; exact grownCap_le_maxLen w (n + 1) n 135 (by unfold maxLen; omega)
  have hGm : G ≤ 9223372036854775807 := by have := hG63; unfold maxLen at this; omega
  obtain ⟨ROW, hROW⟩ : ∃ ROW : Array Value, ROW = (fl.take (i * 6)).toArray ++ Builtin.zeroCells z.cells (n + 1 - i) ++ Builtin.zeroCells z.cells (G - (n + 1)) := ⟨_, rfl⟩
  rw [← hROW] at hrz
  have hRl : ROW.size = G * 6 := by
    rw [hROW]
    simp only [Array.size_append, List.size_toArray, List.length_take, size_zeroCells, hzc]
    omega
  have hRt : ROW.toList.take (i * 6) = fl.take (i * 6) := by
    rw [hROW]
    simp only [Array.toList_append, List.append_assoc]
    rw [List.take_append_of_le_length (by rw [List.length_take]; omega)]
    rw [List.take_of_length_le (by rw [List.length_take]; omega)]
  obtain ⟨row2, hr2⟩ : ∃ row2 : Array Value, row2 = (ROW.toList.take (i * 6) ++ vl ++ ROW.toList.drop (i * 6 + vl.length)).toArray := ⟨_, rfl⟩
  have hr2s : row2.size = G * 6 := by
    rw [hr2]
    simp only [List.size_toArray, List.length_append, List.length_take, List.length_drop, Array.length_toList, hRl, hvs]
    omega
  obtain ⟨row3, hr3⟩ : ∃ row3 : Array Value, row3 = (row2.toList.take ((i + 1) * 6) ++ fl.drop (i * 6) ++ row2.toList.drop ((i + 1) * 6 + (fl.drop (i * 6)).length)).toArray := ⟨_, rfl⟩
  have hr3s : row3.size = G * 6 := by
    rw [hr3]
    simp only [List.size_toArray, List.length_append, List.length_take, List.length_drop, Array.length_toList, hr2s, hfs]
    omega
  have hr3t : row3.toList.take ((n + 1) * 6) = insC 6 i fl vl := by
    have e2 : row2.toList.take ((i + 1) * 6) = fl.take (i * 6) ++ vl := by
      rw [hr2, List.toList_toArray, hRt, List.take_append_of_le_length (by simp only [List.length_append, List.length_take]; omega), List.take_of_length_le (by simp only [List.length_append, List.length_take]; omega)]
    rw [hr3, List.toList_toArray, e2, List.take_append_of_le_length (by simp only [List.length_append, List.length_take, List.length_drop]; omega), List.take_of_length_le (by simp only [List.length_append, List.length_take, List.length_drop]; omega)]
    rfl
  have hcpA : ∀ (W : World), W.heap = w.heap.push (.cells ROW 135 (0, 0)) → ∀ ty dc, (Builtin.copy_ #[115, 115] ty #[.slice (some ⟨w.heap.size, i * 6, none⟩) (n + 1 - i) dc, .slice (some ⟨gv, 0, none⟩) 1 cv]).run Tryz.prog W = .ok (goInt 1) (W.setRow w.heap.size row2) := fun W hW ty dc => by
    have hm : Nat.min 1 (n + 1 - i) = 1 := by simp only [Nat.min_def]; split <;> omega
    have := run_copy_rowK (P := Tryz.prog) W 115 115 ty 135 w.heap.size (i * 6) (n + 1 - i) dc ⟨gv, 0, none⟩ 1 cv ROW 135 vl 6 Tryz.underlying115 hsz (by rw [hW]; simp) (by rw [hm, hvs]) (fun j v hj => by
      rw [Addr.add_lit, Nat.zero_add]
      have hg : W.heap[gv]? = some (.cells curv 135 (0, 0)) := by rw [hW, Array.getElem?_push_lt hvb, ← Array.getElem?_eq_getElem hvb]; exact hv
      rw [← hvl, List.getElem?_take] at hj
      split at hj
      · simp only [World.cell?, hg]
        rw [← Array.getElem?_toList]; exact hj
      · cases hj) (by rw [hvs, hRl]; omega) h1v
    rw [hm] at this
    rw [hr2]; exact this
  have hcpB : ∀ (W : World), W.heap = w.heap.push (.cells row2 135 (0, 0)) → ∀ ty dc sc, (Builtin.copy_ #[115, 115] ty #[.slice (some ⟨w.heap.size, (i + 1) * 6, none⟩) (n + 1 - (i + 1)) dc, .slice (some ⟨b, i * 6, none⟩) (n - i) sc]).run Tryz.prog W = .ok (goInt ((n - i : Nat) : Int)) (W.setRow w.heap.size row3) := fun W hW ty dc sc => by
    have hm : Nat.min (n - i) (n + 1 - (i + 1)) = n - i := by simp only [Nat.min_def]; split <;> omega
    have := run_copy_rowK (P := Tryz.prog) W 115 115 ty 135 w.heap.size ((i + 1) * 6) (n + 1 - (i + 1)) dc ⟨b, i * 6, none⟩ (n - i) sc row2 135 (fl.drop (i * 6)) 6 Tryz.underlying115 hsz (by rw [hW]; simp) (by rw [hm, List.length_drop, hfs]; omega) (fun j v hj => by
      rw [Addr.add_lit]
      rw [List.getElem?_drop] at hj
      exact hcell W (by rw [hW, Array.getElem?_push_lt hbl, ← Array.getElem?_eq_getElem hbl]) _ v hj) (by rw [List.length_drop, hfs, hr2s]; omega) (fun v hv => h1c v (List.mem_of_mem_drop hv))
    rw [hm] at this
    rw [hr3]; exact this
  have hGi : ¬ (G = i) := by omega
  have hni : ¬ (n = i) := by omega
  have mixed : Tryz.prog.follows Departure.mixedOrders = true := by kernel_rfl
  have hGim : ¬ (G = i + 1) := by omega
  have hw1 : IntKind.i64.wrap ((i : Int) + 1) = (i : Int) + 1 := by rw [IntKind.wrap_i64]; omega
  have hb1 : (0 : Int) ≤ (i : Int) + 1 := by omega
  have hin : i ≤ n := by omega
  have htn : ((i : Int) + 1).toNat = i + 1 := by omega
  have hE1 : ((w.alloc (.cells ROW 135)).drew).heap = w.heap.push (.cells ROW 135 (0, 0)) := rfl
  have hF1 : (((w.alloc (.cells ROW 135)).drew.setRow w.heap.size row2).drew).heap = w.heap.push (.cells row2 135 (0, 0)) := heap_setRow_push hE1
  clear hkk hik hold hROW hRl hRt hr2 hr3 hG
  refine Calls.mono (R := fun e w' => e = .returned (.slice (some ⟨w.heap.size, 0, none⟩) (n + 1) G) ∧ w' = (((w.alloc (.cells ROW 135)).drew.setRow w.heap.size row2).drew.setRow w.heap.size row3)) ?_ (fun e w' h => ⟨G, row3, hGn, hG63, h.1, by rw [h.2]; rfl, by rw [h.2]; rfl, by rw [h.2]; rfl, by rw [h.2]; exact heap_setRow_push hF1, hr3s, hr3t⟩)
  go_enter Tryz.func259, Tryz.ntmps259
  go_wp2_with (first
    | (at_builtin; refine Lib.wpList_append_run _ rfl _ _ _ _ rfl _ _ rfl rfl _ _ (hrz _) ?_)
    | (at_builtin; refine wpList_copy_runI _ rfl _ _ 115 115 rfl _ _ rfl rfl (hcpA _ hE1 _ _) ?_))
  go_region_law_o (refine step_copy_runI rfl _ _ 115 115 rfl (.slice (some ⟨w.heap.size, (i + 1) * 6, none⟩) (n + 1 - (i + 1)) (G - (i + 1))) (.slice (some ⟨b, i * 6, none⟩) (n - i) (n - i)) (by simp [Act.eval, Act.put, hni, hGi, hGim]) (by simp [Act.eval, Act.put, hni, hGi, hGim]) (hcpB _ hF1 3 (G - (i + 1)) (n - i)) ?_)
  go_wp2
  go_ret
  exact ⟨rfl, rfl⟩

set_option maxHeartbeats 4000000 in
set_option maxRecDepth 100000 in
theorem ins_room_slices_Insert_impl_Slot_impl_Slot (w : World) (b n c i gv cv : Nat) (cur curv : Array Value) (fl vl : List Value) (hi : i < n) (hroom : n + 1 ≤ c) (hc63 : c ≤ 9223372036854775807) (hne : gv ≠ b) (hb : w.heap[b]? = some (.cells cur 135 (0, 0))) (hcs : cur.size = c * 6) (hfl : cur.toList.take (n * 6) = fl) (hfs : fl.length = n * 6)
    (hv : w.heap[gv]? = some (.cells curv 135 (0, 0))) (hvl : curv.toList.take 6 = vl) (hvs : vl.length = 6) (h1c : ∀ v ∈ fl, v.oneCell' = true) (h1v : ∀ v ∈ vl, v.oneCell' = true) :
    ∃ row, row.size = c * 6 ∧ row.toList.take ((n + 1) * 6) = insC 6 i fl vl ∧
    Calls Tryz.prog 259 #[.slice (some ⟨b, 0, none⟩) n c, .int .i64 i, .slice (some ⟨gv, 0, none⟩) 1 cv] w fun e w' =>  e = .returned (.slice (some ⟨b, 0, none⟩) (n + 1) c) ∧ w'.os = w.os ∧ w'.tape = w.tape ∧ w'.output = w.output ∧ w'.heap = (w.setRow b row).heap := by
  obtain ⟨i0, z, hi0, hz0, hzs, hzb, hzc⟩ := info135_slices_Insert_impl_Slot_impl_Slot
  have u63 := Tryz.underlying115
  have hsz : (Tryz.prog.info? 135).map (·.size) = some 6 := by rw [hi0]; simp [hzs]
  have hbl : b < w.heap.size := (Array.getElem?_eq_some_iff.1 hb).1
  have hvb : gv < w.heap.size := (Array.getElem?_eq_some_iff.1 hv).1
  have mixed : Tryz.prog.follows Departure.mixedOrders = true := by kernel_rfl
  have hcell : ∀ (W : World) (cu : Array Value), W.heap[b]? = some (.cells cu 135 (0, 0)) → cu = cur → ∀ j v, fl[j]? = some v → W.cell? ⟨b, j, none⟩ = some v := fun W cu hW hcu j v hj => by
    subst hcu
    rw [← hfl, List.getElem?_take] at hj
    split at hj
    · simp only [World.cell?, hW]
      rw [← Array.getElem?_toList]; exact hj
    · cases hj
  obtain ⟨row1, hr1⟩ : ∃ row1 : Array Value, row1 = (cur.toList.take ((i + 1) * 6) ++ fl.drop (i * 6) ++ cur.toList.drop ((i + 1) * 6 + (fl.drop (i * 6)).length)).toArray := ⟨_, rfl⟩
  have hr1s : row1.size = c * 6 := by
    rw [hr1]
    simp only [List.size_toArray, List.length_append, List.length_take, List.length_drop, Array.length_toList, hcs, hfs]
    omega
  obtain ⟨row2, hr2⟩ : ∃ row2 : Array Value, row2 = (row1.toList.take (i * 6) ++ vl ++ row1.toList.drop (i * 6 + vl.length)).toArray := ⟨_, rfl⟩
  have hr2s : row2.size = c * 6 := by
    rw [hr2]
    simp only [List.size_toArray, List.length_append, List.length_take, List.length_drop, Array.length_toList, hr1s, hvs]
    omega
  have hr2t : row2.toList.take ((n + 1) * 6) = insC 6 i fl vl := by
    have e0 : cur.toList.take (i * 6) = fl.take (i * 6) := by
      rw [← hfl, List.take_take]; congr 1; omega
    have e1 : row1.toList.take (i * 6) = fl.take (i * 6) := by
      rw [hr1, List.toList_toArray, List.append_assoc, List.take_append_of_le_length (by simp only [List.length_take, Array.length_toList, hcs]; omega), List.take_take, ← e0]
      congr 1; omega
    have e2 : row1.toList.drop (i * 6 + vl.length) = fl.drop (i * 6) ++ cur.toList.drop ((i + 1) * 6 + (fl.drop (i * 6)).length) := by
      rw [hr1, List.toList_toArray, List.append_assoc]
      have : (cur.toList.take ((i + 1) * 6)).length = i * 6 + vl.length := by simp only [List.length_take, Array.length_toList, hcs, hvs]; omega
      rw [← this, List.drop_left]
    rw [hr2, List.toList_toArray, e1, e2, ← List.append_assoc, List.take_append_of_le_length (by simp only [List.length_append, List.length_take, List.length_drop]; omega), List.take_of_length_le (by simp only [List.length_append, List.length_take, List.length_drop]; omega)]
    rfl
  have hcp1 : ∀ ty dc sc, (Builtin.copy_ #[115, 115] ty #[.slice (some ⟨b, (i + 1) * 6, none⟩) (n + 1 - (i + 1)) dc, .slice (some ⟨b, i * 6, none⟩) (n + 1 - i) sc]).run Tryz.prog w.drew = .ok (goInt ((n - i : Nat) : Int)) (w.drew.setRow b row1) := fun ty dc sc => by
    have hm : Nat.min (n + 1 - i) (n + 1 - (i + 1)) = n - i := by simp only [Nat.min_def]; split <;> omega
    have := run_copy_rowK (P := Tryz.prog) w.drew 115 115 ty 135 b ((i + 1) * 6) (n + 1 - (i + 1)) dc ⟨b, i * 6, none⟩ (n + 1 - i) sc cur 135 (fl.drop (i * 6)) 6 Tryz.underlying115 hsz hb (by rw [hm, List.length_drop, hfs]; omega) (fun j v hj => by
      rw [Addr.add_lit]
      rw [List.getElem?_drop] at hj
      exact hcell w.drew cur hb rfl _ v hj) (by rw [List.length_drop, hfs, hcs]; omega) (fun v hv => h1c v (List.mem_of_mem_drop hv))
    rw [hm] at this
    rw [hr1]; exact this
  have hcp2 : ∀ (W : World), W.heap = (w.setRow b row1).heap → ∀ ty dc, (Builtin.copy_ #[115, 115] ty #[.slice (some ⟨b, i * 6, none⟩) (n + 1 - i) dc, .slice (some ⟨gv, 0, none⟩) 1 cv]).run Tryz.prog W = .ok (goInt 1) (W.setRow b row2) := fun W hW ty dc => by
    have hm : Nat.min 1 (n + 1 - i) = 1 := by simp only [Nat.min_def]; split <;> omega
    have := run_copy_rowK (P := Tryz.prog) W 115 115 ty 135 b (i * 6) (n + 1 - i) dc ⟨gv, 0, none⟩ 1 cv row1 135 vl 6 Tryz.underlying115 hsz (by rw [hW]; exact set_row_some hb) (by rw [hm, hvs]) (fun j v hj => by
      rw [Addr.add_lit, Nat.zero_add]
      have hg : W.heap[gv]? = some (.cells curv 135 (0, 0)) := by rw [hW, setRow_other w b gv row1 hne]; exact hv
      rw [← hvl, List.getElem?_take] at hj
      split at hj
      · simp only [World.cell?, hg]
        rw [← Array.getElem?_toList]; exact hj
      · cases hj) (by rw [hvs, hr1s]; omega) h1v
    rw [hm] at this
    rw [hr2]; exact this
  have hov : ∀ lb cb, (callFunc 308 #[.slice (some ⟨gv, 0, none⟩) 1 cv, .slice (some ⟨b, (i + 1) * 6, none⟩) lb cb]).run Tryz.prog w = .ok (.value (.bool false)) w := fun lb cb => by
    rw [run_callFunc_extern Tryz.func308 (by kernel_rfl) (by kernel_rfl) (by kernel_rfl) (e := Extern.SlicesOverlaps.overlaps #[115, 115] #[4]) (by kernel_rfl),
      Lib.run_overlaps_apart w 115 4 135 Tryz.underlying115 6 (fun w => by simp [sizeOf, typeInfo, hi0, hzs]) ⟨gv, 0, none⟩ ⟨b, (i + 1) * 6, none⟩ 1 cv lb cb hne 135 135 curv.size cur.size (by simp only [World.shape?, hv]) (by simp only [World.shape?, hb]) (by rw [hcs]; omega) (by simp [World.frozen?, hv]) (by simp [World.frozen?, hv])]
    rfl
  have hz2 : ¬ ((i : Int) = (n : Int)) := by omega
  have hw1 : IntKind.i64.wrap ((i : Int) + 1) = (i : Int) + 1 := by rw [IntKind.wrap_i64]; omega
  have hb1 : (0 : Int) ≤ (i : Int) + 1 := by omega
  have hin : i ≤ n := by omega
  have htn : ((i : Int) + 1).toNat = i + 1 := by omega
  have hb2 : ¬ (c = i + 1) := by omega
  have hb3 : (i : Int) ≤ (n : Int) + 1 := by omega
  have hb4 : ¬ (c = i) := by omega
  have hF1 : (w.drew.setRow b row1).heap = (w.setRow b row1).heap := rfl
  refine ⟨row2, hr2s, hr2t, Calls.mono (R := fun e w' => e = .returned (.slice (some ⟨b, 0, none⟩) (n + 1) c) ∧ w' = ((w.drew.setRow b row1).setRow b row2)) ?_ (fun e w' h => ⟨h.1, by rw [h.2]; rfl, by rw [h.2]; rfl, by rw [h.2]; rfl, by rw [h.2]; show ((w.setRow b row1).setRow b row2).heap = _; rw [setRow_setRow]⟩)⟩
  clear hr1 hr2 hr1s hr2s hr2t
  go_enter Tryz.func259, Tryz.ntmps259
  go_wp2_with (simp only [hov])
  go_region_law_o (refine step_copy_runI rfl _ _ 115 115 rfl (.slice (some ⟨b, (i + 1) * 6, none⟩) (n + 1 - (i + 1)) (c - (i + 1))) (.slice (some ⟨b, i * 6, none⟩) (n + 1 - i) (c - i)) (by simp [Act.eval, Act.put, hb2, hb4]) (by simp [Act.eval, Act.put, hb2, hb4]) (hcp1 3 (c - (i + 1)) (c - i)) ?_)
  go_wp2_with (at_builtin; refine wpList_copy_runI _ rfl _ _ 115 115 rfl _ _ rfl rfl (hcp2 _ hF1 _ _) ?_)
  go_ret
  exact ⟨rfl, rfl⟩

set_option maxHeartbeats 4000000 in
set_option maxRecDepth 100000 in
theorem ins_end_slices_Insert_impl_Slot_impl_Slot (w : World) (v : Value) (n gv cv : Nat) (curv : Array Value) (fl vl : List Value) (hn63 : n + 1 ≤ maxLen) (hbig : (n + 1) * 64 ≤ 140737488355328) (how : Go.Rv.Own w 135 6 v n fl)
    (hv : w.heap[gv]? = some (.cells curv 135 (0, 0))) (hvl : curv.toList.take 6 = vl) (hvs : vl.length = 6) (h1v : ∀ v ∈ vl, v.oneCell' = true) :
    ∃ v' w', Go.Rv.Own w' 135 6 v' (n + 1) (fl ++ vl) ∧ w.grownBy w' (ownB v) ∧ (∀ g, ownB v' = some g → w.heap.size ≤ g ∨ ownB v = some g) ∧ 
    Calls Tryz.prog 259 #[v, .int .i64 n, .slice (some ⟨gv, 0, none⟩) 1 cv] w fun e w1 =>  e = .returned v' ∧ w1 = w' := by
  obtain ⟨i0, z, hi0, hz0, hzs, hzb, hzc⟩ := info135_slices_Insert_impl_Slot_impl_Slot
  have u63 := Tryz.underlying115
  have mixed : Tryz.prog.follows Departure.mixedOrders = true := by kernel_rfl
  obtain ⟨v', w', hrun, ho, hgr, hblk⟩ := run_append_Own (P := Tryz.prog) (w := w) (t := 115) (ty := 115) Tryz.underlying115 hi0 hz0 hzs hzb hzc (by decide) how ⟨gv, 0, none⟩ 1 cv vl (by rw [hvs]) (fun j u hj => by
    rw [Addr.add_lit, Nat.zero_add]
    rw [← hvl, List.getElem?_take] at hj
    split at hj
    · simp only [World.cell?, hv]
      rw [← Array.getElem?_toList]; exact hj
    · cases hj) h1v hn63 hbig
  refine ⟨v', w', ho, hgr, hblk, ?_⟩
  rcases how.2 with ⟨A, rfl, rfl⟩ | ⟨b, cap, cur, rfl, hb, hcb, hnc, hcm, hcs, htk⟩
  · cases A with
    | none =>
      clear ho hgr hblk how
      go_enter Tryz.func259, Tryz.ntmps259
      go_wp2_with (at_builtin; refine Lib.wpList_append_run _ rfl _ _ _ _ rfl _ _ rfl rfl _ _ hrun ?_)
      go_ret
      exact ⟨rfl, rfl⟩
    | some a0 =>
      obtain ⟨a1, a2, a3⟩ := a0
      clear ho hgr hblk how
      go_enter Tryz.func259, Tryz.ntmps259
      go_wp2_with (at_builtin; refine Lib.wpList_append_run _ rfl _ _ _ _ rfl _ _ rfl rfl _ _ hrun ?_)
      go_ret
      exact ⟨rfl, rfl⟩
  · have hc2 : cap ≤ 9223372036854775807 := hcm
    clear ho hgr hblk how
    go_enter Tryz.func259, Tryz.ntmps259
    go_wp2_with (at_builtin; refine Lib.wpList_append_run _ rfl _ _ _ _ rfl _ _ rfl rfl _ _ hrun ?_)
    all_goals (go_ret; exact ⟨rfl, rfl⟩)

theorem ins_walk_slices_Insert_impl_Slot_impl_Slot : InsWalk Tryz.prog 259 135 6 64 := by
  intro w v0 v1 n i fl vl h0 h1 hi hbig one0 one1 hne
  have hn63 : n + 1 ≤ maxLen := by simp only [maxLen]; omega
  rcases h1.2 with ⟨A, rfl, h⟩ | ⟨gv, cv, curv, rfl, hcv, hv, hv1, hv2, hv3, hvl⟩
  · cases h
  have hvs : vl.length = 6 := by rw [h1.1]
  rw [Nat.one_mul] at hvl
  by_cases hin : i = n
  · subst hin
    obtain ⟨v', w', k1, k2, k3, k4⟩ := ins_end_slices_Insert_impl_Slot_impl_Slot w v0 i gv cv curv fl vl hn63 hbig h0 hv hvl hvs one1
    refine k4.mono ?_
    rintro en w1 ⟨rfl, rfl⟩
    refine ⟨v', rfl, ?_, k2, k3⟩
    have : insC 6 i fl vl = fl ++ vl := by
      unfold insC
      rw [← h0.1, List.take_length, List.drop_length, List.append_nil]
    rw [this]; exact k1
  · rcases h0.2 with ⟨A, rfl, h⟩ | ⟨b, cap, cur, rfl, hcb, hb, hnc, hcm, hcs, htk⟩
    · omega
    · have hgb : gv ≠ b := fun h => hne b (ownB_of hcb) (by rw [h]; exact ownB_of hcv)
      have hlen : (insC 6 i fl vl).length = (n + 1) * 6 := by
        simp only [insC, List.length_append, List.length_take, List.length_drop, h0.1, hvs]
        omega
      by_cases hroom : n + 1 ≤ cap
      · obtain ⟨row, r1, r2, r3⟩ := ins_room_slices_Insert_impl_Slot_impl_Slot w b n cap i gv cv cur curv fl vl (by omega) hroom hcm hgb hb hcs htk h0.1 hv hvl hvs one0 one1
        refine r3.mono ?_
        rintro en w1 ⟨rfl, q1, q2, q3, q4⟩
        refine ⟨_, rfl, ⟨hlen, .inr ⟨b, cap, row, rfl, hcb, by rw [q4]; exact set_row_some hb, hroom, hcm, r1, r2⟩⟩, ⟨q1, q2, q3, by rw [q4]; simp, fun k hk hne => by rw [q4]; exact setRow_other w b k row (fun he => hne (by rw [he]; exact (ownB_of hcb).symm))⟩, fun g hg => .inr ?_⟩
        rw [ownB_of hcb] at hg ⊢
        exact hg
      · have hcn : cap = n := by omega
        subst hcn
        refine (ins_grow_slices_Insert_impl_Slot_impl_Slot w b cap i gv cv cur curv fl vl (by omega) hbig hb htk h0.1 hv hvl hvs one0 one1).mono ?_
        rintro en w1 ⟨G, row, g1, g2, rfl, q1, q2, q3, q4, q5, q6⟩
        refine ⟨_, rfl, ⟨hlen, .inr ⟨w.heap.size, G, row, rfl, by omega, by rw [q4]; simp, g1, g2, q5, q6⟩⟩, ⟨q1, q2, q3, by rw [q4]; simp, fun k hk _ => by rw [q4, Array.getElem?_push_lt hk, ← Array.getElem?_eq_getElem hk]⟩, fun g hg => .inl ?_⟩
        rw [ownB_of (by omega)] at hg
        cases hg; exact Nat.le_refl _
theorem sound_slices_Insert_impl_Slot_impl_Slot : Sound Tryz.prog 259 S_slices_Insert_impl_Slot_impl_Slot := sound_ins ins_walk_slices_Insert_impl_Slot_impl_Slot
theorem ok_slices_Insert_impl_Slot_impl_Slot : EnvOK Tryz.prog G_slices_Insert_impl_Slot_impl_Slot := envOK_sound ok_impl_PromiseSlot ⟨_, Tryz.func259, by kernel_rfl, by kernel_rfl⟩ sound_slices_Insert_impl_Slot_impl_Slot
theorem e_impl_Acceptor_promise (n : Nat) (x) : afun G_slices_Insert_impl_Slot_impl_Slot T BB 2 n Tryz.f78 a_impl_Acceptor_promise S_impl_Acceptor_promise.ps S_impl_Acceptor_promise.rs x = p_impl_Acceptor_promise n x := by kernel_rfl
theorem ok_impl_Acceptor_promise : EnvOK Tryz.prog G_impl_Acceptor_promise := envOK_cons hm hT ok_slices_Insert_impl_Slot_impl_Slot Tryz.func78 (by kernel_rfl) hBB fun x r hr => ⟨FU, (e_impl_Acceptor_promise FU x).trans hr⟩
theorem e_impl_quorum (n : Nat) (x) : afun G_impl_Acceptor_promise T BB 0 n Tryz.f79 a_impl_quorum S_impl_quorum.ps S_impl_quorum.rs x = p_impl_quorum n x := by kernel_rfl
theorem ok_impl_quorum : EnvOK Tryz.prog G_impl_quorum := envOK_cons hm hT ok_impl_Acceptor_promise Tryz.func79 (by kernel_rfl) hBB fun x r hr => ⟨FU, (e_impl_quorum FU x).trans hr⟩
theorem e_impl_PickValue_1 (n : Nat) (x) : afun G_impl_quorum T BB 0 n Tryz.f172 a_impl_PickValue_1 S_impl_PickValue_1.ps S_impl_PickValue_1.rs x = p_impl_PickValue_1 n x := by kernel_rfl
theorem ok_impl_PickValue_1 : EnvOK Tryz.prog G_impl_PickValue_1 := envOK_cons hm hT ok_impl_quorum Tryz.func172 (by kernel_rfl) hBB fun x r hr => ⟨FU, (e_impl_PickValue_1 FU x).trans hr⟩
theorem e_impl_PickValue (n : Nat) (x) : afun G_impl_PickValue_1 T BB 2 n Tryz.f80 a_impl_PickValue S_impl_PickValue.ps S_impl_PickValue.rs x = p_impl_PickValue n x := by kernel_rfl
theorem ok_impl_PickValue : EnvOK Tryz.prog G_impl_PickValue := envOK_cons hm hT ok_impl_PickValue_1 Tryz.func80 (by kernel_rfl) hBB fun x r hr => ⟨FU, (e_impl_PickValue FU x).trans hr⟩
theorem e_impl_AcceptSlot (n : Nat) (x) : afun G_impl_PickValue T BB 0 n Tryz.f176 a_impl_AcceptSlot S_impl_AcceptSlot.ps S_impl_AcceptSlot.rs x = p_impl_AcceptSlot n x := by kernel_rfl
theorem ok_impl_AcceptSlot : EnvOK Tryz.prog G_impl_AcceptSlot := envOK_cons hm hT ok_impl_PickValue Tryz.func176 (by kernel_rfl) hBB fun x r hr => ⟨FU, (e_impl_AcceptSlot FU x).trans hr⟩
theorem e_impl_Acceptor_accept (n : Nat) (x) : afun G_impl_AcceptSlot T BB 2 n Tryz.f81 a_impl_Acceptor_accept S_impl_Acceptor_accept.ps S_impl_Acceptor_accept.rs x = p_impl_Acceptor_accept n x := by kernel_rfl
theorem ok_impl_Acceptor_accept : EnvOK Tryz.prog G_impl_Acceptor_accept := envOK_cons hm hT ok_impl_AcceptSlot Tryz.func81 (by kernel_rfl) hBB fun x r hr => ⟨FU, (e_impl_Acceptor_accept FU x).trans hr⟩
theorem e_impl_RunBallot (n : Nat) (x) : afun G_impl_Acceptor_accept T BB 0 n Tryz.f15 a_impl_RunBallot S_impl_RunBallot.ps S_impl_RunBallot.rs x = p_impl_RunBallot n x := by kernel_rfl
theorem ok_impl_RunBallot : EnvOK Tryz.prog G_impl_RunBallot := envOK_cons hm hT ok_impl_Acceptor_accept Tryz.func15 (by kernel_rfl) hBB fun x r hr => ⟨FU, (e_impl_RunBallot FU x).trans hr⟩
theorem e_laws_eqVote (n : Nat) (x) : afun G_impl_RunBallot T BB 0 n Tryz.f280 a_laws_eqVote S_laws_eqVote.ps S_laws_eqVote.rs x = p_laws_eqVote n x := by kernel_rfl
theorem ok_laws_eqVote : EnvOK Tryz.prog G_laws_eqVote := envOK_cons hm hT ok_impl_RunBallot Tryz.func280 (by kernel_rfl) hBB fun x r hr => ⟨FU, (e_laws_eqVote FU x).trans hr⟩
theorem e_laws_eqVoteS (n : Nat) (x) : afun G_laws_eqVote T BB 0 n Tryz.f310 a_laws_eqVoteS S_laws_eqVoteS.ps S_laws_eqVoteS.rs x = p_laws_eqVoteS n x := by kernel_rfl
theorem ok_laws_eqVoteS : EnvOK Tryz.prog G_laws_eqVoteS := envOK_cons hm hT ok_laws_eqVote Tryz.func310 (by kernel_rfl) hBB fun x r hr => ⟨FU, (e_laws_eqVoteS FU x).trans hr⟩
theorem e_laws_eqSlot (n : Nat) (x) : afun G_laws_eqVoteS T BB 0 n Tryz.f261 a_laws_eqSlot S_laws_eqSlot.ps S_laws_eqSlot.rs x = p_laws_eqSlot n x := by kernel_rfl
theorem ok_laws_eqSlot : EnvOK Tryz.prog G_laws_eqSlot := envOK_cons hm hT ok_laws_eqVoteS Tryz.func261 (by kernel_rfl) hBB fun x r hr => ⟨FU, (e_laws_eqSlot FU x).trans hr⟩
theorem e_laws_eqSlotS (n : Nat) (x) : afun G_laws_eqSlot T BB 0 n Tryz.f177 a_laws_eqSlotS S_laws_eqSlotS.ps S_laws_eqSlotS.rs x = p_laws_eqSlotS n x := by kernel_rfl
theorem ok_laws_eqSlotS : EnvOK Tryz.prog G_laws_eqSlotS := envOK_cons hm hT ok_laws_eqSlot Tryz.func177 (by kernel_rfl) hBB fun x r hr => ⟨FU, (e_laws_eqSlotS FU x).trans hr⟩
theorem e_laws_eqAcceptor (n : Nat) (x) : afun G_laws_eqSlotS T BB 0 n Tryz.f82 a_laws_eqAcceptor S_laws_eqAcceptor.ps S_laws_eqAcceptor.rs x = p_laws_eqAcceptor n x := by kernel_rfl
theorem ok_laws_eqAcceptor : EnvOK Tryz.prog G_laws_eqAcceptor := envOK_cons hm hT ok_laws_eqSlotS Tryz.func82 (by kernel_rfl) hBB fun x r hr => ⟨FU, (e_laws_eqAcceptor FU x).trans hr⟩
theorem e_laws_eqAcceptorS (n : Nat) (x) : afun G_laws_eqAcceptor T BB 0 n Tryz.f17 a_laws_eqAcceptorS S_laws_eqAcceptorS.ps S_laws_eqAcceptorS.rs x = p_laws_eqAcceptorS n x := by kernel_rfl
theorem ok_laws_eqAcceptorS : EnvOK Tryz.prog G_laws_eqAcceptorS := envOK_cons hm hT ok_laws_eqAcceptor Tryz.func17 (by kernel_rfl) hBB fun x r hr => ⟨FU, (e_laws_eqAcceptorS FU x).trans hr⟩
theorem e_laws_eqAcceptorsResult (n : Nat) (x) : afun G_laws_eqAcceptorS T BB 0 n Tryz.f16 a_laws_eqAcceptorsResult S_laws_eqAcceptorsResult.ps S_laws_eqAcceptorsResult.rs x = p_laws_eqAcceptorsResult n x := by kernel_rfl
theorem ok_laws_eqAcceptorsResult : EnvOK Tryz.prog G_laws_eqAcceptorsResult := envOK_cons hm hT ok_laws_eqAcceptorS Tryz.func16 (by kernel_rfl) hBB fun x r hr => ⟨FU, (e_laws_eqAcceptorsResult FU x).trans hr⟩
theorem e_laws_eqInt64S (n : Nat) (x) : afun G_laws_eqAcceptorsResult T BB 0 n Tryz.f18 a_laws_eqInt64S S_laws_eqInt64S.ps S_laws_eqInt64S.rs x = p_laws_eqInt64S n x := by kernel_rfl
theorem ok_laws_eqInt64S : EnvOK Tryz.prog G_laws_eqInt64S := envOK_cons hm hT ok_laws_eqAcceptorsResult Tryz.func18 (by kernel_rfl) hBB fun x r hr => ⟨FU, (e_laws_eqInt64S FU x).trans hr⟩
theorem e_laws_markVoteS (n : Nat) (x) : afun G_laws_eqInt64S T BB 0 n Tryz.f178 a_laws_markVoteS S_laws_markVoteS.ps S_laws_markVoteS.rs x = p_laws_markVoteS n x := by kernel_rfl
theorem ok_laws_markVoteS : EnvOK Tryz.prog G_laws_markVoteS := envOK_cons hm hT ok_laws_eqInt64S Tryz.func178 (by kernel_rfl) hBB fun x r hr => ⟨FU, (e_laws_markVoteS FU x).trans hr⟩
theorem e_laws_markSlotS (n : Nat) (x) : afun G_laws_markVoteS T BB 0 n Tryz.f83 a_laws_markSlotS S_laws_markSlotS.ps S_laws_markSlotS.rs x = p_laws_markSlotS n x := by kernel_rfl
theorem ok_laws_markSlotS : EnvOK Tryz.prog G_laws_markSlotS := envOK_cons hm hT ok_laws_markVoteS Tryz.func83 (by kernel_rfl) hBB fun x r hr => ⟨FU, (e_laws_markSlotS FU x).trans hr⟩
theorem e_laws_markAcceptorS (n : Nat) (x) : afun G_laws_markSlotS T BB 0 n Tryz.f19 a_laws_markAcceptorS S_laws_markAcceptorS.ps S_laws_markAcceptorS.rs x = p_laws_markAcceptorS n x := by kernel_rfl
theorem ok_laws_markAcceptorS : EnvOK Tryz.prog G_laws_markAcceptorS := envOK_cons hm hT ok_laws_markSlotS Tryz.func19 (by kernel_rfl) hBB fun x r hr => ⟨FU, (e_laws_markAcceptorS FU x).trans hr⟩
theorem e_laws_markInt64S (n : Nat) (x) : afun G_laws_markAcceptorS T BB 0 n Tryz.f20 a_laws_markInt64S S_laws_markInt64S.ps S_laws_markInt64S.rs x = p_laws_markInt64S n x := by kernel_rfl
theorem ok_laws_markInt64S : EnvOK Tryz.prog G_laws_markInt64S := envOK_cons hm hT ok_laws_markAcceptorS Tryz.func20 (by kernel_rfl) hBB fun x r hr => ⟨FU, (e_laws_markInt64S FU x).trans hr⟩
theorem e_laws_heldVoteS (n : Nat) (x) : afun G_laws_markInt64S T BB 0 n Tryz.f262 a_laws_heldVoteS S_laws_heldVoteS.ps S_laws_heldVoteS.rs x = p_laws_heldVoteS n x := by kernel_rfl
theorem ok_laws_heldVoteS : EnvOK Tryz.prog G_laws_heldVoteS := envOK_cons hm hT ok_laws_markInt64S Tryz.func262 (by kernel_rfl) hBB fun x r hr => ⟨FU, (e_laws_heldVoteS FU x).trans hr⟩
theorem e_laws_heldSlotS (n : Nat) (x) : afun G_laws_heldVoteS T BB 0 n Tryz.f179 a_laws_heldSlotS S_laws_heldSlotS.ps S_laws_heldSlotS.rs x = p_laws_heldSlotS n x := by kernel_rfl
theorem ok_laws_heldSlotS : EnvOK Tryz.prog G_laws_heldSlotS := envOK_cons hm hT ok_laws_heldVoteS Tryz.func179 (by kernel_rfl) hBB fun x r hr => ⟨FU, (e_laws_heldSlotS FU x).trans hr⟩
theorem e_laws_heldAcceptorS (n : Nat) (x) : afun G_laws_heldSlotS T BB 0 n Tryz.f84 a_laws_heldAcceptorS S_laws_heldAcceptorS.ps S_laws_heldAcceptorS.rs x = p_laws_heldAcceptorS n x := by kernel_rfl
theorem ok_laws_heldAcceptorS : EnvOK Tryz.prog G_laws_heldAcceptorS := envOK_cons hm hT ok_laws_heldSlotS Tryz.func84 (by kernel_rfl) hBB fun x r hr => ⟨FU, (e_laws_heldAcceptorS FU x).trans hr⟩
theorem e_laws_heldAcceptorsResult (n : Nat) (x) : afun G_laws_heldAcceptorS T BB 0 n Tryz.f22 a_laws_heldAcceptorsResult S_laws_heldAcceptorsResult.ps S_laws_heldAcceptorsResult.rs x = p_laws_heldAcceptorsResult n x := by kernel_rfl
theorem ok_laws_heldAcceptorsResult : EnvOK Tryz.prog G_laws_heldAcceptorsResult := envOK_cons hm hT ok_laws_heldAcceptorS Tryz.func22 (by kernel_rfl) hBB fun x r hr => ⟨FU, (e_laws_heldAcceptorsResult FU x).trans hr⟩
theorem e_laws_FnExactRunBallot (n : Nat) (x) : afun G_laws_heldAcceptorsResult T BB 1 n Tryz.f3 a_laws_FnExactRunBallot S_laws_FnExactRunBallot.ps S_laws_FnExactRunBallot.rs x = p_laws_FnExactRunBallot n x := by kernel_rfl
theorem ok_laws_FnExactRunBallot : EnvOK Tryz.prog G_laws_FnExactRunBallot := envOK_cons hm hT ok_laws_heldAcceptorsResult Tryz.func3 (by kernel_rfl) hBB fun x r hr => ⟨FU, (e_laws_FnExactRunBallot FU x).trans hr⟩
end Go.RvP
