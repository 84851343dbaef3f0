/- Each function of the program is as its plain function says, for FnExactAcceptAt. No condition. -/
import Derived.Test.YtlpfmkjihbancaaRvP7
import Derived.Test.YtlpfmkjihbancaaProg
import Derived.KernelRfl
import Derived.WalkKit
import Derived.Shelf.RegionOpenPlain
namespace Go.RvP
open Go Go.Rv Go.Proofs Go.Shelf Go.RowKit Go.Lib
set_option maxRecDepth 100000
theorem hm : Try.prog.follows .mixedOrders = true := by kernel_rfl
theorem hT : TabOK Try.prog T := tabOK_of (by kernel_rfl)
noncomputable def BB : Bodies := [(37, Try.f37), (38, Try.f38), (151, Try.f151), (158, Try.f158), (159, Try.f159), (233, Try.f233)]
theorem hBB : BodyOK Try.prog BB := (bodyOK_cons Try.func37 (by kernel_rfl) (bodyOK_cons Try.func38 (by kernel_rfl) (bodyOK_cons Try.func151 (by kernel_rfl) (bodyOK_cons Try.func158 (by kernel_rfl) (bodyOK_cons Try.func159 (by kernel_rfl) (bodyOK_cons Try.func233 (by kernel_rfl) bodyOK_nil))))))
theorem e_laws_szVoteS (n : Nat) (x) : afun [] T BB 0 n Try.f186 a_laws_szVoteS S_laws_szVoteS.ps S_laws_szVoteS.rs x = p_laws_szVoteS n x := by kernel_rfl
theorem ok_laws_szVoteS : EnvOK Try.prog G_laws_szVoteS := envOK_cons hm hT envOK_nil Try.func186 (by kernel_rfl) hBB fun x r hr => ⟨FU, (e_laws_szVoteS FU x).trans hr⟩
theorem e_laws_szSlot (n : Nat) (x) : afun G_laws_szVoteS T BB 0 n Try.f140 a_laws_szSlot S_laws_szSlot.ps S_laws_szSlot.rs x = p_laws_szSlot n x := by kernel_rfl
theorem ok_laws_szSlot : EnvOK Try.prog G_laws_szSlot := envOK_cons hm hT ok_laws_szVoteS Try.func140 (by kernel_rfl) hBB fun x r hr => ⟨FU, (e_laws_szSlot FU x).trans hr⟩
theorem e_laws_szSlotS (n : Nat) (x) : afun G_laws_szSlot T BB 0 n Try.f77 a_laws_szSlotS S_laws_szSlotS.ps S_laws_szSlotS.rs x = p_laws_szSlotS n x := by kernel_rfl
theorem ok_laws_szSlotS : EnvOK Try.prog G_laws_szSlotS := envOK_cons hm hT ok_laws_szSlot Try.func77 (by kernel_rfl) hBB fun x r hr => ⟨FU, (e_laws_szSlotS FU x).trans hr⟩
theorem e_laws_szAcceptor (n : Nat) (x) : afun G_laws_szSlotS T BB 0 n Try.f31 a_laws_szAcceptor S_laws_szAcceptor.ps S_laws_szAcceptor.rs x = p_laws_szAcceptor n x := by kernel_rfl
theorem ok_laws_szAcceptor : EnvOK Try.prog G_laws_szAcceptor := envOK_cons hm hT ok_laws_szSlotS Try.func31 (by kernel_rfl) hBB fun x r hr => ⟨FU, (e_laws_szAcceptor FU x).trans hr⟩
theorem e_laws_toVote (n : Nat) (x) : afun G_laws_szAcceptor T BB 0 n Try.f191 a_laws_toVote S_laws_toVote.ps S_laws_toVote.rs x = p_laws_toVote n x := by kernel_rfl
theorem ok_laws_toVote : EnvOK Try.prog G_laws_toVote := envOK_cons hm hT ok_laws_szAcceptor Try.func191 (by kernel_rfl) hBB fun x r hr => ⟨FU, (e_laws_toVote FU x).trans hr⟩
theorem e_laws_toVoteS (n : Nat) (x) : afun G_laws_toVote T BB 0 n Try.f192 a_laws_toVoteS S_laws_toVoteS.ps S_laws_toVoteS.rs x = p_laws_toVoteS n x := by kernel_rfl
theorem ok_laws_toVoteS : EnvOK Try.prog G_laws_toVoteS := envOK_cons hm hT ok_laws_toVote Try.func192 (by kernel_rfl) hBB fun x r hr => ⟨FU, (e_laws_toVoteS FU x).trans hr⟩
theorem e_laws_toSlot (n : Nat) (x) : afun G_laws_toVoteS T BB 0 n Try.f147 a_laws_toSlot S_laws_toSlot.ps S_laws_toSlot.rs x = p_laws_toSlot n x := by kernel_rfl
theorem ok_laws_toSlot : EnvOK Try.prog G_laws_toSlot := envOK_cons hm hT ok_laws_toVoteS Try.func147 (by kernel_rfl) hBB fun x r hr => ⟨FU, (e_laws_toSlot FU x).trans hr⟩
theorem e_laws_toSlotS (n : Nat) (x) : afun G_laws_toSlot T BB 0 n Try.f82 a_laws_toSlotS S_laws_toSlotS.ps S_laws_toSlotS.rs x = p_laws_toSlotS n x := by kernel_rfl
theorem ok_laws_toSlotS : EnvOK Try.prog G_laws_toSlotS := envOK_cons hm hT ok_laws_toSlot Try.func82 (by kernel_rfl) hBB fun x r hr => ⟨FU, (e_laws_toSlotS FU x).trans hr⟩
theorem e_laws_toAcceptor (n : Nat) (x) : afun G_laws_toSlotS T BB 0 n Try.f33 a_laws_toAcceptor S_laws_toAcceptor.ps S_laws_toAcceptor.rs x = p_laws_toAcceptor n x := by kernel_rfl
theorem ok_laws_toAcceptor : EnvOK Try.prog G_laws_toAcceptor := envOK_cons hm hT ok_laws_toSlotS Try.func33 (by kernel_rfl) hBB fun x r hr => ⟨FU, (e_laws_toAcceptor FU x).trans hr⟩
theorem e_spec_l1In (n : Nat) (x) : afun G_laws_toAcceptor T BB 0 n Try.f116 a_spec_l1In S_spec_l1In.ps S_spec_l1In.rs x = p_spec_l1In n x := by kernel_rfl
theorem ok_spec_l1In : EnvOK Try.prog G_spec_l1In := envOK_cons hm hT ok_laws_toAcceptor Try.func116 (by kernel_rfl) hBB fun x r hr => ⟨FU, (e_spec_l1In FU x).trans hr⟩
theorem e_spec_l1Id (n : Nat) (x) : afun G_spec_l1In T BB 0 n Try.f55 a_spec_l1Id S_spec_l1Id.ps S_spec_l1Id.rs x = p_spec_l1Id n x := by kernel_rfl
theorem ok_spec_l1Id : EnvOK Try.prog G_spec_l1Id := envOK_cons hm hT ok_spec_l1In Try.func55 (by kernel_rfl) hBB fun x r hr => ⟨FU, (e_spec_l1Id FU x).trans hr⟩
theorem e_spec_l8Ballot (n : Nat) (x) : afun G_spec_l1Id T BB 0 n Try.f145 a_spec_l8Ballot S_spec_l8Ballot.ps S_spec_l8Ballot.rs x = p_spec_l8Ballot n x := by kernel_rfl
theorem ok_spec_l8Ballot : EnvOK Try.prog G_spec_l8Ballot := envOK_cons hm hT ok_spec_l1Id Try.func145 (by kernel_rfl) hBB fun x r hr => ⟨FU, (e_spec_l8Ballot FU x).trans hr⟩
theorem e_spec_l8Value (n : Nat) (x) : afun G_spec_l8Ballot T BB 0 n Try.f157 a_spec_l8Value S_spec_l8Value.ps S_spec_l8Value.rs x = p_spec_l8Value n x := by kernel_rfl
theorem ok_spec_l8Value : EnvOK Try.prog G_spec_l8Value := envOK_cons hm hT ok_spec_l8Ballot Try.func157 (by kernel_rfl) hBB fun x r hr => ⟨FU, (e_spec_l8Value FU x).trans hr⟩
theorem e_spec_l8None (n : Nat) (x) : afun G_spec_l8Value T BB 0 n Try.f188 a_spec_l8None S_spec_l8None.ps S_spec_l8None.rs x = p_spec_l8None n x := by kernel_rfl
theorem ok_spec_l8None : EnvOK Try.prog G_spec_l8None := envOK_cons hm hT ok_spec_l8Value Try.func188 (by kernel_rfl) hBB fun x r hr => ⟨FU, (e_spec_l8None FU x).trans hr⟩
theorem e_spec_l8Last (n : Nat) (x) : afun G_spec_l8None T BB 0 n Try.f190 a_spec_l8Last S_spec_l8Last.ps S_spec_l8Last.rs x = p_spec_l8Last n x := by kernel_rfl
theorem ok_spec_l8Last : EnvOK Try.prog G_spec_l8Last := envOK_cons hm hT ok_spec_l8None Try.func190 (by kernel_rfl) hBB fun x r hr => ⟨FU, (e_spec_l8Last FU x).trans hr⟩
theorem e_spec_SlotFault (n : Nat) (x) : afun G_spec_l8Last T BB 0 n Try.f144 a_spec_SlotFault S_spec_SlotFault.ps S_spec_SlotFault.rs x = p_spec_SlotFault n x := by kernel_rfl
theorem ok_spec_SlotFault : EnvOK Try.prog G_spec_SlotFault := envOK_cons hm hT ok_spec_l8Last Try.func144 (by kernel_rfl) hBB fun x r hr => ⟨FU, (e_spec_SlotFault FU x).trans hr⟩
theorem e_spec_l9Ahead (n : Nat) (x) : afun G_spec_SlotFault T BB 0 n Try.f187 a_spec_l9Ahead S_spec_l9Ahead.ps S_spec_l9Ahead.rs x = p_spec_l9Ahead n x := by kernel_rfl
theorem ok_spec_l9Ahead : EnvOK Try.prog G_spec_l9Ahead := envOK_cons hm hT ok_spec_SlotFault Try.func187 (by kernel_rfl) hBB fun x r hr => ⟨FU, (e_spec_l9Ahead FU x).trans hr⟩
theorem e_spec_AcceptorFault (n : Nat) (x) : afun G_spec_l9Ahead T BB 0 n Try.f141 a_spec_AcceptorFault S_spec_AcceptorFault.ps S_spec_AcceptorFault.rs x = p_spec_AcceptorFault n x := by kernel_rfl
theorem ok_spec_AcceptorFault : EnvOK Try.prog G_spec_AcceptorFault := envOK_cons hm hT ok_spec_l9Ahead Try.func141 (by kernel_rfl) hBB fun x r hr => ⟨FU, (e_spec_AcceptorFault FU x).trans hr⟩
theorem e_spec_NewSlot (n : Nat) (x) : afun G_spec_AcceptorFault T BB 0 n Try.f142 a_spec_NewSlot S_spec_NewSlot.ps S_spec_NewSlot.rs x = p_spec_NewSlot n x := by kernel_rfl
theorem ok_spec_NewSlot : EnvOK Try.prog G_spec_NewSlot := envOK_cons hm hT ok_spec_AcceptorFault Try.func142 (by kernel_rfl) hBB fun x r hr => ⟨FU, (e_spec_NewSlot FU x).trans hr⟩
theorem e_spec_l9Asked (n : Nat) (x) : afun G_spec_NewSlot T BB 0 n Try.f78 a_spec_l9Asked S_spec_l9Asked.ps S_spec_l9Asked.rs x = p_spec_l9Asked n x := by kernel_rfl
theorem ok_spec_l9Asked : EnvOK Try.prog G_spec_l9Asked := envOK_cons hm hT ok_spec_NewSlot Try.func78 (by kernel_rfl) hBB fun x r hr => ⟨FU, (e_spec_l9Asked FU x).trans hr⟩
theorem e_spec_l8Copy (n : Nat) (x) : afun G_spec_l9Asked T BB 0 n Try.f146 a_spec_l8Copy S_spec_l8Copy.ps S_spec_l8Copy.rs x = p_spec_l8Copy n x := by kernel_rfl
theorem ok_spec_l8Copy : EnvOK Try.prog G_spec_l8Copy := envOK_cons hm hT ok_spec_l9Asked Try.func146 (by kernel_rfl) hBB fun x r hr => ⟨FU, (e_spec_l8Copy FU x).trans hr⟩
theorem e_spec_l9Slot (n : Nat) (x) : afun G_spec_l8Copy T BB 0 n Try.f81 a_spec_l9Slot S_spec_l9Slot.ps S_spec_l9Slot.rs x = p_spec_l9Slot n x := by kernel_rfl
theorem ok_spec_l9Slot : EnvOK Try.prog G_spec_l9Slot := envOK_cons hm hT ok_spec_l8Copy Try.func81 (by kernel_rfl) hBB fun x r hr => ⟨FU, (e_spec_l9Slot FU x).trans hr⟩
theorem e_spec_AcceptSlot (n : Nat) (x) : afun G_spec_l9Slot T BB 1 n Try.f90 a_spec_AcceptSlot S_spec_AcceptSlot.ps S_spec_AcceptSlot.rs x = p_spec_AcceptSlot n x := by kernel_rfl
theorem ok_spec_AcceptSlot : EnvOK Try.prog G_spec_AcceptSlot := envOK_cons hm hT ok_spec_l9Slot Try.func90 (by kernel_rfl) hBB fun x r hr => ⟨FU, (e_spec_AcceptSlot FU x).trans hr⟩
theorem e_spec_l9Copy (n : Nat) (x) : afun G_spec_AcceptSlot T BB 0 n Try.f189 a_spec_l9Copy S_spec_l9Copy.ps S_spec_l9Copy.rs x = p_spec_l9Copy n x := by kernel_rfl
theorem ok_spec_l9Copy : EnvOK Try.prog G_spec_l9Copy := envOK_cons hm hT ok_spec_AcceptSlot Try.func189 (by kernel_rfl) hBB fun x r hr => ⟨FU, (e_spec_l9Copy FU x).trans hr⟩
theorem e_spec_l9Set (n : Nat) (x) : afun G_spec_l9Copy T BB 0 n Try.f143 a_spec_l9Set S_spec_l9Set.ps S_spec_l9Set.rs x = p_spec_l9Set n x := by kernel_rfl
theorem ok_spec_l9Set : EnvOK Try.prog G_spec_l9Set := envOK_cons hm hT ok_spec_l9Copy Try.func143 (by kernel_rfl) hBB fun x r hr => ⟨FU, (e_spec_l9Set FU x).trans hr⟩
theorem e_spec_l9Told (n : Nat) (x) : afun G_spec_l9Set T BB 0 n Try.f79 a_spec_l9Told S_spec_l9Told.ps S_spec_l9Told.rs x = p_spec_l9Told n x := by kernel_rfl
theorem ok_spec_l9Told : EnvOK Try.prog G_spec_l9Told := envOK_cons hm hT ok_spec_l9Set Try.func79 (by kernel_rfl) hBB fun x r hr => ⟨FU, (e_spec_l9Told FU x).trans hr⟩
theorem e_spec_AcceptAt (n : Nat) (x) : afun G_spec_l9Told T BB 0 n Try.f40 a_spec_AcceptAt S_spec_AcceptAt.ps S_spec_AcceptAt.rs x = p_spec_AcceptAt n x := by kernel_rfl
theorem ok_spec_AcceptAt : EnvOK Try.prog G_spec_AcceptAt := envOK_cons hm hT ok_spec_l9Told Try.func40 (by kernel_rfl) hBB fun x r hr => ⟨FU, (e_spec_AcceptAt FU x).trans hr⟩
theorem e_impl_within (n : Nat) (x) : afun G_spec_AcceptAt T BB 0 n Try.f129 a_impl_within S_impl_within.ps S_impl_within.rs x = p_impl_within n x := by kernel_rfl
theorem ok_impl_within : EnvOK Try.prog G_impl_within := envOK_cons hm hT ok_spec_AcceptAt Try.func129 (by kernel_rfl) hBB fun x r hr => ⟨FU, (e_impl_within FU x).trans hr⟩
theorem e_impl_isId (n : Nat) (x) : afun G_impl_within T BB 0 n Try.f100 a_impl_isId S_impl_isId.ps S_impl_isId.rs x = p_impl_isId n x := by kernel_rfl
theorem ok_impl_isId : EnvOK Try.prog G_impl_isId := envOK_cons hm hT ok_impl_within Try.func100 (by kernel_rfl) hBB fun x r hr => ⟨FU, (e_impl_isId FU x).trans hr⟩
theorem e_impl_isShard (n : Nat) (x) : afun G_impl_isId T BB 0 n Try.f66 a_impl_isShard S_impl_isShard.ps S_impl_isShard.rs x = p_impl_isShard n x := by kernel_rfl
theorem ok_impl_isShard : EnvOK Try.prog G_impl_isShard := envOK_cons hm hT ok_impl_isId Try.func66 (by kernel_rfl) hBB fun x r hr => ⟨FU, (e_impl_isShard FU x).trans hr⟩
theorem e_impl_isBallot (n : Nat) (x) : afun G_impl_isShard T BB 0 n Try.f200 a_impl_isBallot S_impl_isBallot.ps S_impl_isBallot.rs x = p_impl_isBallot n x := by kernel_rfl
theorem ok_impl_isBallot : EnvOK Try.prog G_impl_isBallot := envOK_cons hm hT ok_impl_isShard Try.func200 (by kernel_rfl) hBB fun x r hr => ⟨FU, (e_impl_isBallot FU x).trans hr⟩
theorem e_impl_isValue (n : Nat) (x) : afun G_impl_isBallot T BB 0 n Try.f237 a_impl_isValue S_impl_isValue.ps S_impl_isValue.rs x = p_impl_isValue n x := by kernel_rfl
theorem ok_impl_isValue : EnvOK Try.prog G_impl_isValue := envOK_cons hm hT ok_impl_isBallot Try.func237 (by kernel_rfl) hBB fun x r hr => ⟨FU, (e_impl_isValue FU x).trans hr⟩
theorem e_impl_isVote (n : Nat) (x) : afun G_impl_isValue T BB 0 n Try.f204 a_impl_isVote S_impl_isVote.ps S_impl_isVote.rs x = p_impl_isVote n x := by kernel_rfl
theorem ok_impl_isVote : EnvOK Try.prog G_impl_isVote := envOK_cons hm hT ok_impl_isValue Try.func204 (by kernel_rfl) hBB fun x r hr => ⟨FU, (e_impl_isVote FU x).trans hr⟩
theorem e_impl_castFault (n : Nat) (x) : afun G_impl_isVote T BB 0 n Try.f193 a_impl_castFault S_impl_castFault.ps S_impl_castFault.rs x = p_impl_castFault n x := by kernel_rfl
theorem ok_impl_castFault : EnvOK Try.prog G_impl_castFault := envOK_cons hm hT ok_impl_isVote Try.func193 (by kernel_rfl) hBB fun x r hr => ⟨FU, (e_impl_castFault FU x).trans hr⟩
theorem e_impl_noVote (n : Nat) (x) : afun G_impl_castFault T BB 0 n Try.f195 a_impl_noVote S_impl_noVote.ps S_impl_noVote.rs x = p_impl_noVote n x := by kernel_rfl
theorem ok_impl_noVote : EnvOK Try.prog G_impl_noVote := envOK_cons hm hT ok_impl_castFault Try.func195 (by kernel_rfl) hBB fun x r hr => ⟨FU, (e_impl_noVote FU x).trans hr⟩
theorem e_impl_lastCast (n : Nat) (x) : afun G_impl_noVote T BB 0 n Try.f194 a_impl_lastCast S_impl_lastCast.ps S_impl_lastCast.rs x = p_impl_lastCast n x := by kernel_rfl
theorem ok_impl_lastCast : EnvOK Try.prog G_impl_lastCast := envOK_cons hm hT ok_impl_noVote Try.func194 (by kernel_rfl) hBB fun x r hr => ⟨FU, (e_impl_lastCast FU x).trans hr⟩
theorem e_impl_SlotFault (n : Nat) (x) : afun G_impl_lastCast T BB 0 n Try.f148 a_impl_SlotFault S_impl_SlotFault.ps S_impl_SlotFault.rs x = p_impl_SlotFault n x := by kernel_rfl
theorem ok_impl_SlotFault : EnvOK Try.prog G_impl_SlotFault := envOK_cons hm hT ok_impl_lastCast Try.func148 (by kernel_rfl) hBB fun x r hr => ⟨FU, (e_impl_SlotFault FU x).trans hr⟩
theorem e_cmp_isNaN_int64 (n : Nat) (x) : afun G_impl_SlotFault T BB 0 n Try.f230 a_cmp_isNaN_int64 S_cmp_isNaN_int64.ps S_cmp_isNaN_int64.rs x = p_cmp_isNaN_int64 n x := by kernel_rfl
theorem ok_cmp_isNaN_int64 : EnvOK Try.prog G_cmp_isNaN_int64 := envOK_cons hm hT ok_impl_SlotFault Try.func230 (by kernel_rfl) hBB fun x r hr => ⟨FU, (e_cmp_isNaN_int64 FU x).trans hr⟩
theorem e_cmp_Compare_int64 (n : Nat) (x) : afun G_cmp_isNaN_int64 T BB 0 n Try.f177 a_cmp_Compare_int64 S_cmp_Compare_int64.ps S_cmp_Compare_int64.rs x = p_cmp_Compare_int64 n x := by kernel_rfl
theorem ok_cmp_Compare_int64 : EnvOK Try.prog G_cmp_Compare_int64 := envOK_cons hm hT ok_cmp_isNaN_int64 Try.func177 (by kernel_rfl) hBB fun x r hr => ⟨FU, (e_cmp_Compare_int64 FU x).trans hr⟩
theorem e_cmp_Or_int (n : Nat) (x) : afun G_cmp_Compare_int64 T BB 0 n Try.f175 a_cmp_Or_int S_cmp_Or_int.ps S_cmp_Or_int.rs x = p_cmp_Or_int n x := by kernel_rfl
theorem ok_cmp_Or_int : EnvOK Try.prog G_cmp_Or_int := envOK_cons hm hT ok_cmp_Compare_int64 Try.func175 (by kernel_rfl) hBB fun x r hr => ⟨FU, (e_cmp_Or_int FU x).trans hr⟩
theorem e_impl_compareSlots (n : Nat) (x) : afun G_cmp_Or_int T BB 0 n Try.f149 a_impl_compareSlots S_impl_compareSlots.ps S_impl_compareSlots.rs x = p_impl_compareSlots n x := by kernel_rfl
theorem ok_impl_compareSlots : EnvOK Try.prog G_impl_compareSlots := envOK_cons hm hT ok_cmp_Or_int Try.func149 (by kernel_rfl) hBB fun x r hr => ⟨FU, (e_impl_compareSlots FU x).trans hr⟩
theorem e_impl_AcceptorFault (n : Nat) (x) : afun G_impl_compareSlots T BB 0 n Try.f83 a_impl_AcceptorFault S_impl_AcceptorFault.ps S_impl_AcceptorFault.rs x = p_impl_AcceptorFault n x := by kernel_rfl
theorem ok_impl_AcceptorFault : EnvOK Try.prog G_impl_AcceptorFault := envOK_cons hm hT ok_impl_compareSlots Try.func83 (by kernel_rfl) hBB fun x r hr => ⟨FU, (e_impl_AcceptorFault FU x).trans hr⟩
theorem e_impl_newSlot (n : Nat) (x) : afun G_impl_AcceptorFault T BB 0 n Try.f150 a_impl_newSlot S_impl_newSlot.ps S_impl_newSlot.rs x = p_impl_newSlot n x := by kernel_rfl
theorem ok_impl_newSlot : EnvOK Try.prog G_impl_newSlot := envOK_cons hm hT ok_impl_AcceptorFault Try.func150 (by kernel_rfl) hBB fun x r hr => ⟨FU, (e_impl_newSlot FU x).trans hr⟩
theorem e_impl_NewSlot (n : Nat) (x) : afun G_impl_newSlot T BB 0 n Try.f84 a_impl_NewSlot S_impl_NewSlot.ps S_impl_NewSlot.rs x = p_impl_NewSlot n x := by kernel_rfl
theorem ok_impl_NewSlot : EnvOK Try.prog G_impl_NewSlot := envOK_cons hm hT ok_impl_newSlot Try.func84 (by kernel_rfl) hBB fun x r hr => ⟨FU, (e_impl_NewSlot FU x).trans hr⟩
theorem e_impl_firstOf (n : Nat) (x) : afun G_impl_NewSlot T BB 0 n Try.f58 a_impl_firstOf S_impl_firstOf.ps S_impl_firstOf.rs x = p_impl_firstOf n x := by kernel_rfl
theorem ok_impl_firstOf : EnvOK Try.prog G_impl_firstOf := envOK_cons hm hT ok_impl_NewSlot Try.func58 (by kernel_rfl) hBB fun x r hr => ⟨FU, (e_impl_firstOf FU x).trans hr⟩
theorem e_impl_Acceptor_slotAt (n : Nat) (x) : afun G_impl_firstOf T BB 1 n Try.f198 a_impl_Acceptor_slotAt S_impl_Acceptor_slotAt.ps S_impl_Acceptor_slotAt.rs x = p_impl_Acceptor_slotAt n x := by kernel_rfl
theorem ok_impl_Acceptor_slotAt : EnvOK Try.prog G_impl_Acceptor_slotAt := envOK_cons hm hT ok_impl_firstOf Try.func198 (by kernel_rfl) hBB fun x r hr => ⟨FU, (e_impl_Acceptor_slotAt FU x).trans hr⟩
theorem e_slices_Clone_impl_Vote_impl_Vote (n : Nat) (x) : afun G_impl_Acceptor_slotAt T BB 0 n Try.f236 a_slices_Clone_impl_Vote_impl_Vote S_slices_Clone_impl_Vote_impl_Vote.ps S_slices_Clone_impl_Vote_impl_Vote.rs x = p_slices_Clone_impl_Vote_impl_Vote n x := by kernel_rfl
theorem ok_slices_Clone_impl_Vote_impl_Vote : EnvOK Try.prog G_slices_Clone_impl_Vote_impl_Vote := envOK_cons hm hT ok_impl_Acceptor_slotAt Try.func236 (by kernel_rfl) hBB fun x r hr => ⟨FU, (e_slices_Clone_impl_Vote_impl_Vote FU x).trans hr⟩
theorem e_impl_copySlot (n : Nat) (x) : afun G_slices_Clone_impl_Vote_impl_Vote T BB 0 n Try.f201 a_impl_copySlot S_impl_copySlot.ps S_impl_copySlot.rs x = p_impl_copySlot n x := by kernel_rfl
theorem ok_impl_copySlot : EnvOK Try.prog G_impl_copySlot := envOK_cons hm hT ok_slices_Clone_impl_Vote_impl_Vote Try.func201 (by kernel_rfl) hBB fun x r hr => ⟨FU, (e_impl_copySlot FU x).trans hr⟩
theorem e_impl_Acceptor_slot (n : Nat) (x) : afun G_impl_copySlot T BB 0 n Try.f196 a_impl_Acceptor_slot S_impl_Acceptor_slot.ps S_impl_Acceptor_slot.rs x = p_impl_Acceptor_slot n x := by kernel_rfl
theorem ok_impl_Acceptor_slot : EnvOK Try.prog G_impl_Acceptor_slot := envOK_cons hm hT ok_impl_copySlot Try.func196 (by kernel_rfl) hBB fun x r hr => ⟨FU, (e_impl_Acceptor_slot FU x).trans hr⟩
theorem e_impl_AcceptSlot (n : Nat) (x) : afun G_impl_Acceptor_slot T BB 0 n Try.f160 a_impl_AcceptSlot S_impl_AcceptSlot.ps S_impl_AcceptSlot.rs x = p_impl_AcceptSlot n x := by kernel_rfl
theorem ok_impl_AcceptSlot : EnvOK Try.prog G_impl_AcceptSlot := envOK_cons hm hT ok_impl_Acceptor_slot Try.func160 (by kernel_rfl) hBB fun x r hr => ⟨FU, (e_impl_AcceptSlot FU x).trans hr⟩
theorem e_impl_copyAcceptor (n : Nat) (x) : afun G_impl_AcceptSlot T BB 0 n Try.f197 a_impl_copyAcceptor S_impl_copyAcceptor.ps S_impl_copyAcceptor.rs x = p_impl_copyAcceptor n x := by kernel_rfl
theorem ok_impl_copyAcceptor : EnvOK Try.prog G_impl_copyAcceptor := envOK_cons hm hT ok_impl_AcceptSlot Try.func197 (by kernel_rfl) hBB fun x r hr => ⟨FU, (e_impl_copyAcceptor FU x).trans hr⟩
theorem info114_slices_Insert_impl_Slot_impl_Slot : ∃ i z, Try.prog.info? 114 = some i ∧ i.zero = some z ∧ i.size = 6 ∧ i.bytes = 64 ∧ z.cells.size = 6 := by
  have h : (Try.prog.info? 114).map (fun i => (i.size, i.bytes, i.zero.map fun z => z.cells.size)) = some (6, 64, some 6) := by kernel_rfl
  cases hi : Try.prog.info? 114 with
  | none => rw [hi] at h; cases h
  | some i =>
    rw [hi] at h
    simp only [Option.map_some, Option.some.injEq, Prod.mk.injEq] at h
    obtain ⟨h1, h2, h3⟩ := h
    cases hz : i.zero with
    | none => rw [hz] at h3; cases h3
    | some z =>
      rw [hz] at h3
      exact ⟨i, z, rfl, hz, h1, h2, by simpa using h3⟩
set_option maxHeartbeats 4000000 in
set_option maxRecDepth 100000 in
theorem ins_grow_slices_Insert_impl_Slot_impl_Slot (w : World) (b n i gv cv : Nat) (cur curv : Array Value) (fl vl : List Value) (hi : i < n) (hbig : (n + 1) * 64 ≤ 140737488355328) (hb : w.heap[b]? = some (.cells cur 114 (0, 0))) (hfl : cur.toList.take (n * 6) = fl) (hfs : fl.length = n * 6)
    (hv : w.heap[gv]? = some (.cells curv 114 (0, 0))) (hvl : curv.toList.take 6 = vl) (hvs : vl.length = 6) (h1c : ∀ v ∈ fl, v.oneCell' = true) (h1v : ∀ v ∈ vl, v.oneCell' = true) :
    Calls Try.prog 199 #[.slice (some ⟨b, 0, none⟩) n n, .int .i64 i, .slice (some ⟨gv, 0, none⟩) 1 cv] w fun e w' => ∃ G row, n + 1 ≤ G ∧ G ≤ maxLen ∧ e = .returned (.slice (some ⟨w.heap.size, 0, none⟩) (n + 1) G) ∧
      w'.os = w.os ∧ w'.tape = w.tape ∧ w'.output = w.output ∧ w'.heap = w.heap.push (.cells row 114 (0, 0)) ∧ row.size = G * 6 ∧ row.toList.take ((n + 1) * 6) = insC 6 i fl vl := by
  obtain ⟨i0, z, hi0, hz0, hzs, hzb, hzc⟩ := info114_slices_Insert_impl_Slot_impl_Slot
  have u63 := Try.underlying63
  have hsz : (Try.prog.info? 114).map (·.size) = some 6 := by rw [hi0]; simp [hzs]
  have hbl : b < w.heap.size := (Array.getElem?_eq_some_iff.1 hb).1
  have hvb : gv < w.heap.size := (Array.getElem?_eq_some_iff.1 hv).1
  have hz3 : (n : Int) < (n : Int) + 1 := by omega
  have hkk : (n : Int) + 1 - (i : Int) = ((n + 1 - i : Nat) : Int) := by omega
  have hik : i + (n + 1 - i) = n + 1 := by omega
  have hcell : ∀ (W : World), W.heap[b]? = w.heap[b]? → ∀ j v, fl[j]? = some v → W.cell? ⟨b, j, none⟩ = some v := fun W hW j v hj => by
    rw [← hfl, List.getElem?_take] at hj
    split at hj
    · simp only [World.cell?, hW, hb]
      rw [← Array.getElem?_toList]; exact hj
    · cases hj
  have hold : (Builtin.firstCells i0.size i (.slice (some ⟨b, 0, none⟩) i n)).run Try.prog w.drew = .ok (fl.take (i * 6)).toArray w.drew := by
    rw [hzs]
    exact run_firstCells_some w.drew 6 i ⟨b, 0, none⟩ i n (fl.take (i * 6)) (by rw [List.length_take]; omega) (fun j v hj => by
      rw [Addr.add_lit, Nat.zero_add]
      rw [List.getElem?_take] at hj
      split at hj
      · exact hcell w.drew rfl j v hj
      · cases hj)
  have hrz : ∀ ty, (Builtin.append_ #[63, 3] ty #[.slice (some ⟨b, 0, none⟩) i n, .int .i64 ((n : Int) + 1 - (i : Int))]).run Try.prog w =
      .ok (.slice (some ⟨w.heap.size, 0, none⟩) (n + 1) (grownCap w (n + 1) n 114)) (w.drew.alloc (.cells ((fl.take (i * 6)).toArray ++ Builtin.zeroCells z.cells (n + 1 - i) ++ Builtin.zeroCells z.cells (grownCap w (n + 1) n 114 - (n + 1))) 114)) := fun ty => by
    have h := Lib.run_append_grow_zeros (P := Try.prog) w 63 3 ty 114 i0 z .i64 .i64 Try.underlying63 Try.underlying3 hi0 hz0 (some ⟨b, 0, none⟩) i n (fl.take (i * 6)) hold (n + 1 - i) (by omega) (by omega) (by omega) (by omega) (by rw [hzb]; omega) (by rw [hzb, hik]; exact growslice_fits (by omega) hbig)
    rw [hik] at h
    rw [hkk]
    exact h
  obtain ⟨G, hG⟩ : ∃ G, G = grownCap w (n + 1) n 114 := ⟨_, rfl⟩
  rw [← hG] at hrz
  have hGn : n + 1 ≤ G := by rw [hG]; exact grownCap_ge w _ _ _
  have hG63 : G ≤ maxLen := by rw [hG]; exact grownCap_le_maxLen w (n + 1) n 114 (by unfold maxLen; omega)
  have hGm : G ≤ 9223372036854775807 := by have := hG63; unfold maxLen at this; omega
  obtain ⟨ROW, hROW⟩ : ∃ ROW : Array Value, ROW = (fl.take (i * 6)).toArray ++ Builtin.zeroCells z.cells (n + 1 - i) ++ Builtin.zeroCells z.cells (G - (n + 1)) := ⟨_, rfl⟩
  rw [← hROW] at hrz
  have hRl : ROW.size = G * 6 := by
    rw [hROW]
    simp only [Array.size_append, List.size_toArray, List.length_take, size_zeroCells, hzc]
    omega
  have hRt : ROW.toList.take (i * 6) = fl.take (i * 6) := by
    rw [hROW]
    simp only [Array.toList_append, List.append_assoc]
    rw [List.take_append_of_le_length (by rw [List.length_take]; omega)]
    rw [List.take_of_length_le (by rw [List.length_take]; omega)]
  obtain ⟨row2, hr2⟩ : ∃ row2 : Array Value, row2 = (ROW.toList.take (i * 6) ++ vl ++ ROW.toList.drop (i * 6 + vl.length)).toArray := ⟨_, rfl⟩
  have hr2s : row2.size = G * 6 := by
    rw [hr2]
    simp only [List.size_toArray, List.length_append, List.length_take, List.length_drop, Array.length_toList, hRl, hvs]
    omega
  obtain ⟨row3, hr3⟩ : ∃ row3 : Array Value, row3 = (row2.toList.take ((i + 1) * 6) ++ fl.drop (i * 6) ++ row2.toList.drop ((i + 1) * 6 + (fl.drop (i * 6)).length)).toArray := ⟨_, rfl⟩
  have hr3s : row3.size = G * 6 := by
    rw [hr3]
    simp only [List.size_toArray, List.length_append, List.length_take, List.length_drop, Array.length_toList, hr2s, hfs]
    omega
  have hr3t : row3.toList.take ((n + 1) * 6) = insC 6 i fl vl := by
    have e2 : row2.toList.take ((i + 1) * 6) = fl.take (i * 6) ++ vl := by
      rw [hr2, List.toList_toArray, hRt, List.take_append_of_le_length (by simp only [List.length_append, List.length_take]; omega), List.take_of_length_le (by simp only [List.length_append, List.length_take]; omega)]
    rw [hr3, List.toList_toArray, e2, List.take_append_of_le_length (by simp only [List.length_append, List.length_take, List.length_drop]; omega), List.take_of_length_le (by simp only [List.length_append, List.length_take, List.length_drop]; omega)]
    rfl
  have hcpA : ∀ (W : World), W.heap = w.heap.push (.cells ROW 114 (0, 0)) → ∀ ty dc, (Builtin.copy_ #[63, 63] ty #[.slice (some ⟨w.heap.size, i * 6, none⟩) (n + 1 - i) dc, .slice (some ⟨gv, 0, none⟩) 1 cv]).run Try.prog W = .ok (goInt 1) (W.setRow w.heap.size row2) := fun W hW ty dc => by
    have hm : Nat.min 1 (n + 1 - i) = 1 := by simp only [Nat.min_def]; split <;> omega
    have := run_copy_rowK (P := Try.prog) W 63 63 ty 114 w.heap.size (i * 6) (n + 1 - i) dc ⟨gv, 0, none⟩ 1 cv ROW 114 vl 6 Try.underlying63 hsz (by rw [hW]; simp) (by rw [hm, hvs]) (fun j v hj => by
      rw [Addr.add_lit, Nat.zero_add]
      have hg : W.heap[gv]? = some (.cells curv 114 (0, 0)) := by rw [hW, Array.getElem?_push_lt hvb, ← Array.getElem?_eq_getElem hvb]; exact hv
      rw [← hvl, List.getElem?_take] at hj
      split at hj
      · simp only [World.cell?, hg]
        rw [← Array.getElem?_toList]; exact hj
      · cases hj) (by rw [hvs, hRl]; omega) h1v
    rw [hm] at this
    rw [hr2]; exact this
  have hcpB : ∀ (W : World), W.heap = w.heap.push (.cells row2 114 (0, 0)) → ∀ ty dc sc, (Builtin.copy_ #[63, 63] ty #[.slice (some ⟨w.heap.size, (i + 1) * 6, none⟩) (n + 1 - (i + 1)) dc, .slice (some ⟨b, i * 6, none⟩) (n - i) sc]).run Try.prog W = .ok (goInt ((n - i : Nat) : Int)) (W.setRow w.heap.size row3) := fun W hW ty dc sc => by
    have hm : Nat.min (n - i) (n + 1 - (i + 1)) = n - i := by simp only [Nat.min_def]; split <;> omega
    have := run_copy_rowK (P := Try.prog) W 63 63 ty 114 w.heap.size ((i + 1) * 6) (n + 1 - (i + 1)) dc ⟨b, i * 6, none⟩ (n - i) sc row2 114 (fl.drop (i * 6)) 6 Try.underlying63 hsz (by rw [hW]; simp) (by rw [hm, List.length_drop, hfs]; omega) (fun j v hj => by
      rw [Addr.add_lit]
      rw [List.getElem?_drop] at hj
      exact hcell W (by rw [hW, Array.getElem?_push_lt hbl, ← Array.getElem?_eq_getElem hbl]) _ v hj) (by rw [List.length_drop, hfs, hr2s]; omega) (fun v hv => h1c v (List.mem_of_mem_drop hv))
    rw [hm] at this
    rw [hr3]; exact this
  have hGi : ¬ (G = i) := by omega
  have hni : ¬ (n = i) := by omega
  have mixed : Try.prog.follows Departure.mixedOrders = true := by kernel_rfl
  have hGim : ¬ (G = i + 1) := by omega
  have hw1 : IntKind.i64.wrap ((i : Int) + 1) = (i : Int) + 1 := by rw [IntKind.wrap_i64]; omega
  have hb1 : (0 : Int) ≤ (i : Int) + 1 := by omega
  have hin : i ≤ n := by omega
  have htn : ((i : Int) + 1).toNat = i + 1 := by omega
  have hE1 : ((w.alloc (.cells ROW 114)).drew).heap = w.heap.push (.cells ROW 114 (0, 0)) := rfl
  have hF1 : (((w.alloc (.cells ROW 114)).drew.setRow w.heap.size row2).drew).heap = w.heap.push (.cells row2 114 (0, 0)) := heap_setRow_push hE1
  clear hkk hik hold hROW hRl hRt hr2 hr3 hG
  refine Calls.mono (R := fun e w' => e = .returned (.slice (some ⟨w.heap.size, 0, none⟩) (n + 1) G) ∧ w' = (((w.alloc (.cells ROW 114)).drew.setRow w.heap.size row2).drew.setRow w.heap.size row3)) ?_ (fun e w' h => ⟨G, row3, hGn, hG63, h.1, by rw [h.2]; rfl, by rw [h.2]; rfl, by rw [h.2]; rfl, by rw [h.2]; exact heap_setRow_push hF1, hr3s, hr3t⟩)
  go_enter Try.func199, Try.ntmps199
  go_wp2_with (first
    | (at_builtin; refine Lib.wpList_append_run _ rfl _ _ _ _ rfl _ _ rfl rfl _ _ (hrz _) ?_)
    | (at_builtin; refine wpList_copy_runI _ rfl _ _ 63 63 rfl _ _ rfl rfl (hcpA _ hE1 _ _) ?_))
  go_region_law_o (refine step_copy_runI rfl _ _ 63 63 rfl (.slice (some ⟨w.heap.size, (i + 1) * 6, none⟩) (n + 1 - (i + 1)) (G - (i + 1))) (.slice (some ⟨b, i * 6, none⟩) (n - i) (n - i)) (by simp [Act.eval, Act.put, hni, hGi, hGim]) (by simp [Act.eval, Act.put, hni, hGi, hGim]) (hcpB _ hF1 3 (G - (i + 1)) (n - i)) ?_)
  go_wp2
  go_ret
  exact ⟨rfl, rfl⟩

set_option maxHeartbeats 4000000 in
set_option maxRecDepth 100000 in
theorem ins_room_slices_Insert_impl_Slot_impl_Slot (w : World) (b n c i gv cv : Nat) (cur curv : Array Value) (fl vl : List Value) (hi : i < n) (hroom : n + 1 ≤ c) (hc63 : c ≤ 9223372036854775807) (hne : gv ≠ b) (hb : w.heap[b]? = some (.cells cur 114 (0, 0))) (hcs : cur.size = c * 6) (hfl : cur.toList.take (n * 6) = fl) (hfs : fl.length = n * 6)
    (hv : w.heap[gv]? = some (.cells curv 114 (0, 0))) (hvl : curv.toList.take 6 = vl) (hvs : vl.length = 6) (h1c : ∀ v ∈ fl, v.oneCell' = true) (h1v : ∀ v ∈ vl, v.oneCell' = true) :
    ∃ row, row.size = c * 6 ∧ row.toList.take ((n + 1) * 6) = insC 6 i fl vl ∧
    Calls Try.prog 199 #[.slice (some ⟨b, 0, none⟩) n c, .int .i64 i, .slice (some ⟨gv, 0, none⟩) 1 cv] w fun e w' =>  e = .returned (.slice (some ⟨b, 0, none⟩) (n + 1) c) ∧ w'.os = w.os ∧ w'.tape = w.tape ∧ w'.output = w.output ∧ w'.heap = (w.setRow b row).heap := by
  obtain ⟨i0, z, hi0, hz0, hzs, hzb, hzc⟩ := info114_slices_Insert_impl_Slot_impl_Slot
  have u63 := Try.underlying63
  have hsz : (Try.prog.info? 114).map (·.size) = some 6 := by rw [hi0]; simp [hzs]
  have hbl : b < w.heap.size := (Array.getElem?_eq_some_iff.1 hb).1
  have hvb : gv < w.heap.size := (Array.getElem?_eq_some_iff.1 hv).1
  have mixed : Try.prog.follows Departure.mixedOrders = true := by kernel_rfl
  have hcell : ∀ (W : World) (cu : Array Value), W.heap[b]? = some (.cells cu 114 (0, 0)) → cu = cur → ∀ j v, fl[j]? = some v → W.cell? ⟨b, j, none⟩ = some v := fun W cu hW hcu j v hj => by
    subst hcu
    rw [← hfl, List.getElem?_take] at hj
    split at hj
    · simp only [World.cell?, hW]
      rw [← Array.getElem?_toList]; exact hj
    · cases hj
  obtain ⟨row1, hr1⟩ : ∃ row1 : Array Value, row1 = (cur.toList.take ((i + 1) * 6) ++ fl.drop (i * 6) ++ cur.toList.drop ((i + 1) * 6 + (fl.drop (i * 6)).length)).toArray := ⟨_, rfl⟩
  have hr1s : row1.size = c * 6 := by
    rw [hr1]
    simp only [List.size_toArray, List.length_append, List.length_take, List.length_drop, Array.length_toList, hcs, hfs]
    omega
  obtain ⟨row2, hr2⟩ : ∃ row2 : Array Value, row2 = (row1.toList.take (i * 6) ++ vl ++ row1.toList.drop (i * 6 + vl.length)).toArray := ⟨_, rfl⟩
  have hr2s : row2.size = c * 6 := by
    rw [hr2]
    simp only [List.size_toArray, List.length_append, List.length_take, List.length_drop, Array.length_toList, hr1s, hvs]
    omega
  have hr2t : row2.toList.take ((n + 1) * 6) = insC 6 i fl vl := by
    have e0 : cur.toList.take (i * 6) = fl.take (i * 6) := by
      rw [← hfl, List.take_take]; congr 1; omega
    have e1 : row1.toList.take (i * 6) = fl.take (i * 6) := by
      rw [hr1, List.toList_toArray, List.append_assoc, List.take_append_of_le_length (by simp only [List.length_take, Array.length_toList, hcs]; omega), List.take_take, ← e0]
      congr 1; omega
    have e2 : row1.toList.drop (i * 6 + vl.length) = fl.drop (i * 6) ++ cur.toList.drop ((i + 1) * 6 + (fl.drop (i * 6)).length) := by
      rw [hr1, List.toList_toArray, List.append_assoc]
      have : (cur.toList.take ((i + 1) * 6)).length = i * 6 + vl.length := by simp only [List.length_take, Array.length_toList, hcs, hvs]; omega
      rw [← this, List.drop_left]
    rw [hr2, List.toList_toArray, e1, e2, ← List.append_assoc, List.take_append_of_le_length (by simp only [List.length_append, List.length_take, List.length_drop]; omega), List.take_of_length_le (by simp only [List.length_append, List.length_take, List.length_drop]; omega)]
    rfl
  have hcp1 : ∀ ty dc sc, (Builtin.copy_ #[63, 63] ty #[.slice (some ⟨b, (i + 1) * 6, none⟩) (n + 1 - (i + 1)) dc, .slice (some ⟨b, i * 6, none⟩) (n + 1 - i) sc]).run Try.prog w.drew = .ok (goInt ((n - i : Nat) : Int)) (w.drew.setRow b row1) := fun ty dc sc => by
    have hm : Nat.min (n + 1 - i) (n + 1 - (i + 1)) = n - i := by simp only [Nat.min_def]; split <;> omega
    have := run_copy_rowK (P := Try.prog) w.drew 63 63 ty 114 b ((i + 1) * 6) (n + 1 - (i + 1)) dc ⟨b, i * 6, none⟩ (n + 1 - i) sc cur 114 (fl.drop (i * 6)) 6 Try.underlying63 hsz hb (by rw [hm, List.length_drop, hfs]; omega) (fun j v hj => by
      rw [Addr.add_lit]
      rw [List.getElem?_drop] at hj
      exact hcell w.drew cur hb rfl _ v hj) (by rw [List.length_drop, hfs, hcs]; omega) (fun v hv => h1c v (List.mem_of_mem_drop hv))
    rw [hm] at this
    rw [hr1]; exact this
  have hcp2 : ∀ (W : World), W.heap = (w.setRow b row1).heap → ∀ ty dc, (Builtin.copy_ #[63, 63] ty #[.slice (some ⟨b, i * 6, none⟩) (n + 1 - i) dc, .slice (some ⟨gv, 0, none⟩) 1 cv]).run Try.prog W = .ok (goInt 1) (W.setRow b row2) := fun W hW ty dc => by
    have hm : Nat.min 1 (n + 1 - i) = 1 := by simp only [Nat.min_def]; split <;> omega
    have := run_copy_rowK (P := Try.prog) W 63 63 ty 114 b (i * 6) (n + 1 - i) dc ⟨gv, 0, none⟩ 1 cv row1 114 vl 6 Try.underlying63 hsz (by rw [hW]; exact set_row_some hb) (by rw [hm, hvs]) (fun j v hj => by
      rw [Addr.add_lit, Nat.zero_add]
      have hg : W.heap[gv]? = some (.cells curv 114 (0, 0)) := by rw [hW, setRow_other w b gv row1 hne]; exact hv
      rw [← hvl, List.getElem?_take] at hj
      split at hj
      · simp only [World.cell?, hg]
        rw [← Array.getElem?_toList]; exact hj
      · cases hj) (by rw [hvs, hr1s]; omega) h1v
    rw [hm] at this
    rw [hr2]; exact this
  have hov : ∀ lb cb, (callFunc 234 #[.slice (some ⟨gv, 0, none⟩) 1 cv, .slice (some ⟨b, (i + 1) * 6, none⟩) lb cb]).run Try.prog w = .ok (.value (.bool false)) w := fun lb cb => by
    rw [run_callFunc_extern Try.func234 (by kernel_rfl) (by kernel_rfl) (by kernel_rfl) (e := Extern.SlicesOverlaps.overlaps #[63, 63] #[4]) (by kernel_rfl),
      Lib.run_overlaps_apart w 63 4 114 Try.underlying63 6 (fun w => by simp [sizeOf, typeInfo, hi0, hzs]) ⟨gv, 0, none⟩ ⟨b, (i + 1) * 6, none⟩ 1 cv lb cb hne 114 114 curv.size cur.size (by simp only [World.shape?, hv]) (by simp only [World.shape?, hb]) (by rw [hcs]; omega) (by simp [World.frozen?, hv]) (by simp [World.frozen?, hv])]
    rfl
  have hz2 : ¬ ((i : Int) = (n : Int)) := by omega
  have hw1 : IntKind.i64.wrap ((i : Int) + 1) = (i : Int) + 1 := by rw [IntKind.wrap_i64]; omega
  have hb1 : (0 : Int) ≤ (i : Int) + 1 := by omega
  have hin : i ≤ n := by omega
  have htn : ((i : Int) + 1).toNat = i + 1 := by omega
  have hb2 : ¬ (c = i + 1) := by omega
  have hb3 : (i : Int) ≤ (n : Int) + 1 := by omega
  have hb4 : ¬ (c = i) := by omega
  have hF1 : (w.drew.setRow b row1).heap = (w.setRow b row1).heap := rfl
  refine ⟨row2, hr2s, hr2t, Calls.mono (R := fun e w' => e = .returned (.slice (some ⟨b, 0, none⟩) (n + 1) c) ∧ w' = ((w.drew.setRow b row1).setRow b row2)) ?_ (fun e w' h => ⟨h.1, by rw [h.2]; rfl, by rw [h.2]; rfl, by rw [h.2]; rfl, by rw [h.2]; show ((w.setRow b row1).setRow b row2).heap = _; rw [setRow_setRow]⟩)⟩
  clear hr1 hr2 hr1s hr2s hr2t
  go_enter Try.func199, Try.ntmps199
  go_wp2_with (simp only [hov])
  go_region_law_o (refine step_copy_runI rfl _ _ 63 63 rfl (.slice (some ⟨b, (i + 1) * 6, none⟩) (n + 1 - (i + 1)) (c - (i + 1))) (.slice (some ⟨b, i * 6, none⟩) (n + 1 - i) (c - i)) (by simp [Act.eval, Act.put, hb2, hb4]) (by simp [Act.eval, Act.put, hb2, hb4]) (hcp1 3 (c - (i + 1)) (c - i)) ?_)
  go_wp2_with (at_builtin; refine wpList_copy_runI _ rfl _ _ 63 63 rfl _ _ rfl rfl (hcp2 _ hF1 _ _) ?_)
  go_ret
  exact ⟨rfl, rfl⟩

set_option maxHeartbeats 4000000 in
set_option maxRecDepth 100000 in
theorem ins_end_slices_Insert_impl_Slot_impl_Slot (w : World) (v : Value) (n gv cv : Nat) (curv : Array Value) (fl vl : List Value) (hn63 : n + 1 ≤ maxLen) (hbig : (n + 1) * 64 ≤ 140737488355328) (how : Own w 114 6 v n fl)
    (hv : w.heap[gv]? = some (.cells curv 114 (0, 0))) (hvl : curv.toList.take 6 = vl) (hvs : vl.length = 6) (h1v : ∀ v ∈ vl, v.oneCell' = true) :
    ∃ v' w', Own w' 114 6 v' (n + 1) (fl ++ vl) ∧ w.grownBy w' (ownB v) ∧ (∀ g, ownB v' = some g → w.heap.size ≤ g ∨ ownB v = some g) ∧ 
    Calls Try.prog 199 #[v, .int .i64 n, .slice (some ⟨gv, 0, none⟩) 1 cv] w fun e w1 =>  e = .returned v' ∧ w1 = w' := by
  obtain ⟨i0, z, hi0, hz0, hzs, hzb, hzc⟩ := info114_slices_Insert_impl_Slot_impl_Slot
  have u63 := Try.underlying63
  have mixed : Try.prog.follows Departure.mixedOrders = true := by kernel_rfl
  obtain ⟨v', w', hrun, ho, hgr, hblk⟩ := run_append_Own (P := Try.prog) (w := w) (t := 63) (ty := 63) Try.underlying63 hi0 hz0 hzs hzb hzc (by decide) how ⟨gv, 0, none⟩ 1 cv vl (by rw [hvs]) (fun j u hj => by
    rw [Addr.add_lit, Nat.zero_add]
    rw [← hvl, List.getElem?_take] at hj
    split at hj
    · simp only [World.cell?, hv]
      rw [← Array.getElem?_toList]; exact hj
    · cases hj) h1v hn63 hbig
  refine ⟨v', w', ho, hgr, hblk, ?_⟩
  rcases how.2 with ⟨A, rfl, rfl⟩ | ⟨b, cap, cur, rfl, hb, hcb, hnc, hcm, hcs, htk⟩
  · cases A with
    | none =>
      clear ho hgr hblk how
      go_enter Try.func199, Try.ntmps199
      go_wp2_with (at_builtin; refine Lib.wpList_append_run _ rfl _ _ _ _ rfl _ _ rfl rfl _ _ hrun ?_)
      go_ret
      exact ⟨rfl, rfl⟩
    | some a0 =>
      obtain ⟨a1, a2, a3⟩ := a0
      clear ho hgr hblk how
      go_enter Try.func199, Try.ntmps199
      go_wp2_with (at_builtin; refine Lib.wpList_append_run _ rfl _ _ _ _ rfl _ _ rfl rfl _ _ hrun ?_)
      go_ret
      exact ⟨rfl, rfl⟩
  · have hc2 : cap ≤ 9223372036854775807 := hcm
    clear ho hgr hblk how
    go_enter Try.func199, Try.ntmps199
    go_wp2_with (at_builtin; refine Lib.wpList_append_run _ rfl _ _ _ _ rfl _ _ rfl rfl _ _ hrun ?_)
    all_goals (go_ret; exact ⟨rfl, rfl⟩)

theorem ins_walk_slices_Insert_impl_Slot_impl_Slot : InsWalk Try.prog 199 114 6 64 := by
  intro w v0 v1 n i fl vl h0 h1 hi hbig one0 one1 hne
  have hn63 : n + 1 ≤ maxLen := by simp only [maxLen]; omega
  rcases h1.2 with ⟨A, rfl, h⟩ | ⟨gv, cv, curv, rfl, hcv, hv, hv1, hv2, hv3, hvl⟩
  · cases h
  have hvs : vl.length = 6 := by rw [h1.1]
  rw [Nat.one_mul] at hvl
  by_cases hin : i = n
  · subst hin
    obtain ⟨v', w', k1, k2, k3, k4⟩ := ins_end_slices_Insert_impl_Slot_impl_Slot w v0 i gv cv curv fl vl hn63 hbig h0 hv hvl hvs one1
    refine k4.mono ?_
    rintro en w1 ⟨rfl, rfl⟩
    refine ⟨v', rfl, ?_, k2, k3⟩
    have : insC 6 i fl vl = fl ++ vl := by
      unfold insC
      rw [← h0.1, List.take_length, List.drop_length, List.append_nil]
    rw [this]; exact k1
  · rcases h0.2 with ⟨A, rfl, h⟩ | ⟨b, cap, cur, rfl, hcb, hb, hnc, hcm, hcs, htk⟩
    · omega
    · have hgb : gv ≠ b := fun h => hne b (ownB_of hcb) (by rw [h]; exact ownB_of hcv)
      have hlen : (insC 6 i fl vl).length = (n + 1) * 6 := by
        simp only [insC, List.length_append, List.length_take, List.length_drop, h0.1, hvs]
        omega
      by_cases hroom : n + 1 ≤ cap
      · obtain ⟨row, r1, r2, r3⟩ := ins_room_slices_Insert_impl_Slot_impl_Slot w b n cap i gv cv cur curv fl vl (by omega) hroom hcm hgb hb hcs htk h0.1 hv hvl hvs one0 one1
        refine r3.mono ?_
        rintro en w1 ⟨rfl, q1, q2, q3, q4⟩
        refine ⟨_, rfl, ⟨hlen, .inr ⟨b, cap, row, rfl, hcb, by rw [q4]; exact set_row_some hb, hroom, hcm, r1, r2⟩⟩, ⟨q1, q2, q3, by rw [q4]; simp, fun k hk hne => by rw [q4]; exact setRow_other w b k row (fun he => hne (by rw [he]; exact (ownB_of hcb).symm))⟩, fun g hg => .inr ?_⟩
        rw [ownB_of hcb] at hg ⊢
        exact hg
      · have hcn : cap = n := by omega
        subst hcn
        refine (ins_grow_slices_Insert_impl_Slot_impl_Slot w b cap i gv cv cur curv fl vl (by omega) hbig hb htk h0.1 hv hvl hvs one0 one1).mono ?_
        rintro en w1 ⟨G, row, g1, g2, rfl, q1, q2, q3, q4, q5, q6⟩
        refine ⟨_, rfl, ⟨hlen, .inr ⟨w.heap.size, G, row, rfl, by omega, by rw [q4]; simp, g1, g2, q5, q6⟩⟩, ⟨q1, q2, q3, by rw [q4]; simp, fun k hk _ => by rw [q4, Array.getElem?_push_lt hk, ← Array.getElem?_eq_getElem hk]⟩, fun g hg => .inl ?_⟩
        rw [ownB_of (by omega)] at hg
        cases hg; exact Nat.le_refl _
theorem sound_slices_Insert_impl_Slot_impl_Slot : Sound Try.prog 199 S_slices_Insert_impl_Slot_impl_Slot := sound_ins ins_walk_slices_Insert_impl_Slot_impl_Slot
theorem ok_slices_Insert_impl_Slot_impl_Slot : EnvOK Try.prog G_slices_Insert_impl_Slot_impl_Slot := envOK_sound ok_impl_copyAcceptor ⟨_, Try.func199, by kernel_rfl, by kernel_rfl⟩ sound_slices_Insert_impl_Slot_impl_Slot
theorem e_impl_Acceptor_accept (n : Nat) (x) : afun G_slices_Insert_impl_Slot_impl_Slot T BB 2 n Try.f91 a_impl_Acceptor_accept S_impl_Acceptor_accept.ps S_impl_Acceptor_accept.rs x = p_impl_Acceptor_accept n x := by kernel_rfl
theorem ok_impl_Acceptor_accept : EnvOK Try.prog G_impl_Acceptor_accept := envOK_cons hm hT ok_slices_Insert_impl_Slot_impl_Slot Try.func91 (by kernel_rfl) hBB fun x r hr => ⟨FU, (e_impl_Acceptor_accept FU x).trans hr⟩
theorem e_impl_AcceptAt (n : Nat) (x) : afun G_impl_Acceptor_accept T BB 0 n Try.f41 a_impl_AcceptAt S_impl_AcceptAt.ps S_impl_AcceptAt.rs x = p_impl_AcceptAt n x := by kernel_rfl
theorem ok_impl_AcceptAt : EnvOK Try.prog G_impl_AcceptAt := envOK_cons hm hT ok_impl_Acceptor_accept Try.func41 (by kernel_rfl) hBB fun x r hr => ⟨FU, (e_impl_AcceptAt FU x).trans hr⟩
theorem e_laws_eqVote (n : Nat) (x) : afun G_impl_AcceptAt T BB 0 n Try.f86 a_laws_eqVote S_laws_eqVote.ps S_laws_eqVote.rs x = p_laws_eqVote n x := by kernel_rfl
theorem ok_laws_eqVote : EnvOK Try.prog G_laws_eqVote := envOK_cons hm hT ok_impl_AcceptAt Try.func86 (by kernel_rfl) hBB fun x r hr => ⟨FU, (e_laws_eqVote FU x).trans hr⟩
theorem e_laws_eqVoteS (n : Nat) (x) : afun G_laws_eqVote T BB 0 n Try.f202 a_laws_eqVoteS S_laws_eqVoteS.ps S_laws_eqVoteS.rs x = p_laws_eqVoteS n x := by kernel_rfl
theorem ok_laws_eqVoteS : EnvOK Try.prog G_laws_eqVoteS := envOK_cons hm hT ok_laws_eqVote Try.func202 (by kernel_rfl) hBB fun x r hr => ⟨FU, (e_laws_eqVoteS FU x).trans hr⟩
theorem e_laws_eqSlot (n : Nat) (x) : afun G_laws_eqVoteS T BB 0 n Try.f154 a_laws_eqSlot S_laws_eqSlot.ps S_laws_eqSlot.rs x = p_laws_eqSlot n x := by kernel_rfl
theorem ok_laws_eqSlot : EnvOK Try.prog G_laws_eqSlot := envOK_cons hm hT ok_laws_eqVoteS Try.func154 (by kernel_rfl) hBB fun x r hr => ⟨FU, (e_laws_eqSlot FU x).trans hr⟩
theorem e_laws_eqSlotS (n : Nat) (x) : afun G_laws_eqSlot T BB 0 n Try.f87 a_laws_eqSlotS S_laws_eqSlotS.ps S_laws_eqSlotS.rs x = p_laws_eqSlotS n x := by kernel_rfl
theorem ok_laws_eqSlotS : EnvOK Try.prog G_laws_eqSlotS := envOK_cons hm hT ok_laws_eqSlot Try.func87 (by kernel_rfl) hBB fun x r hr => ⟨FU, (e_laws_eqSlotS FU x).trans hr⟩
theorem e_laws_eqAcceptor (n : Nat) (x) : afun G_laws_eqSlotS T BB 0 n Try.f36 a_laws_eqAcceptor S_laws_eqAcceptor.ps S_laws_eqAcceptor.rs x = p_laws_eqAcceptor n x := by kernel_rfl
theorem ok_laws_eqAcceptor : EnvOK Try.prog G_laws_eqAcceptor := envOK_cons hm hT ok_laws_eqSlotS Try.func36 (by kernel_rfl) hBB fun x r hr => ⟨FU, (e_laws_eqAcceptor FU x).trans hr⟩
theorem e_laws_eqAcceptorResult (n : Nat) (x) : afun G_laws_eqAcceptor T BB 0 n Try.f35 a_laws_eqAcceptorResult S_laws_eqAcceptorResult.ps S_laws_eqAcceptorResult.rs x = p_laws_eqAcceptorResult n x := by kernel_rfl
theorem ok_laws_eqAcceptorResult : EnvOK Try.prog G_laws_eqAcceptorResult := envOK_cons hm hT ok_laws_eqAcceptor Try.func35 (by kernel_rfl) hBB fun x r hr => ⟨FU, (e_laws_eqAcceptorResult FU x).trans hr⟩
theorem e_laws_markVoteS (n : Nat) (x) : afun G_laws_eqAcceptorResult T BB 0 n Try.f155 a_laws_markVoteS S_laws_markVoteS.ps S_laws_markVoteS.rs x = p_laws_markVoteS n x := by kernel_rfl
theorem ok_laws_markVoteS : EnvOK Try.prog G_laws_markVoteS := envOK_cons hm hT ok_laws_eqAcceptorResult Try.func155 (by kernel_rfl) hBB fun x r hr => ⟨FU, (e_laws_markVoteS FU x).trans hr⟩
theorem e_laws_markSlotS (n : Nat) (x) : afun G_laws_markVoteS T BB 0 n Try.f88 a_laws_markSlotS S_laws_markSlotS.ps S_laws_markSlotS.rs x = p_laws_markSlotS n x := by kernel_rfl
theorem ok_laws_markSlotS : EnvOK Try.prog G_laws_markSlotS := envOK_cons hm hT ok_laws_markVoteS Try.func88 (by kernel_rfl) hBB fun x r hr => ⟨FU, (e_laws_markSlotS FU x).trans hr⟩
theorem e_laws_heldVoteS (n : Nat) (x) : afun G_laws_markSlotS T BB 0 n Try.f203 a_laws_heldVoteS S_laws_heldVoteS.ps S_laws_heldVoteS.rs x = p_laws_heldVoteS n x := by kernel_rfl
theorem ok_laws_heldVoteS : EnvOK Try.prog G_laws_heldVoteS := envOK_cons hm hT ok_laws_markSlotS Try.func203 (by kernel_rfl) hBB fun x r hr => ⟨FU, (e_laws_heldVoteS FU x).trans hr⟩
theorem e_laws_heldSlotS (n : Nat) (x) : afun G_laws_heldVoteS T BB 0 n Try.f156 a_laws_heldSlotS S_laws_heldSlotS.ps S_laws_heldSlotS.rs x = p_laws_heldSlotS n x := by kernel_rfl
theorem ok_laws_heldSlotS : EnvOK Try.prog G_laws_heldSlotS := envOK_cons hm hT ok_laws_heldVoteS Try.func156 (by kernel_rfl) hBB fun x r hr => ⟨FU, (e_laws_heldSlotS FU x).trans hr⟩
theorem e_laws_heldAcceptor (n : Nat) (x) : afun G_laws_heldSlotS T BB 0 n Try.f89 a_laws_heldAcceptor S_laws_heldAcceptor.ps S_laws_heldAcceptor.rs x = p_laws_heldAcceptor n x := by kernel_rfl
theorem ok_laws_heldAcceptor : EnvOK Try.prog G_laws_heldAcceptor := envOK_cons hm hT ok_laws_heldSlotS Try.func89 (by kernel_rfl) hBB fun x r hr => ⟨FU, (e_laws_heldAcceptor FU x).trans hr⟩
theorem e_laws_heldAcceptorResult (n : Nat) (x) : afun G_laws_heldAcceptor T BB 0 n Try.f39 a_laws_heldAcceptorResult S_laws_heldAcceptorResult.ps S_laws_heldAcceptorResult.rs x = p_laws_heldAcceptorResult n x := by kernel_rfl
theorem ok_laws_heldAcceptorResult : EnvOK Try.prog G_laws_heldAcceptorResult := envOK_cons hm hT ok_laws_heldAcceptor Try.func39 (by kernel_rfl) hBB fun x r hr => ⟨FU, (e_laws_heldAcceptorResult FU x).trans hr⟩
theorem e_laws_FnExactAcceptAt (n : Nat) (x) : afun G_laws_heldAcceptorResult T BB 2 n Try.f7 a_laws_FnExactAcceptAt S_laws_FnExactAcceptAt.ps S_laws_FnExactAcceptAt.rs x = p_laws_FnExactAcceptAt n x := by kernel_rfl
theorem ok_laws_FnExactAcceptAt : EnvOK Try.prog G_laws_FnExactAcceptAt := envOK_cons hm hT ok_laws_heldAcceptorResult Try.func7 (by kernel_rfl) hBB fun x r hr => ⟨FU, (e_laws_FnExactAcceptAt FU x).trans hr⟩
end Go.RvP
