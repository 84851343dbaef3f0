/- Each function of the program is as its plain function says, for FnExactChosenIn. No condition. -/
import Derived.Test.YtekndmbpphncmaaRvP12
import Derived.Test.YtekndmbpphncmaaProg
import Derived.KernelRfl
import Derived.WalkKit
namespace Go.RvP
open Go Go.Rv Go.Proofs Go.Shelf Go.RowKit Go.Lib Go.Sort
set_option maxRecDepth 100000
theorem hm : Try.prog.follows .mixedOrders = true := by kernel_rfl
theorem hT : TabOK Try.prog T := tabOK_of (by kernel_rfl)
noncomputable def BB : Bodies := [(115, Try.f115), (116, Try.f116), (125, Try.f125)]
theorem hBB : BodyOK Try.prog BB := (bodyOK_cons Try.func115 (by kernel_rfl) (bodyOK_cons Try.func116 (by kernel_rfl) (bodyOK_cons Try.func125 (by kernel_rfl) bodyOK_nil)))
theorem e_laws_szVoteS (n : Nat) (x) : afun [] T BB 0 n Try.f22 a_laws_szVoteS S_laws_szVoteS.ps S_laws_szVoteS.rs x = p_laws_szVoteS n x := by kernel_rfl
theorem ok_laws_szVoteS : EnvOK Try.prog G_laws_szVoteS := envOK_cons hm hT envOK_nil Try.func22 (by kernel_rfl) hBB fun x r hr => ⟨FU, (e_laws_szVoteS FU x).trans hr⟩
theorem e_laws_szSlot (n : Nat) (x) : afun G_laws_szVoteS T BB 0 n Try.f30 a_laws_szSlot S_laws_szSlot.ps S_laws_szSlot.rs x = p_laws_szSlot n x := by kernel_rfl
theorem ok_laws_szSlot : EnvOK Try.prog G_laws_szSlot := envOK_cons hm hT ok_laws_szVoteS Try.func30 (by kernel_rfl) hBB fun x r hr => ⟨FU, (e_laws_szSlot FU x).trans hr⟩
theorem e_laws_szSlotS (n : Nat) (x) : afun G_laws_szSlot T BB 0 n Try.f41 a_laws_szSlotS S_laws_szSlotS.ps S_laws_szSlotS.rs x = p_laws_szSlotS n x := by kernel_rfl
theorem ok_laws_szSlotS : EnvOK Try.prog G_laws_szSlotS := envOK_cons hm hT ok_laws_szSlot Try.func41 (by kernel_rfl) hBB fun x r hr => ⟨FU, (e_laws_szSlotS FU x).trans hr⟩
theorem e_laws_toVote (n : Nat) (x) : afun G_laws_szSlotS T BB 0 n Try.f80 a_laws_toVote S_laws_toVote.ps S_laws_toVote.rs x = p_laws_toVote n x := by kernel_rfl
theorem ok_laws_toVote : EnvOK Try.prog G_laws_toVote := envOK_cons hm hT ok_laws_szSlotS Try.func80 (by kernel_rfl) hBB fun x r hr => ⟨FU, (e_laws_toVote FU x).trans hr⟩
theorem e_laws_toVoteS (n : Nat) (x) : afun G_laws_toVote T BB 0 n Try.f23 a_laws_toVoteS S_laws_toVoteS.ps S_laws_toVoteS.rs x = p_laws_toVoteS n x := by kernel_rfl
theorem ok_laws_toVoteS : EnvOK Try.prog G_laws_toVoteS := envOK_cons hm hT ok_laws_toVote Try.func23 (by kernel_rfl) hBB fun x r hr => ⟨FU, (e_laws_toVoteS FU x).trans hr⟩
theorem e_laws_toSlot (n : Nat) (x) : afun G_laws_toVoteS T BB 0 n Try.f32 a_laws_toSlot S_laws_toSlot.ps S_laws_toSlot.rs x = p_laws_toSlot n x := by kernel_rfl
theorem ok_laws_toSlot : EnvOK Try.prog G_laws_toSlot := envOK_cons hm hT ok_laws_toVoteS Try.func32 (by kernel_rfl) hBB fun x r hr => ⟨FU, (e_laws_toSlot FU x).trans hr⟩
theorem e_laws_toSlotS (n : Nat) (x) : afun G_laws_toSlot T BB 0 n Try.f43 a_laws_toSlotS S_laws_toSlotS.ps S_laws_toSlotS.rs x = p_laws_toSlotS n x := by kernel_rfl
theorem ok_laws_toSlotS : EnvOK Try.prog G_laws_toSlotS := envOK_cons hm hT ok_laws_toSlot Try.func43 (by kernel_rfl) hBB fun x r hr => ⟨FU, (e_laws_toSlotS FU x).trans hr⟩
theorem e_spec_l1In (n : Nat) (x) : afun G_laws_toSlotS T BB 0 n Try.f63 a_spec_l1In S_spec_l1In.ps S_spec_l1In.rs x = p_spec_l1In n x := by kernel_rfl
theorem ok_spec_l1In : EnvOK Try.prog G_spec_l1In := envOK_cons hm hT ok_laws_toSlotS Try.func63 (by kernel_rfl) hBB fun x r hr => ⟨FU, (e_spec_l1In FU x).trans hr⟩
theorem e_spec_l1Id (n : Nat) (x) : afun G_spec_l1In T BB 0 n Try.f82 a_spec_l1Id S_spec_l1Id.ps S_spec_l1Id.rs x = p_spec_l1Id n x := by kernel_rfl
theorem ok_spec_l1Id : EnvOK Try.prog G_spec_l1Id := envOK_cons hm hT ok_spec_l1In Try.func82 (by kernel_rfl) hBB fun x r hr => ⟨FU, (e_spec_l1Id FU x).trans hr⟩
theorem e_spec_l8Ballot (n : Nat) (x) : afun G_spec_l1Id T BB 0 n Try.f77 a_spec_l8Ballot S_spec_l8Ballot.ps S_spec_l8Ballot.rs x = p_spec_l8Ballot n x := by kernel_rfl
theorem ok_spec_l8Ballot : EnvOK Try.prog G_spec_l8Ballot := envOK_cons hm hT ok_spec_l1Id Try.func77 (by kernel_rfl) hBB fun x r hr => ⟨FU, (e_spec_l8Ballot FU x).trans hr⟩
theorem e_spec_l8Value (n : Nat) (x) : afun G_spec_l8Ballot T BB 0 n Try.f78 a_spec_l8Value S_spec_l8Value.ps S_spec_l8Value.rs x = p_spec_l8Value n x := by kernel_rfl
theorem ok_spec_l8Value : EnvOK Try.prog G_spec_l8Value := envOK_cons hm hT ok_spec_l8Ballot Try.func78 (by kernel_rfl) hBB fun x r hr => ⟨FU, (e_spec_l8Value FU x).trans hr⟩
theorem e_spec_l8None (n : Nat) (x) : afun G_spec_l8Value T BB 0 n Try.f69 a_spec_l8None S_spec_l8None.ps S_spec_l8None.rs x = p_spec_l8None n x := by kernel_rfl
theorem ok_spec_l8None : EnvOK Try.prog G_spec_l8None := envOK_cons hm hT ok_spec_l8Value Try.func69 (by kernel_rfl) hBB fun x r hr => ⟨FU, (e_spec_l8None FU x).trans hr⟩
theorem e_spec_l8Last (n : Nat) (x) : afun G_spec_l8None T BB 0 n Try.f87 a_spec_l8Last S_spec_l8Last.ps S_spec_l8Last.rs x = p_spec_l8Last n x := by kernel_rfl
theorem ok_spec_l8Last : EnvOK Try.prog G_spec_l8Last := envOK_cons hm hT ok_spec_l8None Try.func87 (by kernel_rfl) hBB fun x r hr => ⟨FU, (e_spec_l8Last FU x).trans hr⟩
theorem e_spec_SlotFault (n : Nat) (x) : afun G_spec_l8Last T BB 0 n Try.f31 a_spec_SlotFault S_spec_SlotFault.ps S_spec_SlotFault.rs x = p_spec_SlotFault n x := by kernel_rfl
theorem ok_spec_SlotFault : EnvOK Try.prog G_spec_SlotFault := envOK_cons hm hT ok_spec_l8Last Try.func31 (by kernel_rfl) hBB fun x r hr => ⟨FU, (e_spec_SlotFault FU x).trans hr⟩
theorem e_spec_l8Asked (n : Nat) (x) : afun G_spec_SlotFault T BB 0 n Try.f96 a_spec_l8Asked S_spec_l8Asked.ps S_spec_l8Asked.rs x = p_spec_l8Asked n x := by kernel_rfl
theorem ok_spec_l8Asked : EnvOK Try.prog G_spec_l8Asked := envOK_cons hm hT ok_spec_SlotFault Try.func96 (by kernel_rfl) hBB fun x r hr => ⟨FU, (e_spec_l8Asked FU x).trans hr⟩
theorem e_spec_l8Cast (n : Nat) (x) : afun G_spec_l8Asked T BB 0 n Try.f113 a_spec_l8Cast S_spec_l8Cast.ps S_spec_l8Cast.rs x = p_spec_l8Cast n x := by kernel_rfl
theorem ok_spec_l8Cast : EnvOK Try.prog G_spec_l8Cast := envOK_cons hm hT ok_spec_l8Asked Try.func113 (by kernel_rfl) hBB fun x r hr => ⟨FU, (e_spec_l8Cast FU x).trans hr⟩
theorem e_spec_l8Quorum (n : Nat) (x) : afun G_spec_l8Cast T BB 0 n Try.f64 a_spec_l8Quorum S_spec_l8Quorum.ps S_spec_l8Quorum.rs x = p_spec_l8Quorum n x := by kernel_rfl
theorem ok_spec_l8Quorum : EnvOK Try.prog G_spec_l8Quorum := envOK_cons hm hT ok_spec_l8Cast Try.func64 (by kernel_rfl) hBB fun x r hr => ⟨FU, (e_spec_l8Quorum FU x).trans hr⟩
theorem e_spec_l8Chosen (n : Nat) (x) : afun G_spec_l8Quorum T BB 0 n Try.f97 a_spec_l8Chosen S_spec_l8Chosen.ps S_spec_l8Chosen.rs x = p_spec_l8Chosen n x := by kernel_rfl
theorem ok_spec_l8Chosen : EnvOK Try.prog G_spec_l8Chosen := envOK_cons hm hT ok_spec_l8Quorum Try.func97 (by kernel_rfl) hBB fun x r hr => ⟨FU, (e_spec_l8Chosen FU x).trans hr⟩
theorem e_spec_ChosenIn (n : Nat) (x) : afun G_spec_l8Chosen T BB 0 n Try.f46 a_spec_ChosenIn S_spec_ChosenIn.ps S_spec_ChosenIn.rs x = p_spec_ChosenIn n x := by kernel_rfl
theorem ok_spec_ChosenIn : EnvOK Try.prog G_spec_ChosenIn := envOK_cons hm hT ok_spec_l8Chosen Try.func46 (by kernel_rfl) hBB fun x r hr => ⟨FU, (e_spec_ChosenIn FU x).trans hr⟩
theorem e_impl_within (n : Nat) (x) : afun G_spec_ChosenIn T BB 0 n Try.f65 a_impl_within S_impl_within.ps S_impl_within.rs x = p_impl_within n x := by kernel_rfl
theorem ok_impl_within : EnvOK Try.prog G_impl_within := envOK_cons hm hT ok_spec_ChosenIn Try.func65 (by kernel_rfl) hBB fun x r hr => ⟨FU, (e_impl_within FU x).trans hr⟩
theorem e_impl_isId (n : Nat) (x) : afun G_impl_within T BB 0 n Try.f83 a_impl_isId S_impl_isId.ps S_impl_isId.rs x = p_impl_isId n x := by kernel_rfl
theorem ok_impl_isId : EnvOK Try.prog G_impl_isId := envOK_cons hm hT ok_impl_within Try.func83 (by kernel_rfl) hBB fun x r hr => ⟨FU, (e_impl_isId FU x).trans hr⟩
theorem e_impl_isShard (n : Nat) (x) : afun G_impl_isId T BB 0 n Try.f84 a_impl_isShard S_impl_isShard.ps S_impl_isShard.rs x = p_impl_isShard n x := by kernel_rfl
theorem ok_impl_isShard : EnvOK Try.prog G_impl_isShard := envOK_cons hm hT ok_impl_isId Try.func84 (by kernel_rfl) hBB fun x r hr => ⟨FU, (e_impl_isShard FU x).trans hr⟩
theorem e_impl_isBallot (n : Nat) (x) : afun G_impl_isShard T BB 0 n Try.f91 a_impl_isBallot S_impl_isBallot.ps S_impl_isBallot.rs x = p_impl_isBallot n x := by kernel_rfl
theorem ok_impl_isBallot : EnvOK Try.prog G_impl_isBallot := envOK_cons hm hT ok_impl_isShard Try.func91 (by kernel_rfl) hBB fun x r hr => ⟨FU, (e_impl_isBallot FU x).trans hr⟩
theorem e_impl_isValue (n : Nat) (x) : afun G_impl_isBallot T BB 0 n Try.f76 a_impl_isValue S_impl_isValue.ps S_impl_isValue.rs x = p_impl_isValue n x := by kernel_rfl
theorem ok_impl_isValue : EnvOK Try.prog G_impl_isValue := envOK_cons hm hT ok_impl_isBallot Try.func76 (by kernel_rfl) hBB fun x r hr => ⟨FU, (e_impl_isValue FU x).trans hr⟩
theorem e_impl_isVote (n : Nat) (x) : afun G_impl_isValue T BB 0 n Try.f75 a_impl_isVote S_impl_isVote.ps S_impl_isVote.rs x = p_impl_isVote n x := by kernel_rfl
theorem ok_impl_isVote : EnvOK Try.prog G_impl_isVote := envOK_cons hm hT ok_impl_isValue Try.func75 (by kernel_rfl) hBB fun x r hr => ⟨FU, (e_impl_isVote FU x).trans hr⟩
theorem e_impl_castFault (n : Nat) (x) : afun G_impl_isVote T BB 0 n Try.f88 a_impl_castFault S_impl_castFault.ps S_impl_castFault.rs x = p_impl_castFault n x := by kernel_rfl
theorem ok_impl_castFault : EnvOK Try.prog G_impl_castFault := envOK_cons hm hT ok_impl_isVote Try.func88 (by kernel_rfl) hBB fun x r hr => ⟨FU, (e_impl_castFault FU x).trans hr⟩
theorem e_impl_noVote (n : Nat) (x) : afun G_impl_castFault T BB 0 n Try.f74 a_impl_noVote S_impl_noVote.ps S_impl_noVote.rs x = p_impl_noVote n x := by kernel_rfl
theorem ok_impl_noVote : EnvOK Try.prog G_impl_noVote := envOK_cons hm hT ok_impl_castFault Try.func74 (by kernel_rfl) hBB fun x r hr => ⟨FU, (e_impl_noVote FU x).trans hr⟩
theorem e_impl_lastCast (n : Nat) (x) : afun G_impl_noVote T BB 0 n Try.f89 a_impl_lastCast S_impl_lastCast.ps S_impl_lastCast.rs x = p_impl_lastCast n x := by kernel_rfl
theorem ok_impl_lastCast : EnvOK Try.prog G_impl_lastCast := envOK_cons hm hT ok_impl_noVote Try.func89 (by kernel_rfl) hBB fun x r hr => ⟨FU, (e_impl_lastCast FU x).trans hr⟩
theorem e_impl_SlotFault (n : Nat) (x) : afun G_impl_lastCast T BB 0 n Try.f33 a_impl_SlotFault S_impl_SlotFault.ps S_impl_SlotFault.rs x = p_impl_SlotFault n x := by kernel_rfl
theorem ok_impl_SlotFault : EnvOK Try.prog G_impl_SlotFault := envOK_cons hm hT ok_impl_lastCast Try.func33 (by kernel_rfl) hBB fun x r hr => ⟨FU, (e_impl_SlotFault FU x).trans hr⟩
theorem e_impl_size_impl_Slot (n : Nat) (x) : afun G_impl_SlotFault T BB 0 n Try.f114 a_impl_size_impl_Slot S_impl_size_impl_Slot.ps S_impl_size_impl_Slot.rs x = p_impl_size_impl_Slot n x := by kernel_rfl
theorem ok_impl_size_impl_Slot : EnvOK Try.prog G_impl_size_impl_Slot := envOK_cons hm hT ok_impl_SlotFault Try.func114 (by kernel_rfl) hBB fun x r hr => ⟨FU, (e_impl_size_impl_Slot FU x).trans hr⟩
theorem e_impl_slotsFault (n : Nat) (x) : afun G_impl_size_impl_Slot T BB 3 n Try.f98 a_impl_slotsFault S_impl_slotsFault.ps S_impl_slotsFault.rs x = p_impl_slotsFault n x := by kernel_rfl
theorem ok_impl_slotsFault : EnvOK Try.prog G_impl_slotsFault := envOK_cons hm hT ok_impl_size_impl_Slot Try.func98 (by kernel_rfl) hBB fun x r hr => ⟨FU, (e_impl_slotsFault FU x).trans hr⟩
theorem e_slices_Clone_impl_Vote_impl_Vote (n : Nat) (x) : afun G_impl_slotsFault T BB 0 n Try.f112 a_slices_Clone_impl_Vote_impl_Vote S_slices_Clone_impl_Vote_impl_Vote.ps S_slices_Clone_impl_Vote_impl_Vote.rs x = p_slices_Clone_impl_Vote_impl_Vote n x := by kernel_rfl
theorem ok_slices_Clone_impl_Vote_impl_Vote : EnvOK Try.prog G_slices_Clone_impl_Vote_impl_Vote := envOK_cons hm hT ok_impl_slotsFault Try.func112 (by kernel_rfl) hBB fun x r hr => ⟨FU, (e_slices_Clone_impl_Vote_impl_Vote FU x).trans hr⟩
theorem e_slices_Compact_impl_Vote_impl_Vote (n : Nat) (x) : afun G_slices_Clone_impl_Vote_impl_Vote T BB 0 n Try.f117 a_slices_Compact_impl_Vote_impl_Vote S_slices_Compact_impl_Vote_impl_Vote.ps S_slices_Compact_impl_Vote_impl_Vote.rs x = p_slices_Compact_impl_Vote_impl_Vote n x := by kernel_rfl
theorem ok_slices_Compact_impl_Vote_impl_Vote : EnvOK Try.prog G_slices_Compact_impl_Vote_impl_Vote := envOK_cons hm hT ok_slices_Clone_impl_Vote_impl_Vote Try.func117 (by kernel_rfl) hBB fun x r hr => ⟨FU, (e_slices_Compact_impl_Vote_impl_Vote FU x).trans hr⟩
theorem e_impl_quorum (n : Nat) (x) : afun G_slices_Compact_impl_Vote_impl_Vote T BB 0 n Try.f66 a_impl_quorum S_impl_quorum.ps S_impl_quorum.rs x = p_impl_quorum n x := by kernel_rfl
theorem ok_impl_quorum : EnvOK Try.prog G_impl_quorum := envOK_cons hm hT ok_slices_Compact_impl_Vote_impl_Vote Try.func66 (by kernel_rfl) hBB fun x r hr => ⟨FU, (e_impl_quorum FU x).trans hr⟩
def ren_slices_SortFunc_impl_Vote_impl_Vote : Go.Shelf.Ren := ⟨fun n => if n = 6 then 118 else if n = 15 then 127 else if n = 14 then 126 else if n = 28 then 138 else if n = 29 then 139 else if n = 20 then 130 else if n = 21 then 131 else if n = 22 then 132 else if n = 23 then 133 else if n = 24 then 134 else if n = 25 then 135 else if n = 26 then 136 else if n = 27 then 137 else if n = 46 then 141 else if n = 47 then 142 else if n = 48 then 143 else if n = 49 then 144 else if n = 50 then 145 else if n = 57 then 146 else n, fun n => if n = 22 then 29 else if n = 24 then 34 else if n = 25 then 134 else if n = 3 then 3 else if n = 39 then 141 else if n = 0 then 0 else if n = 53 then 153 else if n = 55 then 155 else if n = 4 then 4 else if n = 46 then 147 else if n = 45 then 146 else if n = 50 then 143 else if n = 5 then 5 else if n = 9 then 9 else if n = 66 then 157 else if n = 70 then 161 else if n = 76 then 163 else if n = 77 then 164 else n, fun n => n⟩
theorem lays_slices_SortFunc_impl_Vote_impl_Vote : Go.Proofs.SlLaysF0.n6 Try.prog ren_slices_SortFunc_impl_Vote_impl_Vote where
  mixed := by kernel_rfl
  f6 := ⟨"slices.SortFunc[[]loop.example/g00203/impl.Vote,loop.example/g00203/impl.Vote]", by decide, Try.func118.trans (congrArg some (by kernel_rfl))⟩
  f14 := ⟨"slices.pdqsortCmpFunc[loop.example/g00203/impl.Vote]", by decide, Try.func126.trans (congrArg some (by kernel_rfl))⟩
  f15 := Try.func127.trans (congrArg some (by kernel_rfl))
  f20 := ⟨"slices.insertionSortCmpFunc[loop.example/g00203/impl.Vote]", by decide, Try.func130.trans (congrArg some (by kernel_rfl))⟩
  f21 := ⟨"slices.heapSortCmpFunc[loop.example/g00203/impl.Vote]", by decide, Try.func131.trans (congrArg some (by kernel_rfl))⟩
  f22 := ⟨"slices.breakPatternsCmpFunc[loop.example/g00203/impl.Vote]", by decide, Try.func132.trans (congrArg some (by kernel_rfl))⟩
  f23 := ⟨"slices.choosePivotCmpFunc[loop.example/g00203/impl.Vote]", by decide, Try.func133.trans (congrArg some (by kernel_rfl))⟩
  f24 := ⟨"slices.reverseRangeCmpFunc[loop.example/g00203/impl.Vote]", by decide, Try.func134.trans (congrArg some (by kernel_rfl))⟩
  f25 := ⟨"slices.partialInsertionSortCmpFunc[loop.example/g00203/impl.Vote]", by decide, Try.func135.trans (congrArg some (by kernel_rfl))⟩
  f26 := ⟨"slices.partitionEqualCmpFunc[loop.example/g00203/impl.Vote]", by decide, Try.func136.trans (congrArg some (by kernel_rfl))⟩
  f27 := ⟨"slices.partitionCmpFunc[loop.example/g00203/impl.Vote]", by decide, Try.func137.trans (congrArg some (by kernel_rfl))⟩
  f28 := Try.func138.trans (congrArg some (by kernel_rfl))
  f29 := Try.func139.trans (congrArg some (by kernel_rfl))
  f46 := ⟨"slices.siftDownCmpFunc[loop.example/g00203/impl.Vote]", by decide, Try.func141.trans (congrArg some (by kernel_rfl))⟩
  f47 := Try.func142.trans (congrArg some (by kernel_rfl))
  f48 := Try.func143.trans (congrArg some (by kernel_rfl))
  f49 := ⟨"slices.medianAdjacentCmpFunc[loop.example/g00203/impl.Vote]", by decide, Try.func144.trans (congrArg some (by kernel_rfl))⟩
  f50 := ⟨"slices.medianCmpFunc[loop.example/g00203/impl.Vote]", by decide, Try.func145.trans (congrArg some (by kernel_rfl))⟩
  f57 := ⟨"slices.order2CmpFunc[loop.example/g00203/impl.Vote]", by decide, Try.func146.trans (congrArg some (by kernel_rfl))⟩
  t0 := Try.underlying0
  a0 := Try.isAgg0
  z0 := Try.sizeOf0
  v0 := Try.zeroValue0
  t3 := Try.underlying3
  a3 := Try.isAgg3
  z3 := Try.sizeOf3
  v3 := Try.zeroValue3
  t4 := Try.underlying4
  a4 := Try.isAgg4
  z4 := Try.sizeOf4
  v4 := Try.zeroValue4
  t5 := Try.underlying5
  a5 := Try.isAgg5
  z5 := Try.sizeOf5
  v5 := Try.zeroValue5
  t9 := Try.underlying9
  a9 := Try.isAgg9
  z9 := Try.sizeOf9
  v9 := Try.zeroValue9
  t22 := Try.underlying29
  a22 := Try.isAgg29
  z22 := Try.sizeOf29
  v22 := Try.zeroValue29
  t25 := Try.underlying134
  a25 := Try.isAgg134
  z25 := Try.sizeOf134
  v25 := Try.zeroValue134
  t39 := Try.underlying141
  a39 := Try.isAgg141
  z39 := Try.sizeOf141
  v39 := Try.zeroValue141
  t45 := Try.underlying146
  a45 := Try.isAgg146
  z45 := Try.sizeOf146
  v45 := Try.zeroValue146
  t46 := Try.underlying147
  a46 := Try.isAgg147
  z46 := Try.sizeOf147
  v46 := Try.zeroValue147
  t50 := Try.underlying143
  a50 := Try.isAgg143
  z50 := Try.sizeOf143
  v50 := Try.zeroValue143
  t53 := Try.underlying153
  a53 := Try.isAgg153
  z53 := Try.sizeOf153
  v53 := Try.zeroValue153
  t55 := Try.underlying155
  a55 := Try.isAgg155
  z55 := Try.sizeOf155
  v55 := Try.zeroValue155
  t66 := Try.underlying157
  a66 := Try.isAgg157
  z66 := Try.sizeOf157
  v66 := Try.zeroValue157
  t70 := Try.underlying161
  a70 := Try.isAgg161
  z70 := Try.sizeOf161
  v70 := Try.zeroValue161
  t76 := Try.underlying163
  a76 := Try.isAgg163
  z76 := Try.sizeOf163
  v76 := Try.zeroValue163
  t77 := Try.underlying164
  a77 := Try.isAgg164
  z77 := Try.sizeOf164
  v77 := Try.zeroValue164
set_option maxHeartbeats 1000000 in
theorem closure_slices_SortFunc_impl_Vote_impl_Vote (W : World) (x y) (hx : okVote x = true) (hy : okVote y = true) : Calls Try.prog 119 #[.agg (encVote x).toArray, .agg (encVote y).toArray] W fun e w' => e = .returned (.int .i64 (cfVote x y)) ∧ ∃ q os', w' = Go.Sort.grow (W.drewN q) os' := by
  unfold encVote cfVote
  go_enter Try.func119, Try.ntmps119
  go_wp2_with fail
  go_ret
  exact ⟨by rw [IntWalk.i64_left]; rfl, 0, _, by rw [alloc_eq_grow, alloc_eq_grow, grow_grow]; rfl⟩
theorem sound_slices_SortFunc_impl_Vote_impl_Vote : Sound Try.prog 118 S_slices_SortFunc_impl_Vote_impl_Vote := sound_sort lays_slices_SortFunc_impl_Vote_impl_Vote rfl hencVote (by decide) (fun _ => rfl) (fun x v hv => by simp [encVote] at hv; rcases hv with rfl | rfl <;> rfl) Try.isAgg34 Try.sizeOf34 swoVote (enters_of Try.func119 (by kernel_rfl) rfl) closure_slices_SortFunc_impl_Vote_impl_Vote
theorem ok_slices_SortFunc_impl_Vote_impl_Vote : EnvOK Try.prog G_slices_SortFunc_impl_Vote_impl_Vote := envOK_sound ok_impl_quorum ⟨_, Try.func118, by kernel_rfl, by kernel_rfl⟩ sound_slices_SortFunc_impl_Vote_impl_Vote
theorem e_impl_chosen (n : Nat) (x) : afun G_slices_SortFunc_impl_Vote_impl_Vote T BB 0 n Try.f99 a_impl_chosen S_impl_chosen.ps S_impl_chosen.rs x = p_impl_chosen n x := by kernel_rfl
theorem ok_impl_chosen : EnvOK Try.prog G_impl_chosen := envOK_cons hm hT ok_slices_SortFunc_impl_Vote_impl_Vote Try.func99 (by kernel_rfl) hBB fun x r hr => ⟨FU, (e_impl_chosen FU x).trans hr⟩
theorem e_impl_ChosenIn (n : Nat) (x) : afun G_impl_chosen T BB 0 n Try.f47 a_impl_ChosenIn S_impl_ChosenIn.ps S_impl_ChosenIn.rs x = p_impl_ChosenIn n x := by kernel_rfl
theorem ok_impl_ChosenIn : EnvOK Try.prog G_impl_ChosenIn := envOK_cons hm hT ok_impl_chosen Try.func47 (by kernel_rfl) hBB fun x r hr => ⟨FU, (e_impl_ChosenIn FU x).trans hr⟩
theorem e_laws_eqVote (n : Nat) (x) : afun G_impl_ChosenIn T BB 0 n Try.f81 a_laws_eqVote S_laws_eqVote.ps S_laws_eqVote.rs x = p_laws_eqVote n x := by kernel_rfl
theorem ok_laws_eqVote : EnvOK Try.prog G_laws_eqVote := envOK_cons hm hT ok_impl_ChosenIn Try.func81 (by kernel_rfl) hBB fun x r hr => ⟨FU, (e_laws_eqVote FU x).trans hr⟩
theorem e_laws_eqVoteResult (n : Nat) (x) : afun G_laws_eqVote T BB 0 n Try.f48 a_laws_eqVoteResult S_laws_eqVoteResult.ps S_laws_eqVoteResult.rs x = p_laws_eqVoteResult n x := by kernel_rfl
theorem ok_laws_eqVoteResult : EnvOK Try.prog G_laws_eqVoteResult := envOK_cons hm hT ok_laws_eqVote Try.func48 (by kernel_rfl) hBB fun x r hr => ⟨FU, (e_laws_eqVoteResult FU x).trans hr⟩
theorem e_laws_eqVoteS (n : Nat) (x) : afun G_laws_eqVoteResult T BB 0 n Try.f24 a_laws_eqVoteS S_laws_eqVoteS.ps S_laws_eqVoteS.rs x = p_laws_eqVoteS n x := by kernel_rfl
theorem ok_laws_eqVoteS : EnvOK Try.prog G_laws_eqVoteS := envOK_cons hm hT ok_laws_eqVoteResult Try.func24 (by kernel_rfl) hBB fun x r hr => ⟨FU, (e_laws_eqVoteS FU x).trans hr⟩
theorem e_laws_eqSlot (n : Nat) (x) : afun G_laws_eqVoteS T BB 0 n Try.f34 a_laws_eqSlot S_laws_eqSlot.ps S_laws_eqSlot.rs x = p_laws_eqSlot n x := by kernel_rfl
theorem ok_laws_eqSlot : EnvOK Try.prog G_laws_eqSlot := envOK_cons hm hT ok_laws_eqVoteS Try.func34 (by kernel_rfl) hBB fun x r hr => ⟨FU, (e_laws_eqSlot FU x).trans hr⟩
theorem e_laws_eqSlotS (n : Nat) (x) : afun G_laws_eqSlot T BB 0 n Try.f45 a_laws_eqSlotS S_laws_eqSlotS.ps S_laws_eqSlotS.rs x = p_laws_eqSlotS n x := by kernel_rfl
theorem ok_laws_eqSlotS : EnvOK Try.prog G_laws_eqSlotS := envOK_cons hm hT ok_laws_eqSlot Try.func45 (by kernel_rfl) hBB fun x r hr => ⟨FU, (e_laws_eqSlotS FU x).trans hr⟩
theorem e_laws_FnExactChosenIn (n : Nat) (x) : afun G_laws_eqSlotS T BB 0 n Try.f12 a_laws_FnExactChosenIn S_laws_FnExactChosenIn.ps S_laws_FnExactChosenIn.rs x = p_laws_FnExactChosenIn n x := by kernel_rfl
theorem ok_laws_FnExactChosenIn : EnvOK Try.prog G_laws_FnExactChosenIn := envOK_cons hm hT ok_laws_eqSlotS Try.func12 (by kernel_rfl) hBB fun x r hr => ⟨FU, (e_laws_FnExactChosenIn FU x).trans hr⟩
end Go.RvP
