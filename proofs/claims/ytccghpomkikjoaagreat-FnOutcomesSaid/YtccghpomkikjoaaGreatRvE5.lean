/- Each function of the program is as its plain function says, for FnOutcomes. No condition. -/
import Derived.Test.YtccghpomkikjoaaGreatRvP5
import Derived.Test.YtccghpomkikjoaaGreatProg
import Derived.KernelRfl
import Derived.WalkKit
import Derived.Shelf.RegionOpenPlain
namespace Go.RvP
open Go Go.Rv Go.Proofs Go.Shelf Go.RowKit Go.Lib Go.Sort
set_option maxRecDepth 100000
theorem hm : Tryz.prog.follows .mixedOrders = true := by kernel_rfl
theorem hT : TabOK Tryz.prog T := tabOK_of (by kernel_rfl)
noncomputable def BB : Bodies := [(94, Tryz.f94), (165, Tryz.f165), (166, Tryz.f166), (168, Tryz.f168), (169, Tryz.f169), (171, Tryz.f171), (175, Tryz.f175), (188, Tryz.f188), (189, Tryz.f189), (255, Tryz.f255), (260, Tryz.f260), (266, Tryz.f266), (307, Tryz.f307), (313, Tryz.f313), (314, Tryz.f314), (342, Tryz.f342)]
theorem hBB : BodyOK Tryz.prog BB := (bodyOK_cons Tryz.func94 (by kernel_rfl) (bodyOK_cons Tryz.func165 (by kernel_rfl) (bodyOK_cons Tryz.func166 (by kernel_rfl) (bodyOK_cons Tryz.func168 (by kernel_rfl) (bodyOK_cons Tryz.func169 (by kernel_rfl) (bodyOK_cons Tryz.func171 (by kernel_rfl) (bodyOK_cons Tryz.func175 (by kernel_rfl) (bodyOK_cons Tryz.func188 (by kernel_rfl) (bodyOK_cons Tryz.func189 (by kernel_rfl) (bodyOK_cons Tryz.func255 (by kernel_rfl) (bodyOK_cons Tryz.func260 (by kernel_rfl) (bodyOK_cons Tryz.func266 (by kernel_rfl) (bodyOK_cons Tryz.func307 (by kernel_rfl) (bodyOK_cons Tryz.func313 (by kernel_rfl) (bodyOK_cons Tryz.func314 (by kernel_rfl) (bodyOK_cons Tryz.func342 (by kernel_rfl) bodyOK_nil))))))))))))))))
theorem e_laws_lwBig (n : Nat) (x) : afun [] T BB 0 n Tryz.f29 a_laws_lwBig S_laws_lwBig.ps S_laws_lwBig.rs x = p_laws_lwBig n x := by kernel_rfl
theorem ok_laws_lwBig : EnvOK Tryz.prog G_laws_lwBig := envOK_cons hm hT envOK_nil Tryz.func29 (by kernel_rfl) hBB fun x r hr => ⟨FU, (e_laws_lwBig FU x).trans hr⟩
theorem e_spec_l1Next (n : Nat) (x) : afun G_laws_lwBig T BB 0 n Tryz.f194 a_spec_l1Next S_spec_l1Next.ps S_spec_l1Next.rs x = p_spec_l1Next n x := by kernel_rfl
theorem ok_spec_l1Next : EnvOK Tryz.prog G_spec_l1Next := envOK_cons hm hT ok_laws_lwBig Tryz.func194 (by kernel_rfl) hBB fun x r hr => ⟨FU, (e_spec_l1Next FU x).trans hr⟩
theorem e_spec_l1In (n : Nat) (x) : afun G_spec_l1Next T BB 0 n Tryz.f63 a_spec_l1In S_spec_l1In.ps S_spec_l1In.rs x = p_spec_l1In n x := by kernel_rfl
theorem ok_spec_l1In : EnvOK Tryz.prog G_spec_l1In := envOK_cons hm hT ok_spec_l1Next Tryz.func63 (by kernel_rfl) hBB fun x r hr => ⟨FU, (e_spec_l1In FU x).trans hr⟩
theorem e_spec_l1Id (n : Nat) (x) : afun G_spec_l1In T BB 0 n Tryz.f181 a_spec_l1Id S_spec_l1Id.ps S_spec_l1Id.rs x = p_spec_l1Id n x := by kernel_rfl
theorem ok_spec_l1Id : EnvOK Tryz.prog G_spec_l1Id := envOK_cons hm hT ok_spec_l1In Tryz.func181 (by kernel_rfl) hBB fun x r hr => ⟨FU, (e_spec_l1Id FU x).trans hr⟩
theorem e_spec_LegFault (n : Nat) (x) : afun G_spec_l1Id T BB 0 n Tryz.f182 a_spec_LegFault S_spec_LegFault.ps S_spec_LegFault.rs x = p_spec_LegFault n x := by kernel_rfl
theorem ok_spec_LegFault : EnvOK Tryz.prog G_spec_LegFault := envOK_cons hm hT ok_spec_l1Id Tryz.func182 (by kernel_rfl) hBB fun x r hr => ⟨FU, (e_spec_LegFault FU x).trans hr⟩
theorem e_spec_ContractFault (n : Nat) (x) : afun G_spec_LegFault T BB 0 n Tryz.f87 a_spec_ContractFault S_spec_ContractFault.ps S_spec_ContractFault.rs x = p_spec_ContractFault n x := by kernel_rfl
theorem ok_spec_ContractFault : EnvOK Tryz.prog G_spec_ContractFault := envOK_cons hm hT ok_spec_LegFault Tryz.func87 (by kernel_rfl) hBB fun x r hr => ⟨FU, (e_spec_ContractFault FU x).trans hr⟩
theorem e_spec_l1Draw (n : Nat) (x) : afun G_spec_ContractFault T BB 0 n Tryz.f93 a_spec_l1Draw S_spec_l1Draw.ps S_spec_l1Draw.rs x = p_spec_l1Draw n x := by kernel_rfl
theorem ok_spec_l1Draw : EnvOK Tryz.prog G_spec_l1Draw := envOK_cons hm hT ok_spec_ContractFault Tryz.func93 (by kernel_rfl) hBB fun x r hr => ⟨FU, (e_spec_l1Draw FU x).trans hr⟩
theorem e_spec_DrawRightContract (n : Nat) (x) : afun G_spec_l1Draw T BB 1 n Tryz.f30 a_spec_DrawRightContract S_spec_DrawRightContract.ps S_spec_DrawRightContract.rs x = p_spec_DrawRightContract n x := by kernel_rfl
theorem ok_spec_DrawRightContract : EnvOK Tryz.prog G_spec_DrawRightContract := envOK_cons hm hT ok_spec_l1Draw Tryz.func30 (by kernel_rfl) hBB fun x r hr => ⟨FU, (e_spec_DrawRightContract FU x).trans hr⟩
theorem e_impl_within (n : Nat) (x) : afun G_spec_DrawRightContract T BB 0 n Tryz.f106 a_impl_within S_impl_within.ps S_impl_within.rs x = p_impl_within n x := by kernel_rfl
theorem ok_impl_within : EnvOK Tryz.prog G_impl_within := envOK_cons hm hT ok_spec_DrawRightContract Tryz.func106 (by kernel_rfl) hBB fun x r hr => ⟨FU, (e_impl_within FU x).trans hr⟩
theorem e_impl_isId (n : Nat) (x) : afun G_impl_within T BB 0 n Tryz.f163 a_impl_isId S_impl_isId.ps S_impl_isId.rs x = p_impl_isId n x := by kernel_rfl
theorem ok_impl_isId : EnvOK Tryz.prog G_impl_isId := envOK_cons hm hT ok_impl_within Tryz.func163 (by kernel_rfl) hBB fun x r hr => ⟨FU, (e_impl_isId FU x).trans hr⟩
theorem e_impl_size_impl_Leg (n : Nat) (x) : afun G_impl_isId T BB 0 n Tryz.f186 a_impl_size_impl_Leg S_impl_size_impl_Leg.ps S_impl_size_impl_Leg.rs x = p_impl_size_impl_Leg n x := by kernel_rfl
theorem ok_impl_size_impl_Leg : EnvOK Tryz.prog G_impl_size_impl_Leg := envOK_cons hm hT ok_impl_isId Tryz.func186 (by kernel_rfl) hBB fun x r hr => ⟨FU, (e_impl_size_impl_Leg FU x).trans hr⟩
theorem e_impl_isShard (n : Nat) (x) : afun G_impl_size_impl_Leg T BB 0 n Tryz.f124 a_impl_isShard S_impl_isShard.ps S_impl_isShard.rs x = p_impl_isShard n x := by kernel_rfl
theorem ok_impl_isShard : EnvOK Tryz.prog G_impl_isShard := envOK_cons hm hT ok_impl_size_impl_Leg Tryz.func124 (by kernel_rfl) hBB fun x r hr => ⟨FU, (e_impl_isShard FU x).trans hr⟩
theorem e_impl_isAsset (n : Nat) (x) : afun G_impl_isShard T BB 0 n Tryz.f233 a_impl_isAsset S_impl_isAsset.ps S_impl_isAsset.rs x = p_impl_isAsset n x := by kernel_rfl
theorem ok_impl_isAsset : EnvOK Tryz.prog G_impl_isAsset := envOK_cons hm hT ok_impl_isShard Tryz.func233 (by kernel_rfl) hBB fun x r hr => ⟨FU, (e_impl_isAsset FU x).trans hr⟩
theorem e_impl_isPlace (n : Nat) (x) : afun G_impl_isAsset T BB 0 n Tryz.f139 a_impl_isPlace S_impl_isPlace.ps S_impl_isPlace.rs x = p_impl_isPlace n x := by kernel_rfl
theorem ok_impl_isPlace : EnvOK Tryz.prog G_impl_isPlace := envOK_cons hm hT ok_impl_isAsset Tryz.func139 (by kernel_rfl) hBB fun x r hr => ⟨FU, (e_impl_isPlace FU x).trans hr⟩
theorem e_impl_LegFault (n : Nat) (x) : afun G_impl_isPlace T BB 0 n Tryz.f187 a_impl_LegFault S_impl_LegFault.ps S_impl_LegFault.rs x = p_impl_LegFault n x := by kernel_rfl
theorem ok_impl_LegFault : EnvOK Tryz.prog G_impl_LegFault := envOK_cons hm hT ok_impl_isPlace Tryz.func187 (by kernel_rfl) hBB fun x r hr => ⟨FU, (e_impl_LegFault FU x).trans hr⟩
theorem e_impl_samePlace (n : Nat) (x) : afun G_impl_LegFault T BB 0 n Tryz.f190 a_impl_samePlace S_impl_samePlace.ps S_impl_samePlace.rs x = p_impl_samePlace n x := by kernel_rfl
theorem ok_impl_samePlace : EnvOK Tryz.prog G_impl_samePlace := envOK_cons hm hT ok_impl_LegFault Tryz.func190 (by kernel_rfl) hBB fun x r hr => ⟨FU, (e_impl_samePlace FU x).trans hr⟩
theorem e_impl_ContractFault (n : Nat) (x) : afun G_impl_samePlace T BB 3 n Tryz.f90 a_impl_ContractFault S_impl_ContractFault.ps S_impl_ContractFault.rs x = p_impl_ContractFault n x := by kernel_rfl
theorem ok_impl_ContractFault : EnvOK Tryz.prog G_impl_ContractFault := envOK_cons hm hT ok_impl_samePlace Tryz.func90 (by kernel_rfl) hBB fun x r hr => ⟨FU, (e_impl_ContractFault FU x).trans hr⟩
def ren_slices_Sort_int64_int64 : Go.Shelf.Ren := ⟨fun n => if n = 5 then 195 else if n = 8 then 270 else if n = 7 then 269 else if n = 19 then 327 else if n = 20 then 328 else if n = 10 then 318 else if n = 11 then 319 else if n = 12 then 320 else if n = 13 then 321 else if n = 14 then 322 else if n = 15 then 323 else if n = 16 then 324 else if n = 17 then 325 else if n = 18 then 326 else if n = 30 then 344 else if n = 31 then 345 else if n = 32 then 346 else if n = 33 then 347 else if n = 34 then 348 else if n = 35 then 334 else if n = 40 then 360 else n, fun n => if n = 23 then 23 else if n = 25 then 2 else if n = 3 then 3 else if n = 32 then 309 else if n = 22 then 23 else if n = 0 then 0 else if n = 44 then 355 else if n = 46 then 357 else if n = 4 then 4 else if n = 36 then 349 else if n = 35 then 348 else if n = 41 then 270 else if n = 5 then 5 else if n = 9 then 9 else if n = 53 then 377 else if n = 57 then 381 else if n = 63 then 390 else if n = 64 then 391 else n, fun n => n⟩
theorem lays_slices_Sort_int64_int64 : Go.Proofs.SlLaysM.n5 Tryz.prog ren_slices_Sort_int64_int64 where
  mixed := by kernel_rfl
  f5 := ⟨"slices.Sort[[]int64,int64]", by decide, Tryz.func195.trans (congrArg some (by kernel_rfl))⟩
  f7 := ⟨"slices.pdqsortOrdered[int64]", by decide, Tryz.func269.trans (congrArg some (by kernel_rfl))⟩
  f8 := Tryz.func270.trans (congrArg some (by kernel_rfl))
  f10 := ⟨"slices.insertionSortOrdered[int64]", by decide, Tryz.func318.trans (congrArg some (by kernel_rfl))⟩
  f11 := ⟨"slices.heapSortOrdered[int64]", by decide, Tryz.func319.trans (congrArg some (by kernel_rfl))⟩
  f12 := ⟨"slices.breakPatternsOrdered[int64]", by decide, Tryz.func320.trans (congrArg some (by kernel_rfl))⟩
  f13 := ⟨"slices.choosePivotOrdered[int64]", by decide, Tryz.func321.trans (congrArg some (by kernel_rfl))⟩
  f14 := ⟨"slices.reverseRangeOrdered[int64]", by decide, Tryz.func322.trans (congrArg some (by kernel_rfl))⟩
  f15 := ⟨"slices.partialInsertionSortOrdered[int64]", by decide, Tryz.func323.trans (congrArg some (by kernel_rfl))⟩
  f16 := ⟨"cmp.Less[int64]", by decide, Tryz.func324.trans (congrArg some (by kernel_rfl))⟩
  f17 := ⟨"slices.partitionEqualOrdered[int64]", by decide, Tryz.func325.trans (congrArg some (by kernel_rfl))⟩
  f18 := ⟨"slices.partitionOrdered[int64]", by decide, Tryz.func326.trans (congrArg some (by kernel_rfl))⟩
  f19 := Tryz.func327.trans (congrArg some (by kernel_rfl))
  f20 := Tryz.func328.trans (congrArg some (by kernel_rfl))
  f30 := ⟨"slices.siftDownOrdered[int64]", by decide, Tryz.func344.trans (congrArg some (by kernel_rfl))⟩
  f31 := Tryz.func345.trans (congrArg some (by kernel_rfl))
  f32 := Tryz.func346.trans (congrArg some (by kernel_rfl))
  f33 := ⟨"slices.medianAdjacentOrdered[int64]", by decide, Tryz.func347.trans (congrArg some (by kernel_rfl))⟩
  f34 := ⟨"slices.medianOrdered[int64]", by decide, Tryz.func348.trans (congrArg some (by kernel_rfl))⟩
  f35 := ⟨"cmp.isNaN[int64]", by decide, Tryz.func334.trans (congrArg some (by kernel_rfl))⟩
  f40 := ⟨"slices.order2Ordered[int64]", by decide, Tryz.func360.trans (congrArg some (by kernel_rfl))⟩
  t0 := Tryz.underlying0
  a0 := Tryz.isAgg0
  z0 := Tryz.sizeOf0
  v0 := Tryz.zeroValue0
  t3 := Tryz.underlying3
  a3 := Tryz.isAgg3
  z3 := Tryz.sizeOf3
  v3 := Tryz.zeroValue3
  t4 := Tryz.underlying4
  a4 := Tryz.isAgg4
  z4 := Tryz.sizeOf4
  v4 := Tryz.zeroValue4
  t5 := Tryz.underlying5
  a5 := Tryz.isAgg5
  z5 := Tryz.sizeOf5
  v5 := Tryz.zeroValue5
  t9 := Tryz.underlying9
  a9 := Tryz.isAgg9
  z9 := Tryz.sizeOf9
  v9 := Tryz.zeroValue9
  t22 := Tryz.underlying23
  a22 := Tryz.isAgg23
  z22 := Tryz.sizeOf23
  v22 := Tryz.zeroValue23
  t23 := Tryz.underlying23
  a23 := Tryz.isAgg23
  z23 := Tryz.sizeOf23
  v23 := Tryz.zeroValue23
  t25 := Tryz.underlying2
  a25 := Tryz.isAgg2
  z25 := Tryz.sizeOf2
  v25 := Tryz.zeroValue2
  t32 := Tryz.underlying309
  a32 := Tryz.isAgg309
  z32 := Tryz.sizeOf309
  v32 := Tryz.zeroValue309
  t35 := Tryz.underlying348
  a35 := Tryz.isAgg348
  z35 := Tryz.sizeOf348
  v35 := Tryz.zeroValue348
  t36 := Tryz.underlying349
  a36 := Tryz.isAgg349
  z36 := Tryz.sizeOf349
  v36 := Tryz.zeroValue349
  t41 := Tryz.underlying270
  a41 := Tryz.isAgg270
  z41 := Tryz.sizeOf270
  v41 := Tryz.zeroValue270
  t44 := Tryz.underlying355
  a44 := Tryz.isAgg355
  z44 := Tryz.sizeOf355
  v44 := Tryz.zeroValue355
  t46 := Tryz.underlying357
  a46 := Tryz.isAgg357
  z46 := Tryz.sizeOf357
  v46 := Tryz.zeroValue357
  t53 := Tryz.underlying377
  a53 := Tryz.isAgg377
  z53 := Tryz.sizeOf377
  v53 := Tryz.zeroValue377
  t57 := Tryz.underlying381
  a57 := Tryz.isAgg381
  z57 := Tryz.sizeOf381
  v57 := Tryz.zeroValue381
  t63 := Tryz.underlying390
  a63 := Tryz.isAgg390
  z63 := Tryz.sizeOf390
  v63 := Tryz.zeroValue390
  t64 := Tryz.underlying391
  a64 := Tryz.isAgg391
  z64 := Tryz.sizeOf391
  v64 := Tryz.zeroValue391
theorem sound_slices_Sort_int64_int64 : Sound Tryz.prog 195 S_slices_Sort_int64_int64 := sound_sortI lays_slices_Sort_int64_int64 rfl
theorem ok_slices_Sort_int64_int64 : EnvOK Tryz.prog G_slices_Sort_int64_int64 := envOK_sound ok_impl_ContractFault ⟨_, Tryz.func195, by kernel_rfl, by kernel_rfl⟩ sound_slices_Sort_int64_int64
theorem e_slices_Compact_int64_int64 (n : Nat) (x) : afun G_slices_Sort_int64_int64 T BB 0 n Tryz.f196 a_slices_Compact_int64_int64 S_slices_Compact_int64_int64.ps S_slices_Compact_int64_int64.rs x = p_slices_Compact_int64_int64 n x := by kernel_rfl
theorem ok_slices_Compact_int64_int64 : EnvOK Tryz.prog G_slices_Compact_int64_int64 := envOK_cons hm hT ok_slices_Sort_int64_int64 Tryz.func196 (by kernel_rfl) hBB fun x r hr => ⟨FU, (e_slices_Compact_int64_int64 FU x).trans hr⟩
theorem e_impl_shardsOf (n : Nat) (x) : afun G_slices_Compact_int64_int64 T BB 0 n Tryz.f95 a_impl_shardsOf S_impl_shardsOf.ps S_impl_shardsOf.rs x = p_impl_shardsOf n x := by kernel_rfl
theorem ok_impl_shardsOf : EnvOK Tryz.prog G_impl_shardsOf := envOK_cons hm hT ok_slices_Compact_int64_int64 Tryz.func95 (by kernel_rfl) hBB fun x r hr => ⟨FU, (e_impl_shardsOf FU x).trans hr⟩
theorem e_impl_ShardsOf (n : Nat) (x) : afun G_impl_shardsOf T BB 0 n Tryz.f31 a_impl_ShardsOf S_impl_ShardsOf.ps S_impl_ShardsOf.rs x = p_impl_ShardsOf n x := by kernel_rfl
theorem ok_impl_ShardsOf : EnvOK Tryz.prog G_impl_ShardsOf := envOK_cons hm hT ok_impl_shardsOf Tryz.func31 (by kernel_rfl) hBB fun x r hr => ⟨FU, (e_impl_ShardsOf FU x).trans hr⟩
theorem e_laws_lwAt (n : Nat) (x) : afun G_impl_ShardsOf T BB 0 n Tryz.f33 a_laws_lwAt S_laws_lwAt.ps S_laws_lwAt.rs x = p_laws_lwAt n x := by kernel_rfl
theorem ok_laws_lwAt : EnvOK Tryz.prog G_laws_lwAt := envOK_cons hm hT ok_impl_ShardsOf Tryz.func33 (by kernel_rfl) hBB fun x r hr => ⟨FU, (e_laws_lwAt FU x).trans hr⟩
theorem e_laws_lwReached (n : Nat) (x) : afun G_laws_lwAt T BB 0 n Tryz.f32 a_laws_lwReached S_laws_lwReached.ps S_laws_lwReached.rs x = p_laws_lwReached n x := by kernel_rfl
theorem ok_laws_lwReached : EnvOK Tryz.prog G_laws_lwReached := envOK_cons hm hT ok_laws_lwAt Tryz.func32 (by kernel_rfl) hBB fun x r hr => ⟨FU, (e_laws_lwReached FU x).trans hr⟩
theorem e_impl_size_impl_Acceptor (n : Nat) (x) : afun G_laws_lwReached T BB 0 n Tryz.f76 a_impl_size_impl_Acceptor S_impl_size_impl_Acceptor.ps S_impl_size_impl_Acceptor.rs x = p_impl_size_impl_Acceptor n x := by kernel_rfl
theorem ok_impl_size_impl_Acceptor : EnvOK Tryz.prog G_impl_size_impl_Acceptor := envOK_cons hm hT ok_laws_lwReached Tryz.func76 (by kernel_rfl) hBB fun x r hr => ⟨FU, (e_impl_size_impl_Acceptor FU x).trans hr⟩
theorem e_impl_isBallot (n : Nat) (x) : afun G_impl_size_impl_Acceptor T BB 0 n Tryz.f73 a_impl_isBallot S_impl_isBallot.ps S_impl_isBallot.rs x = p_impl_isBallot n x := by kernel_rfl
theorem ok_impl_isBallot : EnvOK Tryz.prog G_impl_isBallot := envOK_cons hm hT ok_impl_size_impl_Acceptor Tryz.func73 (by kernel_rfl) hBB fun x r hr => ⟨FU, (e_impl_isBallot FU x).trans hr⟩
theorem e_impl_isValue (n : Nat) (x) : afun G_impl_isBallot T BB 0 n Tryz.f74 a_impl_isValue S_impl_isValue.ps S_impl_isValue.rs x = p_impl_isValue n x := by kernel_rfl
theorem ok_impl_isValue : EnvOK Tryz.prog G_impl_isValue := envOK_cons hm hT ok_impl_isBallot Tryz.func74 (by kernel_rfl) hBB fun x r hr => ⟨FU, (e_impl_isValue FU x).trans hr⟩
theorem e_impl_isVote (n : Nat) (x) : afun G_impl_isValue T BB 0 n Tryz.f174 a_impl_isVote S_impl_isVote.ps S_impl_isVote.rs x = p_impl_isVote n x := by kernel_rfl
theorem ok_impl_isVote : EnvOK Tryz.prog G_impl_isVote := envOK_cons hm hT ok_impl_isValue Tryz.func174 (by kernel_rfl) hBB fun x r hr => ⟨FU, (e_impl_isVote FU x).trans hr⟩
theorem e_impl_castFault (n : Nat) (x) : afun G_impl_isVote T BB 0 n Tryz.f304 a_impl_castFault S_impl_castFault.ps S_impl_castFault.rs x = p_impl_castFault n x := by kernel_rfl
theorem ok_impl_castFault : EnvOK Tryz.prog G_impl_castFault := envOK_cons hm hT ok_impl_isVote Tryz.func304 (by kernel_rfl) hBB fun x r hr => ⟨FU, (e_impl_castFault FU x).trans hr⟩
theorem e_impl_noVote (n : Nat) (x) : afun G_impl_castFault T BB 0 n Tryz.f173 a_impl_noVote S_impl_noVote.ps S_impl_noVote.rs x = p_impl_noVote n x := by kernel_rfl
theorem ok_impl_noVote : EnvOK Tryz.prog G_impl_noVote := envOK_cons hm hT ok_impl_castFault Tryz.func173 (by kernel_rfl) hBB fun x r hr => ⟨FU, (e_impl_noVote FU x).trans hr⟩
theorem e_impl_lastCast (n : Nat) (x) : afun G_impl_noVote T BB 0 n Tryz.f305 a_impl_lastCast S_impl_lastCast.ps S_impl_lastCast.rs x = p_impl_lastCast n x := by kernel_rfl
theorem ok_impl_lastCast : EnvOK Tryz.prog G_impl_lastCast := envOK_cons hm hT ok_impl_noVote Tryz.func305 (by kernel_rfl) hBB fun x r hr => ⟨FU, (e_impl_lastCast FU x).trans hr⟩
theorem e_impl_SlotFault (n : Nat) (x) : afun G_impl_lastCast T BB 0 n Tryz.f253 a_impl_SlotFault S_impl_SlotFault.ps S_impl_SlotFault.rs x = p_impl_SlotFault n x := by kernel_rfl
theorem ok_impl_SlotFault : EnvOK Tryz.prog G_impl_SlotFault := envOK_cons hm hT ok_impl_lastCast Tryz.func253 (by kernel_rfl) hBB fun x r hr => ⟨FU, (e_impl_SlotFault FU x).trans hr⟩
theorem e_cmp_isNaN_int64 (n : Nat) (x) : afun G_impl_SlotFault T BB 0 n Tryz.f334 a_cmp_isNaN_int64 S_cmp_isNaN_int64.ps S_cmp_isNaN_int64.rs x = p_cmp_isNaN_int64 n x := by kernel_rfl
theorem ok_cmp_isNaN_int64 : EnvOK Tryz.prog G_cmp_isNaN_int64 := envOK_cons hm hT ok_impl_SlotFault Tryz.func334 (by kernel_rfl) hBB fun x r hr => ⟨FU, (e_cmp_isNaN_int64 FU x).trans hr⟩
theorem e_cmp_Compare_int64 (n : Nat) (x) : afun G_cmp_isNaN_int64 T BB 0 n Tryz.f282 a_cmp_Compare_int64 S_cmp_Compare_int64.ps S_cmp_Compare_int64.rs x = p_cmp_Compare_int64 n x := by kernel_rfl
theorem ok_cmp_Compare_int64 : EnvOK Tryz.prog G_cmp_Compare_int64 := envOK_cons hm hT ok_cmp_isNaN_int64 Tryz.func282 (by kernel_rfl) hBB fun x r hr => ⟨FU, (e_cmp_Compare_int64 FU x).trans hr⟩
theorem e_cmp_Or_int (n : Nat) (x) : afun G_cmp_Compare_int64 T BB 0 n Tryz.f281 a_cmp_Or_int S_cmp_Or_int.ps S_cmp_Or_int.rs x = p_cmp_Or_int n x := by kernel_rfl
theorem ok_cmp_Or_int : EnvOK Tryz.prog G_cmp_Or_int := envOK_cons hm hT ok_cmp_Compare_int64 Tryz.func281 (by kernel_rfl) hBB fun x r hr => ⟨FU, (e_cmp_Or_int FU x).trans hr⟩
theorem e_impl_compareSlots (n : Nat) (x) : afun G_cmp_Or_int T BB 0 n Tryz.f254 a_impl_compareSlots S_impl_compareSlots.ps S_impl_compareSlots.rs x = p_impl_compareSlots n x := by kernel_rfl
theorem ok_impl_compareSlots : EnvOK Tryz.prog G_impl_compareSlots := envOK_cons hm hT ok_cmp_Or_int Tryz.func254 (by kernel_rfl) hBB fun x r hr => ⟨FU, (e_impl_compareSlots FU x).trans hr⟩
theorem e_impl_AcceptorFault (n : Nat) (x) : afun G_impl_compareSlots T BB 0 n Tryz.f162 a_impl_AcceptorFault S_impl_AcceptorFault.ps S_impl_AcceptorFault.rs x = p_impl_AcceptorFault n x := by kernel_rfl
theorem ok_impl_AcceptorFault : EnvOK Tryz.prog G_impl_AcceptorFault := envOK_cons hm hT ok_impl_compareSlots Tryz.func162 (by kernel_rfl) hBB fun x r hr => ⟨FU, (e_impl_AcceptorFault FU x).trans hr⟩
theorem e_impl_listFault (n : Nat) (x) : afun G_impl_AcceptorFault T BB 0 n Tryz.f71 a_impl_listFault S_impl_listFault.ps S_impl_listFault.rs x = p_impl_listFault n x := by kernel_rfl
theorem ok_impl_listFault : EnvOK Tryz.prog G_impl_listFault := envOK_cons hm hT ok_impl_AcceptorFault Tryz.func71 (by kernel_rfl) hBB fun x r hr => ⟨FU, (e_impl_listFault FU x).trans hr⟩
theorem e_impl_newSlot (n : Nat) (x) : afun G_impl_listFault T BB 0 n Tryz.f164 a_impl_newSlot S_impl_newSlot.ps S_impl_newSlot.rs x = p_impl_newSlot n x := by kernel_rfl
theorem ok_impl_newSlot : EnvOK Tryz.prog G_impl_newSlot := envOK_cons hm hT ok_impl_listFault Tryz.func164 (by kernel_rfl) hBB fun x r hr => ⟨FU, (e_impl_newSlot FU x).trans hr⟩
theorem e_impl_NewSlot (n : Nat) (x) : afun G_impl_newSlot T BB 0 n Tryz.f72 a_impl_NewSlot S_impl_NewSlot.ps S_impl_NewSlot.rs x = p_impl_NewSlot n x := by kernel_rfl
theorem ok_impl_NewSlot : EnvOK Tryz.prog G_impl_NewSlot := envOK_cons hm hT ok_impl_newSlot Tryz.func72 (by kernel_rfl) hBB fun x r hr => ⟨FU, (e_impl_NewSlot FU x).trans hr⟩
theorem e_impl_firstOf (n : Nat) (x) : afun G_impl_NewSlot T BB 0 n Tryz.f70 a_impl_firstOf S_impl_firstOf.ps S_impl_firstOf.rs x = p_impl_firstOf n x := by kernel_rfl
theorem ok_impl_firstOf : EnvOK Tryz.prog G_impl_firstOf := envOK_cons hm hT ok_impl_NewSlot Tryz.func70 (by kernel_rfl) hBB fun x r hr => ⟨FU, (e_impl_firstOf FU x).trans hr⟩
theorem e_impl_reachedFault (n : Nat) (x) : afun G_impl_firstOf T BB 3 n Tryz.f75 a_impl_reachedFault S_impl_reachedFault.ps S_impl_reachedFault.rs x = p_impl_reachedFault n x := by kernel_rfl
theorem ok_impl_reachedFault : EnvOK Tryz.prog G_impl_reachedFault := envOK_cons hm hT ok_impl_firstOf Tryz.func75 (by kernel_rfl) hBB fun x r hr => ⟨FU, (e_impl_reachedFault FU x).trans hr⟩
theorem e_slices_Clone_impl_Vote_impl_Vote (n : Nat) (x) : afun G_impl_reachedFault T BB 0 n Tryz.f306 a_slices_Clone_impl_Vote_impl_Vote S_slices_Clone_impl_Vote_impl_Vote.ps S_slices_Clone_impl_Vote_impl_Vote.rs x = p_slices_Clone_impl_Vote_impl_Vote n x := by kernel_rfl
theorem ok_slices_Clone_impl_Vote_impl_Vote : EnvOK Tryz.prog G_slices_Clone_impl_Vote_impl_Vote := envOK_cons hm hT ok_impl_reachedFault Tryz.func306 (by kernel_rfl) hBB fun x r hr => ⟨FU, (e_slices_Clone_impl_Vote_impl_Vote FU x).trans hr⟩
theorem e_impl_copySlot (n : Nat) (x) : afun G_slices_Clone_impl_Vote_impl_Vote T BB 0 n Tryz.f256 a_impl_copySlot S_impl_copySlot.ps S_impl_copySlot.rs x = p_impl_copySlot n x := by kernel_rfl
theorem ok_impl_copySlot : EnvOK Tryz.prog G_impl_copySlot := envOK_cons hm hT ok_slices_Clone_impl_Vote_impl_Vote Tryz.func256 (by kernel_rfl) hBB fun x r hr => ⟨FU, (e_impl_copySlot FU x).trans hr⟩
theorem e_impl_copyAcceptor (n : Nat) (x) : afun G_impl_copySlot T BB 0 n Tryz.f167 a_impl_copyAcceptor S_impl_copyAcceptor.ps S_impl_copyAcceptor.rs x = p_impl_copyAcceptor n x := by kernel_rfl
theorem ok_impl_copyAcceptor : EnvOK Tryz.prog G_impl_copyAcceptor := envOK_cons hm hT ok_impl_copySlot Tryz.func167 (by kernel_rfl) hBB fun x r hr => ⟨FU, (e_impl_copyAcceptor FU x).trans hr⟩
theorem e_impl_copyAcceptors (n : Nat) (x) : afun G_impl_copyAcceptor T BB 0 n Tryz.f77 a_impl_copyAcceptors S_impl_copyAcceptors.ps S_impl_copyAcceptors.rs x = p_impl_copyAcceptors n x := by kernel_rfl
theorem ok_impl_copyAcceptors : EnvOK Tryz.prog G_impl_copyAcceptors := envOK_cons hm hT ok_impl_copyAcceptor Tryz.func77 (by kernel_rfl) hBB fun x r hr => ⟨FU, (e_impl_copyAcceptors FU x).trans hr⟩
theorem e_impl_Acceptor_slotAt (n : Nat) (x) : afun G_impl_copyAcceptors T BB 1 n Tryz.f258 a_impl_Acceptor_slotAt S_impl_Acceptor_slotAt.ps S_impl_Acceptor_slotAt.rs x = p_impl_Acceptor_slotAt n x := by kernel_rfl
theorem ok_impl_Acceptor_slotAt : EnvOK Tryz.prog G_impl_Acceptor_slotAt := envOK_cons hm hT ok_impl_copyAcceptors Tryz.func258 (by kernel_rfl) hBB fun x r hr => ⟨FU, (e_impl_Acceptor_slotAt FU x).trans hr⟩
theorem e_impl_Acceptor_slot (n : Nat) (x) : afun G_impl_Acceptor_slotAt T BB 0 n Tryz.f257 a_impl_Acceptor_slot S_impl_Acceptor_slot.ps S_impl_Acceptor_slot.rs x = p_impl_Acceptor_slot n x := by kernel_rfl
theorem ok_impl_Acceptor_slot : EnvOK Tryz.prog G_impl_Acceptor_slot := envOK_cons hm hT ok_impl_Acceptor_slotAt Tryz.func257 (by kernel_rfl) hBB fun x r hr => ⟨FU, (e_impl_Acceptor_slot FU x).trans hr⟩
theorem e_impl_PromiseSlot (n : Nat) (x) : afun G_impl_Acceptor_slot T BB 0 n Tryz.f170 a_impl_PromiseSlot S_impl_PromiseSlot.ps S_impl_PromiseSlot.rs x = p_impl_PromiseSlot n x := by kernel_rfl
theorem ok_impl_PromiseSlot : EnvOK Tryz.prog G_impl_PromiseSlot := envOK_cons hm hT ok_impl_Acceptor_slot Tryz.func170 (by kernel_rfl) hBB fun x r hr => ⟨FU, (e_impl_PromiseSlot FU x).trans hr⟩
theorem info135_slices_Insert_impl_Slot_impl_Slot : ∃ i z, Tryz.prog.info? 135 = some i ∧ i.zero = some z ∧ i.size = 6 ∧ i.bytes = 64 ∧ z.cells.size = 6 := by
  have h : (Tryz.prog.info? 135).map (fun i => (i.size, i.bytes, i.zero.map fun z => z.cells.size)) = some (6, 64, some 6) := by kernel_rfl
  cases hi : Tryz.prog.info? 135 with
  | none => rw [hi] at h; cases h
  | some i =>
    rw [hi] at h
    simp only [Option.map_some, Option.some.injEq, Prod.mk.injEq] at h
    obtain ⟨h1, h2, h3⟩ := h
    cases hz : i.zero with
    | none => rw [hz] at h3; cases h3
    | some z =>
      rw [hz] at h3
      exact ⟨i, z, rfl, hz, h1, h2, by simpa using h3⟩
set_option maxHeartbeats 4000000 in
set_option maxRecDepth 100000 in
theorem ins_grow_slices_Insert_impl_Slot_impl_Slot (w : World) (b n i gv cv : Nat) (cur curv : Array Value) (fl vl : List Value) (hi : i < n) (hbig : (n + 1) * 64 ≤ 140737488355328) (hb : w.heap[b]? = some (.cells cur 135 (0, 0))) (hfl : cur.toList.take (n * 6) = fl) (hfs : fl.length = n * 6)
    (hv : w.heap[gv]? = some (.cells curv 135 (0, 0))) (hvl : curv.toList.take 6 = vl) (hvs : vl.length = 6) (h1c : ∀ v ∈ fl, v.oneCell' = true) (h1v : ∀ v ∈ vl, v.oneCell' = true) :
    Calls Tryz.prog 259 #[.slice (some ⟨b, 0, none⟩) n n, .int .i64 i, .slice (some ⟨gv, 0, none⟩) 1 cv] w fun e w' => ∃ G row, n + 1 ≤ G ∧ G ≤ maxLen ∧ e = .returned (.slice (some ⟨w.heap.size, 0, none⟩) (n + 1) G) ∧
      w'.os = w.os ∧ w'.tape = w.tape ∧ w'.output = w.output ∧ w'.heap = w.heap.push (.cells row 135 (0, 0)) ∧ row.size = G * 6 ∧ row.toList.take ((n + 1) * 6) = insC 6 i fl vl := by
  obtain ⟨i0, z, hi0, hz0, hzs, hzb, hzc⟩ := info135_slices_Insert_impl_Slot_impl_Slot
  have u63 := Tryz.underlying115
  have hsz : (Tryz.prog.info? 135).map (·.size) = some 6 := by rw [hi0]; simp [hzs]
  have hbl : b < w.heap.size := (Array.getElem?_eq_some_iff.1 hb).1
  have hvb : gv < w.heap.size := (Array.getElem?_eq_some_iff.1 hv).1
  have hz3 : (n : Int) < (n : Int) + 1 := by omega
  have hkk : (n : Int) + 1 - (i : Int) = ((n + 1 - i : Nat) : Int) := by omega
  have hik : i + (n + 1 - i) = n + 1 := by omega
  have hcell : ∀ (W : World), W.heap[b]? = w.heap[b]? → ∀ j v, fl[j]? = some v → W.cell? ⟨b, j, none⟩ = some v := fun W hW j v hj => by
    rw [← hfl, List.getElem?_take] at hj
    split at hj
    · simp only [World.cell?, hW, hb]
      rw [← Array.getElem?_toList]; exact hj
    · cases hj
  have hold : (Builtin.firstCells i0.size i (.slice (some ⟨b, 0, none⟩) i n)).run Tryz.prog w.drew = .ok (fl.take (i * 6)).toArray w.drew := by
    rw [hzs]
    exact run_firstCells_some w.drew 6 i ⟨b, 0, none⟩ i n (fl.take (i * 6)) (by rw [List.length_take]; omega) (fun j v hj => by
      rw [Addr.add_lit, Nat.zero_add]
      rw [List.getElem?_take] at hj
      split at hj
      · exact hcell w.drew rfl j v hj
      · cases hj)
  have hrz : ∀ ty, (Builtin.append_ #[115, 3] ty #[.slice (some ⟨b, 0, none⟩) i n, .int .i64 ((n : Int) + 1 - (i : Int))]).run Tryz.prog w =
      .ok (.slice (some ⟨w.heap.size, 0, none⟩) (n + 1) (grownCap w (n + 1) n 135)) (w.drew.alloc (.cells ((fl.take (i * 6)).toArray ++ Builtin.zeroCells z.cells (n + 1 - i) ++ Builtin.zeroCells z.cells (grownCap w (n + 1) n 135 - (n + 1))) 135)) := fun ty => by
    have h := Lib.run_append_grow_zeros (P := Tryz.prog) w 115 3 ty 135 i0 z .i64 .i64 Tryz.underlying115 Tryz.underlying3 hi0 hz0 (some ⟨b, 0, none⟩) i n (fl.take (i * 6)) hold (n + 1 - i) (by omega) (by omega) (by omega) (by omega) (by rw [hzb]; omega) (by rw [hzb, hik]; exact growslice_fits (by omega) hbig)
    rw [hik] at h
    rw [hkk]
    exact h
  obtain ⟨G, hG⟩ : ∃ G, G = grownCap w (n + 1) n 135 := ⟨_, rfl⟩
  rw [← hG] at hrz
  have hGn : n + 1 ≤ G := by rw [hG]; exact grownCap_ge w _ _ _
  have hG63 : G ≤ maxLen := by rw [hG]; exact grownCap_le_maxLen w (n + 1) n 135 (by unfold maxLen; omega)
  have hGm : G ≤ 9223372036854775807 := by have := hG63; unfold maxLen at this; omega
  obtain ⟨ROW, hROW⟩ : ∃ ROW : Array Value, ROW = (fl.take (i * 6)).toArray ++ Builtin.zeroCells z.cells (n + 1 - i) ++ Builtin.zeroCells z.cells (G - (n + 1)) := ⟨_, rfl⟩
  rw [← hROW] at hrz
  have hRl : ROW.size = G * 6 := by
    rw [hROW]
    simp only [Array.size_append, List.size_toArray, List.length_take, size_zeroCells, hzc]
    omega
  have hRt : ROW.toList.take (i * 6) = fl.take (i * 6) := by
    rw [hROW]
    simp only [Array.toList_append, List.append_assoc]
    rw [List.take_append_of_le_length (by rw [List.length_take]; omega)]
    rw [List.take_of_length_le (by rw [List.length_take]; omega)]
  obtain ⟨row2, hr2⟩ : ∃ row2 : Array Value, row2 = (ROW.toList.take (i * 6) ++ vl ++ ROW.toList.drop (i * 6 + vl.length)).toArray := ⟨_, rfl⟩
  have hr2s : row2.size = G * 6 := by
    rw [hr2]
    simp only [List.size_toArray, List.length_append, List.length_take, List.length_drop, Array.length_toList, hRl, hvs]
    omega
  obtain ⟨row3, hr3⟩ : ∃ row3 : Array Value, row3 = (row2.toList.take ((i + 1) * 6) ++ fl.drop (i * 6) ++ row2.toList.drop ((i + 1) * 6 + (fl.drop (i * 6)).length)).toArray := ⟨_, rfl⟩
  have hr3s : row3.size = G * 6 := by
    rw [hr3]
    simp only [List.size_toArray, List.length_append, List.length_take, List.length_drop, Array.length_toList, hr2s, hfs]
    omega
  have hr3t : row3.toList.take ((n + 1) * 6) = insC 6 i fl vl := by
    have e2 : row2.toList.take ((i + 1) * 6) = fl.take (i * 6) ++ vl := by
      rw [hr2, List.toList_toArray, hRt, List.take_append_of_le_length (by simp only [List.length_append, List.length_take]; omega), List.take_of_length_le (by simp only [List.length_append, List.length_take]; omega)]
    rw [hr3, List.toList_toArray, e2, List.take_append_of_le_length (by simp only [List.length_append, List.length_take, List.length_drop]; omega), List.take_of_length_le (by simp only [List.length_append, List.length_take, List.length_drop]; omega)]
    rfl
  have hcpA : ∀ (W : World), W.heap = w.heap.push (.cells ROW 135 (0, 0)) → ∀ ty dc, (Builtin.copy_ #[115, 115] ty #[.slice (some ⟨w.heap.size, i * 6, none⟩) (n + 1 - i) dc, .slice (some ⟨gv, 0, none⟩) 1 cv]).run Tryz.prog W = .ok (goInt 1) (W.setRow w.heap.size row2) := fun W hW ty dc => by
    have hm : Nat.min 1 (n + 1 - i) = 1 := by simp only [Nat.min_def]; split <;> omega
    have := run_copy_rowK (P := Tryz.prog) W 115 115 ty 135 w.heap.size (i * 6) (n + 1 - i) dc ⟨gv, 0, none⟩ 1 cv ROW 135 vl 6 Tryz.underlying115 hsz (by rw [hW]; simp) (by rw [hm, hvs]) (fun j v hj => by
      rw [Addr.add_lit, Nat.zero_add]
      have hg : W.heap[gv]? = some (.cells curv 135 (0, 0)) := by rw [hW, Array.getElem?_push_lt hvb, ← Array.getElem?_eq_getElem hvb]; exact hv
      rw [← hvl, List.getElem?_take] at hj
      split at hj
      · simp only [World.cell?, hg]
        rw [← Array.getElem?_toList]; exact hj
      · cases hj) (by rw [hvs, hRl]; omega) h1v
    rw [hm] at this
    rw [hr2]; exact this
  have hcpB : ∀ (W : World), W.heap = w.heap.push (.cells row2 135 (0, 0)) → ∀ ty dc sc, (Builtin.copy_ #[115, 115] ty #[.slice (some ⟨w.heap.size, (i + 1) * 6, none⟩) (n + 1 - (i + 1)) dc, .slice (some ⟨b, i * 6, none⟩) (n - i) sc]).run Tryz.prog W = .ok (goInt ((n - i : Nat) : Int)) (W.setRow w.heap.size row3) := fun W hW ty dc sc => by
    have hm : Nat.min (n - i) (n + 1 - (i + 1)) = n - i := by simp only [Nat.min_def]; split <;> omega
    have := run_copy_rowK (P := Tryz.prog) W 115 115 ty 135 w.heap.size ((i + 1) * 6) (n + 1 - (i + 1)) dc ⟨b, i * 6, none⟩ (n - i) sc row2 135 (fl.drop (i * 6)) 6 Tryz.underlying115 hsz (by rw [hW]; simp) (by rw [hm, List.length_drop, hfs]; omega) (fun j v hj => by
      rw [Addr.add_lit]
      rw [List.getElem?_drop] at hj
      exact hcell W (by rw [hW, Array.getElem?_push_lt hbl, ← Array.getElem?_eq_getElem hbl]) _ v hj) (by rw [List.length_drop, hfs, hr2s]; omega) (fun v hv => h1c v (List.mem_of_mem_drop hv))
    rw [hm] at this
    rw [hr3]; exact this
  have hGi : ¬ (G = i) := by omega
  have hni : ¬ (n = i) := by omega
  have mixed : Tryz.prog.follows Departure.mixedOrders = true := by kernel_rfl
  have hGim : ¬ (G = i + 1) := by omega
  have hw1 : IntKind.i64.wrap ((i : Int) + 1) = (i : Int) + 1 := by rw [IntKind.wrap_i64]; omega
  have hb1 : (0 : Int) ≤ (i : Int) + 1 := by omega
  have hin : i ≤ n := by omega
  have htn : ((i : Int) + 1).toNat = i + 1 := by omega
  have hE1 : ((w.alloc (.cells ROW 135)).drew).heap = w.heap.push (.cells ROW 135 (0, 0)) := rfl
  have hF1 : (((w.alloc (.cells ROW 135)).drew.setRow w.heap.size row2).drew).heap = w.heap.push (.cells row2 135 (0, 0)) := heap_setRow_push hE1
  clear hkk hik hold hROW hRl hRt hr2 hr3 hG
  refine Calls.mono (R := fun e w' => e = .returned (.slice (some ⟨w.heap.size, 0, none⟩) (n + 1) G) ∧ w' = (((w.alloc (.cells ROW 135)).drew.setRow w.heap.size row2).drew.setRow w.heap.size row3)) ?_ (fun e w' h => ⟨G, row3, hGn, hG63, h.1, by rw [h.2]; rfl, by rw [h.2]; rfl, by rw [h.2]; rfl, by rw [h.2]; exact heap_setRow_push hF1, hr3s, hr3t⟩)
  go_enter Tryz.func259, Tryz.ntmps259
  go_wp2_with (first
    | (at_builtin; refine Lib.wpList_append_run _ rfl _ _ _ _ rfl _ _ rfl rfl _ _ (hrz _) ?_)
    | (at_builtin; refine wpList_copy_runI _ rfl _ _ 115 115 rfl _ _ rfl rfl (hcpA _ hE1 _ _) ?_))
  go_region_law_o (refine step_copy_runI rfl _ _ 115 115 rfl (.slice (some ⟨w.heap.size, (i + 1) * 6, none⟩) (n + 1 - (i + 1)) (G - (i + 1))) (.slice (some ⟨b, i * 6, none⟩) (n - i) (n - i)) (by simp [Act.eval, Act.put, hni, hGi, hGim]) (by simp [Act.eval, Act.put, hni, hGi, hGim]) (hcpB _ hF1 3 (G - (i + 1)) (n - i)) ?_)
  go_wp2
  go_ret
  exact ⟨rfl, rfl⟩

set_option maxHeartbeats 4000000 in
set_option maxRecDepth 100000 in
theorem ins_room_slices_Insert_impl_Slot_impl_Slot (w : World) (b n c i gv cv : Nat) (cur curv : Array Value) (fl vl : List Value) (hi : i < n) (hroom : n + 1 ≤ c) (hc63 : c ≤ 9223372036854775807) (hne : gv ≠ b) (hb : w.heap[b]? = some (.cells cur 135 (0, 0))) (hcs : cur.size = c * 6) (hfl : cur.toList.take (n * 6) = fl) (hfs : fl.length = n * 6)
    (hv : w.heap[gv]? = some (.cells curv 135 (0, 0))) (hvl : curv.toList.take 6 = vl) (hvs : vl.length = 6) (h1c : ∀ v ∈ fl, v.oneCell' = true) (h1v : ∀ v ∈ vl, v.oneCell' = true) :
    ∃ row, row.size = c * 6 ∧ row.toList.take ((n + 1) * 6) = insC 6 i fl vl ∧
    Calls Tryz.prog 259 #[.slice (some ⟨b, 0, none⟩) n c, .int .i64 i, .slice (some ⟨gv, 0, none⟩) 1 cv] w fun e w' =>  e = .returned (.slice (some ⟨b, 0, none⟩) (n + 1) c) ∧ w'.os = w.os ∧ w'.tape = w.tape ∧ w'.output = w.output ∧ w'.heap = (w.setRow b row).heap := by
  obtain ⟨i0, z, hi0, hz0, hzs, hzb, hzc⟩ := info135_slices_Insert_impl_Slot_impl_Slot
  have u63 := Tryz.underlying115
  have hsz : (Tryz.prog.info? 135).map (·.size) = some 6 := by rw [hi0]; simp [hzs]
  have hbl : b < w.heap.size := (Array.getElem?_eq_some_iff.1 hb).1
  have hvb : gv < w.heap.size := (Array.getElem?_eq_some_iff.1 hv).1
  have mixed : Tryz.prog.follows Departure.mixedOrders = true := by kernel_rfl
  have hcell : ∀ (W : World) (cu : Array Value), W.heap[b]? = some (.cells cu 135 (0, 0)) → cu = cur → ∀ j v, fl[j]? = some v → W.cell? ⟨b, j, none⟩ = some v := fun W cu hW hcu j v hj => by
    subst hcu
    rw [← hfl, List.getElem?_take] at hj
    split at hj
    · simp only [World.cell?, hW]
      rw [← Array.getElem?_toList]; exact hj
    · cases hj
  obtain ⟨row1, hr1⟩ : ∃ row1 : Array Value, row1 = (cur.toList.take ((i + 1) * 6) ++ fl.drop (i * 6) ++ cur.toList.drop ((i + 1) * 6 + (fl.drop (i * 6)).length)).toArray := ⟨_, rfl⟩
  have hr1s : row1.size = c * 6 := by
    rw [hr1]
    simp only [List.size_toArray, List.length_append, List.length_take, List.length_drop, Array.length_toList, hcs, hfs]
    omega
  obtain ⟨row2, hr2⟩ : ∃ row2 : Array Value, row2 = (row1.toList.take (i * 6) ++ vl ++ row1.toList.drop (i * 6 + vl.length)).toArray := ⟨_, rfl⟩
  have hr2s : row2.size = c * 6 := by
    rw [hr2]
    simp only [List.size_toArray, List.length_append, List.length_take, List.length_drop, Array.length_toList, hr1s, hvs]
    omega
  have hr2t : row2.toList.take ((n + 1) * 6) = insC 6 i fl vl := by
    have e0 : cur.toList.take (i * 6) = fl.take (i * 6) := by
      rw [← hfl, List.take_take]; congr 1; omega
    have e1 : row1.toList.take (i * 6) = fl.take (i * 6) := by
      rw [hr1, List.toList_toArray, List.append_assoc, List.take_append_of_le_length (by simp only [List.length_take, Array.length_toList, hcs]; omega), List.take_take, ← e0]
      congr 1; omega
    have e2 : row1.toList.drop (i * 6 + vl.length) = fl.drop (i * 6) ++ cur.toList.drop ((i + 1) * 6 + (fl.drop (i * 6)).length) := by
      rw [hr1, List.toList_toArray, List.append_assoc]
      have : (cur.toList.take ((i + 1) * 6)).length = i * 6 + vl.length := by simp only [List.length_take, Array.length_toList, hcs, hvs]; omega
      rw [← this, List.drop_left]
    rw [hr2, List.toList_toArray, e1, e2, ← List.append_assoc, List.take_append_of_le_length (by simp only [List.length_append, List.length_take, List.length_drop]; omega), List.take_of_length_le (by simp only [List.length_append, List.length_take, List.length_drop]; omega)]
    rfl
  have hcp1 : ∀ ty dc sc, (Builtin.copy_ #[115, 115] ty #[.slice (some ⟨b, (i + 1) * 6, none⟩) (n + 1 - (i + 1)) dc, .slice (some ⟨b, i * 6, none⟩) (n + 1 - i) sc]).run Tryz.prog w.drew = .ok (goInt ((n - i : Nat) : Int)) (w.drew.setRow b row1) := fun ty dc sc => by
    have hm : Nat.min (n + 1 - i) (n + 1 - (i + 1)) = n - i := by simp only [Nat.min_def]; split <;> omega
    have := run_copy_rowK (P := Tryz.prog) w.drew 115 115 ty 135 b ((i + 1) * 6) (n + 1 - (i + 1)) dc ⟨b, i * 6, none⟩ (n + 1 - i) sc cur 135 (fl.drop (i * 6)) 6 Tryz.underlying115 hsz hb (by rw [hm, List.length_drop, hfs]; omega) (fun j v hj => by
      rw [Addr.add_lit]
      rw [List.getElem?_drop] at hj
      exact hcell w.drew cur hb rfl _ v hj) (by rw [List.length_drop, hfs, hcs]; omega) (fun v hv => h1c v (List.mem_of_mem_drop hv))
    rw [hm] at this
    rw [hr1]; exact this
  have hcp2 : ∀ (W : World), W.heap = (w.setRow b row1).heap → ∀ ty dc, (Builtin.copy_ #[115, 115] ty #[.slice (some ⟨b, i * 6, none⟩) (n + 1 - i) dc, .slice (some ⟨gv, 0, none⟩) 1 cv]).run Tryz.prog W = .ok (goInt 1) (W.setRow b row2) := fun W hW ty dc => by
    have hm : Nat.min 1 (n + 1 - i) = 1 := by simp only [Nat.min_def]; split <;> omega
    have := run_copy_rowK (P := Tryz.prog) W 115 115 ty 135 b (i * 6) (n + 1 - i) dc ⟨gv, 0, none⟩ 1 cv row1 135 vl 6 Tryz.underlying115 hsz (by rw [hW]; exact set_row_some hb) (by rw [hm, hvs]) (fun j v hj => by
      rw [Addr.add_lit, Nat.zero_add]
      have hg : W.heap[gv]? = some (.cells curv 135 (0, 0)) := by rw [hW, setRow_other w b gv row1 hne]; exact hv
      rw [← hvl, List.getElem?_take] at hj
      split at hj
      · simp only [World.cell?, hg]
        rw [← Array.getElem?_toList]; exact hj
      · cases hj) (by rw [hvs, hr1s]; omega) h1v
    rw [hm] at this
    rw [hr2]; exact this
  have hov : ∀ lb cb, (callFunc 308 #[.slice (some ⟨gv, 0, none⟩) 1 cv, .slice (some ⟨b, (i + 1) * 6, none⟩) lb cb]).run Tryz.prog w = .ok (.value (.bool false)) w := fun lb cb => by
    rw [run_callFunc_extern Tryz.func308 (by kernel_rfl) (by kernel_rfl) (by kernel_rfl) (e := Extern.SlicesOverlaps.overlaps #[115, 115] #[4]) (by kernel_rfl),
      Lib.run_overlaps_apart w 115 4 135 Tryz.underlying115 6 (fun w => by simp [sizeOf, typeInfo, hi0, hzs]) ⟨gv, 0, none⟩ ⟨b, (i + 1) * 6, none⟩ 1 cv lb cb hne 135 135 curv.size cur.size (by simp only [World.shape?, hv]) (by simp only [World.shape?, hb]) (by rw [hcs]; omega) (by simp [World.frozen?, hv]) (by simp [World.frozen?, hv])]
    rfl
  have hz2 : ¬ ((i : Int) = (n : Int)) := by omega
  have hw1 : IntKind.i64.wrap ((i : Int) + 1) = (i : Int) + 1 := by rw [IntKind.wrap_i64]; omega
  have hb1 : (0 : Int) ≤ (i : Int) + 1 := by omega
  have hin : i ≤ n := by omega
  have htn : ((i : Int) + 1).toNat = i + 1 := by omega
  have hb2 : ¬ (c = i + 1) := by omega
  have hb3 : (i : Int) ≤ (n : Int) + 1 := by omega
  have hb4 : ¬ (c = i) := by omega
  have hF1 : (w.drew.setRow b row1).heap = (w.setRow b row1).heap := rfl
  refine ⟨row2, hr2s, hr2t, Calls.mono (R := fun e w' => e = .returned (.slice (some ⟨b, 0, none⟩) (n + 1) c) ∧ w' = ((w.drew.setRow b row1).setRow b row2)) ?_ (fun e w' h => ⟨h.1, by rw [h.2]; rfl, by rw [h.2]; rfl, by rw [h.2]; rfl, by rw [h.2]; show ((w.setRow b row1).setRow b row2).heap = _; rw [setRow_setRow]⟩)⟩
  clear hr1 hr2 hr1s hr2s hr2t
  go_enter Tryz.func259, Tryz.ntmps259
  go_wp2_with (simp only [hov])
  go_region_law_o (refine step_copy_runI rfl _ _ 115 115 rfl (.slice (some ⟨b, (i + 1) * 6, none⟩) (n + 1 - (i + 1)) (c - (i + 1))) (.slice (some ⟨b, i * 6, none⟩) (n + 1 - i) (c - i)) (by simp [Act.eval, Act.put, hb2, hb4]) (by simp [Act.eval, Act.put, hb2, hb4]) (hcp1 3 (c - (i + 1)) (c - i)) ?_)
  go_wp2_with (at_builtin; refine wpList_copy_runI _ rfl _ _ 115 115 rfl _ _ rfl rfl (hcp2 _ hF1 _ _) ?_)
  go_ret
  exact ⟨rfl, rfl⟩

set_option maxHeartbeats 4000000 in
set_option maxRecDepth 100000 in
theorem ins_end_slices_Insert_impl_Slot_impl_Slot (w : World) (v : Value) (n gv cv : Nat) (curv : Array Value) (fl vl : List Value) (hn63 : n + 1 ≤ maxLen) (hbig : (n + 1) * 64 ≤ 140737488355328) (how : Go.Rv.Own w 135 6 v n fl)
    (hv : w.heap[gv]? = some (.cells curv 135 (0, 0))) (hvl : curv.toList.take 6 = vl) (hvs : vl.length = 6) (h1v : ∀ v ∈ vl, v.oneCell' = true) :
    ∃ v' w', Go.Rv.Own w' 135 6 v' (n + 1) (fl ++ vl) ∧ w.grownBy w' (ownB v) ∧ (∀ g, ownB v' = some g → w.heap.size ≤ g ∨ ownB v = some g) ∧ 
    Calls Tryz.prog 259 #[v, .int .i64 n, .slice (some ⟨gv, 0, none⟩) 1 cv] w fun e w1 =>  e = .returned v' ∧ w1 = w' := by
  obtain ⟨i0, z, hi0, hz0, hzs, hzb, hzc⟩ := info135_slices_Insert_impl_Slot_impl_Slot
  have u63 := Tryz.underlying115
  have mixed : Tryz.prog.follows Departure.mixedOrders = true := by kernel_rfl
  obtain ⟨v', w', hrun, ho, hgr, hblk⟩ := run_append_Own (P := Tryz.prog) (w := w) (t := 115) (ty := 115) Tryz.underlying115 hi0 hz0 hzs hzb hzc (by decide) how ⟨gv, 0, none⟩ 1 cv vl (by rw [hvs]) (fun j u hj => by
    rw [Addr.add_lit, Nat.zero_add]
    rw [← hvl, List.getElem?_take] at hj
    split at hj
    · simp only [World.cell?, hv]
      rw [← Array.getElem?_toList]; exact hj
    · cases hj) h1v hn63 hbig
  refine ⟨v', w', ho, hgr, hblk, ?_⟩
  rcases how.2 with ⟨A, rfl, rfl⟩ | ⟨b, cap, cur, rfl, hb, hcb, hnc, hcm, hcs, htk⟩
  · cases A with
    | none =>
      clear ho hgr hblk how
      go_enter Tryz.func259, Tryz.ntmps259
      go_wp2_with (at_builtin; refine Lib.wpList_append_run _ rfl _ _ _ _ rfl _ _ rfl rfl _ _ hrun ?_)
      go_ret
      exact ⟨rfl, rfl⟩
    | some a0 =>
      obtain ⟨a1, a2, a3⟩ := a0
      clear ho hgr hblk how
      go_enter Tryz.func259, Tryz.ntmps259
      go_wp2_with (at_builtin; refine Lib.wpList_append_run _ rfl _ _ _ _ rfl _ _ rfl rfl _ _ hrun ?_)
      go_ret
      exact ⟨rfl, rfl⟩
  · have hc2 : cap ≤ 9223372036854775807 := hcm
    clear ho hgr hblk how
    go_enter Tryz.func259, Tryz.ntmps259
    go_wp2_with (at_builtin; refine Lib.wpList_append_run _ rfl _ _ _ _ rfl _ _ rfl rfl _ _ hrun ?_)
    all_goals (go_ret; exact ⟨rfl, rfl⟩)

theorem ins_walk_slices_Insert_impl_Slot_impl_Slot : InsWalk Tryz.prog 259 135 6 64 := by
  intro w v0 v1 n i fl vl h0 h1 hi hbig one0 one1 hne
  have hn63 : n + 1 ≤ maxLen := by simp only [maxLen]; omega
  rcases h1.2 with ⟨A, rfl, h⟩ | ⟨gv, cv, curv, rfl, hcv, hv, hv1, hv2, hv3, hvl⟩
  · cases h
  have hvs : vl.length = 6 := by rw [h1.1]
  rw [Nat.one_mul] at hvl
  by_cases hin : i = n
  · subst hin
    obtain ⟨v', w', k1, k2, k3, k4⟩ := ins_end_slices_Insert_impl_Slot_impl_Slot w v0 i gv cv curv fl vl hn63 hbig h0 hv hvl hvs one1
    refine k4.mono ?_
    rintro en w1 ⟨rfl, rfl⟩
    refine ⟨v', rfl, ?_, k2, k3⟩
    have : insC 6 i fl vl = fl ++ vl := by
      unfold insC
      rw [← h0.1, List.take_length, List.drop_length, List.append_nil]
    rw [this]; exact k1
  · rcases h0.2 with ⟨A, rfl, h⟩ | ⟨b, cap, cur, rfl, hcb, hb, hnc, hcm, hcs, htk⟩
    · omega
    · have hgb : gv ≠ b := fun h => hne b (ownB_of hcb) (by rw [h]; exact ownB_of hcv)
      have hlen : (insC 6 i fl vl).length = (n + 1) * 6 := by
        simp only [insC, List.length_append, List.length_take, List.length_drop, h0.1, hvs]
        omega
      by_cases hroom : n + 1 ≤ cap
      · obtain ⟨row, r1, r2, r3⟩ := ins_room_slices_Insert_impl_Slot_impl_Slot w b n cap i gv cv cur curv fl vl (by omega) hroom hcm hgb hb hcs htk h0.1 hv hvl hvs one0 one1
        refine r3.mono ?_
        rintro en w1 ⟨rfl, q1, q2, q3, q4⟩
        refine ⟨_, rfl, ⟨hlen, .inr ⟨b, cap, row, rfl, hcb, by rw [q4]; exact set_row_some hb, hroom, hcm, r1, r2⟩⟩, ⟨q1, q2, q3, by rw [q4]; simp, fun k hk hne => by rw [q4]; exact setRow_other w b k row (fun he => hne (by rw [he]; exact (ownB_of hcb).symm))⟩, fun g hg => .inr ?_⟩
        rw [ownB_of hcb] at hg ⊢
        exact hg
      · have hcn : cap = n := by omega
        subst hcn
        refine (ins_grow_slices_Insert_impl_Slot_impl_Slot w b cap i gv cv cur curv fl vl (by omega) hbig hb htk h0.1 hv hvl hvs one0 one1).mono ?_
        rintro en w1 ⟨G, row, g1, g2, rfl, q1, q2, q3, q4, q5, q6⟩
        refine ⟨_, rfl, ⟨hlen, .inr ⟨w.heap.size, G, row, rfl, by omega, by rw [q4]; simp, g1, g2, q5, q6⟩⟩, ⟨q1, q2, q3, by rw [q4]; simp, fun k hk _ => by rw [q4, Array.getElem?_push_lt hk, ← Array.getElem?_eq_getElem hk]⟩, fun g hg => .inl ?_⟩
        rw [ownB_of (by omega)] at hg
        cases hg; exact Nat.le_refl _
theorem sound_slices_Insert_impl_Slot_impl_Slot : Sound Tryz.prog 259 S_slices_Insert_impl_Slot_impl_Slot := sound_ins ins_walk_slices_Insert_impl_Slot_impl_Slot
theorem ok_slices_Insert_impl_Slot_impl_Slot : EnvOK Tryz.prog G_slices_Insert_impl_Slot_impl_Slot := envOK_sound ok_impl_PromiseSlot ⟨_, Tryz.func259, by kernel_rfl, by kernel_rfl⟩ sound_slices_Insert_impl_Slot_impl_Slot
theorem e_impl_Acceptor_promise (n : Nat) (x) : afun G_slices_Insert_impl_Slot_impl_Slot T BB 2 n Tryz.f78 a_impl_Acceptor_promise S_impl_Acceptor_promise.ps S_impl_Acceptor_promise.rs x = p_impl_Acceptor_promise n x := by kernel_rfl
theorem ok_impl_Acceptor_promise : EnvOK Tryz.prog G_impl_Acceptor_promise := envOK_cons hm hT ok_slices_Insert_impl_Slot_impl_Slot Tryz.func78 (by kernel_rfl) hBB fun x r hr => ⟨FU, (e_impl_Acceptor_promise FU x).trans hr⟩
theorem e_impl_quorum (n : Nat) (x) : afun G_impl_Acceptor_promise T BB 0 n Tryz.f79 a_impl_quorum S_impl_quorum.ps S_impl_quorum.rs x = p_impl_quorum n x := by kernel_rfl
theorem ok_impl_quorum : EnvOK Tryz.prog G_impl_quorum := envOK_cons hm hT ok_impl_Acceptor_promise Tryz.func79 (by kernel_rfl) hBB fun x r hr => ⟨FU, (e_impl_quorum FU x).trans hr⟩
theorem e_impl_PickValue_1 (n : Nat) (x) : afun G_impl_quorum T BB 0 n Tryz.f172 a_impl_PickValue_1 S_impl_PickValue_1.ps S_impl_PickValue_1.rs x = p_impl_PickValue_1 n x := by kernel_rfl
theorem ok_impl_PickValue_1 : EnvOK Tryz.prog G_impl_PickValue_1 := envOK_cons hm hT ok_impl_quorum Tryz.func172 (by kernel_rfl) hBB fun x r hr => ⟨FU, (e_impl_PickValue_1 FU x).trans hr⟩
theorem e_impl_PickValue (n : Nat) (x) : afun G_impl_PickValue_1 T BB 2 n Tryz.f80 a_impl_PickValue S_impl_PickValue.ps S_impl_PickValue.rs x = p_impl_PickValue n x := by kernel_rfl
theorem ok_impl_PickValue : EnvOK Tryz.prog G_impl_PickValue := envOK_cons hm hT ok_impl_PickValue_1 Tryz.func80 (by kernel_rfl) hBB fun x r hr => ⟨FU, (e_impl_PickValue FU x).trans hr⟩
theorem e_impl_AcceptSlot (n : Nat) (x) : afun G_impl_PickValue T BB 0 n Tryz.f176 a_impl_AcceptSlot S_impl_AcceptSlot.ps S_impl_AcceptSlot.rs x = p_impl_AcceptSlot n x := by kernel_rfl
theorem ok_impl_AcceptSlot : EnvOK Tryz.prog G_impl_AcceptSlot := envOK_cons hm hT ok_impl_PickValue Tryz.func176 (by kernel_rfl) hBB fun x r hr => ⟨FU, (e_impl_AcceptSlot FU x).trans hr⟩
theorem e_impl_Acceptor_accept (n : Nat) (x) : afun G_impl_AcceptSlot T BB 2 n Tryz.f81 a_impl_Acceptor_accept S_impl_Acceptor_accept.ps S_impl_Acceptor_accept.rs x = p_impl_Acceptor_accept n x := by kernel_rfl
theorem ok_impl_Acceptor_accept : EnvOK Tryz.prog G_impl_Acceptor_accept := envOK_cons hm hT ok_impl_AcceptSlot Tryz.func81 (by kernel_rfl) hBB fun x r hr => ⟨FU, (e_impl_Acceptor_accept FU x).trans hr⟩
theorem e_impl_RunBallot (n : Nat) (x) : afun G_impl_Acceptor_accept T BB 0 n Tryz.f15 a_impl_RunBallot S_impl_RunBallot.ps S_impl_RunBallot.rs x = p_impl_RunBallot n x := by kernel_rfl
theorem ok_impl_RunBallot : EnvOK Tryz.prog G_impl_RunBallot := envOK_cons hm hT ok_impl_Acceptor_accept Tryz.func15 (by kernel_rfl) hBB fun x r hr => ⟨FU, (e_impl_RunBallot FU x).trans hr⟩
theorem e_impl_slotsFor (n : Nat) (x) : afun G_impl_RunBallot T BB 0 n Tryz.f192 a_impl_slotsFor S_impl_slotsFor.ps S_impl_slotsFor.rs x = p_impl_slotsFor n x := by kernel_rfl
theorem ok_impl_slotsFor : EnvOK Tryz.prog G_impl_slotsFor := envOK_cons hm hT ok_impl_RunBallot Tryz.func192 (by kernel_rfl) hBB fun x r hr => ⟨FU, (e_impl_slotsFor FU x).trans hr⟩
theorem e_impl_size_impl_Slot (n : Nat) (x) : afun G_impl_slotsFor T BB 0 n Tryz.f312 a_impl_size_impl_Slot S_impl_size_impl_Slot.ps S_impl_size_impl_Slot.rs x = p_impl_size_impl_Slot n x := by kernel_rfl
theorem ok_impl_size_impl_Slot : EnvOK Tryz.prog G_impl_size_impl_Slot := envOK_cons hm hT ok_impl_slotsFor Tryz.func312 (by kernel_rfl) hBB fun x r hr => ⟨FU, (e_impl_size_impl_Slot FU x).trans hr⟩
theorem e_impl_slotsFault (n : Nat) (x) : afun G_impl_size_impl_Slot T BB 3 n Tryz.f267 a_impl_slotsFault S_impl_slotsFault.ps S_impl_slotsFault.rs x = p_impl_slotsFault n x := by kernel_rfl
theorem ok_impl_slotsFault : EnvOK Tryz.prog G_impl_slotsFault := envOK_cons hm hT ok_impl_size_impl_Slot Tryz.func267 (by kernel_rfl) hBB fun x r hr => ⟨FU, (e_impl_slotsFault FU x).trans hr⟩
theorem e_slices_Compact_impl_Vote_impl_Vote (n : Nat) (x) : afun G_impl_slotsFault T BB 0 n Tryz.f315 a_slices_Compact_impl_Vote_impl_Vote S_slices_Compact_impl_Vote_impl_Vote.ps S_slices_Compact_impl_Vote_impl_Vote.rs x = p_slices_Compact_impl_Vote_impl_Vote n x := by kernel_rfl
theorem ok_slices_Compact_impl_Vote_impl_Vote : EnvOK Tryz.prog G_slices_Compact_impl_Vote_impl_Vote := envOK_cons hm hT ok_impl_slotsFault Tryz.func315 (by kernel_rfl) hBB fun x r hr => ⟨FU, (e_slices_Compact_impl_Vote_impl_Vote FU x).trans hr⟩
def ren_slices_SortFunc_impl_Vote_impl_Vote : Go.Shelf.Ren := ⟨fun n => if n = 6 then 316 else if n = 15 then 270 else if n = 14 then 343 else if n = 28 then 327 else if n = 29 then 328 else if n = 20 then 352 else if n = 21 then 353 else if n = 22 then 354 else if n = 23 then 355 else if n = 24 then 356 else if n = 25 then 357 else if n = 26 then 358 else if n = 27 then 359 else if n = 46 then 362 else if n = 47 then 345 else if n = 48 then 346 else if n = 49 then 363 else if n = 50 then 364 else if n = 57 then 365 else n, fun n => if n = 22 then 122 else if n = 24 then 79 else if n = 25 then 346 else if n = 3 then 3 else if n = 39 then 309 else if n = 0 then 0 else if n = 53 then 355 else if n = 55 then 357 else if n = 4 then 4 else if n = 46 then 349 else if n = 45 then 348 else if n = 50 then 270 else if n = 5 then 5 else if n = 9 then 9 else if n = 66 then 377 else if n = 70 then 381 else if n = 76 then 390 else if n = 77 then 391 else n, fun n => n⟩
theorem lays_slices_SortFunc_impl_Vote_impl_Vote : Go.Proofs.SlLaysF0.n6 Tryz.prog ren_slices_SortFunc_impl_Vote_impl_Vote where
  mixed := by kernel_rfl
  f6 := ⟨"slices.SortFunc[[]loop.example/g00203/impl.Vote,loop.example/g00203/impl.Vote]", by decide, Tryz.func316.trans (congrArg some (by kernel_rfl))⟩
  f14 := ⟨"slices.pdqsortCmpFunc[loop.example/g00203/impl.Vote]", by decide, Tryz.func343.trans (congrArg some (by kernel_rfl))⟩
  f15 := Tryz.func270.trans (congrArg some (by kernel_rfl))
  f20 := ⟨"slices.insertionSortCmpFunc[loop.example/g00203/impl.Vote]", by decide, Tryz.func352.trans (congrArg some (by kernel_rfl))⟩
  f21 := ⟨"slices.heapSortCmpFunc[loop.example/g00203/impl.Vote]", by decide, Tryz.func353.trans (congrArg some (by kernel_rfl))⟩
  f22 := ⟨"slices.breakPatternsCmpFunc[loop.example/g00203/impl.Vote]", by decide, Tryz.func354.trans (congrArg some (by kernel_rfl))⟩
  f23 := ⟨"slices.choosePivotCmpFunc[loop.example/g00203/impl.Vote]", by decide, Tryz.func355.trans (congrArg some (by kernel_rfl))⟩
  f24 := ⟨"slices.reverseRangeCmpFunc[loop.example/g00203/impl.Vote]", by decide, Tryz.func356.trans (congrArg some (by kernel_rfl))⟩
  f25 := ⟨"slices.partialInsertionSortCmpFunc[loop.example/g00203/impl.Vote]", by decide, Tryz.func357.trans (congrArg some (by kernel_rfl))⟩
  f26 := ⟨"slices.partitionEqualCmpFunc[loop.example/g00203/impl.Vote]", by decide, Tryz.func358.trans (congrArg some (by kernel_rfl))⟩
  f27 := ⟨"slices.partitionCmpFunc[loop.example/g00203/impl.Vote]", by decide, Tryz.func359.trans (congrArg some (by kernel_rfl))⟩
  f28 := Tryz.func327.trans (congrArg some (by kernel_rfl))
  f29 := Tryz.func328.trans (congrArg some (by kernel_rfl))
  f46 := ⟨"slices.siftDownCmpFunc[loop.example/g00203/impl.Vote]", by decide, Tryz.func362.trans (congrArg some (by kernel_rfl))⟩
  f47 := Tryz.func345.trans (congrArg some (by kernel_rfl))
  f48 := Tryz.func346.trans (congrArg some (by kernel_rfl))
  f49 := ⟨"slices.medianAdjacentCmpFunc[loop.example/g00203/impl.Vote]", by decide, Tryz.func363.trans (congrArg some (by kernel_rfl))⟩
  f50 := ⟨"slices.medianCmpFunc[loop.example/g00203/impl.Vote]", by decide, Tryz.func364.trans (congrArg some (by kernel_rfl))⟩
  f57 := ⟨"slices.order2CmpFunc[loop.example/g00203/impl.Vote]", by decide, Tryz.func365.trans (congrArg some (by kernel_rfl))⟩
  t0 := Tryz.underlying0
  a0 := Tryz.isAgg0
  z0 := Tryz.sizeOf0
  v0 := Tryz.zeroValue0
  t3 := Tryz.underlying3
  a3 := Tryz.isAgg3
  z3 := Tryz.sizeOf3
  v3 := Tryz.zeroValue3
  t4 := Tryz.underlying4
  a4 := Tryz.isAgg4
  z4 := Tryz.sizeOf4
  v4 := Tryz.zeroValue4
  t5 := Tryz.underlying5
  a5 := Tryz.isAgg5
  z5 := Tryz.sizeOf5
  v5 := Tryz.zeroValue5
  t9 := Tryz.underlying9
  a9 := Tryz.isAgg9
  z9 := Tryz.sizeOf9
  v9 := Tryz.zeroValue9
  t22 := Tryz.underlying122
  a22 := Tryz.isAgg122
  z22 := Tryz.sizeOf122
  v22 := Tryz.zeroValue122
  t25 := Tryz.underlying346
  a25 := Tryz.isAgg346
  z25 := Tryz.sizeOf346
  v25 := Tryz.zeroValue346
  t39 := Tryz.underlying309
  a39 := Tryz.isAgg309
  z39 := Tryz.sizeOf309
  v39 := Tryz.zeroValue309
  t45 := Tryz.underlying348
  a45 := Tryz.isAgg348
  z45 := Tryz.sizeOf348
  v45 := Tryz.zeroValue348
  t46 := Tryz.underlying349
  a46 := Tryz.isAgg349
  z46 := Tryz.sizeOf349
  v46 := Tryz.zeroValue349
  t50 := Tryz.underlying270
  a50 := Tryz.isAgg270
  z50 := Tryz.sizeOf270
  v50 := Tryz.zeroValue270
  t53 := Tryz.underlying355
  a53 := Tryz.isAgg355
  z53 := Tryz.sizeOf355
  v53 := Tryz.zeroValue355
  t55 := Tryz.underlying357
  a55 := Tryz.isAgg357
  z55 := Tryz.sizeOf357
  v55 := Tryz.zeroValue357
  t66 := Tryz.underlying377
  a66 := Tryz.isAgg377
  z66 := Tryz.sizeOf377
  v66 := Tryz.zeroValue377
  t70 := Tryz.underlying381
  a70 := Tryz.isAgg381
  z70 := Tryz.sizeOf381
  v70 := Tryz.zeroValue381
  t76 := Tryz.underlying390
  a76 := Tryz.isAgg390
  z76 := Tryz.sizeOf390
  v76 := Tryz.zeroValue390
  t77 := Tryz.underlying391
  a77 := Tryz.isAgg391
  z77 := Tryz.sizeOf391
  v77 := Tryz.zeroValue391
set_option maxHeartbeats 1000000 in
theorem closure_slices_SortFunc_impl_Vote_impl_Vote (W : World) (x y) (hx : okVote x = true) (hy : okVote y = true) : Calls Tryz.prog 317 #[.agg (encVote x).toArray, .agg (encVote y).toArray] W fun e w' => e = .returned (.int .i64 (cfVote x y)) ∧ ∃ q os', w' = Go.Sort.grow (W.drewN q) os' := by
  unfold encVote cfVote
  go_enter Tryz.func317, Tryz.ntmps317
  go_wp2_with fail
  go_ret
  exact ⟨by rw [IntWalk.i64_left]; rfl, 0, _, by rw [alloc_eq_grow, alloc_eq_grow, grow_grow]; rfl⟩
theorem sound_slices_SortFunc_impl_Vote_impl_Vote : Sound Tryz.prog 316 S_slices_SortFunc_impl_Vote_impl_Vote := sound_sort lays_slices_SortFunc_impl_Vote_impl_Vote rfl hencVote (by decide) (fun _ => rfl) (fun x v hv => by simp [encVote] at hv; rcases hv with rfl | rfl <;> rfl) Tryz.isAgg79 Tryz.sizeOf79 swoVote (enters_of Tryz.func317 (by kernel_rfl) rfl) closure_slices_SortFunc_impl_Vote_impl_Vote
theorem ok_slices_SortFunc_impl_Vote_impl_Vote : EnvOK Tryz.prog G_slices_SortFunc_impl_Vote_impl_Vote := envOK_sound ok_slices_Compact_impl_Vote_impl_Vote ⟨_, Tryz.func316, by kernel_rfl, by kernel_rfl⟩ sound_slices_SortFunc_impl_Vote_impl_Vote
theorem e_impl_chosen (n : Nat) (x) : afun G_slices_SortFunc_impl_Vote_impl_Vote T BB 0 n Tryz.f268 a_impl_chosen S_impl_chosen.ps S_impl_chosen.rs x = p_impl_chosen n x := by kernel_rfl
theorem ok_impl_chosen : EnvOK Tryz.prog G_impl_chosen := envOK_cons hm hT ok_slices_SortFunc_impl_Vote_impl_Vote Tryz.func268 (by kernel_rfl) hBB fun x r hr => ⟨FU, (e_impl_chosen FU x).trans hr⟩
theorem e_impl_ChosenIn (n : Nat) (x) : afun G_impl_chosen T BB 0 n Tryz.f191 a_impl_ChosenIn S_impl_ChosenIn.ps S_impl_ChosenIn.rs x = p_impl_ChosenIn n x := by kernel_rfl
theorem ok_impl_ChosenIn : EnvOK Tryz.prog G_impl_ChosenIn := envOK_cons hm hT ok_impl_chosen Tryz.func191 (by kernel_rfl) hBB fun x r hr => ⟨FU, (e_impl_ChosenIn FU x).trans hr⟩
theorem e_impl_outcomeOf (n : Nat) (x) : afun G_impl_ChosenIn T BB 0 n Tryz.f91 a_impl_outcomeOf S_impl_outcomeOf.ps S_impl_outcomeOf.rs x = p_impl_outcomeOf n x := by kernel_rfl
theorem ok_impl_outcomeOf : EnvOK Tryz.prog G_impl_outcomeOf := envOK_cons hm hT ok_impl_ChosenIn Tryz.func91 (by kernel_rfl) hBB fun x r hr => ⟨FU, (e_impl_outcomeOf FU x).trans hr⟩
theorem e_impl_OutcomeOf (n : Nat) (x) : afun G_impl_outcomeOf T BB 0 n Tryz.f26 a_impl_OutcomeOf S_impl_OutcomeOf.ps S_impl_OutcomeOf.rs x = p_impl_OutcomeOf n x := by kernel_rfl
theorem ok_impl_OutcomeOf : EnvOK Tryz.prog G_impl_OutcomeOf := envOK_cons hm hT ok_impl_outcomeOf Tryz.func26 (by kernel_rfl) hBB fun x r hr => ⟨FU, (e_impl_OutcomeOf FU x).trans hr⟩
theorem e_laws_FnOutcomes (n : Nat) (x) : afun G_impl_OutcomeOf T BB 0 n Tryz.f5 a_laws_FnOutcomes S_laws_FnOutcomes.ps S_laws_FnOutcomes.rs x = p_laws_FnOutcomes n x := by kernel_rfl
theorem ok_laws_FnOutcomes : EnvOK Tryz.prog G_laws_FnOutcomes := envOK_cons hm hT ok_impl_OutcomeOf Tryz.func5 (by kernel_rfl) hBB fun x r hr => ⟨FU, (e_laws_FnOutcomes FU x).trans hr⟩
end Go.RvP
