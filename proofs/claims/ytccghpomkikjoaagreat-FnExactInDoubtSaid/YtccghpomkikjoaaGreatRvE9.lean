/- Each function of the program is as its plain function says, for FnExactInDoubt. No condition. -/
import Derived.Test.YtccghpomkikjoaaGreatRvP9
import Derived.Test.YtccghpomkikjoaaGreatProg
import Derived.KernelRfl
import Derived.RangeFuncBox
import Derived.RangeFuncLeaves
import Derived.Shelf.Abstract
import Derived.WalkKit
import Derived.OwnWalkIn
import Derived.TacticsInMore
import Derived.LoopNIn
import Derived.LoopIn
namespace Go.RvP
open Go Go.Rv Go.Proofs Go.Shelf Go.RowKit Go.Lib Go.Sort
set_option maxRecDepth 100000
theorem hm : Tryz.prog.follows .mixedOrders = true := by kernel_rfl
theorem hT : TabOK Tryz.prog T := tabOK_of (by kernel_rfl)
noncomputable def BB : Bodies := [(50, Tryz.f50), (51, Tryz.f51), (126, Tryz.f126), (129, Tryz.f129), (188, Tryz.f188), (189, Tryz.f189), (207, Tryz.f207), (222, Tryz.f222), (226, Tryz.f226), (227, Tryz.f227), (228, Tryz.f228), (234, Tryz.f234), (266, Tryz.f266), (284, Tryz.f284), (288, Tryz.f288), (289, Tryz.f289), (335, Tryz.f335)]
theorem hBB : BodyOK Tryz.prog BB := (bodyOK_cons Tryz.func50 (by kernel_rfl) (bodyOK_cons Tryz.func51 (by kernel_rfl) (bodyOK_cons Tryz.func126 (by kernel_rfl) (bodyOK_cons Tryz.func129 (by kernel_rfl) (bodyOK_cons Tryz.func188 (by kernel_rfl) (bodyOK_cons Tryz.func189 (by kernel_rfl) (bodyOK_cons Tryz.func207 (by kernel_rfl) (bodyOK_cons Tryz.func222 (by kernel_rfl) (bodyOK_cons Tryz.func226 (by kernel_rfl) (bodyOK_cons Tryz.func227 (by kernel_rfl) (bodyOK_cons Tryz.func228 (by kernel_rfl) (bodyOK_cons Tryz.func234 (by kernel_rfl) (bodyOK_cons Tryz.func266 (by kernel_rfl) (bodyOK_cons Tryz.func284 (by kernel_rfl) (bodyOK_cons Tryz.func288 (by kernel_rfl) (bodyOK_cons Tryz.func289 (by kernel_rfl) (bodyOK_cons Tryz.func335 (by kernel_rfl) bodyOK_nil)))))))))))))))))
theorem e_laws_szBalanceS (n : Nat) (x) : afun [] T BB 0 n Tryz.f116 a_laws_szBalanceS S_laws_szBalanceS.ps S_laws_szBalanceS.rs x = p_laws_szBalanceS n x := by kernel_rfl
theorem ok_laws_szBalanceS : EnvOK Tryz.prog G_laws_szBalanceS := envOK_cons hm hT envOK_nil Tryz.func116 (by kernel_rfl) hBB fun x r hr => ⟨FU, (e_laws_szBalanceS FU x).trans hr⟩
theorem e_laws_szMarkS (n : Nat) (x) : afun G_laws_szBalanceS T BB 0 n Tryz.f117 a_laws_szMarkS S_laws_szMarkS.ps S_laws_szMarkS.rs x = p_laws_szMarkS n x := by kernel_rfl
theorem ok_laws_szMarkS : EnvOK Tryz.prog G_laws_szMarkS := envOK_cons hm hT ok_laws_szBalanceS Tryz.func117 (by kernel_rfl) hBB fun x r hr => ⟨FU, (e_laws_szMarkS FU x).trans hr⟩
theorem e_laws_szLegS (n : Nat) (x) : afun G_laws_szMarkS T BB 0 n Tryz.f85 a_laws_szLegS S_laws_szLegS.ps S_laws_szLegS.rs x = p_laws_szLegS n x := by kernel_rfl
theorem ok_laws_szLegS : EnvOK Tryz.prog G_laws_szLegS := envOK_cons hm hT ok_laws_szMarkS Tryz.func85 (by kernel_rfl) hBB fun x r hr => ⟨FU, (e_laws_szLegS FU x).trans hr⟩
theorem e_laws_szContract (n : Nat) (x) : afun G_laws_szLegS T BB 0 n Tryz.f23 a_laws_szContract S_laws_szContract.ps S_laws_szContract.rs x = p_laws_szContract n x := by kernel_rfl
theorem ok_laws_szContract : EnvOK Tryz.prog G_laws_szContract := envOK_cons hm hT ok_laws_szLegS Tryz.func23 (by kernel_rfl) hBB fun x r hr => ⟨FU, (e_laws_szContract FU x).trans hr⟩
theorem e_laws_szContractS (n : Nat) (x) : afun G_laws_szContract T BB 0 n Tryz.f96 a_laws_szContractS S_laws_szContractS.ps S_laws_szContractS.rs x = p_laws_szContractS n x := by kernel_rfl
theorem ok_laws_szContractS : EnvOK Tryz.prog G_laws_szContractS := envOK_cons hm hT ok_laws_szContract Tryz.func96 (by kernel_rfl) hBB fun x r hr => ⟨FU, (e_laws_szContractS FU x).trans hr⟩
theorem e_laws_szInt64S (n : Nat) (x) : afun G_laws_szContractS T BB 0 n Tryz.f118 a_laws_szInt64S S_laws_szInt64S.ps S_laws_szInt64S.rs x = p_laws_szInt64S n x := by kernel_rfl
theorem ok_laws_szInt64S : EnvOK Tryz.prog G_laws_szInt64S := envOK_cons hm hT ok_laws_szContractS Tryz.func118 (by kernel_rfl) hBB fun x r hr => ⟨FU, (e_laws_szInt64S FU x).trans hr⟩
theorem e_laws_szShard (n : Nat) (x) : afun G_laws_szInt64S T BB 0 n Tryz.f40 a_laws_szShard S_laws_szShard.ps S_laws_szShard.rs x = p_laws_szShard n x := by kernel_rfl
theorem ok_laws_szShard : EnvOK Tryz.prog G_laws_szShard := envOK_cons hm hT ok_laws_szInt64S Tryz.func40 (by kernel_rfl) hBB fun x r hr => ⟨FU, (e_laws_szShard FU x).trans hr⟩
theorem e_laws_toBalance (n : Nat) (x) : afun G_laws_szShard T BB 0 n Tryz.f218 a_laws_toBalance S_laws_toBalance.ps S_laws_toBalance.rs x = p_laws_toBalance n x := by kernel_rfl
theorem ok_laws_toBalance : EnvOK Tryz.prog G_laws_toBalance := envOK_cons hm hT ok_laws_szShard Tryz.func218 (by kernel_rfl) hBB fun x r hr => ⟨FU, (e_laws_toBalance FU x).trans hr⟩
theorem e_laws_toBalanceS (n : Nat) (x) : afun G_laws_toBalance T BB 0 n Tryz.f122 a_laws_toBalanceS S_laws_toBalanceS.ps S_laws_toBalanceS.rs x = p_laws_toBalanceS n x := by kernel_rfl
theorem ok_laws_toBalanceS : EnvOK Tryz.prog G_laws_toBalanceS := envOK_cons hm hT ok_laws_toBalance Tryz.func122 (by kernel_rfl) hBB fun x r hr => ⟨FU, (e_laws_toBalanceS FU x).trans hr⟩
theorem e_laws_toMark (n : Nat) (x) : afun G_laws_toBalanceS T BB 0 n Tryz.f219 a_laws_toMark S_laws_toMark.ps S_laws_toMark.rs x = p_laws_toMark n x := by kernel_rfl
theorem ok_laws_toMark : EnvOK Tryz.prog G_laws_toMark := envOK_cons hm hT ok_laws_toBalanceS Tryz.func219 (by kernel_rfl) hBB fun x r hr => ⟨FU, (e_laws_toMark FU x).trans hr⟩
theorem e_laws_toMarkS (n : Nat) (x) : afun G_laws_toMark T BB 0 n Tryz.f123 a_laws_toMarkS S_laws_toMarkS.ps S_laws_toMarkS.rs x = p_laws_toMarkS n x := by kernel_rfl
theorem ok_laws_toMarkS : EnvOK Tryz.prog G_laws_toMarkS := envOK_cons hm hT ok_laws_toMark Tryz.func123 (by kernel_rfl) hBB fun x r hr => ⟨FU, (e_laws_toMarkS FU x).trans hr⟩
theorem e_laws_toLeg (n : Nat) (x) : afun G_laws_toMarkS T BB 0 n Tryz.f185 a_laws_toLeg S_laws_toLeg.ps S_laws_toLeg.rs x = p_laws_toLeg n x := by kernel_rfl
theorem ok_laws_toLeg : EnvOK Tryz.prog G_laws_toLeg := envOK_cons hm hT ok_laws_toMarkS Tryz.func185 (by kernel_rfl) hBB fun x r hr => ⟨FU, (e_laws_toLeg FU x).trans hr⟩
theorem e_laws_toLegS (n : Nat) (x) : afun G_laws_toLeg T BB 0 n Tryz.f89 a_laws_toLegS S_laws_toLegS.ps S_laws_toLegS.rs x = p_laws_toLegS n x := by kernel_rfl
theorem ok_laws_toLegS : EnvOK Tryz.prog G_laws_toLegS := envOK_cons hm hT ok_laws_toLeg Tryz.func89 (by kernel_rfl) hBB fun x r hr => ⟨FU, (e_laws_toLegS FU x).trans hr⟩
theorem e_laws_toContract (n : Nat) (x) : afun G_laws_toLegS T BB 0 n Tryz.f25 a_laws_toContract S_laws_toContract.ps S_laws_toContract.rs x = p_laws_toContract n x := by kernel_rfl
theorem ok_laws_toContract : EnvOK Tryz.prog G_laws_toContract := envOK_cons hm hT ok_laws_toLegS Tryz.func25 (by kernel_rfl) hBB fun x r hr => ⟨FU, (e_laws_toContract FU x).trans hr⟩
theorem e_laws_toContractS (n : Nat) (x) : afun G_laws_toContract T BB 0 n Tryz.f101 a_laws_toContractS S_laws_toContractS.ps S_laws_toContractS.rs x = p_laws_toContractS n x := by kernel_rfl
theorem ok_laws_toContractS : EnvOK Tryz.prog G_laws_toContractS := envOK_cons hm hT ok_laws_toContract Tryz.func101 (by kernel_rfl) hBB fun x r hr => ⟨FU, (e_laws_toContractS FU x).trans hr⟩
theorem e_laws_toInt64S (n : Nat) (x) : afun G_laws_toContractS T BB 0 n Tryz.f14 a_laws_toInt64S S_laws_toInt64S.ps S_laws_toInt64S.rs x = p_laws_toInt64S n x := by kernel_rfl
theorem ok_laws_toInt64S : EnvOK Tryz.prog G_laws_toInt64S := envOK_cons hm hT ok_laws_toContractS Tryz.func14 (by kernel_rfl) hBB fun x r hr => ⟨FU, (e_laws_toInt64S FU x).trans hr⟩
theorem e_laws_toShard (n : Nat) (x) : afun G_laws_toInt64S T BB 0 n Tryz.f42 a_laws_toShard S_laws_toShard.ps S_laws_toShard.rs x = p_laws_toShard n x := by kernel_rfl
theorem ok_laws_toShard : EnvOK Tryz.prog G_laws_toShard := envOK_cons hm hT ok_laws_toInt64S Tryz.func42 (by kernel_rfl) hBB fun x r hr => ⟨FU, (e_laws_toShard FU x).trans hr⟩
theorem e_spec_l1In (n : Nat) (x) : afun G_laws_toShard T BB 0 n Tryz.f63 a_spec_l1In S_spec_l1In.ps S_spec_l1In.rs x = p_spec_l1In n x := by kernel_rfl
theorem ok_spec_l1In : EnvOK Tryz.prog G_spec_l1In := envOK_cons hm hT ok_laws_toShard Tryz.func63 (by kernel_rfl) hBB fun x r hr => ⟨FU, (e_spec_l1In FU x).trans hr⟩
theorem e_spec_l2Key (n : Nat) (x) : afun G_spec_l1In T BB 0 n Tryz.f135 a_spec_l2Key S_spec_l2Key.ps S_spec_l2Key.rs x = p_spec_l2Key n x := by kernel_rfl
theorem ok_spec_l2Key : EnvOK Tryz.prog G_spec_l2Key := envOK_cons hm hT ok_spec_l1In Tryz.func135 (by kernel_rfl) hBB fun x r hr => ⟨FU, (e_spec_l2Key FU x).trans hr⟩
theorem e_spec_BalancesFault (n : Nat) (x) : afun G_spec_l2Key T BB 0 n Tryz.f212 a_spec_BalancesFault S_spec_BalancesFault.ps S_spec_BalancesFault.rs x = p_spec_BalancesFault n x := by kernel_rfl
theorem ok_spec_BalancesFault : EnvOK Tryz.prog G_spec_BalancesFault := envOK_cons hm hT ok_spec_l2Key Tryz.func212 (by kernel_rfl) hBB fun x r hr => ⟨FU, (e_spec_BalancesFault FU x).trans hr⟩
theorem e_spec_l10Base (n : Nat) (x) : afun G_spec_BalancesFault T BB 0 n Tryz.f119 a_spec_l10Base S_spec_l10Base.ps S_spec_l10Base.rs x = p_spec_l10Base n x := by kernel_rfl
theorem ok_spec_l10Base : EnvOK Tryz.prog G_spec_l10Base := envOK_cons hm hT ok_spec_BalancesFault Tryz.func119 (by kernel_rfl) hBB fun x r hr => ⟨FU, (e_spec_l10Base FU x).trans hr⟩
theorem e_spec_l1Id (n : Nat) (x) : afun G_spec_l10Base T BB 0 n Tryz.f181 a_spec_l1Id S_spec_l1Id.ps S_spec_l1Id.rs x = p_spec_l1Id n x := by kernel_rfl
theorem ok_spec_l1Id : EnvOK Tryz.prog G_spec_l1Id := envOK_cons hm hT ok_spec_l10Base Tryz.func181 (by kernel_rfl) hBB fun x r hr => ⟨FU, (e_spec_l1Id FU x).trans hr⟩
theorem e_spec_l10Marks (n : Nat) (x) : afun G_spec_l1Id T BB 0 n Tryz.f120 a_spec_l10Marks S_spec_l10Marks.ps S_spec_l10Marks.rs x = p_spec_l10Marks n x := by kernel_rfl
theorem ok_spec_l10Marks : EnvOK Tryz.prog G_spec_l10Marks := envOK_cons hm hT ok_spec_l1Id Tryz.func120 (by kernel_rfl) hBB fun x r hr => ⟨FU, (e_spec_l10Marks FU x).trans hr⟩
theorem e_spec_LegFault (n : Nat) (x) : afun G_spec_l10Marks T BB 0 n Tryz.f182 a_spec_LegFault S_spec_LegFault.ps S_spec_LegFault.rs x = p_spec_LegFault n x := by kernel_rfl
theorem ok_spec_LegFault : EnvOK Tryz.prog G_spec_LegFault := envOK_cons hm hT ok_spec_l10Marks Tryz.func182 (by kernel_rfl) hBB fun x r hr => ⟨FU, (e_spec_LegFault FU x).trans hr⟩
theorem e_spec_ContractFault (n : Nat) (x) : afun G_spec_LegFault T BB 0 n Tryz.f87 a_spec_ContractFault S_spec_ContractFault.ps S_spec_ContractFault.rs x = p_spec_ContractFault n x := by kernel_rfl
theorem ok_spec_ContractFault : EnvOK Tryz.prog G_spec_ContractFault := envOK_cons hm hT ok_spec_LegFault Tryz.func87 (by kernel_rfl) hBB fun x r hr => ⟨FU, (e_spec_ContractFault FU x).trans hr⟩
theorem e_spec_l1Legs (n : Nat) (x) : afun G_spec_ContractFault T BB 0 n Tryz.f137 a_spec_l1Legs S_spec_l1Legs.ps S_spec_l1Legs.rs x = p_spec_l1Legs n x := by kernel_rfl
theorem ok_spec_l1Legs : EnvOK Tryz.prog G_spec_l1Legs := envOK_cons hm hT ok_spec_ContractFault Tryz.func137 (by kernel_rfl) hBB fun x r hr => ⟨FU, (e_spec_l1Legs FU x).trans hr⟩
theorem e_spec_l10Find (n : Nat) (x) : afun G_spec_l1Legs T BB 0 n Tryz.f213 a_spec_l10Find S_spec_l10Find.ps S_spec_l10Find.rs x = p_spec_l10Find n x := by kernel_rfl
theorem ok_spec_l10Find : EnvOK Tryz.prog G_spec_l10Find := envOK_cons hm hT ok_spec_l1Legs Tryz.func213 (by kernel_rfl) hBB fun x r hr => ⟨FU, (e_spec_l10Find FU x).trans hr⟩
theorem e_spec_l10IsHeld (n : Nat) (x) : afun G_spec_l10Find T BB 0 n Tryz.f214 a_spec_l10IsHeld S_spec_l10IsHeld.ps S_spec_l10IsHeld.rs x = p_spec_l10IsHeld n x := by kernel_rfl
theorem ok_spec_l10IsHeld : EnvOK Tryz.prog G_spec_l10IsHeld := envOK_cons hm hT ok_spec_l10Find Tryz.func214 (by kernel_rfl) hBB fun x r hr => ⟨FU, (e_spec_l10IsHeld FU x).trans hr⟩
theorem e_spec_l1Has (n : Nat) (x) : afun G_spec_l10IsHeld T BB 0 n Tryz.f273 a_spec_l1Has S_spec_l1Has.ps S_spec_l1Has.rs x = p_spec_l1Has n x := by kernel_rfl
theorem ok_spec_l1Has : EnvOK Tryz.prog G_spec_l1Has := envOK_cons hm hT ok_spec_l10IsHeld Tryz.func273 (by kernel_rfl) hBB fun x r hr => ⟨FU, (e_spec_l1Has FU x).trans hr⟩
theorem e_spec_l10Applied (n : Nat) (x) : afun G_spec_l1Has T BB 0 n Tryz.f215 a_spec_l10Applied S_spec_l10Applied.ps S_spec_l10Applied.rs x = p_spec_l10Applied n x := by kernel_rfl
theorem ok_spec_l10Applied : EnvOK Tryz.prog G_spec_l10Applied := envOK_cons hm hT ok_spec_l1Has Tryz.func215 (by kernel_rfl) hBB fun x r hr => ⟨FU, (e_spec_l10Applied FU x).trans hr⟩
theorem e_spec_l10Touch (n : Nat) (x) : afun G_spec_l10Applied T BB 0 n Tryz.f216 a_spec_l10Touch S_spec_l10Touch.ps S_spec_l10Touch.rs x = p_spec_l10Touch n x := by kernel_rfl
theorem ok_spec_l10Touch : EnvOK Tryz.prog G_spec_l10Touch := envOK_cons hm hT ok_spec_l10Applied Tryz.func216 (by kernel_rfl) hBB fun x r hr => ⟨FU, (e_spec_l10Touch FU x).trans hr⟩
theorem e_spec_l2Has (n : Nat) (x) : afun G_spec_l10Touch T BB 0 n Tryz.f136 a_spec_l2Has S_spec_l2Has.ps S_spec_l2Has.rs x = p_spec_l2Has n x := by kernel_rfl
theorem ok_spec_l2Has : EnvOK Tryz.prog G_spec_l2Has := envOK_cons hm hT ok_spec_l10Touch Tryz.func136 (by kernel_rfl) hBB fun x r hr => ⟨FU, (e_spec_l2Has FU x).trans hr⟩
theorem e_spec_l2Legs (n : Nat) (x) : afun G_spec_l2Has T BB 0 n Tryz.f217 a_spec_l2Legs S_spec_l2Legs.ps S_spec_l2Legs.rs x = p_spec_l2Legs n x := by kernel_rfl
theorem ok_spec_l2Legs : EnvOK Tryz.prog G_spec_l2Legs := envOK_cons hm hT ok_spec_l2Has Tryz.func217 (by kernel_rfl) hBB fun x r hr => ⟨FU, (e_spec_l2Legs FU x).trans hr⟩
theorem e_spec_l10Held (n : Nat) (x) : afun G_spec_l2Legs T BB 0 n Tryz.f121 a_spec_l10Held S_spec_l10Held.ps S_spec_l10Held.rs x = p_spec_l10Held n x := by kernel_rfl
theorem ok_spec_l10Held : EnvOK Tryz.prog G_spec_l10Held := envOK_cons hm hT ok_spec_l2Legs Tryz.func121 (by kernel_rfl) hBB fun x r hr => ⟨FU, (e_spec_l10Held FU x).trans hr⟩
theorem e_spec_ShardFault (n : Nat) (x) : afun G_spec_l10Held T BB 0 n Tryz.f41 a_spec_ShardFault S_spec_ShardFault.ps S_spec_ShardFault.rs x = p_spec_ShardFault n x := by kernel_rfl
theorem ok_spec_ShardFault : EnvOK Tryz.prog G_spec_ShardFault := envOK_cons hm hT ok_spec_l10Held Tryz.func41 (by kernel_rfl) hBB fun x r hr => ⟨FU, (e_spec_ShardFault FU x).trans hr⟩
theorem e_spec_l10Doubt (n : Nat) (x) : afun G_spec_ShardFault T BB 0 n Tryz.f142 a_spec_l10Doubt S_spec_l10Doubt.ps S_spec_l10Doubt.rs x = p_spec_l10Doubt n x := by kernel_rfl
theorem ok_spec_l10Doubt : EnvOK Tryz.prog G_spec_l10Doubt := envOK_cons hm hT ok_spec_ShardFault Tryz.func142 (by kernel_rfl) hBB fun x r hr => ⟨FU, (e_spec_l10Doubt FU x).trans hr⟩
theorem e_spec_InDoubt (n : Nat) (x) : afun G_spec_l10Doubt T BB 0 n Tryz.f47 a_spec_InDoubt S_spec_InDoubt.ps S_spec_InDoubt.rs x = p_spec_InDoubt n x := by kernel_rfl
theorem ok_spec_InDoubt : EnvOK Tryz.prog G_spec_InDoubt := envOK_cons hm hT ok_spec_l10Doubt Tryz.func47 (by kernel_rfl) hBB fun x r hr => ⟨FU, (e_spec_InDoubt FU x).trans hr⟩
theorem e_impl_within (n : Nat) (x) : afun G_spec_InDoubt T BB 0 n Tryz.f106 a_impl_within S_impl_within.ps S_impl_within.rs x = p_impl_within n x := by kernel_rfl
theorem ok_impl_within : EnvOK Tryz.prog G_impl_within := envOK_cons hm hT ok_spec_InDoubt Tryz.func106 (by kernel_rfl) hBB fun x r hr => ⟨FU, (e_impl_within FU x).trans hr⟩
theorem e_impl_isShard (n : Nat) (x) : afun G_impl_within T BB 0 n Tryz.f124 a_impl_isShard S_impl_isShard.ps S_impl_isShard.rs x = p_impl_isShard n x := by kernel_rfl
theorem ok_impl_isShard : EnvOK Tryz.prog G_impl_isShard := envOK_cons hm hT ok_impl_within Tryz.func124 (by kernel_rfl) hBB fun x r hr => ⟨FU, (e_impl_isShard FU x).trans hr⟩
theorem e_impl_isAsset (n : Nat) (x) : afun G_impl_isShard T BB 0 n Tryz.f233 a_impl_isAsset S_impl_isAsset.ps S_impl_isAsset.rs x = p_impl_isAsset n x := by kernel_rfl
theorem ok_impl_isAsset : EnvOK Tryz.prog G_impl_isAsset := envOK_cons hm hT ok_impl_isShard Tryz.func233 (by kernel_rfl) hBB fun x r hr => ⟨FU, (e_impl_isAsset FU x).trans hr⟩
theorem e_impl_isPlace (n : Nat) (x) : afun G_impl_isAsset T BB 0 n Tryz.f139 a_impl_isPlace S_impl_isPlace.ps S_impl_isPlace.rs x = p_impl_isPlace n x := by kernel_rfl
theorem ok_impl_isPlace : EnvOK Tryz.prog G_impl_isPlace := envOK_cons hm hT ok_impl_isAsset Tryz.func139 (by kernel_rfl) hBB fun x r hr => ⟨FU, (e_impl_isPlace FU x).trans hr⟩
theorem e_cmp_isNaN_int64 (n : Nat) (x) : afun G_impl_isPlace T BB 0 n Tryz.f334 a_cmp_isNaN_int64 S_cmp_isNaN_int64.ps S_cmp_isNaN_int64.rs x = p_cmp_isNaN_int64 n x := by kernel_rfl
theorem ok_cmp_isNaN_int64 : EnvOK Tryz.prog G_cmp_isNaN_int64 := envOK_cons hm hT ok_impl_isPlace Tryz.func334 (by kernel_rfl) hBB fun x r hr => ⟨FU, (e_cmp_isNaN_int64 FU x).trans hr⟩
theorem e_cmp_Compare_int64 (n : Nat) (x) : afun G_cmp_isNaN_int64 T BB 0 n Tryz.f282 a_cmp_Compare_int64 S_cmp_Compare_int64.ps S_cmp_Compare_int64.rs x = p_cmp_Compare_int64 n x := by kernel_rfl
theorem ok_cmp_Compare_int64 : EnvOK Tryz.prog G_cmp_Compare_int64 := envOK_cons hm hT ok_cmp_isNaN_int64 Tryz.func282 (by kernel_rfl) hBB fun x r hr => ⟨FU, (e_cmp_Compare_int64 FU x).trans hr⟩
theorem e_cmp_Or_int (n : Nat) (x) : afun G_cmp_Compare_int64 T BB 0 n Tryz.f281 a_cmp_Or_int S_cmp_Or_int.ps S_cmp_Or_int.rs x = p_cmp_Or_int n x := by kernel_rfl
theorem ok_cmp_Or_int : EnvOK Tryz.prog G_cmp_Or_int := envOK_cons hm hT ok_cmp_Compare_int64 Tryz.func281 (by kernel_rfl) hBB fun x r hr => ⟨FU, (e_cmp_Or_int FU x).trans hr⟩
theorem e_impl_comparePlaces (n : Nat) (x) : afun G_cmp_Or_int T BB 0 n Tryz.f220 a_impl_comparePlaces S_impl_comparePlaces.ps S_impl_comparePlaces.rs x = p_impl_comparePlaces n x := by kernel_rfl
theorem ok_impl_comparePlaces : EnvOK Tryz.prog G_impl_comparePlaces := envOK_cons hm hT ok_cmp_Or_int Tryz.func220 (by kernel_rfl) hBB fun x r hr => ⟨FU, (e_impl_comparePlaces FU x).trans hr⟩
theorem e_impl_BalancesFault (n : Nat) (x) : afun G_impl_comparePlaces T BB 0 n Tryz.f125 a_impl_BalancesFault S_impl_BalancesFault.ps S_impl_BalancesFault.rs x = p_impl_BalancesFault n x := by kernel_rfl
theorem ok_impl_BalancesFault : EnvOK Tryz.prog G_impl_BalancesFault := envOK_cons hm hT ok_impl_comparePlaces Tryz.func125 (by kernel_rfl) hBB fun x r hr => ⟨FU, (e_impl_BalancesFault FU x).trans hr⟩
theorem e_impl_isId (n : Nat) (x) : afun G_impl_BalancesFault T BB 0 n Tryz.f163 a_impl_isId S_impl_isId.ps S_impl_isId.rs x = p_impl_isId n x := by kernel_rfl
theorem ok_impl_isId : EnvOK Tryz.prog G_impl_isId := envOK_cons hm hT ok_impl_BalancesFault Tryz.func163 (by kernel_rfl) hBB fun x r hr => ⟨FU, (e_impl_isId FU x).trans hr⟩
theorem e_impl_isValue (n : Nat) (x) : afun G_impl_isId T BB 0 n Tryz.f74 a_impl_isValue S_impl_isValue.ps S_impl_isValue.rs x = p_impl_isValue n x := by kernel_rfl
theorem ok_impl_isValue : EnvOK Tryz.prog G_impl_isValue := envOK_cons hm hT ok_impl_isId Tryz.func74 (by kernel_rfl) hBB fun x r hr => ⟨FU, (e_impl_isValue FU x).trans hr⟩
theorem e_impl_isOutcome (n : Nat) (x) : afun G_impl_isValue T BB 0 n Tryz.f127 a_impl_isOutcome S_impl_isOutcome.ps S_impl_isOutcome.rs x = p_impl_isOutcome n x := by kernel_rfl
theorem ok_impl_isOutcome : EnvOK Tryz.prog G_impl_isOutcome := envOK_cons hm hT ok_impl_isValue Tryz.func127 (by kernel_rfl) hBB fun x r hr => ⟨FU, (e_impl_isOutcome FU x).trans hr⟩
theorem e_impl_size_impl_Leg (n : Nat) (x) : afun G_impl_isOutcome T BB 0 n Tryz.f186 a_impl_size_impl_Leg S_impl_size_impl_Leg.ps S_impl_size_impl_Leg.rs x = p_impl_size_impl_Leg n x := by kernel_rfl
theorem ok_impl_size_impl_Leg : EnvOK Tryz.prog G_impl_size_impl_Leg := envOK_cons hm hT ok_impl_isOutcome Tryz.func186 (by kernel_rfl) hBB fun x r hr => ⟨FU, (e_impl_size_impl_Leg FU x).trans hr⟩
theorem e_impl_LegFault (n : Nat) (x) : afun G_impl_size_impl_Leg T BB 0 n Tryz.f187 a_impl_LegFault S_impl_LegFault.ps S_impl_LegFault.rs x = p_impl_LegFault n x := by kernel_rfl
theorem ok_impl_LegFault : EnvOK Tryz.prog G_impl_LegFault := envOK_cons hm hT ok_impl_size_impl_Leg Tryz.func187 (by kernel_rfl) hBB fun x r hr => ⟨FU, (e_impl_LegFault FU x).trans hr⟩
theorem e_impl_samePlace (n : Nat) (x) : afun G_impl_LegFault T BB 0 n Tryz.f190 a_impl_samePlace S_impl_samePlace.ps S_impl_samePlace.rs x = p_impl_samePlace n x := by kernel_rfl
theorem ok_impl_samePlace : EnvOK Tryz.prog G_impl_samePlace := envOK_cons hm hT ok_impl_LegFault Tryz.func190 (by kernel_rfl) hBB fun x r hr => ⟨FU, (e_impl_samePlace FU x).trans hr⟩
theorem e_impl_ContractFault (n : Nat) (x) : afun G_impl_samePlace T BB 3 n Tryz.f90 a_impl_ContractFault S_impl_ContractFault.ps S_impl_ContractFault.rs x = p_impl_ContractFault n x := by kernel_rfl
theorem ok_impl_ContractFault : EnvOK Tryz.prog G_impl_ContractFault := envOK_cons hm hT ok_impl_samePlace Tryz.func90 (by kernel_rfl) hBB fun x r hr => ⟨FU, (e_impl_ContractFault FU x).trans hr⟩
theorem e_impl_legsAt (n : Nat) (x) : afun G_impl_ContractFault T BB 0 n Tryz.f141 a_impl_legsAt S_impl_legsAt.ps S_impl_legsAt.rs x = p_impl_legsAt n x := by kernel_rfl
theorem ok_impl_legsAt : EnvOK Tryz.prog G_impl_legsAt := envOK_cons hm hT ok_impl_ContractFault Tryz.func141 (by kernel_rfl) hBB fun x r hr => ⟨FU, (e_impl_legsAt FU x).trans hr⟩
theorem e_impl_markAt_1 (n : Nat) (x) : afun G_impl_legsAt T BB 0 n Tryz.f336 a_impl_markAt_1 S_impl_markAt_1.ps S_impl_markAt_1.rs x = p_impl_markAt_1 n x := by kernel_rfl
theorem ok_impl_markAt_1 : EnvOK Tryz.prog G_impl_markAt_1 := envOK_cons hm hT ok_impl_legsAt Tryz.func336 (by kernel_rfl) hBB fun x r hr => ⟨FU, (e_impl_markAt_1 FU x).trans hr⟩
theorem e_impl_markAt (n : Nat) (x) : afun G_impl_markAt_1 T BB 1 n Tryz.f283 a_impl_markAt S_impl_markAt.ps S_impl_markAt.rs x = p_impl_markAt n x := by kernel_rfl
theorem ok_impl_markAt : EnvOK Tryz.prog G_impl_markAt := envOK_cons hm hT ok_impl_markAt_1 Tryz.func283 (by kernel_rfl) hBB fun x r hr => ⟨FU, (e_impl_markAt FU x).trans hr⟩
theorem e_impl_markOf (n : Nat) (x) : afun G_impl_markAt T BB 0 n Tryz.f221 a_impl_markOf S_impl_markOf.ps S_impl_markOf.rs x = p_impl_markOf n x := by kernel_rfl
theorem ok_impl_markOf : EnvOK Tryz.prog G_impl_markOf := envOK_cons hm hT ok_impl_markAt Tryz.func221 (by kernel_rfl) hBB fun x r hr => ⟨FU, (e_impl_markOf FU x).trans hr⟩
theorem e_impl_Shard_heldFault (n : Nat) (x) : afun G_impl_markOf T BB 0 n Tryz.f128 a_impl_Shard_heldFault S_impl_Shard_heldFault.ps S_impl_Shard_heldFault.rs x = p_impl_Shard_heldFault n x := by kernel_rfl
theorem ok_impl_Shard_heldFault : EnvOK Tryz.prog G_impl_Shard_heldFault := envOK_cons hm hT ok_impl_markOf Tryz.func128 (by kernel_rfl) hBB fun x r hr => ⟨FU, (e_impl_Shard_heldFault FU x).trans hr⟩
theorem e_impl_firstOf (n : Nat) (x) : afun G_impl_Shard_heldFault T BB 0 n Tryz.f70 a_impl_firstOf S_impl_firstOf.ps S_impl_firstOf.rs x = p_impl_firstOf n x := by kernel_rfl
theorem ok_impl_firstOf : EnvOK Tryz.prog G_impl_firstOf := envOK_cons hm hT ok_impl_Shard_heldFault Tryz.func70 (by kernel_rfl) hBB fun x r hr => ⟨FU, (e_impl_firstOf FU x).trans hr⟩
theorem e_impl_Shard_heldAt_1 (n : Nat) (x) : afun G_impl_firstOf T BB 0 n Tryz.f285 a_impl_Shard_heldAt_1 S_impl_Shard_heldAt_1.ps S_impl_Shard_heldAt_1.rs x = p_impl_Shard_heldAt_1 n x := by kernel_rfl
theorem ok_impl_Shard_heldAt_1 : EnvOK Tryz.prog G_impl_Shard_heldAt_1 := envOK_cons hm hT ok_impl_firstOf Tryz.func285 (by kernel_rfl) hBB fun x r hr => ⟨FU, (e_impl_Shard_heldAt_1 FU x).trans hr⟩
theorem e_impl_Shard_heldAt (n : Nat) (x) : afun G_impl_Shard_heldAt_1 T BB 1 n Tryz.f223 a_impl_Shard_heldAt S_impl_Shard_heldAt.ps S_impl_Shard_heldAt.rs x = p_impl_Shard_heldAt n x := by kernel_rfl
theorem ok_impl_Shard_heldAt : EnvOK Tryz.prog G_impl_Shard_heldAt := envOK_cons hm hT ok_impl_Shard_heldAt_1 Tryz.func223 (by kernel_rfl) hBB fun x r hr => ⟨FU, (e_impl_Shard_heldAt FU x).trans hr⟩
theorem e_impl_Shard_isOpen (n : Nat) (x) : afun G_impl_Shard_heldAt T BB 0 n Tryz.f130 a_impl_Shard_isOpen S_impl_Shard_isOpen.ps S_impl_Shard_isOpen.rs x = p_impl_Shard_isOpen n x := by kernel_rfl
theorem ok_impl_Shard_isOpen : EnvOK Tryz.prog G_impl_Shard_isOpen := envOK_cons hm hT ok_impl_Shard_heldAt Tryz.func130 (by kernel_rfl) hBB fun x r hr => ⟨FU, (e_impl_Shard_isOpen FU x).trans hr⟩
def ren_slices_Sorted_int64 : Go.Shelf.Ren := ⟨fun n => if n = 6 then 225 else if n = 8 then 286 else if n = 9 then 195 else if n = 11 then 337 else if n = 13 then 270 else if n = 12 then 269 else if n = 23 then 327 else if n = 24 then 328 else if n = 14 then 318 else if n = 15 then 319 else if n = 16 then 320 else if n = 17 then 321 else if n = 18 then 322 else if n = 19 then 323 else if n = 20 then 324 else if n = 21 then 325 else if n = 22 then 326 else if n = 25 then 344 else if n = 26 then 345 else if n = 27 then 346 else if n = 28 then 347 else if n = 29 then 348 else if n = 30 then 334 else if n = 31 then 360 else n, fun n => if n = 26 then 2 else if n = 28 then 274 else if n = 24 then 23 else if n = 0 then 0 else if n = 3 then 3 else if n = 37 then 309 else if n = 48 then 355 else if n = 50 then 357 else if n = 4 then 4 else if n = 40 then 349 else if n = 39 then 348 else if n = 45 then 270 else if n = 5 then 5 else if n = 9 then 9 else if n = 51 then 377 else if n = 55 then 381 else if n = 57 then 390 else if n = 58 then 391 else if n = 33 then 119 else n, fun n => n⟩
theorem lays_slices_Sorted_int64 : Go.Proofs.SlLaysZI.n6 Tryz.prog ren_slices_Sorted_int64 where
  mixed := by kernel_rfl
  f6 := ⟨"slices.Sorted[int64]", by decide, Tryz.func225.trans (congrArg some (by kernel_rfl))⟩
  f8 := ⟨"slices.Collect[int64]", by decide, Tryz.func286.trans (congrArg some (by kernel_rfl))⟩
  f11 := ⟨"slices.AppendSeq[[]int64,int64]", by decide, Tryz.func337.trans (congrArg some (by kernel_rfl))⟩
  t0 := Tryz.underlying0
  a0 := Tryz.isAgg0
  z0 := Tryz.sizeOf0
  v0 := Tryz.zeroValue0
  t24 := Tryz.underlying23
  a24 := Tryz.isAgg23
  z24 := Tryz.sizeOf23
  v24 := Tryz.zeroValue23
  t26 := Tryz.underlying2
  a26 := Tryz.isAgg2
  z26 := Tryz.sizeOf2
  v26 := Tryz.zeroValue2
  t28 := Tryz.underlying274
  a28 := Tryz.isAgg274
  z28 := Tryz.sizeOf274
  v28 := Tryz.zeroValue274
  i26 := by kernel_rfl
def ren_slices_Sorted_int64s : Go.Shelf.Ren := ⟨fun n => if n = 5 then 195 else if n = 8 then 270 else if n = 7 then 269 else if n = 19 then 327 else if n = 20 then 328 else if n = 10 then 318 else if n = 11 then 319 else if n = 12 then 320 else if n = 13 then 321 else if n = 14 then 322 else if n = 15 then 323 else if n = 16 then 324 else if n = 17 then 325 else if n = 18 then 326 else if n = 30 then 344 else if n = 31 then 345 else if n = 32 then 346 else if n = 33 then 347 else if n = 34 then 348 else if n = 35 then 334 else if n = 40 then 360 else n, fun n => if n = 23 then 23 else if n = 25 then 2 else if n = 3 then 3 else if n = 32 then 309 else if n = 22 then 23 else if n = 0 then 0 else if n = 44 then 355 else if n = 46 then 357 else if n = 4 then 4 else if n = 36 then 349 else if n = 35 then 348 else if n = 41 then 270 else if n = 5 then 5 else if n = 9 then 9 else if n = 53 then 377 else if n = 57 then 381 else if n = 63 then 390 else if n = 64 then 391 else n, fun n => n⟩
theorem lays_slices_Sorted_int64s : Go.Proofs.SlLaysM.n5 Tryz.prog ren_slices_Sorted_int64s where
  mixed := by kernel_rfl
  f5 := ⟨"slices.Sort[[]int64,int64]", by decide, Tryz.func195.trans (congrArg some (by kernel_rfl))⟩
  f7 := ⟨"slices.pdqsortOrdered[int64]", by decide, Tryz.func269.trans (congrArg some (by kernel_rfl))⟩
  f8 := Tryz.func270.trans (congrArg some (by kernel_rfl))
  f10 := ⟨"slices.insertionSortOrdered[int64]", by decide, Tryz.func318.trans (congrArg some (by kernel_rfl))⟩
  f11 := ⟨"slices.heapSortOrdered[int64]", by decide, Tryz.func319.trans (congrArg some (by kernel_rfl))⟩
  f12 := ⟨"slices.breakPatternsOrdered[int64]", by decide, Tryz.func320.trans (congrArg some (by kernel_rfl))⟩
  f13 := ⟨"slices.choosePivotOrdered[int64]", by decide, Tryz.func321.trans (congrArg some (by kernel_rfl))⟩
  f14 := ⟨"slices.reverseRangeOrdered[int64]", by decide, Tryz.func322.trans (congrArg some (by kernel_rfl))⟩
  f15 := ⟨"slices.partialInsertionSortOrdered[int64]", by decide, Tryz.func323.trans (congrArg some (by kernel_rfl))⟩
  f16 := ⟨"cmp.Less[int64]", by decide, Tryz.func324.trans (congrArg some (by kernel_rfl))⟩
  f17 := ⟨"slices.partitionEqualOrdered[int64]", by decide, Tryz.func325.trans (congrArg some (by kernel_rfl))⟩
  f18 := ⟨"slices.partitionOrdered[int64]", by decide, Tryz.func326.trans (congrArg some (by kernel_rfl))⟩
  f19 := Tryz.func327.trans (congrArg some (by kernel_rfl))
  f20 := Tryz.func328.trans (congrArg some (by kernel_rfl))
  f30 := ⟨"slices.siftDownOrdered[int64]", by decide, Tryz.func344.trans (congrArg some (by kernel_rfl))⟩
  f31 := Tryz.func345.trans (congrArg some (by kernel_rfl))
  f32 := Tryz.func346.trans (congrArg some (by kernel_rfl))
  f33 := ⟨"slices.medianAdjacentOrdered[int64]", by decide, Tryz.func347.trans (congrArg some (by kernel_rfl))⟩
  f34 := ⟨"slices.medianOrdered[int64]", by decide, Tryz.func348.trans (congrArg some (by kernel_rfl))⟩
  f35 := ⟨"cmp.isNaN[int64]", by decide, Tryz.func334.trans (congrArg some (by kernel_rfl))⟩
  f40 := ⟨"slices.order2Ordered[int64]", by decide, Tryz.func360.trans (congrArg some (by kernel_rfl))⟩
  t0 := Tryz.underlying0
  a0 := Tryz.isAgg0
  z0 := Tryz.sizeOf0
  v0 := Tryz.zeroValue0
  t3 := Tryz.underlying3
  a3 := Tryz.isAgg3
  z3 := Tryz.sizeOf3
  v3 := Tryz.zeroValue3
  t4 := Tryz.underlying4
  a4 := Tryz.isAgg4
  z4 := Tryz.sizeOf4
  v4 := Tryz.zeroValue4
  t5 := Tryz.underlying5
  a5 := Tryz.isAgg5
  z5 := Tryz.sizeOf5
  v5 := Tryz.zeroValue5
  t9 := Tryz.underlying9
  a9 := Tryz.isAgg9
  z9 := Tryz.sizeOf9
  v9 := Tryz.zeroValue9
  t22 := Tryz.underlying23
  a22 := Tryz.isAgg23
  z22 := Tryz.sizeOf23
  v22 := Tryz.zeroValue23
  t23 := Tryz.underlying23
  a23 := Tryz.isAgg23
  z23 := Tryz.sizeOf23
  v23 := Tryz.zeroValue23
  t25 := Tryz.underlying2
  a25 := Tryz.isAgg2
  z25 := Tryz.sizeOf2
  v25 := Tryz.zeroValue2
  t32 := Tryz.underlying309
  a32 := Tryz.isAgg309
  z32 := Tryz.sizeOf309
  v32 := Tryz.zeroValue309
  t35 := Tryz.underlying348
  a35 := Tryz.isAgg348
  z35 := Tryz.sizeOf348
  v35 := Tryz.zeroValue348
  t36 := Tryz.underlying349
  a36 := Tryz.isAgg349
  z36 := Tryz.sizeOf349
  v36 := Tryz.zeroValue349
  t41 := Tryz.underlying270
  a41 := Tryz.isAgg270
  z41 := Tryz.sizeOf270
  v41 := Tryz.zeroValue270
  t44 := Tryz.underlying355
  a44 := Tryz.isAgg355
  z44 := Tryz.sizeOf355
  v44 := Tryz.zeroValue355
  t46 := Tryz.underlying357
  a46 := Tryz.isAgg357
  z46 := Tryz.sizeOf357
  v46 := Tryz.zeroValue357
  t53 := Tryz.underlying377
  a53 := Tryz.isAgg377
  z53 := Tryz.sizeOf377
  v53 := Tryz.zeroValue377
  t57 := Tryz.underlying381
  a57 := Tryz.isAgg381
  z57 := Tryz.sizeOf381
  v57 := Tryz.zeroValue381
  t63 := Tryz.underlying390
  a63 := Tryz.isAgg390
  z63 := Tryz.sizeOf390
  v63 := Tryz.zeroValue390
  t64 := Tryz.underlying391
  a64 := Tryz.isAgg391
  z64 := Tryz.sizeOf391
  v64 := Tryz.zeroValue391
section
attribute [local go_sem] Oper.semAt_some
set_option maxRecDepth 100000 in
set_option maxHeartbeats 2000000 in
theorem values1_slices_Sorted_int64 (n : Nat) (hn : 1 ≤ n) (l Bs n₀ b off cap : Nat) (zs : List Int) (hreach : zs.length * 8 ≤ 140737488351232) (hb : b < n₀) (w0 : World) (J : List Int → World → Prop) (hB : ∀ pre W1, J pre W1 → Below n₀ w0 W1)
    (hY : ∀ pre x W, J pre W → pre.length < zs.length → YieldAt Fence.wide (n - 1) Tryz.prog l #[.int .i64 x] W fun e W' => e = .returned (.bool true) ∧ J (pre ++ [x]) W' ∧ KeepsWalks W W')
    (W : World) (hBs : W.cell? ⟨Bs, 0, none⟩ = some (.slice (some ⟨b, off, none⟩) zs.length cap)) (hc : ∀ j (h : j < zs.length), w0.cell? ⟨b, off + j, none⟩ = some (.int .i64 zs[j])) (h0 : J [] W) :
    CallsIn Fence.wide n Tryz.prog 287 #[.func (.yield l) #[] #[], .pointer (some ⟨Bs, 0, none⟩)] W fun e W' => (∃ v, e = .returned v) ∧ J zs W' := by
  have hro : Fence.wide.round = none := rfl
  have h7 : Fence.wide.fn 287 := trivial
  refine callsIn_of_wp Tryz.func287 rfl h7 ?_ hro
  simp only [Tryz.ntmps287, List.size_toArray, List.length_cons, List.length_nil, Nat.reduceAdd, Nat.reduceSub, Array.replicate_succ, Array.replicate_zero, List.push_toArray, List.append_toArray, List.nil_append, List.cons_append]
  gi_wp2
  gi_loopw [7] (fun i wr => ∃ k : Nat, k ≤ zs.length ∧ i = .int .i64 k ∧ J (zs.take k) wr)
    (fun i _ => zs.length - (Go.RowKit.intOf i).toNat)
  case atStart => exact ⟨0, Nat.zero_le _, rfl, h0⟩
  case round =>
    obtain ⟨k, hk, rfl, hJs⟩ := hrel
    have hnx := hB _ _ hJs
    by_cases hlt : k < zs.length
    · have hcx : wr.cell? ⟨b, off + k, none⟩ = some (.int .i64 zs[k]) := (hnx.cell (p := ⟨b, off + k, none⟩) hb).trans (hc k hlt)
      obtain ⟨fn, tmps, assign, body, hy, hR⟩ := hY _ zs[k] wr hJs (by rw [List.length_take]; omega)
      generalize hzk : zs[k] = zk at hcx hR hy
      gi_wp2
      refine hR.mono ?_
      rintro e W3 ⟨rfl, hJ3, hk3⟩
      gi_wp2
      go_roundw
      case rel => exact ⟨k + 1, by omega, by simp, by rw [List.take_succ_eq_append_getElem hlt, hzk]; exact hJ3⟩
      case measure => simp [Go.RowKit.intOf]; omega
    · obtain rfl : k = zs.length := by omega
      gi_wp2
      go_end0
      exact ⟨⟨_, rfl⟩, by rw [List.take_length] at hJs; exact hJs⟩
set_option maxRecDepth 100000 in
set_option maxHeartbeats 1000000 in
theorem values0_slices_Sorted_int64 (n : Nat) (l Bs : Nat) (A : Option Addr) (cap : Nat) (J : List Int → World → Prop) (W : World) (hBs : W.cell? ⟨Bs, 0, none⟩ = some (.slice A 0 cap)) (h0 : J [] W) :
    CallsIn Fence.wide n Tryz.prog 287 #[.func (.yield l) #[] #[], .pointer (some ⟨Bs, 0, none⟩)] W fun e W' => (∃ v, e = .returned v) ∧ J [] W' := by
  have hro : Fence.wide.round = none := rfl
  have h7 : Fence.wide.fn 287 := trivial
  refine callsIn_of_wp Tryz.func287 rfl h7 ?_ hro
  simp only [Tryz.ntmps287, List.size_toArray, List.length_cons, List.length_nil, Nat.reduceAdd, Nat.reduceSub, Array.replicate_succ, Array.replicate_zero, List.push_toArray, List.append_toArray, List.nil_append, List.cons_append]
  gi_wp2
  gi_loopw [7] (fun i wr => i = .int .i64 0 ∧ J [] wr) (fun _ _ => 0)
  case atStart => exact ⟨rfl, h0⟩
  case round =>
    obtain ⟨rfl, hJs⟩ := hrel
    gi_wp2
    go_end0
    exact ⟨⟨_, rfl⟩, hJs⟩
end
theorem sound_slices_Sorted_int64 : Sound Tryz.prog 225 S_slices_Sorted_int64 := sound_sorted fun w Bs zs hr hI => callsIn_wide.1 (sortedB lays_slices_Sorted_int64 4 (by omega) (sortsWide lays_slices_Sorted_int64s rfl 3) (enters_of Tryz.func195 (by kernel_rfl) rfl) 287 _ (enters_of Tryz.func287 (by kernel_rfl) rfl) zs (by simp only [maxLen]; omega) (by omega) w (fun W hW => gives_of values1_slices_Sorted_int64 values0_slices_Sorted_int64 1 (by omega) W Bs zs hr (hI.below hW)))
theorem ok_slices_Sorted_int64 : EnvOK Tryz.prog G_slices_Sorted_int64 := envOK_sound ok_impl_Shard_isOpen ⟨_, Tryz.func225, by kernel_rfl, by kernel_rfl⟩ sound_slices_Sorted_int64
theorem e_slices_Equal_int64_int64 (n : Nat) (x) : afun G_slices_Sorted_int64 T BB 0 n Tryz.f224 a_slices_Equal_int64_int64 S_slices_Equal_int64_int64.ps S_slices_Equal_int64_int64.rs x = p_slices_Equal_int64_int64 n x := by kernel_rfl
theorem ok_slices_Equal_int64_int64 : EnvOK Tryz.prog G_slices_Equal_int64_int64 := envOK_cons hm hT ok_slices_Sorted_int64 Tryz.func224 (by kernel_rfl) hBB fun x r hr => ⟨FU, (e_slices_Equal_int64_int64 FU x).trans hr⟩
theorem e_impl_Shard_appliedOk (n : Nat) (x) : afun G_slices_Equal_int64_int64 T BB 1 n Tryz.f131 a_impl_Shard_appliedOk S_impl_Shard_appliedOk.ps S_impl_Shard_appliedOk.rs x = p_impl_Shard_appliedOk n x := by kernel_rfl
theorem ok_impl_Shard_appliedOk : EnvOK Tryz.prog G_impl_Shard_appliedOk := envOK_cons hm hT ok_slices_Equal_int64_int64 Tryz.func131 (by kernel_rfl) hBB fun x r hr => ⟨FU, (e_impl_Shard_appliedOk FU x).trans hr⟩
theorem e_impl_Shard_legsMeet (n : Nat) (x) : afun G_impl_Shard_appliedOk T BB 6 n Tryz.f229 a_impl_Shard_legsMeet S_impl_Shard_legsMeet.ps S_impl_Shard_legsMeet.rs x = p_impl_Shard_legsMeet n x := by kernel_rfl
theorem ok_impl_Shard_legsMeet : EnvOK Tryz.prog G_impl_Shard_legsMeet := envOK_cons hm hT ok_impl_Shard_appliedOk Tryz.func229 (by kernel_rfl) hBB fun x r hr => ⟨FU, (e_impl_Shard_legsMeet FU x).trans hr⟩
theorem e_impl_amountIn (n : Nat) (x) : afun G_impl_Shard_legsMeet T BB 1 n Tryz.f140 a_impl_amountIn S_impl_amountIn.ps S_impl_amountIn.rs x = p_impl_amountIn n x := by kernel_rfl
theorem ok_impl_amountIn : EnvOK Tryz.prog G_impl_amountIn := envOK_cons hm hT ok_impl_Shard_legsMeet Tryz.func140 (by kernel_rfl) hBB fun x r hr => ⟨FU, (e_impl_amountIn FU x).trans hr⟩
theorem e_impl_legCode (n : Nat) (x) : afun G_impl_amountIn T BB 0 n Tryz.f290 a_impl_legCode S_impl_legCode.ps S_impl_legCode.rs x = p_impl_legCode n x := by kernel_rfl
theorem ok_impl_legCode : EnvOK Tryz.prog G_impl_legCode := envOK_cons hm hT ok_impl_amountIn Tryz.func290 (by kernel_rfl) hBB fun x r hr => ⟨FU, (e_impl_legCode FU x).trans hr⟩
theorem e_impl_Shard_fits (n : Nat) (x) : afun G_impl_legCode T BB 0 n Tryz.f230 a_impl_Shard_fits S_impl_Shard_fits.ps S_impl_Shard_fits.rs x = p_impl_Shard_fits n x := by kernel_rfl
theorem ok_impl_Shard_fits : EnvOK Tryz.prog G_impl_Shard_fits := envOK_cons hm hT ok_impl_legCode Tryz.func230 (by kernel_rfl) hBB fun x r hr => ⟨FU, (e_impl_Shard_fits FU x).trans hr⟩
theorem e_impl_Shard_heldTogether (n : Nat) (x) : afun G_impl_Shard_fits T BB 3 n Tryz.f132 a_impl_Shard_heldTogether S_impl_Shard_heldTogether.ps S_impl_Shard_heldTogether.rs x = p_impl_Shard_heldTogether n x := by kernel_rfl
theorem ok_impl_Shard_heldTogether : EnvOK Tryz.prog G_impl_Shard_heldTogether := envOK_cons hm hT ok_impl_Shard_fits Tryz.func132 (by kernel_rfl) hBB fun x r hr => ⟨FU, (e_impl_Shard_heldTogether FU x).trans hr⟩
theorem e_impl_ShardFault (n : Nat) (x) : afun G_impl_Shard_heldTogether T BB 2 n Tryz.f43 a_impl_ShardFault S_impl_ShardFault.ps S_impl_ShardFault.rs x = p_impl_ShardFault n x := by kernel_rfl
theorem ok_impl_ShardFault : EnvOK Tryz.prog G_impl_ShardFault := envOK_cons hm hT ok_impl_Shard_heldTogether Tryz.func43 (by kernel_rfl) hBB fun x r hr => ⟨FU, (e_impl_ShardFault FU x).trans hr⟩
theorem e_impl_InDoubt (n : Nat) (x) : afun G_impl_ShardFault T BB 0 n Tryz.f48 a_impl_InDoubt S_impl_InDoubt.ps S_impl_InDoubt.rs x = p_impl_InDoubt n x := by kernel_rfl
theorem ok_impl_InDoubt : EnvOK Tryz.prog G_impl_InDoubt := envOK_cons hm hT ok_impl_ShardFault Tryz.func48 (by kernel_rfl) hBB fun x r hr => ⟨FU, (e_impl_InDoubt FU x).trans hr⟩
theorem e_laws_eqInt64S (n : Nat) (x) : afun G_impl_InDoubt T BB 0 n Tryz.f18 a_laws_eqInt64S S_laws_eqInt64S.ps S_laws_eqInt64S.rs x = p_laws_eqInt64S n x := by kernel_rfl
theorem ok_laws_eqInt64S : EnvOK Tryz.prog G_laws_eqInt64S := envOK_cons hm hT ok_impl_InDoubt Tryz.func18 (by kernel_rfl) hBB fun x r hr => ⟨FU, (e_laws_eqInt64S FU x).trans hr⟩
theorem e_laws_eqIntsResult (n : Nat) (x) : afun G_laws_eqInt64S T BB 0 n Tryz.f49 a_laws_eqIntsResult S_laws_eqIntsResult.ps S_laws_eqIntsResult.rs x = p_laws_eqIntsResult n x := by kernel_rfl
theorem ok_laws_eqIntsResult : EnvOK Tryz.prog G_laws_eqIntsResult := envOK_cons hm hT ok_laws_eqInt64S Tryz.func49 (by kernel_rfl) hBB fun x r hr => ⟨FU, (e_laws_eqIntsResult FU x).trans hr⟩
theorem e_laws_eqBalance (n : Nat) (x) : afun G_laws_eqIntsResult T BB 0 n Tryz.f231 a_laws_eqBalance S_laws_eqBalance.ps S_laws_eqBalance.rs x = p_laws_eqBalance n x := by kernel_rfl
theorem ok_laws_eqBalance : EnvOK Tryz.prog G_laws_eqBalance := envOK_cons hm hT ok_laws_eqIntsResult Tryz.func231 (by kernel_rfl) hBB fun x r hr => ⟨FU, (e_laws_eqBalance FU x).trans hr⟩
theorem e_laws_eqBalanceS (n : Nat) (x) : afun G_laws_eqBalance T BB 0 n Tryz.f133 a_laws_eqBalanceS S_laws_eqBalanceS.ps S_laws_eqBalanceS.rs x = p_laws_eqBalanceS n x := by kernel_rfl
theorem ok_laws_eqBalanceS : EnvOK Tryz.prog G_laws_eqBalanceS := envOK_cons hm hT ok_laws_eqBalance Tryz.func133 (by kernel_rfl) hBB fun x r hr => ⟨FU, (e_laws_eqBalanceS FU x).trans hr⟩
theorem e_laws_eqMark (n : Nat) (x) : afun G_laws_eqBalanceS T BB 0 n Tryz.f232 a_laws_eqMark S_laws_eqMark.ps S_laws_eqMark.rs x = p_laws_eqMark n x := by kernel_rfl
theorem ok_laws_eqMark : EnvOK Tryz.prog G_laws_eqMark := envOK_cons hm hT ok_laws_eqBalanceS Tryz.func232 (by kernel_rfl) hBB fun x r hr => ⟨FU, (e_laws_eqMark FU x).trans hr⟩
theorem e_laws_eqMarkS (n : Nat) (x) : afun G_laws_eqMark T BB 0 n Tryz.f134 a_laws_eqMarkS S_laws_eqMarkS.ps S_laws_eqMarkS.rs x = p_laws_eqMarkS n x := by kernel_rfl
theorem ok_laws_eqMarkS : EnvOK Tryz.prog G_laws_eqMarkS := envOK_cons hm hT ok_laws_eqMark Tryz.func134 (by kernel_rfl) hBB fun x r hr => ⟨FU, (e_laws_eqMarkS FU x).trans hr⟩
theorem e_laws_eqLeg (n : Nat) (x) : afun G_laws_eqMarkS T BB 0 n Tryz.f193 a_laws_eqLeg S_laws_eqLeg.ps S_laws_eqLeg.rs x = p_laws_eqLeg n x := by kernel_rfl
theorem ok_laws_eqLeg : EnvOK Tryz.prog G_laws_eqLeg := envOK_cons hm hT ok_laws_eqMarkS Tryz.func193 (by kernel_rfl) hBB fun x r hr => ⟨FU, (e_laws_eqLeg FU x).trans hr⟩
theorem e_laws_eqLegS (n : Nat) (x) : afun G_laws_eqLeg T BB 0 n Tryz.f92 a_laws_eqLegS S_laws_eqLegS.ps S_laws_eqLegS.rs x = p_laws_eqLegS n x := by kernel_rfl
theorem ok_laws_eqLegS : EnvOK Tryz.prog G_laws_eqLegS := envOK_cons hm hT ok_laws_eqLeg Tryz.func92 (by kernel_rfl) hBB fun x r hr => ⟨FU, (e_laws_eqLegS FU x).trans hr⟩
theorem e_laws_eqContract (n : Nat) (x) : afun G_laws_eqLegS T BB 0 n Tryz.f28 a_laws_eqContract S_laws_eqContract.ps S_laws_eqContract.rs x = p_laws_eqContract n x := by kernel_rfl
theorem ok_laws_eqContract : EnvOK Tryz.prog G_laws_eqContract := envOK_cons hm hT ok_laws_eqLegS Tryz.func28 (by kernel_rfl) hBB fun x r hr => ⟨FU, (e_laws_eqContract FU x).trans hr⟩
theorem e_laws_eqContractS (n : Nat) (x) : afun G_laws_eqContract T BB 0 n Tryz.f112 a_laws_eqContractS S_laws_eqContractS.ps S_laws_eqContractS.rs x = p_laws_eqContractS n x := by kernel_rfl
theorem ok_laws_eqContractS : EnvOK Tryz.prog G_laws_eqContractS := envOK_cons hm hT ok_laws_eqContract Tryz.func112 (by kernel_rfl) hBB fun x r hr => ⟨FU, (e_laws_eqContractS FU x).trans hr⟩
theorem e_laws_eqShard (n : Nat) (x) : afun G_laws_eqContractS T BB 0 n Tryz.f44 a_laws_eqShard S_laws_eqShard.ps S_laws_eqShard.rs x = p_laws_eqShard n x := by kernel_rfl
theorem ok_laws_eqShard : EnvOK Tryz.prog G_laws_eqShard := envOK_cons hm hT ok_laws_eqContractS Tryz.func44 (by kernel_rfl) hBB fun x r hr => ⟨FU, (e_laws_eqShard FU x).trans hr⟩
theorem e_laws_markBalanceS (n : Nat) (x) : afun G_laws_eqShard T BB 0 n Tryz.f143 a_laws_markBalanceS S_laws_markBalanceS.ps S_laws_markBalanceS.rs x = p_laws_markBalanceS n x := by kernel_rfl
theorem ok_laws_markBalanceS : EnvOK Tryz.prog G_laws_markBalanceS := envOK_cons hm hT ok_laws_eqShard Tryz.func143 (by kernel_rfl) hBB fun x r hr => ⟨FU, (e_laws_markBalanceS FU x).trans hr⟩
theorem e_laws_markMarkS (n : Nat) (x) : afun G_laws_markBalanceS T BB 0 n Tryz.f144 a_laws_markMarkS S_laws_markMarkS.ps S_laws_markMarkS.rs x = p_laws_markMarkS n x := by kernel_rfl
theorem ok_laws_markMarkS : EnvOK Tryz.prog G_laws_markMarkS := envOK_cons hm hT ok_laws_markBalanceS Tryz.func144 (by kernel_rfl) hBB fun x r hr => ⟨FU, (e_laws_markMarkS FU x).trans hr⟩
theorem e_laws_markLegS (n : Nat) (x) : afun G_laws_markMarkS T BB 0 n Tryz.f149 a_laws_markLegS S_laws_markLegS.ps S_laws_markLegS.rs x = p_laws_markLegS n x := by kernel_rfl
theorem ok_laws_markLegS : EnvOK Tryz.prog G_laws_markLegS := envOK_cons hm hT ok_laws_markMarkS Tryz.func149 (by kernel_rfl) hBB fun x r hr => ⟨FU, (e_laws_markLegS FU x).trans hr⟩
theorem e_laws_markContractS (n : Nat) (x) : afun G_laws_markLegS T BB 0 n Tryz.f145 a_laws_markContractS S_laws_markContractS.ps S_laws_markContractS.rs x = p_laws_markContractS n x := by kernel_rfl
theorem ok_laws_markContractS : EnvOK Tryz.prog G_laws_markContractS := envOK_cons hm hT ok_laws_markLegS Tryz.func145 (by kernel_rfl) hBB fun x r hr => ⟨FU, (e_laws_markContractS FU x).trans hr⟩
theorem e_laws_markInt64S (n : Nat) (x) : afun G_laws_markContractS T BB 0 n Tryz.f20 a_laws_markInt64S S_laws_markInt64S.ps S_laws_markInt64S.rs x = p_laws_markInt64S n x := by kernel_rfl
theorem ok_laws_markInt64S : EnvOK Tryz.prog G_laws_markInt64S := envOK_cons hm hT ok_laws_markContractS Tryz.func20 (by kernel_rfl) hBB fun x r hr => ⟨FU, (e_laws_markInt64S FU x).trans hr⟩
theorem e_laws_heldInt64S (n : Nat) (x) : afun G_laws_markInt64S T BB 0 n Tryz.f146 a_laws_heldInt64S S_laws_heldInt64S.ps S_laws_heldInt64S.rs x = p_laws_heldInt64S n x := by kernel_rfl
theorem ok_laws_heldInt64S : EnvOK Tryz.prog G_laws_heldInt64S := envOK_cons hm hT ok_laws_markInt64S Tryz.func146 (by kernel_rfl) hBB fun x r hr => ⟨FU, (e_laws_heldInt64S FU x).trans hr⟩
theorem e_laws_heldIntsResult (n : Nat) (x) : afun G_laws_heldInt64S T BB 0 n Tryz.f52 a_laws_heldIntsResult S_laws_heldIntsResult.ps S_laws_heldIntsResult.rs x = p_laws_heldIntsResult n x := by kernel_rfl
theorem ok_laws_heldIntsResult : EnvOK Tryz.prog G_laws_heldIntsResult := envOK_cons hm hT ok_laws_heldInt64S Tryz.func52 (by kernel_rfl) hBB fun x r hr => ⟨FU, (e_laws_heldIntsResult FU x).trans hr⟩
theorem e_laws_FnExactInDoubt (n : Nat) (x) : afun G_laws_heldIntsResult T BB 1 n Tryz.f9 a_laws_FnExactInDoubt S_laws_FnExactInDoubt.ps S_laws_FnExactInDoubt.rs x = p_laws_FnExactInDoubt n x := by kernel_rfl
theorem ok_laws_FnExactInDoubt : EnvOK Tryz.prog G_laws_FnExactInDoubt := envOK_cons hm hT ok_laws_heldIntsResult Tryz.func9 (by kernel_rfl) hBB fun x r hr => ⟨FU, (e_laws_FnExactInDoubt FU x).trans hr⟩
end Go.RvP
