/- Each function of the program is as its plain function says, for FnExactVoteShard. No condition. -/
import Derived.Test.YtccghpomkikjoaaGreatRvP10
import Derived.Test.YtccghpomkikjoaaGreatProg
import Derived.KernelRfl
import Derived.RangeFuncBox
import Derived.RangeFuncLeaves
import Derived.Shelf.Abstract
import Derived.WalkKit
import Derived.OwnWalkIn
import Derived.TacticsInMore
import Derived.LoopNIn
import Derived.LoopIn
import Derived.Shelf.RegionOpenPlain
namespace Go.RvP
open Go Go.Rv Go.Proofs Go.Shelf Go.RowKit Go.Lib Go.Sort
set_option maxRecDepth 100000
theorem hm : Tryz.prog.follows .mixedOrders = true := by kernel_rfl
theorem hT : TabOK Tryz.prog T := tabOK_of (by kernel_rfl)
noncomputable def BB : Bodies := [(50, Tryz.f50), (56, Tryz.f56), (57, Tryz.f57), (126, Tryz.f126), (129, Tryz.f129), (188, Tryz.f188), (189, Tryz.f189), (207, Tryz.f207), (222, Tryz.f222), (226, Tryz.f226), (227, Tryz.f227), (228, Tryz.f228), (234, Tryz.f234), (266, Tryz.f266), (284, Tryz.f284), (288, Tryz.f288), (289, Tryz.f289), (295, Tryz.f295), (335, Tryz.f335)]
theorem hBB : BodyOK Tryz.prog BB := (bodyOK_cons Tryz.func50 (by kernel_rfl) (bodyOK_cons Tryz.func56 (by kernel_rfl) (bodyOK_cons Tryz.func57 (by kernel_rfl) (bodyOK_cons Tryz.func126 (by kernel_rfl) (bodyOK_cons Tryz.func129 (by kernel_rfl) (bodyOK_cons Tryz.func188 (by kernel_rfl) (bodyOK_cons Tryz.func189 (by kernel_rfl) (bodyOK_cons Tryz.func207 (by kernel_rfl) (bodyOK_cons Tryz.func222 (by kernel_rfl) (bodyOK_cons Tryz.func226 (by kernel_rfl) (bodyOK_cons Tryz.func227 (by kernel_rfl) (bodyOK_cons Tryz.func228 (by kernel_rfl) (bodyOK_cons Tryz.func234 (by kernel_rfl) (bodyOK_cons Tryz.func266 (by kernel_rfl) (bodyOK_cons Tryz.func284 (by kernel_rfl) (bodyOK_cons Tryz.func288 (by kernel_rfl) (bodyOK_cons Tryz.func289 (by kernel_rfl) (bodyOK_cons Tryz.func295 (by kernel_rfl) (bodyOK_cons Tryz.func335 (by kernel_rfl) bodyOK_nil)))))))))))))))))))
theorem e_laws_szBalanceS (n : Nat) (x) : afun [] T BB 0 n Tryz.f116 a_laws_szBalanceS S_laws_szBalanceS.ps S_laws_szBalanceS.rs x = p_laws_szBalanceS n x := by kernel_rfl
theorem ok_laws_szBalanceS : EnvOK Tryz.prog G_laws_szBalanceS := envOK_cons hm hT envOK_nil Tryz.func116 (by kernel_rfl) hBB fun x r hr => ⟨FU, (e_laws_szBalanceS FU x).trans hr⟩
theorem e_laws_szMarkS (n : Nat) (x) : afun G_laws_szBalanceS T BB 0 n Tryz.f117 a_laws_szMarkS S_laws_szMarkS.ps S_laws_szMarkS.rs x = p_laws_szMarkS n x := by kernel_rfl
theorem ok_laws_szMarkS : EnvOK Tryz.prog G_laws_szMarkS := envOK_cons hm hT ok_laws_szBalanceS Tryz.func117 (by kernel_rfl) hBB fun x r hr => ⟨FU, (e_laws_szMarkS FU x).trans hr⟩
theorem e_laws_szLegS (n : Nat) (x) : afun G_laws_szMarkS T BB 0 n Tryz.f85 a_laws_szLegS S_laws_szLegS.ps S_laws_szLegS.rs x = p_laws_szLegS n x := by kernel_rfl
theorem ok_laws_szLegS : EnvOK Tryz.prog G_laws_szLegS := envOK_cons hm hT ok_laws_szMarkS Tryz.func85 (by kernel_rfl) hBB fun x r hr => ⟨FU, (e_laws_szLegS FU x).trans hr⟩
theorem e_laws_szContract (n : Nat) (x) : afun G_laws_szLegS T BB 0 n Tryz.f23 a_laws_szContract S_laws_szContract.ps S_laws_szContract.rs x = p_laws_szContract n x := by kernel_rfl
theorem ok_laws_szContract : EnvOK Tryz.prog G_laws_szContract := envOK_cons hm hT ok_laws_szLegS Tryz.func23 (by kernel_rfl) hBB fun x r hr => ⟨FU, (e_laws_szContract FU x).trans hr⟩
theorem e_laws_szContractS (n : Nat) (x) : afun G_laws_szContract T BB 0 n Tryz.f96 a_laws_szContractS S_laws_szContractS.ps S_laws_szContractS.rs x = p_laws_szContractS n x := by kernel_rfl
theorem ok_laws_szContractS : EnvOK Tryz.prog G_laws_szContractS := envOK_cons hm hT ok_laws_szContract Tryz.func96 (by kernel_rfl) hBB fun x r hr => ⟨FU, (e_laws_szContractS FU x).trans hr⟩
theorem e_laws_szInt64S (n : Nat) (x) : afun G_laws_szContractS T BB 0 n Tryz.f118 a_laws_szInt64S S_laws_szInt64S.ps S_laws_szInt64S.rs x = p_laws_szInt64S n x := by kernel_rfl
theorem ok_laws_szInt64S : EnvOK Tryz.prog G_laws_szInt64S := envOK_cons hm hT ok_laws_szContractS Tryz.func118 (by kernel_rfl) hBB fun x r hr => ⟨FU, (e_laws_szInt64S FU x).trans hr⟩
theorem e_laws_szShard (n : Nat) (x) : afun G_laws_szInt64S T BB 0 n Tryz.f40 a_laws_szShard S_laws_szShard.ps S_laws_szShard.rs x = p_laws_szShard n x := by kernel_rfl
theorem ok_laws_szShard : EnvOK Tryz.prog G_laws_szShard := envOK_cons hm hT ok_laws_szInt64S Tryz.func40 (by kernel_rfl) hBB fun x r hr => ⟨FU, (e_laws_szShard FU x).trans hr⟩
theorem e_laws_toBalance (n : Nat) (x) : afun G_laws_szShard T BB 0 n Tryz.f218 a_laws_toBalance S_laws_toBalance.ps S_laws_toBalance.rs x = p_laws_toBalance n x := by kernel_rfl
theorem ok_laws_toBalance : EnvOK Tryz.prog G_laws_toBalance := envOK_cons hm hT ok_laws_szShard Tryz.func218 (by kernel_rfl) hBB fun x r hr => ⟨FU, (e_laws_toBalance FU x).trans hr⟩
theorem e_laws_toBalanceS (n : Nat) (x) : afun G_laws_toBalance T BB 0 n Tryz.f122 a_laws_toBalanceS S_laws_toBalanceS.ps S_laws_toBalanceS.rs x = p_laws_toBalanceS n x := by kernel_rfl
theorem ok_laws_toBalanceS : EnvOK Tryz.prog G_laws_toBalanceS := envOK_cons hm hT ok_laws_toBalance Tryz.func122 (by kernel_rfl) hBB fun x r hr => ⟨FU, (e_laws_toBalanceS FU x).trans hr⟩
theorem e_laws_toMark (n : Nat) (x) : afun G_laws_toBalanceS T BB 0 n Tryz.f219 a_laws_toMark S_laws_toMark.ps S_laws_toMark.rs x = p_laws_toMark n x := by kernel_rfl
theorem ok_laws_toMark : EnvOK Tryz.prog G_laws_toMark := envOK_cons hm hT ok_laws_toBalanceS Tryz.func219 (by kernel_rfl) hBB fun x r hr => ⟨FU, (e_laws_toMark FU x).trans hr⟩
theorem e_laws_toMarkS (n : Nat) (x) : afun G_laws_toMark T BB 0 n Tryz.f123 a_laws_toMarkS S_laws_toMarkS.ps S_laws_toMarkS.rs x = p_laws_toMarkS n x := by kernel_rfl
theorem ok_laws_toMarkS : EnvOK Tryz.prog G_laws_toMarkS := envOK_cons hm hT ok_laws_toMark Tryz.func123 (by kernel_rfl) hBB fun x r hr => ⟨FU, (e_laws_toMarkS FU x).trans hr⟩
theorem e_laws_toLeg (n : Nat) (x) : afun G_laws_toMarkS T BB 0 n Tryz.f185 a_laws_toLeg S_laws_toLeg.ps S_laws_toLeg.rs x = p_laws_toLeg n x := by kernel_rfl
theorem ok_laws_toLeg : EnvOK Tryz.prog G_laws_toLeg := envOK_cons hm hT ok_laws_toMarkS Tryz.func185 (by kernel_rfl) hBB fun x r hr => ⟨FU, (e_laws_toLeg FU x).trans hr⟩
theorem e_laws_toLegS (n : Nat) (x) : afun G_laws_toLeg T BB 0 n Tryz.f89 a_laws_toLegS S_laws_toLegS.ps S_laws_toLegS.rs x = p_laws_toLegS n x := by kernel_rfl
theorem ok_laws_toLegS : EnvOK Tryz.prog G_laws_toLegS := envOK_cons hm hT ok_laws_toLeg Tryz.func89 (by kernel_rfl) hBB fun x r hr => ⟨FU, (e_laws_toLegS FU x).trans hr⟩
theorem e_laws_toContract (n : Nat) (x) : afun G_laws_toLegS T BB 0 n Tryz.f25 a_laws_toContract S_laws_toContract.ps S_laws_toContract.rs x = p_laws_toContract n x := by kernel_rfl
theorem ok_laws_toContract : EnvOK Tryz.prog G_laws_toContract := envOK_cons hm hT ok_laws_toLegS Tryz.func25 (by kernel_rfl) hBB fun x r hr => ⟨FU, (e_laws_toContract FU x).trans hr⟩
theorem e_laws_toContractS (n : Nat) (x) : afun G_laws_toContract T BB 0 n Tryz.f101 a_laws_toContractS S_laws_toContractS.ps S_laws_toContractS.rs x = p_laws_toContractS n x := by kernel_rfl
theorem ok_laws_toContractS : EnvOK Tryz.prog G_laws_toContractS := envOK_cons hm hT ok_laws_toContract Tryz.func101 (by kernel_rfl) hBB fun x r hr => ⟨FU, (e_laws_toContractS FU x).trans hr⟩
theorem e_laws_toInt64S (n : Nat) (x) : afun G_laws_toContractS T BB 0 n Tryz.f14 a_laws_toInt64S S_laws_toInt64S.ps S_laws_toInt64S.rs x = p_laws_toInt64S n x := by kernel_rfl
theorem ok_laws_toInt64S : EnvOK Tryz.prog G_laws_toInt64S := envOK_cons hm hT ok_laws_toContractS Tryz.func14 (by kernel_rfl) hBB fun x r hr => ⟨FU, (e_laws_toInt64S FU x).trans hr⟩
theorem e_laws_toShard (n : Nat) (x) : afun G_laws_toInt64S T BB 0 n Tryz.f42 a_laws_toShard S_laws_toShard.ps S_laws_toShard.rs x = p_laws_toShard n x := by kernel_rfl
theorem ok_laws_toShard : EnvOK Tryz.prog G_laws_toShard := envOK_cons hm hT ok_laws_toInt64S Tryz.func42 (by kernel_rfl) hBB fun x r hr => ⟨FU, (e_laws_toShard FU x).trans hr⟩
theorem e_spec_l1In (n : Nat) (x) : afun G_laws_toShard T BB 0 n Tryz.f63 a_spec_l1In S_spec_l1In.ps S_spec_l1In.rs x = p_spec_l1In n x := by kernel_rfl
theorem ok_spec_l1In : EnvOK Tryz.prog G_spec_l1In := envOK_cons hm hT ok_laws_toShard Tryz.func63 (by kernel_rfl) hBB fun x r hr => ⟨FU, (e_spec_l1In FU x).trans hr⟩
theorem e_spec_l2Key (n : Nat) (x) : afun G_spec_l1In T BB 0 n Tryz.f135 a_spec_l2Key S_spec_l2Key.ps S_spec_l2Key.rs x = p_spec_l2Key n x := by kernel_rfl
theorem ok_spec_l2Key : EnvOK Tryz.prog G_spec_l2Key := envOK_cons hm hT ok_spec_l1In Tryz.func135 (by kernel_rfl) hBB fun x r hr => ⟨FU, (e_spec_l2Key FU x).trans hr⟩
theorem e_spec_BalancesFault (n : Nat) (x) : afun G_spec_l2Key T BB 0 n Tryz.f212 a_spec_BalancesFault S_spec_BalancesFault.ps S_spec_BalancesFault.rs x = p_spec_BalancesFault n x := by kernel_rfl
theorem ok_spec_BalancesFault : EnvOK Tryz.prog G_spec_BalancesFault := envOK_cons hm hT ok_spec_l2Key Tryz.func212 (by kernel_rfl) hBB fun x r hr => ⟨FU, (e_spec_BalancesFault FU x).trans hr⟩
theorem e_spec_l10Base (n : Nat) (x) : afun G_spec_BalancesFault T BB 0 n Tryz.f119 a_spec_l10Base S_spec_l10Base.ps S_spec_l10Base.rs x = p_spec_l10Base n x := by kernel_rfl
theorem ok_spec_l10Base : EnvOK Tryz.prog G_spec_l10Base := envOK_cons hm hT ok_spec_BalancesFault Tryz.func119 (by kernel_rfl) hBB fun x r hr => ⟨FU, (e_spec_l10Base FU x).trans hr⟩
theorem e_spec_l1Id (n : Nat) (x) : afun G_spec_l10Base T BB 0 n Tryz.f181 a_spec_l1Id S_spec_l1Id.ps S_spec_l1Id.rs x = p_spec_l1Id n x := by kernel_rfl
theorem ok_spec_l1Id : EnvOK Tryz.prog G_spec_l1Id := envOK_cons hm hT ok_spec_l10Base Tryz.func181 (by kernel_rfl) hBB fun x r hr => ⟨FU, (e_spec_l1Id FU x).trans hr⟩
theorem e_spec_l10Marks (n : Nat) (x) : afun G_spec_l1Id T BB 0 n Tryz.f120 a_spec_l10Marks S_spec_l10Marks.ps S_spec_l10Marks.rs x = p_spec_l10Marks n x := by kernel_rfl
theorem ok_spec_l10Marks : EnvOK Tryz.prog G_spec_l10Marks := envOK_cons hm hT ok_spec_l1Id Tryz.func120 (by kernel_rfl) hBB fun x r hr => ⟨FU, (e_spec_l10Marks FU x).trans hr⟩
theorem e_spec_LegFault (n : Nat) (x) : afun G_spec_l10Marks T BB 0 n Tryz.f182 a_spec_LegFault S_spec_LegFault.ps S_spec_LegFault.rs x = p_spec_LegFault n x := by kernel_rfl
theorem ok_spec_LegFault : EnvOK Tryz.prog G_spec_LegFault := envOK_cons hm hT ok_spec_l10Marks Tryz.func182 (by kernel_rfl) hBB fun x r hr => ⟨FU, (e_spec_LegFault FU x).trans hr⟩
theorem e_spec_ContractFault (n : Nat) (x) : afun G_spec_LegFault T BB 0 n Tryz.f87 a_spec_ContractFault S_spec_ContractFault.ps S_spec_ContractFault.rs x = p_spec_ContractFault n x := by kernel_rfl
theorem ok_spec_ContractFault : EnvOK Tryz.prog G_spec_ContractFault := envOK_cons hm hT ok_spec_LegFault Tryz.func87 (by kernel_rfl) hBB fun x r hr => ⟨FU, (e_spec_ContractFault FU x).trans hr⟩
theorem e_spec_l1Legs (n : Nat) (x) : afun G_spec_ContractFault T BB 0 n Tryz.f137 a_spec_l1Legs S_spec_l1Legs.ps S_spec_l1Legs.rs x = p_spec_l1Legs n x := by kernel_rfl
theorem ok_spec_l1Legs : EnvOK Tryz.prog G_spec_l1Legs := envOK_cons hm hT ok_spec_ContractFault Tryz.func137 (by kernel_rfl) hBB fun x r hr => ⟨FU, (e_spec_l1Legs FU x).trans hr⟩
theorem e_spec_l10Find (n : Nat) (x) : afun G_spec_l1Legs T BB 0 n Tryz.f213 a_spec_l10Find S_spec_l10Find.ps S_spec_l10Find.rs x = p_spec_l10Find n x := by kernel_rfl
theorem ok_spec_l10Find : EnvOK Tryz.prog G_spec_l10Find := envOK_cons hm hT ok_spec_l1Legs Tryz.func213 (by kernel_rfl) hBB fun x r hr => ⟨FU, (e_spec_l10Find FU x).trans hr⟩
theorem e_spec_l10IsHeld (n : Nat) (x) : afun G_spec_l10Find T BB 0 n Tryz.f214 a_spec_l10IsHeld S_spec_l10IsHeld.ps S_spec_l10IsHeld.rs x = p_spec_l10IsHeld n x := by kernel_rfl
theorem ok_spec_l10IsHeld : EnvOK Tryz.prog G_spec_l10IsHeld := envOK_cons hm hT ok_spec_l10Find Tryz.func214 (by kernel_rfl) hBB fun x r hr => ⟨FU, (e_spec_l10IsHeld FU x).trans hr⟩
theorem e_spec_l1Has (n : Nat) (x) : afun G_spec_l10IsHeld T BB 0 n Tryz.f273 a_spec_l1Has S_spec_l1Has.ps S_spec_l1Has.rs x = p_spec_l1Has n x := by kernel_rfl
theorem ok_spec_l1Has : EnvOK Tryz.prog G_spec_l1Has := envOK_cons hm hT ok_spec_l10IsHeld Tryz.func273 (by kernel_rfl) hBB fun x r hr => ⟨FU, (e_spec_l1Has FU x).trans hr⟩
theorem e_spec_l10Applied (n : Nat) (x) : afun G_spec_l1Has T BB 0 n Tryz.f215 a_spec_l10Applied S_spec_l10Applied.ps S_spec_l10Applied.rs x = p_spec_l10Applied n x := by kernel_rfl
theorem ok_spec_l10Applied : EnvOK Tryz.prog G_spec_l10Applied := envOK_cons hm hT ok_spec_l1Has Tryz.func215 (by kernel_rfl) hBB fun x r hr => ⟨FU, (e_spec_l10Applied FU x).trans hr⟩
theorem e_spec_l10Touch (n : Nat) (x) : afun G_spec_l10Applied T BB 0 n Tryz.f216 a_spec_l10Touch S_spec_l10Touch.ps S_spec_l10Touch.rs x = p_spec_l10Touch n x := by kernel_rfl
theorem ok_spec_l10Touch : EnvOK Tryz.prog G_spec_l10Touch := envOK_cons hm hT ok_spec_l10Applied Tryz.func216 (by kernel_rfl) hBB fun x r hr => ⟨FU, (e_spec_l10Touch FU x).trans hr⟩
theorem e_spec_l2Has (n : Nat) (x) : afun G_spec_l10Touch T BB 0 n Tryz.f136 a_spec_l2Has S_spec_l2Has.ps S_spec_l2Has.rs x = p_spec_l2Has n x := by kernel_rfl
theorem ok_spec_l2Has : EnvOK Tryz.prog G_spec_l2Has := envOK_cons hm hT ok_spec_l10Touch Tryz.func136 (by kernel_rfl) hBB fun x r hr => ⟨FU, (e_spec_l2Has FU x).trans hr⟩
theorem e_spec_l2Legs (n : Nat) (x) : afun G_spec_l2Has T BB 0 n Tryz.f217 a_spec_l2Legs S_spec_l2Legs.ps S_spec_l2Legs.rs x = p_spec_l2Legs n x := by kernel_rfl
theorem ok_spec_l2Legs : EnvOK Tryz.prog G_spec_l2Legs := envOK_cons hm hT ok_spec_l2Has Tryz.func217 (by kernel_rfl) hBB fun x r hr => ⟨FU, (e_spec_l2Legs FU x).trans hr⟩
theorem e_spec_l10Held (n : Nat) (x) : afun G_spec_l2Legs T BB 0 n Tryz.f121 a_spec_l10Held S_spec_l10Held.ps S_spec_l10Held.rs x = p_spec_l10Held n x := by kernel_rfl
theorem ok_spec_l10Held : EnvOK Tryz.prog G_spec_l10Held := envOK_cons hm hT ok_spec_l2Legs Tryz.func121 (by kernel_rfl) hBB fun x r hr => ⟨FU, (e_spec_l10Held FU x).trans hr⟩
theorem e_spec_ShardFault (n : Nat) (x) : afun G_spec_l10Held T BB 0 n Tryz.f41 a_spec_ShardFault S_spec_ShardFault.ps S_spec_ShardFault.rs x = p_spec_ShardFault n x := by kernel_rfl
theorem ok_spec_ShardFault : EnvOK Tryz.prog G_spec_ShardFault := envOK_cons hm hT ok_spec_l10Held Tryz.func41 (by kernel_rfl) hBB fun x r hr => ⟨FU, (e_spec_ShardFault FU x).trans hr⟩
theorem e_spec_l10Contract (n : Nat) (x) : afun G_spec_ShardFault T BB 0 n Tryz.f237 a_spec_l10Contract S_spec_l10Contract.ps S_spec_l10Contract.rs x = p_spec_l10Contract n x := by kernel_rfl
theorem ok_spec_l10Contract : EnvOK Tryz.prog G_spec_l10Contract := envOK_cons hm hT ok_spec_ShardFault Tryz.func237 (by kernel_rfl) hBB fun x r hr => ⟨FU, (e_spec_l10Contract FU x).trans hr⟩
theorem e_spec_l10Copy (n : Nat) (x) : afun G_spec_l10Contract T BB 0 n Tryz.f235 a_spec_l10Copy S_spec_l10Copy.ps S_spec_l10Copy.rs x = p_spec_l10Copy n x := by kernel_rfl
theorem ok_spec_l10Copy : EnvOK Tryz.prog G_spec_l10Copy := envOK_cons hm hT ok_spec_l10Contract Tryz.func235 (by kernel_rfl) hBB fun x r hr => ⟨FU, (e_spec_l10Copy FU x).trans hr⟩
theorem e_spec_l10Ready (n : Nat) (x) : afun G_spec_l10Copy T BB 0 n Tryz.f236 a_spec_l10Ready S_spec_l10Ready.ps S_spec_l10Ready.rs x = p_spec_l10Ready n x := by kernel_rfl
theorem ok_spec_l10Ready : EnvOK Tryz.prog G_spec_l10Ready := envOK_cons hm hT ok_spec_l10Copy Tryz.func236 (by kernel_rfl) hBB fun x r hr => ⟨FU, (e_spec_l10Ready FU x).trans hr⟩
theorem e_spec_l10Mark (n : Nat) (x) : afun G_spec_l10Ready T BB 0 n Tryz.f238 a_spec_l10Mark S_spec_l10Mark.ps S_spec_l10Mark.rs x = p_spec_l10Mark n x := by kernel_rfl
theorem ok_spec_l10Mark : EnvOK Tryz.prog G_spec_l10Mark := envOK_cons hm hT ok_spec_l10Ready Tryz.func238 (by kernel_rfl) hBB fun x r hr => ⟨FU, (e_spec_l10Mark FU x).trans hr⟩
theorem e_spec_l10Vote (n : Nat) (x) : afun G_spec_l10Mark T BB 0 n Tryz.f147 a_spec_l10Vote S_spec_l10Vote.ps S_spec_l10Vote.rs x = p_spec_l10Vote n x := by kernel_rfl
theorem ok_spec_l10Vote : EnvOK Tryz.prog G_spec_l10Vote := envOK_cons hm hT ok_spec_l10Mark Tryz.func147 (by kernel_rfl) hBB fun x r hr => ⟨FU, (e_spec_l10Vote FU x).trans hr⟩
theorem e_spec_VoteShard (n : Nat) (x) : afun G_spec_l10Vote T BB 0 n Tryz.f53 a_spec_VoteShard S_spec_VoteShard.ps S_spec_VoteShard.rs x = p_spec_VoteShard n x := by kernel_rfl
theorem ok_spec_VoteShard : EnvOK Tryz.prog G_spec_VoteShard := envOK_cons hm hT ok_spec_l10Vote Tryz.func53 (by kernel_rfl) hBB fun x r hr => ⟨FU, (e_spec_VoteShard FU x).trans hr⟩
theorem e_impl_within (n : Nat) (x) : afun G_spec_VoteShard T BB 0 n Tryz.f106 a_impl_within S_impl_within.ps S_impl_within.rs x = p_impl_within n x := by kernel_rfl
theorem ok_impl_within : EnvOK Tryz.prog G_impl_within := envOK_cons hm hT ok_spec_VoteShard Tryz.func106 (by kernel_rfl) hBB fun x r hr => ⟨FU, (e_impl_within FU x).trans hr⟩
theorem e_impl_isShard (n : Nat) (x) : afun G_impl_within T BB 0 n Tryz.f124 a_impl_isShard S_impl_isShard.ps S_impl_isShard.rs x = p_impl_isShard n x := by kernel_rfl
theorem ok_impl_isShard : EnvOK Tryz.prog G_impl_isShard := envOK_cons hm hT ok_impl_within Tryz.func124 (by kernel_rfl) hBB fun x r hr => ⟨FU, (e_impl_isShard FU x).trans hr⟩
theorem e_impl_isAsset (n : Nat) (x) : afun G_impl_isShard T BB 0 n Tryz.f233 a_impl_isAsset S_impl_isAsset.ps S_impl_isAsset.rs x = p_impl_isAsset n x := by kernel_rfl
theorem ok_impl_isAsset : EnvOK Tryz.prog G_impl_isAsset := envOK_cons hm hT ok_impl_isShard Tryz.func233 (by kernel_rfl) hBB fun x r hr => ⟨FU, (e_impl_isAsset FU x).trans hr⟩
theorem e_impl_isPlace (n : Nat) (x) : afun G_impl_isAsset T BB 0 n Tryz.f139 a_impl_isPlace S_impl_isPlace.ps S_impl_isPlace.rs x = p_impl_isPlace n x := by kernel_rfl
theorem ok_impl_isPlace : EnvOK Tryz.prog G_impl_isPlace := envOK_cons hm hT ok_impl_isAsset Tryz.func139 (by kernel_rfl) hBB fun x r hr => ⟨FU, (e_impl_isPlace FU x).trans hr⟩
theorem e_cmp_isNaN_int64 (n : Nat) (x) : afun G_impl_isPlace T BB 0 n Tryz.f334 a_cmp_isNaN_int64 S_cmp_isNaN_int64.ps S_cmp_isNaN_int64.rs x = p_cmp_isNaN_int64 n x := by kernel_rfl
theorem ok_cmp_isNaN_int64 : EnvOK Tryz.prog G_cmp_isNaN_int64 := envOK_cons hm hT ok_impl_isPlace Tryz.func334 (by kernel_rfl) hBB fun x r hr => ⟨FU, (e_cmp_isNaN_int64 FU x).trans hr⟩
theorem e_cmp_Compare_int64 (n : Nat) (x) : afun G_cmp_isNaN_int64 T BB 0 n Tryz.f282 a_cmp_Compare_int64 S_cmp_Compare_int64.ps S_cmp_Compare_int64.rs x = p_cmp_Compare_int64 n x := by kernel_rfl
theorem ok_cmp_Compare_int64 : EnvOK Tryz.prog G_cmp_Compare_int64 := envOK_cons hm hT ok_cmp_isNaN_int64 Tryz.func282 (by kernel_rfl) hBB fun x r hr => ⟨FU, (e_cmp_Compare_int64 FU x).trans hr⟩
theorem e_cmp_Or_int (n : Nat) (x) : afun G_cmp_Compare_int64 T BB 0 n Tryz.f281 a_cmp_Or_int S_cmp_Or_int.ps S_cmp_Or_int.rs x = p_cmp_Or_int n x := by kernel_rfl
theorem ok_cmp_Or_int : EnvOK Tryz.prog G_cmp_Or_int := envOK_cons hm hT ok_cmp_Compare_int64 Tryz.func281 (by kernel_rfl) hBB fun x r hr => ⟨FU, (e_cmp_Or_int FU x).trans hr⟩
theorem e_impl_comparePlaces (n : Nat) (x) : afun G_cmp_Or_int T BB 0 n Tryz.f220 a_impl_comparePlaces S_impl_comparePlaces.ps S_impl_comparePlaces.rs x = p_impl_comparePlaces n x := by kernel_rfl
theorem ok_impl_comparePlaces : EnvOK Tryz.prog G_impl_comparePlaces := envOK_cons hm hT ok_cmp_Or_int Tryz.func220 (by kernel_rfl) hBB fun x r hr => ⟨FU, (e_impl_comparePlaces FU x).trans hr⟩
theorem e_impl_BalancesFault (n : Nat) (x) : afun G_impl_comparePlaces T BB 0 n Tryz.f125 a_impl_BalancesFault S_impl_BalancesFault.ps S_impl_BalancesFault.rs x = p_impl_BalancesFault n x := by kernel_rfl
theorem ok_impl_BalancesFault : EnvOK Tryz.prog G_impl_BalancesFault := envOK_cons hm hT ok_impl_comparePlaces Tryz.func125 (by kernel_rfl) hBB fun x r hr => ⟨FU, (e_impl_BalancesFault FU x).trans hr⟩
theorem e_impl_isId (n : Nat) (x) : afun G_impl_BalancesFault T BB 0 n Tryz.f163 a_impl_isId S_impl_isId.ps S_impl_isId.rs x = p_impl_isId n x := by kernel_rfl
theorem ok_impl_isId : EnvOK Tryz.prog G_impl_isId := envOK_cons hm hT ok_impl_BalancesFault Tryz.func163 (by kernel_rfl) hBB fun x r hr => ⟨FU, (e_impl_isId FU x).trans hr⟩
theorem e_impl_isValue (n : Nat) (x) : afun G_impl_isId T BB 0 n Tryz.f74 a_impl_isValue S_impl_isValue.ps S_impl_isValue.rs x = p_impl_isValue n x := by kernel_rfl
theorem ok_impl_isValue : EnvOK Tryz.prog G_impl_isValue := envOK_cons hm hT ok_impl_isId Tryz.func74 (by kernel_rfl) hBB fun x r hr => ⟨FU, (e_impl_isValue FU x).trans hr⟩
theorem e_impl_isOutcome (n : Nat) (x) : afun G_impl_isValue T BB 0 n Tryz.f127 a_impl_isOutcome S_impl_isOutcome.ps S_impl_isOutcome.rs x = p_impl_isOutcome n x := by kernel_rfl
theorem ok_impl_isOutcome : EnvOK Tryz.prog G_impl_isOutcome := envOK_cons hm hT ok_impl_isValue Tryz.func127 (by kernel_rfl) hBB fun x r hr => ⟨FU, (e_impl_isOutcome FU x).trans hr⟩
theorem e_impl_size_impl_Leg (n : Nat) (x) : afun G_impl_isOutcome T BB 0 n Tryz.f186 a_impl_size_impl_Leg S_impl_size_impl_Leg.ps S_impl_size_impl_Leg.rs x = p_impl_size_impl_Leg n x := by kernel_rfl
theorem ok_impl_size_impl_Leg : EnvOK Tryz.prog G_impl_size_impl_Leg := envOK_cons hm hT ok_impl_isOutcome Tryz.func186 (by kernel_rfl) hBB fun x r hr => ⟨FU, (e_impl_size_impl_Leg FU x).trans hr⟩
theorem e_impl_LegFault (n : Nat) (x) : afun G_impl_size_impl_Leg T BB 0 n Tryz.f187 a_impl_LegFault S_impl_LegFault.ps S_impl_LegFault.rs x = p_impl_LegFault n x := by kernel_rfl
theorem ok_impl_LegFault : EnvOK Tryz.prog G_impl_LegFault := envOK_cons hm hT ok_impl_size_impl_Leg Tryz.func187 (by kernel_rfl) hBB fun x r hr => ⟨FU, (e_impl_LegFault FU x).trans hr⟩
theorem e_impl_samePlace (n : Nat) (x) : afun G_impl_LegFault T BB 0 n Tryz.f190 a_impl_samePlace S_impl_samePlace.ps S_impl_samePlace.rs x = p_impl_samePlace n x := by kernel_rfl
theorem ok_impl_samePlace : EnvOK Tryz.prog G_impl_samePlace := envOK_cons hm hT ok_impl_LegFault Tryz.func190 (by kernel_rfl) hBB fun x r hr => ⟨FU, (e_impl_samePlace FU x).trans hr⟩
theorem e_impl_ContractFault (n : Nat) (x) : afun G_impl_samePlace T BB 3 n Tryz.f90 a_impl_ContractFault S_impl_ContractFault.ps S_impl_ContractFault.rs x = p_impl_ContractFault n x := by kernel_rfl
theorem ok_impl_ContractFault : EnvOK Tryz.prog G_impl_ContractFault := envOK_cons hm hT ok_impl_samePlace Tryz.func90 (by kernel_rfl) hBB fun x r hr => ⟨FU, (e_impl_ContractFault FU x).trans hr⟩
theorem e_impl_legsAt (n : Nat) (x) : afun G_impl_ContractFault T BB 0 n Tryz.f141 a_impl_legsAt S_impl_legsAt.ps S_impl_legsAt.rs x = p_impl_legsAt n x := by kernel_rfl
theorem ok_impl_legsAt : EnvOK Tryz.prog G_impl_legsAt := envOK_cons hm hT ok_impl_ContractFault Tryz.func141 (by kernel_rfl) hBB fun x r hr => ⟨FU, (e_impl_legsAt FU x).trans hr⟩
theorem e_impl_markAt_1 (n : Nat) (x) : afun G_impl_legsAt T BB 0 n Tryz.f336 a_impl_markAt_1 S_impl_markAt_1.ps S_impl_markAt_1.rs x = p_impl_markAt_1 n x := by kernel_rfl
theorem ok_impl_markAt_1 : EnvOK Tryz.prog G_impl_markAt_1 := envOK_cons hm hT ok_impl_legsAt Tryz.func336 (by kernel_rfl) hBB fun x r hr => ⟨FU, (e_impl_markAt_1 FU x).trans hr⟩
theorem e_impl_markAt (n : Nat) (x) : afun G_impl_markAt_1 T BB 1 n Tryz.f283 a_impl_markAt S_impl_markAt.ps S_impl_markAt.rs x = p_impl_markAt n x := by kernel_rfl
theorem ok_impl_markAt : EnvOK Tryz.prog G_impl_markAt := envOK_cons hm hT ok_impl_markAt_1 Tryz.func283 (by kernel_rfl) hBB fun x r hr => ⟨FU, (e_impl_markAt FU x).trans hr⟩
theorem e_impl_markOf (n : Nat) (x) : afun G_impl_markAt T BB 0 n Tryz.f221 a_impl_markOf S_impl_markOf.ps S_impl_markOf.rs x = p_impl_markOf n x := by kernel_rfl
theorem ok_impl_markOf : EnvOK Tryz.prog G_impl_markOf := envOK_cons hm hT ok_impl_markAt Tryz.func221 (by kernel_rfl) hBB fun x r hr => ⟨FU, (e_impl_markOf FU x).trans hr⟩
theorem e_impl_Shard_heldFault (n : Nat) (x) : afun G_impl_markOf T BB 0 n Tryz.f128 a_impl_Shard_heldFault S_impl_Shard_heldFault.ps S_impl_Shard_heldFault.rs x = p_impl_Shard_heldFault n x := by kernel_rfl
theorem ok_impl_Shard_heldFault : EnvOK Tryz.prog G_impl_Shard_heldFault := envOK_cons hm hT ok_impl_markOf Tryz.func128 (by kernel_rfl) hBB fun x r hr => ⟨FU, (e_impl_Shard_heldFault FU x).trans hr⟩
theorem e_impl_firstOf (n : Nat) (x) : afun G_impl_Shard_heldFault T BB 0 n Tryz.f70 a_impl_firstOf S_impl_firstOf.ps S_impl_firstOf.rs x = p_impl_firstOf n x := by kernel_rfl
theorem ok_impl_firstOf : EnvOK Tryz.prog G_impl_firstOf := envOK_cons hm hT ok_impl_Shard_heldFault Tryz.func70 (by kernel_rfl) hBB fun x r hr => ⟨FU, (e_impl_firstOf FU x).trans hr⟩
theorem e_impl_Shard_heldAt_1 (n : Nat) (x) : afun G_impl_firstOf T BB 0 n Tryz.f285 a_impl_Shard_heldAt_1 S_impl_Shard_heldAt_1.ps S_impl_Shard_heldAt_1.rs x = p_impl_Shard_heldAt_1 n x := by kernel_rfl
theorem ok_impl_Shard_heldAt_1 : EnvOK Tryz.prog G_impl_Shard_heldAt_1 := envOK_cons hm hT ok_impl_firstOf Tryz.func285 (by kernel_rfl) hBB fun x r hr => ⟨FU, (e_impl_Shard_heldAt_1 FU x).trans hr⟩
theorem e_impl_Shard_heldAt (n : Nat) (x) : afun G_impl_Shard_heldAt_1 T BB 1 n Tryz.f223 a_impl_Shard_heldAt S_impl_Shard_heldAt.ps S_impl_Shard_heldAt.rs x = p_impl_Shard_heldAt n x := by kernel_rfl
theorem ok_impl_Shard_heldAt : EnvOK Tryz.prog G_impl_Shard_heldAt := envOK_cons hm hT ok_impl_Shard_heldAt_1 Tryz.func223 (by kernel_rfl) hBB fun x r hr => ⟨FU, (e_impl_Shard_heldAt FU x).trans hr⟩
theorem e_impl_Shard_isOpen (n : Nat) (x) : afun G_impl_Shard_heldAt T BB 0 n Tryz.f130 a_impl_Shard_isOpen S_impl_Shard_isOpen.ps S_impl_Shard_isOpen.rs x = p_impl_Shard_isOpen n x := by kernel_rfl
theorem ok_impl_Shard_isOpen : EnvOK Tryz.prog G_impl_Shard_isOpen := envOK_cons hm hT ok_impl_Shard_heldAt Tryz.func130 (by kernel_rfl) hBB fun x r hr => ⟨FU, (e_impl_Shard_isOpen FU x).trans hr⟩
def ren_slices_Sorted_int64 : Go.Shelf.Ren := ⟨fun n => if n = 6 then 225 else if n = 8 then 286 else if n = 9 then 195 else if n = 11 then 337 else if n = 13 then 270 else if n = 12 then 269 else if n = 23 then 327 else if n = 24 then 328 else if n = 14 then 318 else if n = 15 then 319 else if n = 16 then 320 else if n = 17 then 321 else if n = 18 then 322 else if n = 19 then 323 else if n = 20 then 324 else if n = 21 then 325 else if n = 22 then 326 else if n = 25 then 344 else if n = 26 then 345 else if n = 27 then 346 else if n = 28 then 347 else if n = 29 then 348 else if n = 30 then 334 else if n = 31 then 360 else n, fun n => if n = 26 then 2 else if n = 28 then 274 else if n = 24 then 23 else if n = 0 then 0 else if n = 3 then 3 else if n = 37 then 309 else if n = 48 then 355 else if n = 50 then 357 else if n = 4 then 4 else if n = 40 then 349 else if n = 39 then 348 else if n = 45 then 270 else if n = 5 then 5 else if n = 9 then 9 else if n = 51 then 377 else if n = 55 then 381 else if n = 57 then 390 else if n = 58 then 391 else if n = 33 then 119 else n, fun n => n⟩
theorem lays_slices_Sorted_int64 : Go.Proofs.SlLaysZI.n6 Tryz.prog ren_slices_Sorted_int64 where
  mixed := by kernel_rfl
  f6 := ⟨"slices.Sorted[int64]", by decide, Tryz.func225.trans (congrArg some (by kernel_rfl))⟩
  f8 := ⟨"slices.Collect[int64]", by decide, Tryz.func286.trans (congrArg some (by kernel_rfl))⟩
  f11 := ⟨"slices.AppendSeq[[]int64,int64]", by decide, Tryz.func337.trans (congrArg some (by kernel_rfl))⟩
  t0 := Tryz.underlying0
  a0 := Tryz.isAgg0
  z0 := Tryz.sizeOf0
  v0 := Tryz.zeroValue0
  t24 := Tryz.underlying23
  a24 := Tryz.isAgg23
  z24 := Tryz.sizeOf23
  v24 := Tryz.zeroValue23
  t26 := Tryz.underlying2
  a26 := Tryz.isAgg2
  z26 := Tryz.sizeOf2
  v26 := Tryz.zeroValue2
  t28 := Tryz.underlying274
  a28 := Tryz.isAgg274
  z28 := Tryz.sizeOf274
  v28 := Tryz.zeroValue274
  i26 := by kernel_rfl
def ren_slices_Sorted_int64s : Go.Shelf.Ren := ⟨fun n => if n = 5 then 195 else if n = 8 then 270 else if n = 7 then 269 else if n = 19 then 327 else if n = 20 then 328 else if n = 10 then 318 else if n = 11 then 319 else if n = 12 then 320 else if n = 13 then 321 else if n = 14 then 322 else if n = 15 then 323 else if n = 16 then 324 else if n = 17 then 325 else if n = 18 then 326 else if n = 30 then 344 else if n = 31 then 345 else if n = 32 then 346 else if n = 33 then 347 else if n = 34 then 348 else if n = 35 then 334 else if n = 40 then 360 else n, fun n => if n = 23 then 23 else if n = 25 then 2 else if n = 3 then 3 else if n = 32 then 309 else if n = 22 then 23 else if n = 0 then 0 else if n = 44 then 355 else if n = 46 then 357 else if n = 4 then 4 else if n = 36 then 349 else if n = 35 then 348 else if n = 41 then 270 else if n = 5 then 5 else if n = 9 then 9 else if n = 53 then 377 else if n = 57 then 381 else if n = 63 then 390 else if n = 64 then 391 else n, fun n => n⟩
theorem lays_slices_Sorted_int64s : Go.Proofs.SlLaysM.n5 Tryz.prog ren_slices_Sorted_int64s where
  mixed := by kernel_rfl
  f5 := ⟨"slices.Sort[[]int64,int64]", by decide, Tryz.func195.trans (congrArg some (by kernel_rfl))⟩
  f7 := ⟨"slices.pdqsortOrdered[int64]", by decide, Tryz.func269.trans (congrArg some (by kernel_rfl))⟩
  f8 := Tryz.func270.trans (congrArg some (by kernel_rfl))
  f10 := ⟨"slices.insertionSortOrdered[int64]", by decide, Tryz.func318.trans (congrArg some (by kernel_rfl))⟩
  f11 := ⟨"slices.heapSortOrdered[int64]", by decide, Tryz.func319.trans (congrArg some (by kernel_rfl))⟩
  f12 := ⟨"slices.breakPatternsOrdered[int64]", by decide, Tryz.func320.trans (congrArg some (by kernel_rfl))⟩
  f13 := ⟨"slices.choosePivotOrdered[int64]", by decide, Tryz.func321.trans (congrArg some (by kernel_rfl))⟩
  f14 := ⟨"slices.reverseRangeOrdered[int64]", by decide, Tryz.func322.trans (congrArg some (by kernel_rfl))⟩
  f15 := ⟨"slices.partialInsertionSortOrdered[int64]", by decide, Tryz.func323.trans (congrArg some (by kernel_rfl))⟩
  f16 := ⟨"cmp.Less[int64]", by decide, Tryz.func324.trans (congrArg some (by kernel_rfl))⟩
  f17 := ⟨"slices.partitionEqualOrdered[int64]", by decide, Tryz.func325.trans (congrArg some (by kernel_rfl))⟩
  f18 := ⟨"slices.partitionOrdered[int64]", by decide, Tryz.func326.trans (congrArg some (by kernel_rfl))⟩
  f19 := Tryz.func327.trans (congrArg some (by kernel_rfl))
  f20 := Tryz.func328.trans (congrArg some (by kernel_rfl))
  f30 := ⟨"slices.siftDownOrdered[int64]", by decide, Tryz.func344.trans (congrArg some (by kernel_rfl))⟩
  f31 := Tryz.func345.trans (congrArg some (by kernel_rfl))
  f32 := Tryz.func346.trans (congrArg some (by kernel_rfl))
  f33 := ⟨"slices.medianAdjacentOrdered[int64]", by decide, Tryz.func347.trans (congrArg some (by kernel_rfl))⟩
  f34 := ⟨"slices.medianOrdered[int64]", by decide, Tryz.func348.trans (congrArg some (by kernel_rfl))⟩
  f35 := ⟨"cmp.isNaN[int64]", by decide, Tryz.func334.trans (congrArg some (by kernel_rfl))⟩
  f40 := ⟨"slices.order2Ordered[int64]", by decide, Tryz.func360.trans (congrArg some (by kernel_rfl))⟩
  t0 := Tryz.underlying0
  a0 := Tryz.isAgg0
  z0 := Tryz.sizeOf0
  v0 := Tryz.zeroValue0
  t3 := Tryz.underlying3
  a3 := Tryz.isAgg3
  z3 := Tryz.sizeOf3
  v3 := Tryz.zeroValue3
  t4 := Tryz.underlying4
  a4 := Tryz.isAgg4
  z4 := Tryz.sizeOf4
  v4 := Tryz.zeroValue4
  t5 := Tryz.underlying5
  a5 := Tryz.isAgg5
  z5 := Tryz.sizeOf5
  v5 := Tryz.zeroValue5
  t9 := Tryz.underlying9
  a9 := Tryz.isAgg9
  z9 := Tryz.sizeOf9
  v9 := Tryz.zeroValue9
  t22 := Tryz.underlying23
  a22 := Tryz.isAgg23
  z22 := Tryz.sizeOf23
  v22 := Tryz.zeroValue23
  t23 := Tryz.underlying23
  a23 := Tryz.isAgg23
  z23 := Tryz.sizeOf23
  v23 := Tryz.zeroValue23
  t25 := Tryz.underlying2
  a25 := Tryz.isAgg2
  z25 := Tryz.sizeOf2
  v25 := Tryz.zeroValue2
  t32 := Tryz.underlying309
  a32 := Tryz.isAgg309
  z32 := Tryz.sizeOf309
  v32 := Tryz.zeroValue309
  t35 := Tryz.underlying348
  a35 := Tryz.isAgg348
  z35 := Tryz.sizeOf348
  v35 := Tryz.zeroValue348
  t36 := Tryz.underlying349
  a36 := Tryz.isAgg349
  z36 := Tryz.sizeOf349
  v36 := Tryz.zeroValue349
  t41 := Tryz.underlying270
  a41 := Tryz.isAgg270
  z41 := Tryz.sizeOf270
  v41 := Tryz.zeroValue270
  t44 := Tryz.underlying355
  a44 := Tryz.isAgg355
  z44 := Tryz.sizeOf355
  v44 := Tryz.zeroValue355
  t46 := Tryz.underlying357
  a46 := Tryz.isAgg357
  z46 := Tryz.sizeOf357
  v46 := Tryz.zeroValue357
  t53 := Tryz.underlying377
  a53 := Tryz.isAgg377
  z53 := Tryz.sizeOf377
  v53 := Tryz.zeroValue377
  t57 := Tryz.underlying381
  a57 := Tryz.isAgg381
  z57 := Tryz.sizeOf381
  v57 := Tryz.zeroValue381
  t63 := Tryz.underlying390
  a63 := Tryz.isAgg390
  z63 := Tryz.sizeOf390
  v63 := Tryz.zeroValue390
  t64 := Tryz.underlying391
  a64 := Tryz.isAgg391
  z64 := Tryz.sizeOf391
  v64 := Tryz.zeroValue391
section
attribute [local go_sem] Oper.semAt_some
set_option maxRecDepth 100000 in
set_option maxHeartbeats 2000000 in
theorem values1_slices_Sorted_int64 (n : Nat) (hn : 1 ≤ n) (l Bs n₀ b off cap : Nat) (zs : List Int) (hreach : zs.length * 8 ≤ 140737488351232) (hb : b < n₀) (w0 : World) (J : List Int → World → Prop) (hB : ∀ pre W1, J pre W1 → Below n₀ w0 W1)
    (hY : ∀ pre x W, J pre W → pre.length < zs.length → YieldAt Fence.wide (n - 1) Tryz.prog l #[.int .i64 x] W fun e W' => e = .returned (.bool true) ∧ J (pre ++ [x]) W' ∧ KeepsWalks W W')
    (W : World) (hBs : W.cell? ⟨Bs, 0, none⟩ = some (.slice (some ⟨b, off, none⟩) zs.length cap)) (hc : ∀ j (h : j < zs.length), w0.cell? ⟨b, off + j, none⟩ = some (.int .i64 zs[j])) (h0 : J [] W) :
    CallsIn Fence.wide n Tryz.prog 287 #[.func (.yield l) #[] #[], .pointer (some ⟨Bs, 0, none⟩)] W fun e W' => (∃ v, e = .returned v) ∧ J zs W' := by
  have hro : Fence.wide.round = none := rfl
  have h7 : Fence.wide.fn 287 := trivial
  refine callsIn_of_wp Tryz.func287 rfl h7 ?_ hro
  simp only [Tryz.ntmps287, List.size_toArray, List.length_cons, List.length_nil, Nat.reduceAdd, Nat.reduceSub, Array.replicate_succ, Array.replicate_zero, List.push_toArray, List.append_toArray, List.nil_append, List.cons_append]
  gi_wp2
  gi_loopw [7] (fun i wr => ∃ k : Nat, k ≤ zs.length ∧ i = .int .i64 k ∧ J (zs.take k) wr)
    (fun i _ => zs.length - (Go.RowKit.intOf i).toNat)
  case atStart => exact ⟨0, Nat.zero_le _, rfl, h0⟩
  case round =>
    obtain ⟨k, hk, rfl, hJs⟩ := hrel
    have hnx := hB _ _ hJs
    by_cases hlt : k < zs.length
    · have hcx : wr.cell? ⟨b, off + k, none⟩ = some (.int .i64 zs[k]) := (hnx.cell (p := ⟨b, off + k, none⟩) hb).trans (hc k hlt)
      obtain ⟨fn, tmps, assign, body, hy, hR⟩ := hY _ zs[k] wr hJs (by rw [List.length_take]; omega)
      generalize hzk : zs[k] = zk at hcx hR hy
      gi_wp2
      refine hR.mono ?_
      rintro e W3 ⟨rfl, hJ3, hk3⟩
      gi_wp2
      go_roundw
      case rel => exact ⟨k + 1, by omega, by simp, by rw [List.take_succ_eq_append_getElem hlt, hzk]; exact hJ3⟩
      case measure => simp [Go.RowKit.intOf]; omega
    · obtain rfl : k = zs.length := by omega
      gi_wp2
      go_end0
      exact ⟨⟨_, rfl⟩, by rw [List.take_length] at hJs; exact hJs⟩
set_option maxRecDepth 100000 in
set_option maxHeartbeats 1000000 in
theorem values0_slices_Sorted_int64 (n : Nat) (l Bs : Nat) (A : Option Addr) (cap : Nat) (J : List Int → World → Prop) (W : World) (hBs : W.cell? ⟨Bs, 0, none⟩ = some (.slice A 0 cap)) (h0 : J [] W) :
    CallsIn Fence.wide n Tryz.prog 287 #[.func (.yield l) #[] #[], .pointer (some ⟨Bs, 0, none⟩)] W fun e W' => (∃ v, e = .returned v) ∧ J [] W' := by
  have hro : Fence.wide.round = none := rfl
  have h7 : Fence.wide.fn 287 := trivial
  refine callsIn_of_wp Tryz.func287 rfl h7 ?_ hro
  simp only [Tryz.ntmps287, List.size_toArray, List.length_cons, List.length_nil, Nat.reduceAdd, Nat.reduceSub, Array.replicate_succ, Array.replicate_zero, List.push_toArray, List.append_toArray, List.nil_append, List.cons_append]
  gi_wp2
  gi_loopw [7] (fun i wr => i = .int .i64 0 ∧ J [] wr) (fun _ _ => 0)
  case atStart => exact ⟨rfl, h0⟩
  case round =>
    obtain ⟨rfl, hJs⟩ := hrel
    gi_wp2
    go_end0
    exact ⟨⟨_, rfl⟩, hJs⟩
end
theorem sound_slices_Sorted_int64 : Sound Tryz.prog 225 S_slices_Sorted_int64 := sound_sorted fun w Bs zs hr hI => callsIn_wide.1 (sortedB lays_slices_Sorted_int64 4 (by omega) (sortsWide lays_slices_Sorted_int64s rfl 3) (enters_of Tryz.func195 (by kernel_rfl) rfl) 287 _ (enters_of Tryz.func287 (by kernel_rfl) rfl) zs (by simp only [maxLen]; omega) (by omega) w (fun W hW => gives_of values1_slices_Sorted_int64 values0_slices_Sorted_int64 1 (by omega) W Bs zs hr (hI.below hW)))
theorem ok_slices_Sorted_int64 : EnvOK Tryz.prog G_slices_Sorted_int64 := envOK_sound ok_impl_Shard_isOpen ⟨_, Tryz.func225, by kernel_rfl, by kernel_rfl⟩ sound_slices_Sorted_int64
theorem e_slices_Equal_int64_int64 (n : Nat) (x) : afun G_slices_Sorted_int64 T BB 0 n Tryz.f224 a_slices_Equal_int64_int64 S_slices_Equal_int64_int64.ps S_slices_Equal_int64_int64.rs x = p_slices_Equal_int64_int64 n x := by kernel_rfl
theorem ok_slices_Equal_int64_int64 : EnvOK Tryz.prog G_slices_Equal_int64_int64 := envOK_cons hm hT ok_slices_Sorted_int64 Tryz.func224 (by kernel_rfl) hBB fun x r hr => ⟨FU, (e_slices_Equal_int64_int64 FU x).trans hr⟩
theorem e_impl_Shard_appliedOk (n : Nat) (x) : afun G_slices_Equal_int64_int64 T BB 1 n Tryz.f131 a_impl_Shard_appliedOk S_impl_Shard_appliedOk.ps S_impl_Shard_appliedOk.rs x = p_impl_Shard_appliedOk n x := by kernel_rfl
theorem ok_impl_Shard_appliedOk : EnvOK Tryz.prog G_impl_Shard_appliedOk := envOK_cons hm hT ok_slices_Equal_int64_int64 Tryz.func131 (by kernel_rfl) hBB fun x r hr => ⟨FU, (e_impl_Shard_appliedOk FU x).trans hr⟩
theorem e_impl_Shard_legsMeet (n : Nat) (x) : afun G_impl_Shard_appliedOk T BB 6 n Tryz.f229 a_impl_Shard_legsMeet S_impl_Shard_legsMeet.ps S_impl_Shard_legsMeet.rs x = p_impl_Shard_legsMeet n x := by kernel_rfl
theorem ok_impl_Shard_legsMeet : EnvOK Tryz.prog G_impl_Shard_legsMeet := envOK_cons hm hT ok_impl_Shard_appliedOk Tryz.func229 (by kernel_rfl) hBB fun x r hr => ⟨FU, (e_impl_Shard_legsMeet FU x).trans hr⟩
theorem e_impl_amountIn (n : Nat) (x) : afun G_impl_Shard_legsMeet T BB 1 n Tryz.f140 a_impl_amountIn S_impl_amountIn.ps S_impl_amountIn.rs x = p_impl_amountIn n x := by kernel_rfl
theorem ok_impl_amountIn : EnvOK Tryz.prog G_impl_amountIn := envOK_cons hm hT ok_impl_Shard_legsMeet Tryz.func140 (by kernel_rfl) hBB fun x r hr => ⟨FU, (e_impl_amountIn FU x).trans hr⟩
theorem e_impl_legCode (n : Nat) (x) : afun G_impl_amountIn T BB 0 n Tryz.f290 a_impl_legCode S_impl_legCode.ps S_impl_legCode.rs x = p_impl_legCode n x := by kernel_rfl
theorem ok_impl_legCode : EnvOK Tryz.prog G_impl_legCode := envOK_cons hm hT ok_impl_amountIn Tryz.func290 (by kernel_rfl) hBB fun x r hr => ⟨FU, (e_impl_legCode FU x).trans hr⟩
theorem e_impl_Shard_fits (n : Nat) (x) : afun G_impl_legCode T BB 0 n Tryz.f230 a_impl_Shard_fits S_impl_Shard_fits.ps S_impl_Shard_fits.rs x = p_impl_Shard_fits n x := by kernel_rfl
theorem ok_impl_Shard_fits : EnvOK Tryz.prog G_impl_Shard_fits := envOK_cons hm hT ok_impl_legCode Tryz.func230 (by kernel_rfl) hBB fun x r hr => ⟨FU, (e_impl_Shard_fits FU x).trans hr⟩
theorem e_impl_Shard_heldTogether (n : Nat) (x) : afun G_impl_Shard_fits T BB 3 n Tryz.f132 a_impl_Shard_heldTogether S_impl_Shard_heldTogether.ps S_impl_Shard_heldTogether.rs x = p_impl_Shard_heldTogether n x := by kernel_rfl
theorem ok_impl_Shard_heldTogether : EnvOK Tryz.prog G_impl_Shard_heldTogether := envOK_cons hm hT ok_impl_Shard_fits Tryz.func132 (by kernel_rfl) hBB fun x r hr => ⟨FU, (e_impl_Shard_heldTogether FU x).trans hr⟩
theorem e_impl_ShardFault (n : Nat) (x) : afun G_impl_Shard_heldTogether T BB 2 n Tryz.f43 a_impl_ShardFault S_impl_ShardFault.ps S_impl_ShardFault.rs x = p_impl_ShardFault n x := by kernel_rfl
theorem ok_impl_ShardFault : EnvOK Tryz.prog G_impl_ShardFault := envOK_cons hm hT ok_impl_Shard_heldTogether Tryz.func43 (by kernel_rfl) hBB fun x r hr => ⟨FU, (e_impl_ShardFault FU x).trans hr⟩
theorem e_slices_Clone_impl_Balance_impl_Balance (n : Nat) (x) : afun G_impl_ShardFault T BB 0 n Tryz.f291 a_slices_Clone_impl_Balance_impl_Balance S_slices_Clone_impl_Balance_impl_Balance.ps S_slices_Clone_impl_Balance_impl_Balance.rs x = p_slices_Clone_impl_Balance_impl_Balance n x := by kernel_rfl
theorem ok_slices_Clone_impl_Balance_impl_Balance : EnvOK Tryz.prog G_slices_Clone_impl_Balance_impl_Balance := envOK_cons hm hT ok_impl_ShardFault Tryz.func291 (by kernel_rfl) hBB fun x r hr => ⟨FU, (e_slices_Clone_impl_Balance_impl_Balance FU x).trans hr⟩
theorem e_slices_Clone_impl_Mark_impl_Mark (n : Nat) (x) : afun G_slices_Clone_impl_Balance_impl_Balance T BB 0 n Tryz.f292 a_slices_Clone_impl_Mark_impl_Mark S_slices_Clone_impl_Mark_impl_Mark.ps S_slices_Clone_impl_Mark_impl_Mark.rs x = p_slices_Clone_impl_Mark_impl_Mark n x := by kernel_rfl
theorem ok_slices_Clone_impl_Mark_impl_Mark : EnvOK Tryz.prog G_slices_Clone_impl_Mark_impl_Mark := envOK_cons hm hT ok_slices_Clone_impl_Balance_impl_Balance Tryz.func292 (by kernel_rfl) hBB fun x r hr => ⟨FU, (e_slices_Clone_impl_Mark_impl_Mark FU x).trans hr⟩
theorem e_slices_Clone_impl_Leg_impl_Leg (n : Nat) (x) : afun G_slices_Clone_impl_Mark_impl_Mark T BB 0 n Tryz.f298 a_slices_Clone_impl_Leg_impl_Leg S_slices_Clone_impl_Leg_impl_Leg.ps S_slices_Clone_impl_Leg_impl_Leg.rs x = p_slices_Clone_impl_Leg_impl_Leg n x := by kernel_rfl
theorem ok_slices_Clone_impl_Leg_impl_Leg : EnvOK Tryz.prog G_slices_Clone_impl_Leg_impl_Leg := envOK_cons hm hT ok_slices_Clone_impl_Mark_impl_Mark Tryz.func298 (by kernel_rfl) hBB fun x r hr => ⟨FU, (e_slices_Clone_impl_Leg_impl_Leg FU x).trans hr⟩
theorem e_impl_copyContract (n : Nat) (x) : afun G_slices_Clone_impl_Leg_impl_Leg T BB 0 n Tryz.f242 a_impl_copyContract S_impl_copyContract.ps S_impl_copyContract.rs x = p_impl_copyContract n x := by kernel_rfl
theorem ok_impl_copyContract : EnvOK Tryz.prog G_impl_copyContract := envOK_cons hm hT ok_slices_Clone_impl_Leg_impl_Leg Tryz.func242 (by kernel_rfl) hBB fun x r hr => ⟨FU, (e_impl_copyContract FU x).trans hr⟩
theorem e_impl_copyContracts (n : Nat) (x) : afun G_impl_copyContract T BB 0 n Tryz.f293 a_impl_copyContracts S_impl_copyContracts.ps S_impl_copyContracts.rs x = p_impl_copyContracts n x := by kernel_rfl
theorem ok_impl_copyContracts : EnvOK Tryz.prog G_impl_copyContracts := envOK_cons hm hT ok_impl_copyContract Tryz.func293 (by kernel_rfl) hBB fun x r hr => ⟨FU, (e_impl_copyContracts FU x).trans hr⟩
theorem e_slices_Clone_int64_int64 (n : Nat) (x) : afun G_impl_copyContracts T BB 0 n Tryz.f294 a_slices_Clone_int64_int64 S_slices_Clone_int64_int64.ps S_slices_Clone_int64_int64.rs x = p_slices_Clone_int64_int64 n x := by kernel_rfl
theorem ok_slices_Clone_int64_int64 : EnvOK Tryz.prog G_slices_Clone_int64_int64 := envOK_cons hm hT ok_impl_copyContracts Tryz.func294 (by kernel_rfl) hBB fun x r hr => ⟨FU, (e_slices_Clone_int64_int64 FU x).trans hr⟩
theorem e_impl_copyShard (n : Nat) (x) : afun G_slices_Clone_int64_int64 T BB 0 n Tryz.f239 a_impl_copyShard S_impl_copyShard.ps S_impl_copyShard.rs x = p_impl_copyShard n x := by kernel_rfl
theorem ok_impl_copyShard : EnvOK Tryz.prog G_impl_copyShard := envOK_cons hm hT ok_slices_Clone_int64_int64 Tryz.func239 (by kernel_rfl) hBB fun x r hr => ⟨FU, (e_impl_copyShard FU x).trans hr⟩
theorem e_impl_Shard_isReady (n : Nat) (x) : afun G_impl_copyShard T BB 3 n Tryz.f240 a_impl_Shard_isReady S_impl_Shard_isReady.ps S_impl_Shard_isReady.rs x = p_impl_Shard_isReady n x := by kernel_rfl
theorem ok_impl_Shard_isReady : EnvOK Tryz.prog G_impl_Shard_isReady := envOK_cons hm hT ok_impl_copyShard Tryz.func240 (by kernel_rfl) hBB fun x r hr => ⟨FU, (e_impl_Shard_isReady FU x).trans hr⟩
theorem info47_slices_Insert_impl_Contract_impl_Contract : ∃ i z, Tryz.prog.info? 47 = some i ∧ i.zero = some z ∧ i.size = 2 ∧ i.bytes = 32 ∧ z.cells.size = 2 := by
  have h : (Tryz.prog.info? 47).map (fun i => (i.size, i.bytes, i.zero.map fun z => z.cells.size)) = some (2, 32, some 2) := by kernel_rfl
  cases hi : Tryz.prog.info? 47 with
  | none => rw [hi] at h; cases h
  | some i =>
    rw [hi] at h
    simp only [Option.map_some, Option.some.injEq, Prod.mk.injEq] at h
    obtain ⟨h1, h2, h3⟩ := h
    cases hz : i.zero with
    | none => rw [hz] at h3; cases h3
    | some z =>
      rw [hz] at h3
      exact ⟨i, z, rfl, hz, h1, h2, by simpa using h3⟩
set_option maxHeartbeats 4000000 in
set_option maxRecDepth 100000 in
theorem ins_grow_slices_Insert_impl_Contract_impl_Contract (w : World) (b n i gv cv : Nat) (cur curv : Array Value) (fl vl : List Value) (hi : i < n) (hbig : (n + 1) * 32 ≤ 140737488355328) (hb : w.heap[b]? = some (.cells cur 47 (0, 0))) (hfl : cur.toList.take (n * 2) = fl) (hfs : fl.length = n * 2)
    (hv : w.heap[gv]? = some (.cells curv 47 (0, 0))) (hvl : curv.toList.take 2 = vl) (hvs : vl.length = 2) (h1c : ∀ v ∈ fl, v.oneCell' = true) (h1v : ∀ v ∈ vl, v.oneCell' = true) :
    Calls Tryz.prog 241 #[.slice (some ⟨b, 0, none⟩) n n, .int .i64 i, .slice (some ⟨gv, 0, none⟩) 1 cv] w fun e w' => ∃ G row, n + 1 ≤ G ∧ G ≤ maxLen ∧ e = .returned (.slice (some ⟨w.heap.size, 0, none⟩) (n + 1) G) ∧
      w'.os = w.os ∧ w'.tape = w.tape ∧ w'.output = w.output ∧ w'.heap = w.heap.push (.cells row 47 (0, 0)) ∧ row.size = G * 2 ∧ row.toList.take ((n + 1) * 2) = insC 2 i fl vl := by
  obtain ⟨i0, z, hi0, hz0, hzs, hzb, hzc⟩ := info47_slices_Insert_impl_Contract_impl_Contract
  have u63 := Tryz.underlying72
  have hsz : (Tryz.prog.info? 47).map (·.size) = some 2 := by rw [hi0]; simp [hzs]
  have hbl : b < w.heap.size := (Array.getElem?_eq_some_iff.1 hb).1
  have hvb : gv < w.heap.size := (Array.getElem?_eq_some_iff.1 hv).1
  have hz3 : (n : Int) < (n : Int) + 1 := by omega
  have hkk : (n : Int) + 1 - (i : Int) = ((n + 1 - i : Nat) : Int) := by omega
  have hik : i + (n + 1 - i) = n + 1 := by omega
  have hcell : ∀ (W : World), W.heap[b]? = w.heap[b]? → ∀ j v, fl[j]? = some v → W.cell? ⟨b, j, none⟩ = some v := fun W hW j v hj => by
    rw [← hfl, List.getElem?_take] at hj
    split at hj
    · simp only [World.cell?, hW, hb]
      rw [← Array.getElem?_toList]; exact hj
    · cases hj
  have hold : (Builtin.firstCells i0.size i (.slice (some ⟨b, 0, none⟩) i n)).run Tryz.prog w.drew = .ok (fl.take (i * 2)).toArray w.drew := by
    rw [hzs]
    exact run_firstCells_some w.drew 2 i ⟨b, 0, none⟩ i n (fl.take (i * 2)) (by rw [List.length_take]; omega) (fun j v hj => by
      rw [Addr.add_lit, Nat.zero_add]
      rw [List.getElem?_take] at hj
      split at hj
      · exact hcell w.drew rfl j v hj
      · cases hj)
  have hrz : ∀ ty, (Builtin.append_ #[72, 3] ty #[.slice (some ⟨b, 0, none⟩) i n, .int .i64 ((n : Int) + 1 - (i : Int))]).run Tryz.prog w =
      .ok (.slice (some ⟨w.heap.size, 0, none⟩) (n + 1) (grownCap w (n + 1) n 47)) (w.drew.alloc (.cells ((fl.take (i * 2)).toArray ++ Builtin.zeroCells z.cells (n + 1 - i) ++ Builtin.zeroCells z.cells (grownCap w (n + 1) n 47 - (n + 1))) 47)) := fun ty => by
    have h := Lib.run_append_grow_zeros (P := Tryz.prog) w 72 3 ty 47 i0 z .i64 .i64 Tryz.underlying72 Tryz.underlying3 hi0 hz0 (some ⟨b, 0, none⟩) i n (fl.take (i * 2)) hold (n + 1 - i) (by omega) (by omega) (by omega) (by omega) (by rw [hzb]; omega) (by rw [hzb, hik]; exact growslice_fits (by omega) hbig)
    rw [hik] at h
    rw [hkk]
    exact h
  obtain ⟨G, hG⟩ : ∃ G, G = grownCap w (n + 1) n 47 := ⟨_, rfl⟩
  rw [← hG] at hrz
  have hGn : n + 1 ≤ G := by rw [hG]; exact grownCap_ge w _ _ _
  have hG63 : G ≤ maxLen := by rw [hG]; exact grownCap_le_maxLen w (n + 1) n 47 (by unfold maxLen; omega)
  have hGm : G ≤ 9223372036854775807 := by have := hG63; unfold maxLen at this; omega
  obtain ⟨ROW, hROW⟩ : ∃ ROW : Array Value, ROW = (fl.take (i * 2)).toArray ++ Builtin.zeroCells z.cells (n + 1 - i) ++ Builtin.zeroCells z.cells (G - (n + 1)) := ⟨_, rfl⟩
  rw [← hROW] at hrz
  have hRl : ROW.size = G * 2 := by
    rw [hROW]
    simp only [Array.size_append, List.size_toArray, List.length_take, size_zeroCells, hzc]
    omega
  have hRt : ROW.toList.take (i * 2) = fl.take (i * 2) := by
    rw [hROW]
    simp only [Array.toList_append, List.append_assoc]
    rw [List.take_append_of_le_length (by rw [List.length_take]; omega)]
    rw [List.take_of_length_le (by rw [List.length_take]; omega)]
  obtain ⟨row2, hr2⟩ : ∃ row2 : Array Value, row2 = (ROW.toList.take (i * 2) ++ vl ++ ROW.toList.drop (i * 2 + vl.length)).toArray := ⟨_, rfl⟩
  have hr2s : row2.size = G * 2 := by
    rw [hr2]
    simp only [List.size_toArray, List.length_append, List.length_take, List.length_drop, Array.length_toList, hRl, hvs]
    omega
  obtain ⟨row3, hr3⟩ : ∃ row3 : Array Value, row3 = (row2.toList.take ((i + 1) * 2) ++ fl.drop (i * 2) ++ row2.toList.drop ((i + 1) * 2 + (fl.drop (i * 2)).length)).toArray := ⟨_, rfl⟩
  have hr3s : row3.size = G * 2 := by
    rw [hr3]
    simp only [List.size_toArray, List.length_append, List.length_take, List.length_drop, Array.length_toList, hr2s, hfs]
    omega
  have hr3t : row3.toList.take ((n + 1) * 2) = insC 2 i fl vl := by
    have e2 : row2.toList.take ((i + 1) * 2) = fl.take (i * 2) ++ vl := by
      rw [hr2, List.toList_toArray, hRt, List.take_append_of_le_length (by simp only [List.length_append, List.length_take]; omega), List.take_of_length_le (by simp only [List.length_append, List.length_take]; omega)]
    rw [hr3, List.toList_toArray, e2, List.take_append_of_le_length (by simp only [List.length_append, List.length_take, List.length_drop]; omega), List.take_of_length_le (by simp only [List.length_append, List.length_take, List.length_drop]; omega)]
    rfl
  have hcpA : ∀ (W : World), W.heap = w.heap.push (.cells ROW 47 (0, 0)) → ∀ ty dc, (Builtin.copy_ #[72, 72] ty #[.slice (some ⟨w.heap.size, i * 2, none⟩) (n + 1 - i) dc, .slice (some ⟨gv, 0, none⟩) 1 cv]).run Tryz.prog W = .ok (goInt 1) (W.setRow w.heap.size row2) := fun W hW ty dc => by
    have hm : Nat.min 1 (n + 1 - i) = 1 := by simp only [Nat.min_def]; split <;> omega
    have := run_copy_rowK (P := Tryz.prog) W 72 72 ty 47 w.heap.size (i * 2) (n + 1 - i) dc ⟨gv, 0, none⟩ 1 cv ROW 47 vl 2 Tryz.underlying72 hsz (by rw [hW]; simp) (by rw [hm, hvs]) (fun j v hj => by
      rw [Addr.add_lit, Nat.zero_add]
      have hg : W.heap[gv]? = some (.cells curv 47 (0, 0)) := by rw [hW, Array.getElem?_push_lt hvb, ← Array.getElem?_eq_getElem hvb]; exact hv
      rw [← hvl, List.getElem?_take] at hj
      split at hj
      · simp only [World.cell?, hg]
        rw [← Array.getElem?_toList]; exact hj
      · cases hj) (by rw [hvs, hRl]; omega) h1v
    rw [hm] at this
    rw [hr2]; exact this
  have hcpB : ∀ (W : World), W.heap = w.heap.push (.cells row2 47 (0, 0)) → ∀ ty dc sc, (Builtin.copy_ #[72, 72] ty #[.slice (some ⟨w.heap.size, (i + 1) * 2, none⟩) (n + 1 - (i + 1)) dc, .slice (some ⟨b, i * 2, none⟩) (n - i) sc]).run Tryz.prog W = .ok (goInt ((n - i : Nat) : Int)) (W.setRow w.heap.size row3) := fun W hW ty dc sc => by
    have hm : Nat.min (n - i) (n + 1 - (i + 1)) = n - i := by simp only [Nat.min_def]; split <;> omega
    have := run_copy_rowK (P := Tryz.prog) W 72 72 ty 47 w.heap.size ((i + 1) * 2) (n + 1 - (i + 1)) dc ⟨b, i * 2, none⟩ (n - i) sc row2 47 (fl.drop (i * 2)) 2 Tryz.underlying72 hsz (by rw [hW]; simp) (by rw [hm, List.length_drop, hfs]; omega) (fun j v hj => by
      rw [Addr.add_lit]
      rw [List.getElem?_drop] at hj
      exact hcell W (by rw [hW, Array.getElem?_push_lt hbl, ← Array.getElem?_eq_getElem hbl]) _ v hj) (by rw [List.length_drop, hfs, hr2s]; omega) (fun v hv => h1c v (List.mem_of_mem_drop hv))
    rw [hm] at this
    rw [hr3]; exact this
  have hGi : ¬ (G = i) := by omega
  have hni : ¬ (n = i) := by omega
  have mixed : Tryz.prog.follows Departure.mixedOrders = true := by kernel_rfl
  have hGim : ¬ (G = i + 1) := by omega
  have hw1 : IntKind.i64.wrap ((i : Int) + 1) = (i : Int) + 1 := by rw [IntKind.wrap_i64]; omega
  have hb1 : (0 : Int) ≤ (i : Int) + 1 := by omega
  have hin : i ≤ n := by omega
  have htn : ((i : Int) + 1).toNat = i + 1 := by omega
  have hE1 : ((w.alloc (.cells ROW 47)).drew).heap = w.heap.push (.cells ROW 47 (0, 0)) := rfl
  have hF1 : (((w.alloc (.cells ROW 47)).drew.setRow w.heap.size row2).drew).heap = w.heap.push (.cells row2 47 (0, 0)) := heap_setRow_push hE1
  clear hkk hik hold hROW hRl hRt hr2 hr3 hG
  refine Calls.mono (R := fun e w' => e = .returned (.slice (some ⟨w.heap.size, 0, none⟩) (n + 1) G) ∧ w' = (((w.alloc (.cells ROW 47)).drew.setRow w.heap.size row2).drew.setRow w.heap.size row3)) ?_ (fun e w' h => ⟨G, row3, hGn, hG63, h.1, by rw [h.2]; rfl, by rw [h.2]; rfl, by rw [h.2]; rfl, by rw [h.2]; exact heap_setRow_push hF1, hr3s, hr3t⟩)
  go_enter Tryz.func241, Tryz.ntmps241
  go_wp2_with (first
    | (at_builtin; refine Lib.wpList_append_run _ rfl _ _ _ _ rfl _ _ rfl rfl _ _ (hrz _) ?_)
    | (at_builtin; refine wpList_copy_runI _ rfl _ _ 72 72 rfl _ _ rfl rfl (hcpA _ hE1 _ _) ?_))
  go_region_law_o (refine step_copy_runI rfl _ _ 72 72 rfl (.slice (some ⟨w.heap.size, (i + 1) * 2, none⟩) (n + 1 - (i + 1)) (G - (i + 1))) (.slice (some ⟨b, i * 2, none⟩) (n - i) (n - i)) (by simp [Act.eval, Act.put, hni, hGi, hGim]) (by simp [Act.eval, Act.put, hni, hGi, hGim]) (hcpB _ hF1 3 (G - (i + 1)) (n - i)) ?_)
  go_wp2
  go_ret
  exact ⟨rfl, rfl⟩

set_option maxHeartbeats 4000000 in
set_option maxRecDepth 100000 in
theorem ins_room_slices_Insert_impl_Contract_impl_Contract (w : World) (b n c i gv cv : Nat) (cur curv : Array Value) (fl vl : List Value) (hi : i < n) (hroom : n + 1 ≤ c) (hc63 : c ≤ 9223372036854775807) (hne : gv ≠ b) (hb : w.heap[b]? = some (.cells cur 47 (0, 0))) (hcs : cur.size = c * 2) (hfl : cur.toList.take (n * 2) = fl) (hfs : fl.length = n * 2)
    (hv : w.heap[gv]? = some (.cells curv 47 (0, 0))) (hvl : curv.toList.take 2 = vl) (hvs : vl.length = 2) (h1c : ∀ v ∈ fl, v.oneCell' = true) (h1v : ∀ v ∈ vl, v.oneCell' = true) :
    ∃ row, row.size = c * 2 ∧ row.toList.take ((n + 1) * 2) = insC 2 i fl vl ∧
    Calls Tryz.prog 241 #[.slice (some ⟨b, 0, none⟩) n c, .int .i64 i, .slice (some ⟨gv, 0, none⟩) 1 cv] w fun e w' =>  e = .returned (.slice (some ⟨b, 0, none⟩) (n + 1) c) ∧ w'.os = w.os ∧ w'.tape = w.tape ∧ w'.output = w.output ∧ w'.heap = (w.setRow b row).heap := by
  obtain ⟨i0, z, hi0, hz0, hzs, hzb, hzc⟩ := info47_slices_Insert_impl_Contract_impl_Contract
  have u63 := Tryz.underlying72
  have hsz : (Tryz.prog.info? 47).map (·.size) = some 2 := by rw [hi0]; simp [hzs]
  have hbl : b < w.heap.size := (Array.getElem?_eq_some_iff.1 hb).1
  have hvb : gv < w.heap.size := (Array.getElem?_eq_some_iff.1 hv).1
  have mixed : Tryz.prog.follows Departure.mixedOrders = true := by kernel_rfl
  have hcell : ∀ (W : World) (cu : Array Value), W.heap[b]? = some (.cells cu 47 (0, 0)) → cu = cur → ∀ j v, fl[j]? = some v → W.cell? ⟨b, j, none⟩ = some v := fun W cu hW hcu j v hj => by
    subst hcu
    rw [← hfl, List.getElem?_take] at hj
    split at hj
    · simp only [World.cell?, hW]
      rw [← Array.getElem?_toList]; exact hj
    · cases hj
  obtain ⟨row1, hr1⟩ : ∃ row1 : Array Value, row1 = (cur.toList.take ((i + 1) * 2) ++ fl.drop (i * 2) ++ cur.toList.drop ((i + 1) * 2 + (fl.drop (i * 2)).length)).toArray := ⟨_, rfl⟩
  have hr1s : row1.size = c * 2 := by
    rw [hr1]
    simp only [List.size_toArray, List.length_append, List.length_take, List.length_drop, Array.length_toList, hcs, hfs]
    omega
  obtain ⟨row2, hr2⟩ : ∃ row2 : Array Value, row2 = (row1.toList.take (i * 2) ++ vl ++ row1.toList.drop (i * 2 + vl.length)).toArray := ⟨_, rfl⟩
  have hr2s : row2.size = c * 2 := by
    rw [hr2]
    simp only [List.size_toArray, List.length_append, List.length_take, List.length_drop, Array.length_toList, hr1s, hvs]
    omega
  have hr2t : row2.toList.take ((n + 1) * 2) = insC 2 i fl vl := by
    have e0 : cur.toList.take (i * 2) = fl.take (i * 2) := by
      rw [← hfl, List.take_take]; congr 1; omega
    have e1 : row1.toList.take (i * 2) = fl.take (i * 2) := by
      rw [hr1, List.toList_toArray, List.append_assoc, List.take_append_of_le_length (by simp only [List.length_take, Array.length_toList, hcs]; omega), List.take_take, ← e0]
      congr 1; omega
    have e2 : row1.toList.drop (i * 2 + vl.length) = fl.drop (i * 2) ++ cur.toList.drop ((i + 1) * 2 + (fl.drop (i * 2)).length) := by
      rw [hr1, List.toList_toArray, List.append_assoc]
      have : (cur.toList.take ((i + 1) * 2)).length = i * 2 + vl.length := by simp only [List.length_take, Array.length_toList, hcs, hvs]; omega
      rw [← this, List.drop_left]
    rw [hr2, List.toList_toArray, e1, e2, ← List.append_assoc, List.take_append_of_le_length (by simp only [List.length_append, List.length_take, List.length_drop]; omega), List.take_of_length_le (by simp only [List.length_append, List.length_take, List.length_drop]; omega)]
    rfl
  have hcp1 : ∀ ty dc sc, (Builtin.copy_ #[72, 72] ty #[.slice (some ⟨b, (i + 1) * 2, none⟩) (n + 1 - (i + 1)) dc, .slice (some ⟨b, i * 2, none⟩) (n + 1 - i) sc]).run Tryz.prog w.drew = .ok (goInt ((n - i : Nat) : Int)) (w.drew.setRow b row1) := fun ty dc sc => by
    have hm : Nat.min (n + 1 - i) (n + 1 - (i + 1)) = n - i := by simp only [Nat.min_def]; split <;> omega
    have := run_copy_rowK (P := Tryz.prog) w.drew 72 72 ty 47 b ((i + 1) * 2) (n + 1 - (i + 1)) dc ⟨b, i * 2, none⟩ (n + 1 - i) sc cur 47 (fl.drop (i * 2)) 2 Tryz.underlying72 hsz hb (by rw [hm, List.length_drop, hfs]; omega) (fun j v hj => by
      rw [Addr.add_lit]
      rw [List.getElem?_drop] at hj
      exact hcell w.drew cur hb rfl _ v hj) (by rw [List.length_drop, hfs, hcs]; omega) (fun v hv => h1c v (List.mem_of_mem_drop hv))
    rw [hm] at this
    rw [hr1]; exact this
  have hcp2 : ∀ (W : World), W.heap = (w.setRow b row1).heap → ∀ ty dc, (Builtin.copy_ #[72, 72] ty #[.slice (some ⟨b, i * 2, none⟩) (n + 1 - i) dc, .slice (some ⟨gv, 0, none⟩) 1 cv]).run Tryz.prog W = .ok (goInt 1) (W.setRow b row2) := fun W hW ty dc => by
    have hm : Nat.min 1 (n + 1 - i) = 1 := by simp only [Nat.min_def]; split <;> omega
    have := run_copy_rowK (P := Tryz.prog) W 72 72 ty 47 b (i * 2) (n + 1 - i) dc ⟨gv, 0, none⟩ 1 cv row1 47 vl 2 Tryz.underlying72 hsz (by rw [hW]; exact set_row_some hb) (by rw [hm, hvs]) (fun j v hj => by
      rw [Addr.add_lit, Nat.zero_add]
      have hg : W.heap[gv]? = some (.cells curv 47 (0, 0)) := by rw [hW, setRow_other w b gv row1 hne]; exact hv
      rw [← hvl, List.getElem?_take] at hj
      split at hj
      · simp only [World.cell?, hg]
        rw [← Array.getElem?_toList]; exact hj
      · cases hj) (by rw [hvs, hr1s]; omega) h1v
    rw [hm] at this
    rw [hr2]; exact this
  have hov : ∀ lb cb, (callFunc 296 #[.slice (some ⟨gv, 0, none⟩) 1 cv, .slice (some ⟨b, (i + 1) * 2, none⟩) lb cb]).run Tryz.prog w = .ok (.value (.bool false)) w := fun lb cb => by
    rw [run_callFunc_extern Tryz.func296 (by kernel_rfl) (by kernel_rfl) (by kernel_rfl) (e := Extern.SlicesOverlaps.overlaps #[72, 72] #[4]) (by kernel_rfl),
      Lib.run_overlaps_apart w 72 4 47 Tryz.underlying72 2 (fun w => by simp [sizeOf, typeInfo, hi0, hzs]) ⟨gv, 0, none⟩ ⟨b, (i + 1) * 2, none⟩ 1 cv lb cb hne 47 47 curv.size cur.size (by simp only [World.shape?, hv]) (by simp only [World.shape?, hb]) (by rw [hcs]; omega) (by simp [World.frozen?, hv]) (by simp [World.frozen?, hv])]
    rfl
  have hz2 : ¬ ((i : Int) = (n : Int)) := by omega
  have hw1 : IntKind.i64.wrap ((i : Int) + 1) = (i : Int) + 1 := by rw [IntKind.wrap_i64]; omega
  have hb1 : (0 : Int) ≤ (i : Int) + 1 := by omega
  have hin : i ≤ n := by omega
  have htn : ((i : Int) + 1).toNat = i + 1 := by omega
  have hb2 : ¬ (c = i + 1) := by omega
  have hb3 : (i : Int) ≤ (n : Int) + 1 := by omega
  have hb4 : ¬ (c = i) := by omega
  have hF1 : (w.drew.setRow b row1).heap = (w.setRow b row1).heap := rfl
  refine ⟨row2, hr2s, hr2t, Calls.mono (R := fun e w' => e = .returned (.slice (some ⟨b, 0, none⟩) (n + 1) c) ∧ w' = ((w.drew.setRow b row1).setRow b row2)) ?_ (fun e w' h => ⟨h.1, by rw [h.2]; rfl, by rw [h.2]; rfl, by rw [h.2]; rfl, by rw [h.2]; show ((w.setRow b row1).setRow b row2).heap = _; rw [setRow_setRow]⟩)⟩
  clear hr1 hr2 hr1s hr2s hr2t
  go_enter Tryz.func241, Tryz.ntmps241
  go_wp2_with (simp only [hov])
  go_region_law_o (refine step_copy_runI rfl _ _ 72 72 rfl (.slice (some ⟨b, (i + 1) * 2, none⟩) (n + 1 - (i + 1)) (c - (i + 1))) (.slice (some ⟨b, i * 2, none⟩) (n + 1 - i) (c - i)) (by simp [Act.eval, Act.put, hb2, hb4]) (by simp [Act.eval, Act.put, hb2, hb4]) (hcp1 3 (c - (i + 1)) (c - i)) ?_)
  go_wp2_with (at_builtin; refine wpList_copy_runI _ rfl _ _ 72 72 rfl _ _ rfl rfl (hcp2 _ hF1 _ _) ?_)
  go_ret
  exact ⟨rfl, rfl⟩

set_option maxHeartbeats 4000000 in
set_option maxRecDepth 100000 in
theorem ins_end_slices_Insert_impl_Contract_impl_Contract (w : World) (v : Value) (n gv cv : Nat) (curv : Array Value) (fl vl : List Value) (hn63 : n + 1 ≤ maxLen) (hbig : (n + 1) * 32 ≤ 140737488355328) (how : Go.Rv.Own w 47 2 v n fl)
    (hv : w.heap[gv]? = some (.cells curv 47 (0, 0))) (hvl : curv.toList.take 2 = vl) (hvs : vl.length = 2) (h1v : ∀ v ∈ vl, v.oneCell' = true) :
    ∃ v' w', Go.Rv.Own w' 47 2 v' (n + 1) (fl ++ vl) ∧ w.grownBy w' (ownB v) ∧ (∀ g, ownB v' = some g → w.heap.size ≤ g ∨ ownB v = some g) ∧ 
    Calls Tryz.prog 241 #[v, .int .i64 n, .slice (some ⟨gv, 0, none⟩) 1 cv] w fun e w1 =>  e = .returned v' ∧ w1 = w' := by
  obtain ⟨i0, z, hi0, hz0, hzs, hzb, hzc⟩ := info47_slices_Insert_impl_Contract_impl_Contract
  have u63 := Tryz.underlying72
  have mixed : Tryz.prog.follows Departure.mixedOrders = true := by kernel_rfl
  obtain ⟨v', w', hrun, ho, hgr, hblk⟩ := run_append_Own (P := Tryz.prog) (w := w) (t := 72) (ty := 72) Tryz.underlying72 hi0 hz0 hzs hzb hzc (by decide) how ⟨gv, 0, none⟩ 1 cv vl (by rw [hvs]) (fun j u hj => by
    rw [Addr.add_lit, Nat.zero_add]
    rw [← hvl, List.getElem?_take] at hj
    split at hj
    · simp only [World.cell?, hv]
      rw [← Array.getElem?_toList]; exact hj
    · cases hj) h1v hn63 hbig
  refine ⟨v', w', ho, hgr, hblk, ?_⟩
  rcases how.2 with ⟨A, rfl, rfl⟩ | ⟨b, cap, cur, rfl, hb, hcb, hnc, hcm, hcs, htk⟩
  · cases A with
    | none =>
      clear ho hgr hblk how
      go_enter Tryz.func241, Tryz.ntmps241
      go_wp2_with (at_builtin; refine Lib.wpList_append_run _ rfl _ _ _ _ rfl _ _ rfl rfl _ _ hrun ?_)
      go_ret
      exact ⟨rfl, rfl⟩
    | some a0 =>
      obtain ⟨a1, a2, a3⟩ := a0
      clear ho hgr hblk how
      go_enter Tryz.func241, Tryz.ntmps241
      go_wp2_with (at_builtin; refine Lib.wpList_append_run _ rfl _ _ _ _ rfl _ _ rfl rfl _ _ hrun ?_)
      go_ret
      exact ⟨rfl, rfl⟩
  · have hc2 : cap ≤ 9223372036854775807 := hcm
    clear ho hgr hblk how
    go_enter Tryz.func241, Tryz.ntmps241
    go_wp2_with (at_builtin; refine Lib.wpList_append_run _ rfl _ _ _ _ rfl _ _ rfl rfl _ _ hrun ?_)
    all_goals (go_ret; exact ⟨rfl, rfl⟩)

theorem ins_walk_slices_Insert_impl_Contract_impl_Contract : InsWalk Tryz.prog 241 47 2 32 := by
  intro w v0 v1 n i fl vl h0 h1 hi hbig one0 one1 hne
  have hn63 : n + 1 ≤ maxLen := by simp only [maxLen]; omega
  rcases h1.2 with ⟨A, rfl, h⟩ | ⟨gv, cv, curv, rfl, hcv, hv, hv1, hv2, hv3, hvl⟩
  · cases h
  have hvs : vl.length = 2 := by rw [h1.1]
  rw [Nat.one_mul] at hvl
  by_cases hin : i = n
  · subst hin
    obtain ⟨v', w', k1, k2, k3, k4⟩ := ins_end_slices_Insert_impl_Contract_impl_Contract w v0 i gv cv curv fl vl hn63 hbig h0 hv hvl hvs one1
    refine k4.mono ?_
    rintro en w1 ⟨rfl, rfl⟩
    refine ⟨v', rfl, ?_, k2, k3⟩
    have : insC 2 i fl vl = fl ++ vl := by
      unfold insC
      rw [← h0.1, List.take_length, List.drop_length, List.append_nil]
    rw [this]; exact k1
  · rcases h0.2 with ⟨A, rfl, h⟩ | ⟨b, cap, cur, rfl, hcb, hb, hnc, hcm, hcs, htk⟩
    · omega
    · have hgb : gv ≠ b := fun h => hne b (ownB_of hcb) (by rw [h]; exact ownB_of hcv)
      have hlen : (insC 2 i fl vl).length = (n + 1) * 2 := by
        simp only [insC, List.length_append, List.length_take, List.length_drop, h0.1, hvs]
        omega
      by_cases hroom : n + 1 ≤ cap
      · obtain ⟨row, r1, r2, r3⟩ := ins_room_slices_Insert_impl_Contract_impl_Contract w b n cap i gv cv cur curv fl vl (by omega) hroom hcm hgb hb hcs htk h0.1 hv hvl hvs one0 one1
        refine r3.mono ?_
        rintro en w1 ⟨rfl, q1, q2, q3, q4⟩
        refine ⟨_, rfl, ⟨hlen, .inr ⟨b, cap, row, rfl, hcb, by rw [q4]; exact set_row_some hb, hroom, hcm, r1, r2⟩⟩, ⟨q1, q2, q3, by rw [q4]; simp, fun k hk hne => by rw [q4]; exact setRow_other w b k row (fun he => hne (by rw [he]; exact (ownB_of hcb).symm))⟩, fun g hg => .inr ?_⟩
        rw [ownB_of hcb] at hg ⊢
        exact hg
      · have hcn : cap = n := by omega
        subst hcn
        refine (ins_grow_slices_Insert_impl_Contract_impl_Contract w b cap i gv cv cur curv fl vl (by omega) hbig hb htk h0.1 hv hvl hvs one0 one1).mono ?_
        rintro en w1 ⟨G, row, g1, g2, rfl, q1, q2, q3, q4, q5, q6⟩
        refine ⟨_, rfl, ⟨hlen, .inr ⟨w.heap.size, G, row, rfl, by omega, by rw [q4]; simp, g1, g2, q5, q6⟩⟩, ⟨q1, q2, q3, by rw [q4]; simp, fun k hk _ => by rw [q4, Array.getElem?_push_lt hk, ← Array.getElem?_eq_getElem hk]⟩, fun g hg => .inl ?_⟩
        rw [ownB_of (by omega)] at hg
        cases hg; exact Nat.le_refl _
theorem sound_slices_Insert_impl_Contract_impl_Contract : Sound Tryz.prog 241 S_slices_Insert_impl_Contract_impl_Contract := sound_ins ins_walk_slices_Insert_impl_Contract_impl_Contract
theorem ok_slices_Insert_impl_Contract_impl_Contract : EnvOK Tryz.prog G_slices_Insert_impl_Contract_impl_Contract := envOK_sound ok_impl_Shard_isReady ⟨_, Tryz.func241, by kernel_rfl, by kernel_rfl⟩ sound_slices_Insert_impl_Contract_impl_Contract
theorem info185_slices_Insert_impl_Mark_impl_Mark : ∃ i z, Tryz.prog.info? 185 = some i ∧ i.zero = some z ∧ i.size = 2 ∧ i.bytes = 16 ∧ z.cells.size = 2 := by
  have h : (Tryz.prog.info? 185).map (fun i => (i.size, i.bytes, i.zero.map fun z => z.cells.size)) = some (2, 16, some 2) := by kernel_rfl
  cases hi : Tryz.prog.info? 185 with
  | none => rw [hi] at h; cases h
  | some i =>
    rw [hi] at h
    simp only [Option.map_some, Option.some.injEq, Prod.mk.injEq] at h
    obtain ⟨h1, h2, h3⟩ := h
    cases hz : i.zero with
    | none => rw [hz] at h3; cases h3
    | some z =>
      rw [hz] at h3
      exact ⟨i, z, rfl, hz, h1, h2, by simpa using h3⟩
set_option maxHeartbeats 4000000 in
set_option maxRecDepth 100000 in
theorem ins_grow_slices_Insert_impl_Mark_impl_Mark (w : World) (b n i gv cv : Nat) (cur curv : Array Value) (fl vl : List Value) (hi : i < n) (hbig : (n + 1) * 16 ≤ 140737488355328) (hb : w.heap[b]? = some (.cells cur 185 (0, 0))) (hfl : cur.toList.take (n * 2) = fl) (hfs : fl.length = n * 2)
    (hv : w.heap[gv]? = some (.cells curv 185 (0, 0))) (hvl : curv.toList.take 2 = vl) (hvs : vl.length = 2) (h1c : ∀ v ∈ fl, v.oneCell' = true) (h1v : ∀ v ∈ vl, v.oneCell' = true) :
    Calls Tryz.prog 299 #[.slice (some ⟨b, 0, none⟩) n n, .int .i64 i, .slice (some ⟨gv, 0, none⟩) 1 cv] w fun e w' => ∃ G row, n + 1 ≤ G ∧ G ≤ maxLen ∧ e = .returned (.slice (some ⟨w.heap.size, 0, none⟩) (n + 1) G) ∧
      w'.os = w.os ∧ w'.tape = w.tape ∧ w'.output = w.output ∧ w'.heap = w.heap.push (.cells row 185 (0, 0)) ∧ row.size = G * 2 ∧ row.toList.take ((n + 1) * 2) = insC 2 i fl vl := by
  obtain ⟨i0, z, hi0, hz0, hzs, hzb, hzc⟩ := info185_slices_Insert_impl_Mark_impl_Mark
  have u63 := Tryz.underlying92
  have hsz : (Tryz.prog.info? 185).map (·.size) = some 2 := by rw [hi0]; simp [hzs]
  have hbl : b < w.heap.size := (Array.getElem?_eq_some_iff.1 hb).1
  have hvb : gv < w.heap.size := (Array.getElem?_eq_some_iff.1 hv).1
  have hz3 : (n : Int) < (n : Int) + 1 := by omega
  have hkk : (n : Int) + 1 - (i : Int) = ((n + 1 - i : Nat) : Int) := by omega
  have hik : i + (n + 1 - i) = n + 1 := by omega
  have hcell : ∀ (W : World), W.heap[b]? = w.heap[b]? → ∀ j v, fl[j]? = some v → W.cell? ⟨b, j, none⟩ = some v := fun W hW j v hj => by
    rw [← hfl, List.getElem?_take] at hj
    split at hj
    · simp only [World.cell?, hW, hb]
      rw [← Array.getElem?_toList]; exact hj
    · cases hj
  have hold : (Builtin.firstCells i0.size i (.slice (some ⟨b, 0, none⟩) i n)).run Tryz.prog w.drew = .ok (fl.take (i * 2)).toArray w.drew := by
    rw [hzs]
    exact run_firstCells_some w.drew 2 i ⟨b, 0, none⟩ i n (fl.take (i * 2)) (by rw [List.length_take]; omega) (fun j v hj => by
      rw [Addr.add_lit, Nat.zero_add]
      rw [List.getElem?_take] at hj
      split at hj
      · exact hcell w.drew rfl j v hj
      · cases hj)
  have hrz : ∀ ty, (Builtin.append_ #[92, 3] ty #[.slice (some ⟨b, 0, none⟩) i n, .int .i64 ((n : Int) + 1 - (i : Int))]).run Tryz.prog w =
      .ok (.slice (some ⟨w.heap.size, 0, none⟩) (n + 1) (grownCap w (n + 1) n 185)) (w.drew.alloc (.cells ((fl.take (i * 2)).toArray ++ Builtin.zeroCells z.cells (n + 1 - i) ++ Builtin.zeroCells z.cells (grownCap w (n + 1) n 185 - (n + 1))) 185)) := fun ty => by
    have h := Lib.run_append_grow_zeros (P := Tryz.prog) w 92 3 ty 185 i0 z .i64 .i64 Tryz.underlying92 Tryz.underlying3 hi0 hz0 (some ⟨b, 0, none⟩) i n (fl.take (i * 2)) hold (n + 1 - i) (by omega) (by omega) (by omega) (by omega) (by rw [hzb]; omega) (by rw [hzb, hik]; exact growslice_fits (by omega) hbig)
    rw [hik] at h
    rw [hkk]
    exact h
  obtain ⟨G, hG⟩ : ∃ G, G = grownCap w (n + 1) n 185 := ⟨_, rfl⟩
  rw [← hG] at hrz
  have hGn : n + 1 ≤ G := by rw [hG]; exact grownCap_ge w _ _ _
  have hG63 : G ≤ maxLen := by rw [hG]; exact grownCap_le_maxLen w (n + 1) n 185 (by unfold maxLen; omega)
  have hGm : G ≤ 9223372036854775807 := by have := hG63; unfold maxLen at this; omega
  obtain ⟨ROW, hROW⟩ : ∃ ROW : Array Value, ROW = (fl.take (i * 2)).toArray ++ Builtin.zeroCells z.cells (n + 1 - i) ++ Builtin.zeroCells z.cells (G - (n + 1)) := ⟨_, rfl⟩
  rw [← hROW] at hrz
  have hRl : ROW.size = G * 2 := by
    rw [hROW]
    simp only [Array.size_append, List.size_toArray, List.length_take, size_zeroCells, hzc]
    omega
  have hRt : ROW.toList.take (i * 2) = fl.take (i * 2) := by
    rw [hROW]
    simp only [Array.toList_append, List.append_assoc]
    rw [List.take_append_of_le_length (by rw [List.length_take]; omega)]
    rw [List.take_of_length_le (by rw [List.length_take]; omega)]
  obtain ⟨row2, hr2⟩ : ∃ row2 : Array Value, row2 = (ROW.toList.take (i * 2) ++ vl ++ ROW.toList.drop (i * 2 + vl.length)).toArray := ⟨_, rfl⟩
  have hr2s : row2.size = G * 2 := by
    rw [hr2]
    simp only [List.size_toArray, List.length_append, List.length_take, List.length_drop, Array.length_toList, hRl, hvs]
    omega
  obtain ⟨row3, hr3⟩ : ∃ row3 : Array Value, row3 = (row2.toList.take ((i + 1) * 2) ++ fl.drop (i * 2) ++ row2.toList.drop ((i + 1) * 2 + (fl.drop (i * 2)).length)).toArray := ⟨_, rfl⟩
  have hr3s : row3.size = G * 2 := by
    rw [hr3]
    simp only [List.size_toArray, List.length_append, List.length_take, List.length_drop, Array.length_toList, hr2s, hfs]
    omega
  have hr3t : row3.toList.take ((n + 1) * 2) = insC 2 i fl vl := by
    have e2 : row2.toList.take ((i + 1) * 2) = fl.take (i * 2) ++ vl := by
      rw [hr2, List.toList_toArray, hRt, List.take_append_of_le_length (by simp only [List.length_append, List.length_take]; omega), List.take_of_length_le (by simp only [List.length_append, List.length_take]; omega)]
    rw [hr3, List.toList_toArray, e2, List.take_append_of_le_length (by simp only [List.length_append, List.length_take, List.length_drop]; omega), List.take_of_length_le (by simp only [List.length_append, List.length_take, List.length_drop]; omega)]
    rfl
  have hcpA : ∀ (W : World), W.heap = w.heap.push (.cells ROW 185 (0, 0)) → ∀ ty dc, (Builtin.copy_ #[92, 92] ty #[.slice (some ⟨w.heap.size, i * 2, none⟩) (n + 1 - i) dc, .slice (some ⟨gv, 0, none⟩) 1 cv]).run Tryz.prog W = .ok (goInt 1) (W.setRow w.heap.size row2) := fun W hW ty dc => by
    have hm : Nat.min 1 (n + 1 - i) = 1 := by simp only [Nat.min_def]; split <;> omega
    have := run_copy_rowK (P := Tryz.prog) W 92 92 ty 185 w.heap.size (i * 2) (n + 1 - i) dc ⟨gv, 0, none⟩ 1 cv ROW 185 vl 2 Tryz.underlying92 hsz (by rw [hW]; simp) (by rw [hm, hvs]) (fun j v hj => by
      rw [Addr.add_lit, Nat.zero_add]
      have hg : W.heap[gv]? = some (.cells curv 185 (0, 0)) := by rw [hW, Array.getElem?_push_lt hvb, ← Array.getElem?_eq_getElem hvb]; exact hv
      rw [← hvl, List.getElem?_take] at hj
      split at hj
      · simp only [World.cell?, hg]
        rw [← Array.getElem?_toList]; exact hj
      · cases hj) (by rw [hvs, hRl]; omega) h1v
    rw [hm] at this
    rw [hr2]; exact this
  have hcpB : ∀ (W : World), W.heap = w.heap.push (.cells row2 185 (0, 0)) → ∀ ty dc sc, (Builtin.copy_ #[92, 92] ty #[.slice (some ⟨w.heap.size, (i + 1) * 2, none⟩) (n + 1 - (i + 1)) dc, .slice (some ⟨b, i * 2, none⟩) (n - i) sc]).run Tryz.prog W = .ok (goInt ((n - i : Nat) : Int)) (W.setRow w.heap.size row3) := fun W hW ty dc sc => by
    have hm : Nat.min (n - i) (n + 1 - (i + 1)) = n - i := by simp only [Nat.min_def]; split <;> omega
    have := run_copy_rowK (P := Tryz.prog) W 92 92 ty 185 w.heap.size ((i + 1) * 2) (n + 1 - (i + 1)) dc ⟨b, i * 2, none⟩ (n - i) sc row2 185 (fl.drop (i * 2)) 2 Tryz.underlying92 hsz (by rw [hW]; simp) (by rw [hm, List.length_drop, hfs]; omega) (fun j v hj => by
      rw [Addr.add_lit]
      rw [List.getElem?_drop] at hj
      exact hcell W (by rw [hW, Array.getElem?_push_lt hbl, ← Array.getElem?_eq_getElem hbl]) _ v hj) (by rw [List.length_drop, hfs, hr2s]; omega) (fun v hv => h1c v (List.mem_of_mem_drop hv))
    rw [hm] at this
    rw [hr3]; exact this
  have hGi : ¬ (G = i) := by omega
  have hni : ¬ (n = i) := by omega
  have mixed : Tryz.prog.follows Departure.mixedOrders = true := by kernel_rfl
  have hGim : ¬ (G = i + 1) := by omega
  have hw1 : IntKind.i64.wrap ((i : Int) + 1) = (i : Int) + 1 := by rw [IntKind.wrap_i64]; omega
  have hb1 : (0 : Int) ≤ (i : Int) + 1 := by omega
  have hin : i ≤ n := by omega
  have htn : ((i : Int) + 1).toNat = i + 1 := by omega
  have hE1 : ((w.alloc (.cells ROW 185)).drew).heap = w.heap.push (.cells ROW 185 (0, 0)) := rfl
  have hF1 : (((w.alloc (.cells ROW 185)).drew.setRow w.heap.size row2).drew).heap = w.heap.push (.cells row2 185 (0, 0)) := heap_setRow_push hE1
  clear hkk hik hold hROW hRl hRt hr2 hr3 hG
  refine Calls.mono (R := fun e w' => e = .returned (.slice (some ⟨w.heap.size, 0, none⟩) (n + 1) G) ∧ w' = (((w.alloc (.cells ROW 185)).drew.setRow w.heap.size row2).drew.setRow w.heap.size row3)) ?_ (fun e w' h => ⟨G, row3, hGn, hG63, h.1, by rw [h.2]; rfl, by rw [h.2]; rfl, by rw [h.2]; rfl, by rw [h.2]; exact heap_setRow_push hF1, hr3s, hr3t⟩)
  go_enter Tryz.func299, Tryz.ntmps299
  go_wp2_with (first
    | (at_builtin; refine Lib.wpList_append_run _ rfl _ _ _ _ rfl _ _ rfl rfl _ _ (hrz _) ?_)
    | (at_builtin; refine wpList_copy_runI _ rfl _ _ 92 92 rfl _ _ rfl rfl (hcpA _ hE1 _ _) ?_))
  go_region_law_o (refine step_copy_runI rfl _ _ 92 92 rfl (.slice (some ⟨w.heap.size, (i + 1) * 2, none⟩) (n + 1 - (i + 1)) (G - (i + 1))) (.slice (some ⟨b, i * 2, none⟩) (n - i) (n - i)) (by simp [Act.eval, Act.put, hni, hGi, hGim]) (by simp [Act.eval, Act.put, hni, hGi, hGim]) (hcpB _ hF1 3 (G - (i + 1)) (n - i)) ?_)
  go_wp2
  go_ret
  exact ⟨rfl, rfl⟩

set_option maxHeartbeats 4000000 in
set_option maxRecDepth 100000 in
theorem ins_room_slices_Insert_impl_Mark_impl_Mark (w : World) (b n c i gv cv : Nat) (cur curv : Array Value) (fl vl : List Value) (hi : i < n) (hroom : n + 1 ≤ c) (hc63 : c ≤ 9223372036854775807) (hne : gv ≠ b) (hb : w.heap[b]? = some (.cells cur 185 (0, 0))) (hcs : cur.size = c * 2) (hfl : cur.toList.take (n * 2) = fl) (hfs : fl.length = n * 2)
    (hv : w.heap[gv]? = some (.cells curv 185 (0, 0))) (hvl : curv.toList.take 2 = vl) (hvs : vl.length = 2) (h1c : ∀ v ∈ fl, v.oneCell' = true) (h1v : ∀ v ∈ vl, v.oneCell' = true) :
    ∃ row, row.size = c * 2 ∧ row.toList.take ((n + 1) * 2) = insC 2 i fl vl ∧
    Calls Tryz.prog 299 #[.slice (some ⟨b, 0, none⟩) n c, .int .i64 i, .slice (some ⟨gv, 0, none⟩) 1 cv] w fun e w' =>  e = .returned (.slice (some ⟨b, 0, none⟩) (n + 1) c) ∧ w'.os = w.os ∧ w'.tape = w.tape ∧ w'.output = w.output ∧ w'.heap = (w.setRow b row).heap := by
  obtain ⟨i0, z, hi0, hz0, hzs, hzb, hzc⟩ := info185_slices_Insert_impl_Mark_impl_Mark
  have u63 := Tryz.underlying92
  have hsz : (Tryz.prog.info? 185).map (·.size) = some 2 := by rw [hi0]; simp [hzs]
  have hbl : b < w.heap.size := (Array.getElem?_eq_some_iff.1 hb).1
  have hvb : gv < w.heap.size := (Array.getElem?_eq_some_iff.1 hv).1
  have mixed : Tryz.prog.follows Departure.mixedOrders = true := by kernel_rfl
  have hcell : ∀ (W : World) (cu : Array Value), W.heap[b]? = some (.cells cu 185 (0, 0)) → cu = cur → ∀ j v, fl[j]? = some v → W.cell? ⟨b, j, none⟩ = some v := fun W cu hW hcu j v hj => by
    subst hcu
    rw [← hfl, List.getElem?_take] at hj
    split at hj
    · simp only [World.cell?, hW]
      rw [← Array.getElem?_toList]; exact hj
    · cases hj
  obtain ⟨row1, hr1⟩ : ∃ row1 : Array Value, row1 = (cur.toList.take ((i + 1) * 2) ++ fl.drop (i * 2) ++ cur.toList.drop ((i + 1) * 2 + (fl.drop (i * 2)).length)).toArray := ⟨_, rfl⟩
  have hr1s : row1.size = c * 2 := by
    rw [hr1]
    simp only [List.size_toArray, List.length_append, List.length_take, List.length_drop, Array.length_toList, hcs, hfs]
    omega
  obtain ⟨row2, hr2⟩ : ∃ row2 : Array Value, row2 = (row1.toList.take (i * 2) ++ vl ++ row1.toList.drop (i * 2 + vl.length)).toArray := ⟨_, rfl⟩
  have hr2s : row2.size = c * 2 := by
    rw [hr2]
    simp only [List.size_toArray, List.length_append, List.length_take, List.length_drop, Array.length_toList, hr1s, hvs]
    omega
  have hr2t : row2.toList.take ((n + 1) * 2) = insC 2 i fl vl := by
    have e0 : cur.toList.take (i * 2) = fl.take (i * 2) := by
      rw [← hfl, List.take_take]; congr 1; omega
    have e1 : row1.toList.take (i * 2) = fl.take (i * 2) := by
      rw [hr1, List.toList_toArray, List.append_assoc, List.take_append_of_le_length (by simp only [List.length_take, Array.length_toList, hcs]; omega), List.take_take, ← e0]
      congr 1; omega
    have e2 : row1.toList.drop (i * 2 + vl.length) = fl.drop (i * 2) ++ cur.toList.drop ((i + 1) * 2 + (fl.drop (i * 2)).length) := by
      rw [hr1, List.toList_toArray, List.append_assoc]
      have : (cur.toList.take ((i + 1) * 2)).length = i * 2 + vl.length := by simp only [List.length_take, Array.length_toList, hcs, hvs]; omega
      rw [← this, List.drop_left]
    rw [hr2, List.toList_toArray, e1, e2, ← List.append_assoc, List.take_append_of_le_length (by simp only [List.length_append, List.length_take, List.length_drop]; omega), List.take_of_length_le (by simp only [List.length_append, List.length_take, List.length_drop]; omega)]
    rfl
  have hcp1 : ∀ ty dc sc, (Builtin.copy_ #[92, 92] ty #[.slice (some ⟨b, (i + 1) * 2, none⟩) (n + 1 - (i + 1)) dc, .slice (some ⟨b, i * 2, none⟩) (n + 1 - i) sc]).run Tryz.prog w.drew = .ok (goInt ((n - i : Nat) : Int)) (w.drew.setRow b row1) := fun ty dc sc => by
    have hm : Nat.min (n + 1 - i) (n + 1 - (i + 1)) = n - i := by simp only [Nat.min_def]; split <;> omega
    have := run_copy_rowK (P := Tryz.prog) w.drew 92 92 ty 185 b ((i + 1) * 2) (n + 1 - (i + 1)) dc ⟨b, i * 2, none⟩ (n + 1 - i) sc cur 185 (fl.drop (i * 2)) 2 Tryz.underlying92 hsz hb (by rw [hm, List.length_drop, hfs]; omega) (fun j v hj => by
      rw [Addr.add_lit]
      rw [List.getElem?_drop] at hj
      exact hcell w.drew cur hb rfl _ v hj) (by rw [List.length_drop, hfs, hcs]; omega) (fun v hv => h1c v (List.mem_of_mem_drop hv))
    rw [hm] at this
    rw [hr1]; exact this
  have hcp2 : ∀ (W : World), W.heap = (w.setRow b row1).heap → ∀ ty dc, (Builtin.copy_ #[92, 92] ty #[.slice (some ⟨b, i * 2, none⟩) (n + 1 - i) dc, .slice (some ⟨gv, 0, none⟩) 1 cv]).run Tryz.prog W = .ok (goInt 1) (W.setRow b row2) := fun W hW ty dc => by
    have hm : Nat.min 1 (n + 1 - i) = 1 := by simp only [Nat.min_def]; split <;> omega
    have := run_copy_rowK (P := Tryz.prog) W 92 92 ty 185 b (i * 2) (n + 1 - i) dc ⟨gv, 0, none⟩ 1 cv row1 185 vl 2 Tryz.underlying92 hsz (by rw [hW]; exact set_row_some hb) (by rw [hm, hvs]) (fun j v hj => by
      rw [Addr.add_lit, Nat.zero_add]
      have hg : W.heap[gv]? = some (.cells curv 185 (0, 0)) := by rw [hW, setRow_other w b gv row1 hne]; exact hv
      rw [← hvl, List.getElem?_take] at hj
      split at hj
      · simp only [World.cell?, hg]
        rw [← Array.getElem?_toList]; exact hj
      · cases hj) (by rw [hvs, hr1s]; omega) h1v
    rw [hm] at this
    rw [hr2]; exact this
  have hov : ∀ lb cb, (callFunc 339 #[.slice (some ⟨gv, 0, none⟩) 1 cv, .slice (some ⟨b, (i + 1) * 2, none⟩) lb cb]).run Tryz.prog w = .ok (.value (.bool false)) w := fun lb cb => by
    rw [run_callFunc_extern Tryz.func339 (by kernel_rfl) (by kernel_rfl) (by kernel_rfl) (e := Extern.SlicesOverlaps.overlaps #[92, 92] #[4]) (by kernel_rfl),
      Lib.run_overlaps_apart w 92 4 185 Tryz.underlying92 2 (fun w => by simp [sizeOf, typeInfo, hi0, hzs]) ⟨gv, 0, none⟩ ⟨b, (i + 1) * 2, none⟩ 1 cv lb cb hne 185 185 curv.size cur.size (by simp only [World.shape?, hv]) (by simp only [World.shape?, hb]) (by rw [hcs]; omega) (by simp [World.frozen?, hv]) (by simp [World.frozen?, hv])]
    rfl
  have hz2 : ¬ ((i : Int) = (n : Int)) := by omega
  have hw1 : IntKind.i64.wrap ((i : Int) + 1) = (i : Int) + 1 := by rw [IntKind.wrap_i64]; omega
  have hb1 : (0 : Int) ≤ (i : Int) + 1 := by omega
  have hin : i ≤ n := by omega
  have htn : ((i : Int) + 1).toNat = i + 1 := by omega
  have hb2 : ¬ (c = i + 1) := by omega
  have hb3 : (i : Int) ≤ (n : Int) + 1 := by omega
  have hb4 : ¬ (c = i) := by omega
  have hF1 : (w.drew.setRow b row1).heap = (w.setRow b row1).heap := rfl
  refine ⟨row2, hr2s, hr2t, Calls.mono (R := fun e w' => e = .returned (.slice (some ⟨b, 0, none⟩) (n + 1) c) ∧ w' = ((w.drew.setRow b row1).setRow b row2)) ?_ (fun e w' h => ⟨h.1, by rw [h.2]; rfl, by rw [h.2]; rfl, by rw [h.2]; rfl, by rw [h.2]; show ((w.setRow b row1).setRow b row2).heap = _; rw [setRow_setRow]⟩)⟩
  clear hr1 hr2 hr1s hr2s hr2t
  go_enter Tryz.func299, Tryz.ntmps299
  go_wp2_with (simp only [hov])
  go_region_law_o (refine step_copy_runI rfl _ _ 92 92 rfl (.slice (some ⟨b, (i + 1) * 2, none⟩) (n + 1 - (i + 1)) (c - (i + 1))) (.slice (some ⟨b, i * 2, none⟩) (n + 1 - i) (c - i)) (by simp [Act.eval, Act.put, hb2, hb4]) (by simp [Act.eval, Act.put, hb2, hb4]) (hcp1 3 (c - (i + 1)) (c - i)) ?_)
  go_wp2_with (at_builtin; refine wpList_copy_runI _ rfl _ _ 92 92 rfl _ _ rfl rfl (hcp2 _ hF1 _ _) ?_)
  go_ret
  exact ⟨rfl, rfl⟩

set_option maxHeartbeats 4000000 in
set_option maxRecDepth 100000 in
theorem ins_end_slices_Insert_impl_Mark_impl_Mark (w : World) (v : Value) (n gv cv : Nat) (curv : Array Value) (fl vl : List Value) (hn63 : n + 1 ≤ maxLen) (hbig : (n + 1) * 16 ≤ 140737488355328) (how : Go.Rv.Own w 185 2 v n fl)
    (hv : w.heap[gv]? = some (.cells curv 185 (0, 0))) (hvl : curv.toList.take 2 = vl) (hvs : vl.length = 2) (h1v : ∀ v ∈ vl, v.oneCell' = true) :
    ∃ v' w', Go.Rv.Own w' 185 2 v' (n + 1) (fl ++ vl) ∧ w.grownBy w' (ownB v) ∧ (∀ g, ownB v' = some g → w.heap.size ≤ g ∨ ownB v = some g) ∧ 
    Calls Tryz.prog 299 #[v, .int .i64 n, .slice (some ⟨gv, 0, none⟩) 1 cv] w fun e w1 =>  e = .returned v' ∧ w1 = w' := by
  obtain ⟨i0, z, hi0, hz0, hzs, hzb, hzc⟩ := info185_slices_Insert_impl_Mark_impl_Mark
  have u63 := Tryz.underlying92
  have mixed : Tryz.prog.follows Departure.mixedOrders = true := by kernel_rfl
  obtain ⟨v', w', hrun, ho, hgr, hblk⟩ := run_append_Own (P := Tryz.prog) (w := w) (t := 92) (ty := 92) Tryz.underlying92 hi0 hz0 hzs hzb hzc (by decide) how ⟨gv, 0, none⟩ 1 cv vl (by rw [hvs]) (fun j u hj => by
    rw [Addr.add_lit, Nat.zero_add]
    rw [← hvl, List.getElem?_take] at hj
    split at hj
    · simp only [World.cell?, hv]
      rw [← Array.getElem?_toList]; exact hj
    · cases hj) h1v hn63 hbig
  refine ⟨v', w', ho, hgr, hblk, ?_⟩
  rcases how.2 with ⟨A, rfl, rfl⟩ | ⟨b, cap, cur, rfl, hb, hcb, hnc, hcm, hcs, htk⟩
  · cases A with
    | none =>
      clear ho hgr hblk how
      go_enter Tryz.func299, Tryz.ntmps299
      go_wp2_with (at_builtin; refine Lib.wpList_append_run _ rfl _ _ _ _ rfl _ _ rfl rfl _ _ hrun ?_)
      go_ret
      exact ⟨rfl, rfl⟩
    | some a0 =>
      obtain ⟨a1, a2, a3⟩ := a0
      clear ho hgr hblk how
      go_enter Tryz.func299, Tryz.ntmps299
      go_wp2_with (at_builtin; refine Lib.wpList_append_run _ rfl _ _ _ _ rfl _ _ rfl rfl _ _ hrun ?_)
      go_ret
      exact ⟨rfl, rfl⟩
  · have hc2 : cap ≤ 9223372036854775807 := hcm
    clear ho hgr hblk how
    go_enter Tryz.func299, Tryz.ntmps299
    go_wp2_with (at_builtin; refine Lib.wpList_append_run _ rfl _ _ _ _ rfl _ _ rfl rfl _ _ hrun ?_)
    all_goals (go_ret; exact ⟨rfl, rfl⟩)

theorem ins_walk_slices_Insert_impl_Mark_impl_Mark : InsWalk Tryz.prog 299 185 2 16 := by
  intro w v0 v1 n i fl vl h0 h1 hi hbig one0 one1 hne
  have hn63 : n + 1 ≤ maxLen := by simp only [maxLen]; omega
  rcases h1.2 with ⟨A, rfl, h⟩ | ⟨gv, cv, curv, rfl, hcv, hv, hv1, hv2, hv3, hvl⟩
  · cases h
  have hvs : vl.length = 2 := by rw [h1.1]
  rw [Nat.one_mul] at hvl
  by_cases hin : i = n
  · subst hin
    obtain ⟨v', w', k1, k2, k3, k4⟩ := ins_end_slices_Insert_impl_Mark_impl_Mark w v0 i gv cv curv fl vl hn63 hbig h0 hv hvl hvs one1
    refine k4.mono ?_
    rintro en w1 ⟨rfl, rfl⟩
    refine ⟨v', rfl, ?_, k2, k3⟩
    have : insC 2 i fl vl = fl ++ vl := by
      unfold insC
      rw [← h0.1, List.take_length, List.drop_length, List.append_nil]
    rw [this]; exact k1
  · rcases h0.2 with ⟨A, rfl, h⟩ | ⟨b, cap, cur, rfl, hcb, hb, hnc, hcm, hcs, htk⟩
    · omega
    · have hgb : gv ≠ b := fun h => hne b (ownB_of hcb) (by rw [h]; exact ownB_of hcv)
      have hlen : (insC 2 i fl vl).length = (n + 1) * 2 := by
        simp only [insC, List.length_append, List.length_take, List.length_drop, h0.1, hvs]
        omega
      by_cases hroom : n + 1 ≤ cap
      · obtain ⟨row, r1, r2, r3⟩ := ins_room_slices_Insert_impl_Mark_impl_Mark w b n cap i gv cv cur curv fl vl (by omega) hroom hcm hgb hb hcs htk h0.1 hv hvl hvs one0 one1
        refine r3.mono ?_
        rintro en w1 ⟨rfl, q1, q2, q3, q4⟩
        refine ⟨_, rfl, ⟨hlen, .inr ⟨b, cap, row, rfl, hcb, by rw [q4]; exact set_row_some hb, hroom, hcm, r1, r2⟩⟩, ⟨q1, q2, q3, by rw [q4]; simp, fun k hk hne => by rw [q4]; exact setRow_other w b k row (fun he => hne (by rw [he]; exact (ownB_of hcb).symm))⟩, fun g hg => .inr ?_⟩
        rw [ownB_of hcb] at hg ⊢
        exact hg
      · have hcn : cap = n := by omega
        subst hcn
        refine (ins_grow_slices_Insert_impl_Mark_impl_Mark w b cap i gv cv cur curv fl vl (by omega) hbig hb htk h0.1 hv hvl hvs one0 one1).mono ?_
        rintro en w1 ⟨G, row, g1, g2, rfl, q1, q2, q3, q4, q5, q6⟩
        refine ⟨_, rfl, ⟨hlen, .inr ⟨w.heap.size, G, row, rfl, by omega, by rw [q4]; simp, g1, g2, q5, q6⟩⟩, ⟨q1, q2, q3, by rw [q4]; simp, fun k hk _ => by rw [q4, Array.getElem?_push_lt hk, ← Array.getElem?_eq_getElem hk]⟩, fun g hg => .inl ?_⟩
        rw [ownB_of (by omega)] at hg
        cases hg; exact Nat.le_refl _
theorem sound_slices_Insert_impl_Mark_impl_Mark : Sound Tryz.prog 299 S_slices_Insert_impl_Mark_impl_Mark := sound_ins ins_walk_slices_Insert_impl_Mark_impl_Mark
theorem ok_slices_Insert_impl_Mark_impl_Mark : EnvOK Tryz.prog G_slices_Insert_impl_Mark_impl_Mark := envOK_sound ok_slices_Insert_impl_Contract_impl_Contract ⟨_, Tryz.func299, by kernel_rfl, by kernel_rfl⟩ sound_slices_Insert_impl_Mark_impl_Mark
theorem e_impl_withMark (n : Nat) (x) : afun G_slices_Insert_impl_Mark_impl_Mark T BB 0 n Tryz.f243 a_impl_withMark S_impl_withMark.ps S_impl_withMark.rs x = p_impl_withMark n x := by kernel_rfl
theorem ok_impl_withMark : EnvOK Tryz.prog G_impl_withMark := envOK_cons hm hT ok_slices_Insert_impl_Mark_impl_Mark Tryz.func243 (by kernel_rfl) hBB fun x r hr => ⟨FU, (e_impl_withMark FU x).trans hr⟩
theorem e_impl_Shard_vote (n : Nat) (x) : afun G_impl_withMark T BB 0 n Tryz.f148 a_impl_Shard_vote S_impl_Shard_vote.ps S_impl_Shard_vote.rs x = p_impl_Shard_vote n x := by kernel_rfl
theorem ok_impl_Shard_vote : EnvOK Tryz.prog G_impl_Shard_vote := envOK_cons hm hT ok_impl_withMark Tryz.func148 (by kernel_rfl) hBB fun x r hr => ⟨FU, (e_impl_Shard_vote FU x).trans hr⟩
theorem e_impl_VoteShard (n : Nat) (x) : afun G_impl_Shard_vote T BB 0 n Tryz.f54 a_impl_VoteShard S_impl_VoteShard.ps S_impl_VoteShard.rs x = p_impl_VoteShard n x := by kernel_rfl
theorem ok_impl_VoteShard : EnvOK Tryz.prog G_impl_VoteShard := envOK_cons hm hT ok_impl_Shard_vote Tryz.func54 (by kernel_rfl) hBB fun x r hr => ⟨FU, (e_impl_VoteShard FU x).trans hr⟩
theorem e_laws_eqBalance (n : Nat) (x) : afun G_impl_VoteShard T BB 0 n Tryz.f231 a_laws_eqBalance S_laws_eqBalance.ps S_laws_eqBalance.rs x = p_laws_eqBalance n x := by kernel_rfl
theorem ok_laws_eqBalance : EnvOK Tryz.prog G_laws_eqBalance := envOK_cons hm hT ok_impl_VoteShard Tryz.func231 (by kernel_rfl) hBB fun x r hr => ⟨FU, (e_laws_eqBalance FU x).trans hr⟩
theorem e_laws_eqBalanceS (n : Nat) (x) : afun G_laws_eqBalance T BB 0 n Tryz.f133 a_laws_eqBalanceS S_laws_eqBalanceS.ps S_laws_eqBalanceS.rs x = p_laws_eqBalanceS n x := by kernel_rfl
theorem ok_laws_eqBalanceS : EnvOK Tryz.prog G_laws_eqBalanceS := envOK_cons hm hT ok_laws_eqBalance Tryz.func133 (by kernel_rfl) hBB fun x r hr => ⟨FU, (e_laws_eqBalanceS FU x).trans hr⟩
theorem e_laws_eqMark (n : Nat) (x) : afun G_laws_eqBalanceS T BB 0 n Tryz.f232 a_laws_eqMark S_laws_eqMark.ps S_laws_eqMark.rs x = p_laws_eqMark n x := by kernel_rfl
theorem ok_laws_eqMark : EnvOK Tryz.prog G_laws_eqMark := envOK_cons hm hT ok_laws_eqBalanceS Tryz.func232 (by kernel_rfl) hBB fun x r hr => ⟨FU, (e_laws_eqMark FU x).trans hr⟩
theorem e_laws_eqMarkS (n : Nat) (x) : afun G_laws_eqMark T BB 0 n Tryz.f134 a_laws_eqMarkS S_laws_eqMarkS.ps S_laws_eqMarkS.rs x = p_laws_eqMarkS n x := by kernel_rfl
theorem ok_laws_eqMarkS : EnvOK Tryz.prog G_laws_eqMarkS := envOK_cons hm hT ok_laws_eqMark Tryz.func134 (by kernel_rfl) hBB fun x r hr => ⟨FU, (e_laws_eqMarkS FU x).trans hr⟩
theorem e_laws_eqLeg (n : Nat) (x) : afun G_laws_eqMarkS T BB 0 n Tryz.f193 a_laws_eqLeg S_laws_eqLeg.ps S_laws_eqLeg.rs x = p_laws_eqLeg n x := by kernel_rfl
theorem ok_laws_eqLeg : EnvOK Tryz.prog G_laws_eqLeg := envOK_cons hm hT ok_laws_eqMarkS Tryz.func193 (by kernel_rfl) hBB fun x r hr => ⟨FU, (e_laws_eqLeg FU x).trans hr⟩
theorem e_laws_eqLegS (n : Nat) (x) : afun G_laws_eqLeg T BB 0 n Tryz.f92 a_laws_eqLegS S_laws_eqLegS.ps S_laws_eqLegS.rs x = p_laws_eqLegS n x := by kernel_rfl
theorem ok_laws_eqLegS : EnvOK Tryz.prog G_laws_eqLegS := envOK_cons hm hT ok_laws_eqLeg Tryz.func92 (by kernel_rfl) hBB fun x r hr => ⟨FU, (e_laws_eqLegS FU x).trans hr⟩
theorem e_laws_eqContract (n : Nat) (x) : afun G_laws_eqLegS T BB 0 n Tryz.f28 a_laws_eqContract S_laws_eqContract.ps S_laws_eqContract.rs x = p_laws_eqContract n x := by kernel_rfl
theorem ok_laws_eqContract : EnvOK Tryz.prog G_laws_eqContract := envOK_cons hm hT ok_laws_eqLegS Tryz.func28 (by kernel_rfl) hBB fun x r hr => ⟨FU, (e_laws_eqContract FU x).trans hr⟩
theorem e_laws_eqContractS (n : Nat) (x) : afun G_laws_eqContract T BB 0 n Tryz.f112 a_laws_eqContractS S_laws_eqContractS.ps S_laws_eqContractS.rs x = p_laws_eqContractS n x := by kernel_rfl
theorem ok_laws_eqContractS : EnvOK Tryz.prog G_laws_eqContractS := envOK_cons hm hT ok_laws_eqContract Tryz.func112 (by kernel_rfl) hBB fun x r hr => ⟨FU, (e_laws_eqContractS FU x).trans hr⟩
theorem e_laws_eqInt64S (n : Nat) (x) : afun G_laws_eqContractS T BB 0 n Tryz.f18 a_laws_eqInt64S S_laws_eqInt64S.ps S_laws_eqInt64S.rs x = p_laws_eqInt64S n x := by kernel_rfl
theorem ok_laws_eqInt64S : EnvOK Tryz.prog G_laws_eqInt64S := envOK_cons hm hT ok_laws_eqContractS Tryz.func18 (by kernel_rfl) hBB fun x r hr => ⟨FU, (e_laws_eqInt64S FU x).trans hr⟩
theorem e_laws_eqShard (n : Nat) (x) : afun G_laws_eqInt64S T BB 0 n Tryz.f44 a_laws_eqShard S_laws_eqShard.ps S_laws_eqShard.rs x = p_laws_eqShard n x := by kernel_rfl
theorem ok_laws_eqShard : EnvOK Tryz.prog G_laws_eqShard := envOK_cons hm hT ok_laws_eqInt64S Tryz.func44 (by kernel_rfl) hBB fun x r hr => ⟨FU, (e_laws_eqShard FU x).trans hr⟩
theorem e_laws_eqShardResult (n : Nat) (x) : afun G_laws_eqShard T BB 0 n Tryz.f55 a_laws_eqShardResult S_laws_eqShardResult.ps S_laws_eqShardResult.rs x = p_laws_eqShardResult n x := by kernel_rfl
theorem ok_laws_eqShardResult : EnvOK Tryz.prog G_laws_eqShardResult := envOK_cons hm hT ok_laws_eqShard Tryz.func55 (by kernel_rfl) hBB fun x r hr => ⟨FU, (e_laws_eqShardResult FU x).trans hr⟩
theorem e_laws_markBalanceS (n : Nat) (x) : afun G_laws_eqShardResult T BB 0 n Tryz.f143 a_laws_markBalanceS S_laws_markBalanceS.ps S_laws_markBalanceS.rs x = p_laws_markBalanceS n x := by kernel_rfl
theorem ok_laws_markBalanceS : EnvOK Tryz.prog G_laws_markBalanceS := envOK_cons hm hT ok_laws_eqShardResult Tryz.func143 (by kernel_rfl) hBB fun x r hr => ⟨FU, (e_laws_markBalanceS FU x).trans hr⟩
theorem e_laws_markMarkS (n : Nat) (x) : afun G_laws_markBalanceS T BB 0 n Tryz.f144 a_laws_markMarkS S_laws_markMarkS.ps S_laws_markMarkS.rs x = p_laws_markMarkS n x := by kernel_rfl
theorem ok_laws_markMarkS : EnvOK Tryz.prog G_laws_markMarkS := envOK_cons hm hT ok_laws_markBalanceS Tryz.func144 (by kernel_rfl) hBB fun x r hr => ⟨FU, (e_laws_markMarkS FU x).trans hr⟩
theorem e_laws_markLegS (n : Nat) (x) : afun G_laws_markMarkS T BB 0 n Tryz.f149 a_laws_markLegS S_laws_markLegS.ps S_laws_markLegS.rs x = p_laws_markLegS n x := by kernel_rfl
theorem ok_laws_markLegS : EnvOK Tryz.prog G_laws_markLegS := envOK_cons hm hT ok_laws_markMarkS Tryz.func149 (by kernel_rfl) hBB fun x r hr => ⟨FU, (e_laws_markLegS FU x).trans hr⟩
theorem e_laws_markContractS (n : Nat) (x) : afun G_laws_markLegS T BB 0 n Tryz.f145 a_laws_markContractS S_laws_markContractS.ps S_laws_markContractS.rs x = p_laws_markContractS n x := by kernel_rfl
theorem ok_laws_markContractS : EnvOK Tryz.prog G_laws_markContractS := envOK_cons hm hT ok_laws_markLegS Tryz.func145 (by kernel_rfl) hBB fun x r hr => ⟨FU, (e_laws_markContractS FU x).trans hr⟩
theorem e_laws_markInt64S (n : Nat) (x) : afun G_laws_markContractS T BB 0 n Tryz.f20 a_laws_markInt64S S_laws_markInt64S.ps S_laws_markInt64S.rs x = p_laws_markInt64S n x := by kernel_rfl
theorem ok_laws_markInt64S : EnvOK Tryz.prog G_laws_markInt64S := envOK_cons hm hT ok_laws_markContractS Tryz.func20 (by kernel_rfl) hBB fun x r hr => ⟨FU, (e_laws_markInt64S FU x).trans hr⟩
theorem e_laws_heldBalanceS (n : Nat) (x) : afun G_laws_markInt64S T BB 0 n Tryz.f244 a_laws_heldBalanceS S_laws_heldBalanceS.ps S_laws_heldBalanceS.rs x = p_laws_heldBalanceS n x := by kernel_rfl
theorem ok_laws_heldBalanceS : EnvOK Tryz.prog G_laws_heldBalanceS := envOK_cons hm hT ok_laws_markInt64S Tryz.func244 (by kernel_rfl) hBB fun x r hr => ⟨FU, (e_laws_heldBalanceS FU x).trans hr⟩
theorem e_laws_heldMarkS (n : Nat) (x) : afun G_laws_heldBalanceS T BB 0 n Tryz.f245 a_laws_heldMarkS S_laws_heldMarkS.ps S_laws_heldMarkS.rs x = p_laws_heldMarkS n x := by kernel_rfl
theorem ok_laws_heldMarkS : EnvOK Tryz.prog G_laws_heldMarkS := envOK_cons hm hT ok_laws_heldBalanceS Tryz.func245 (by kernel_rfl) hBB fun x r hr => ⟨FU, (e_laws_heldMarkS FU x).trans hr⟩
theorem e_laws_heldLegS (n : Nat) (x) : afun G_laws_heldMarkS T BB 0 n Tryz.f300 a_laws_heldLegS S_laws_heldLegS.ps S_laws_heldLegS.rs x = p_laws_heldLegS n x := by kernel_rfl
theorem ok_laws_heldLegS : EnvOK Tryz.prog G_laws_heldLegS := envOK_cons hm hT ok_laws_heldMarkS Tryz.func300 (by kernel_rfl) hBB fun x r hr => ⟨FU, (e_laws_heldLegS FU x).trans hr⟩
theorem e_laws_heldContractS (n : Nat) (x) : afun G_laws_heldLegS T BB 0 n Tryz.f246 a_laws_heldContractS S_laws_heldContractS.ps S_laws_heldContractS.rs x = p_laws_heldContractS n x := by kernel_rfl
theorem ok_laws_heldContractS : EnvOK Tryz.prog G_laws_heldContractS := envOK_cons hm hT ok_laws_heldLegS Tryz.func246 (by kernel_rfl) hBB fun x r hr => ⟨FU, (e_laws_heldContractS FU x).trans hr⟩
theorem e_laws_heldInt64S (n : Nat) (x) : afun G_laws_heldContractS T BB 0 n Tryz.f146 a_laws_heldInt64S S_laws_heldInt64S.ps S_laws_heldInt64S.rs x = p_laws_heldInt64S n x := by kernel_rfl
theorem ok_laws_heldInt64S : EnvOK Tryz.prog G_laws_heldInt64S := envOK_cons hm hT ok_laws_heldContractS Tryz.func146 (by kernel_rfl) hBB fun x r hr => ⟨FU, (e_laws_heldInt64S FU x).trans hr⟩
theorem e_laws_heldShard (n : Nat) (x) : afun G_laws_heldInt64S T BB 0 n Tryz.f150 a_laws_heldShard S_laws_heldShard.ps S_laws_heldShard.rs x = p_laws_heldShard n x := by kernel_rfl
theorem ok_laws_heldShard : EnvOK Tryz.prog G_laws_heldShard := envOK_cons hm hT ok_laws_heldInt64S Tryz.func150 (by kernel_rfl) hBB fun x r hr => ⟨FU, (e_laws_heldShard FU x).trans hr⟩
theorem e_laws_heldShardResult (n : Nat) (x) : afun G_laws_heldShard T BB 0 n Tryz.f58 a_laws_heldShardResult S_laws_heldShardResult.ps S_laws_heldShardResult.rs x = p_laws_heldShardResult n x := by kernel_rfl
theorem ok_laws_heldShardResult : EnvOK Tryz.prog G_laws_heldShardResult := envOK_cons hm hT ok_laws_heldShard Tryz.func58 (by kernel_rfl) hBB fun x r hr => ⟨FU, (e_laws_heldShardResult FU x).trans hr⟩
theorem e_laws_FnExactVoteShard (n : Nat) (x) : afun G_laws_heldShardResult T BB 2 n Tryz.f10 a_laws_FnExactVoteShard S_laws_FnExactVoteShard.ps S_laws_FnExactVoteShard.rs x = p_laws_FnExactVoteShard n x := by kernel_rfl
theorem ok_laws_FnExactVoteShard : EnvOK Tryz.prog G_laws_FnExactVoteShard := envOK_cons hm hT ok_laws_heldShardResult Tryz.func10 (by kernel_rfl) hBB fun x r hr => ⟨FU, (e_laws_FnExactVoteShard FU x).trans hr⟩
end Go.RvP
