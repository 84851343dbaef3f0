/- Each function of the program is as its plain function says, for FnExactNewShard. No condition. -/
import Derived.Test.YtlpfmkjihbancaaRvP4
import Derived.Test.YtlpfmkjihbancaaProg
import Derived.KernelRfl
namespace Go.RvP
open Go Go.Rv Go.Proofs
set_option maxRecDepth 100000
theorem hm : Try.prog.follows .mixedOrders = true := by kernel_rfl
theorem hT : TabOK Try.prog T := tabOK_of (by kernel_rfl)
noncomputable def BB : Bodies := [(23, Try.f23), (71, Try.f71)]
theorem hBB : BodyOK Try.prog BB := (bodyOK_cons Try.func23 (by kernel_rfl) (bodyOK_cons Try.func71 (by kernel_rfl) bodyOK_nil))
theorem e_laws_szBalanceS (n : Nat) (x) : afun [] T BB 0 n Try.f16 a_laws_szBalanceS S_laws_szBalanceS.ps S_laws_szBalanceS.rs x = p_laws_szBalanceS n x := by kernel_rfl
theorem ok_laws_szBalanceS : EnvOK Try.prog G_laws_szBalanceS := envOK_cons hm hT envOK_nil Try.func16 (by kernel_rfl) hBB fun x r hr => ⟨FU, (e_laws_szBalanceS FU x).trans hr⟩
theorem e_laws_toBalance (n : Nat) (x) : afun G_laws_szBalanceS T BB 0 n Try.f65 a_laws_toBalance S_laws_toBalance.ps S_laws_toBalance.rs x = p_laws_toBalance n x := by kernel_rfl
theorem ok_laws_toBalance : EnvOK Try.prog G_laws_toBalance := envOK_cons hm hT ok_laws_szBalanceS Try.func65 (by kernel_rfl) hBB fun x r hr => ⟨FU, (e_laws_toBalance FU x).trans hr⟩
theorem e_laws_toBalanceS (n : Nat) (x) : afun G_laws_toBalance T BB 0 n Try.f18 a_laws_toBalanceS S_laws_toBalanceS.ps S_laws_toBalanceS.rs x = p_laws_toBalanceS n x := by kernel_rfl
theorem ok_laws_toBalanceS : EnvOK Try.prog G_laws_toBalanceS := envOK_cons hm hT ok_laws_toBalance Try.func18 (by kernel_rfl) hBB fun x r hr => ⟨FU, (e_laws_toBalanceS FU x).trans hr⟩
theorem e_spec_l1In (n : Nat) (x) : afun G_laws_toBalanceS T BB 0 n Try.f116 a_spec_l1In S_spec_l1In.ps S_spec_l1In.rs x = p_spec_l1In n x := by kernel_rfl
theorem ok_spec_l1In : EnvOK Try.prog G_spec_l1In := envOK_cons hm hT ok_laws_toBalanceS Try.func116 (by kernel_rfl) hBB fun x r hr => ⟨FU, (e_spec_l1In FU x).trans hr⟩
theorem e_spec_l2Key (n : Nat) (x) : afun G_spec_l1In T BB 0 n Try.f180 a_spec_l2Key S_spec_l2Key.ps S_spec_l2Key.rs x = p_spec_l2Key n x := by kernel_rfl
theorem ok_spec_l2Key : EnvOK Try.prog G_spec_l2Key := envOK_cons hm hT ok_spec_l1In Try.func180 (by kernel_rfl) hBB fun x r hr => ⟨FU, (e_spec_l2Key FU x).trans hr⟩
theorem e_spec_BalancesFault (n : Nat) (x) : afun G_spec_l2Key T BB 0 n Try.f128 a_spec_BalancesFault S_spec_BalancesFault.ps S_spec_BalancesFault.rs x = p_spec_BalancesFault n x := by kernel_rfl
theorem ok_spec_BalancesFault : EnvOK Try.prog G_spec_BalancesFault := envOK_cons hm hT ok_spec_l2Key Try.func128 (by kernel_rfl) hBB fun x r hr => ⟨FU, (e_spec_BalancesFault FU x).trans hr⟩
theorem e_spec_l10Base (n : Nat) (x) : afun G_spec_BalancesFault T BB 0 n Try.f64 a_spec_l10Base S_spec_l10Base.ps S_spec_l10Base.rs x = p_spec_l10Base n x := by kernel_rfl
theorem ok_spec_l10Base : EnvOK Try.prog G_spec_l10Base := envOK_cons hm hT ok_spec_BalancesFault Try.func64 (by kernel_rfl) hBB fun x r hr => ⟨FU, (e_spec_l10Base FU x).trans hr⟩
theorem e_spec_NewShard (n : Nat) (x) : afun G_spec_l10Base T BB 0 n Try.f17 a_spec_NewShard S_spec_NewShard.ps S_spec_NewShard.rs x = p_spec_NewShard n x := by kernel_rfl
theorem ok_spec_NewShard : EnvOK Try.prog G_spec_NewShard := envOK_cons hm hT ok_spec_l10Base Try.func17 (by kernel_rfl) hBB fun x r hr => ⟨FU, (e_spec_NewShard FU x).trans hr⟩
theorem e_impl_within (n : Nat) (x) : afun G_spec_NewShard T BB 0 n Try.f129 a_impl_within S_impl_within.ps S_impl_within.rs x = p_impl_within n x := by kernel_rfl
theorem ok_impl_within : EnvOK Try.prog G_impl_within := envOK_cons hm hT ok_spec_NewShard Try.func129 (by kernel_rfl) hBB fun x r hr => ⟨FU, (e_impl_within FU x).trans hr⟩
theorem e_impl_isShard (n : Nat) (x) : afun G_impl_within T BB 0 n Try.f66 a_impl_isShard S_impl_isShard.ps S_impl_isShard.rs x = p_impl_isShard n x := by kernel_rfl
theorem ok_impl_isShard : EnvOK Try.prog G_impl_isShard := envOK_cons hm hT ok_impl_within Try.func66 (by kernel_rfl) hBB fun x r hr => ⟨FU, (e_impl_isShard FU x).trans hr⟩
theorem e_impl_isAsset (n : Nat) (x) : afun G_impl_isShard T BB 0 n Try.f181 a_impl_isAsset S_impl_isAsset.ps S_impl_isAsset.rs x = p_impl_isAsset n x := by kernel_rfl
theorem ok_impl_isAsset : EnvOK Try.prog G_impl_isAsset := envOK_cons hm hT ok_impl_isShard Try.func181 (by kernel_rfl) hBB fun x r hr => ⟨FU, (e_impl_isAsset FU x).trans hr⟩
theorem e_impl_isPlace (n : Nat) (x) : afun G_impl_isAsset T BB 0 n Try.f130 a_impl_isPlace S_impl_isPlace.ps S_impl_isPlace.rs x = p_impl_isPlace n x := by kernel_rfl
theorem ok_impl_isPlace : EnvOK Try.prog G_impl_isPlace := envOK_cons hm hT ok_impl_isAsset Try.func130 (by kernel_rfl) hBB fun x r hr => ⟨FU, (e_impl_isPlace FU x).trans hr⟩
theorem e_cmp_isNaN_int64 (n : Nat) (x) : afun G_impl_isPlace T BB 0 n Try.f230 a_cmp_isNaN_int64 S_cmp_isNaN_int64.ps S_cmp_isNaN_int64.rs x = p_cmp_isNaN_int64 n x := by kernel_rfl
theorem ok_cmp_isNaN_int64 : EnvOK Try.prog G_cmp_isNaN_int64 := envOK_cons hm hT ok_impl_isPlace Try.func230 (by kernel_rfl) hBB fun x r hr => ⟨FU, (e_cmp_isNaN_int64 FU x).trans hr⟩
theorem e_cmp_Compare_int64 (n : Nat) (x) : afun G_cmp_isNaN_int64 T BB 0 n Try.f177 a_cmp_Compare_int64 S_cmp_Compare_int64.ps S_cmp_Compare_int64.rs x = p_cmp_Compare_int64 n x := by kernel_rfl
theorem ok_cmp_Compare_int64 : EnvOK Try.prog G_cmp_Compare_int64 := envOK_cons hm hT ok_cmp_isNaN_int64 Try.func177 (by kernel_rfl) hBB fun x r hr => ⟨FU, (e_cmp_Compare_int64 FU x).trans hr⟩
theorem e_cmp_Or_int (n : Nat) (x) : afun G_cmp_Compare_int64 T BB 0 n Try.f175 a_cmp_Or_int S_cmp_Or_int.ps S_cmp_Or_int.rs x = p_cmp_Or_int n x := by kernel_rfl
theorem ok_cmp_Or_int : EnvOK Try.prog G_cmp_Or_int := envOK_cons hm hT ok_cmp_Compare_int64 Try.func175 (by kernel_rfl) hBB fun x r hr => ⟨FU, (e_cmp_Or_int FU x).trans hr⟩
theorem e_impl_comparePlaces (n : Nat) (x) : afun G_cmp_Or_int T BB 0 n Try.f131 a_impl_comparePlaces S_impl_comparePlaces.ps S_impl_comparePlaces.rs x = p_impl_comparePlaces n x := by kernel_rfl
theorem ok_impl_comparePlaces : EnvOK Try.prog G_impl_comparePlaces := envOK_cons hm hT ok_cmp_Or_int Try.func131 (by kernel_rfl) hBB fun x r hr => ⟨FU, (e_impl_comparePlaces FU x).trans hr⟩
theorem e_impl_BalancesFault (n : Nat) (x) : afun G_impl_comparePlaces T BB 0 n Try.f67 a_impl_BalancesFault S_impl_BalancesFault.ps S_impl_BalancesFault.rs x = p_impl_BalancesFault n x := by kernel_rfl
theorem ok_impl_BalancesFault : EnvOK Try.prog G_impl_BalancesFault := envOK_cons hm hT ok_impl_comparePlaces Try.func67 (by kernel_rfl) hBB fun x r hr => ⟨FU, (e_impl_BalancesFault FU x).trans hr⟩
theorem e_slices_Clone_impl_Balance_impl_Balance (n : Nat) (x) : afun G_impl_BalancesFault T BB 0 n Try.f68 a_slices_Clone_impl_Balance_impl_Balance S_slices_Clone_impl_Balance_impl_Balance.ps S_slices_Clone_impl_Balance_impl_Balance.rs x = p_slices_Clone_impl_Balance_impl_Balance n x := by kernel_rfl
theorem ok_slices_Clone_impl_Balance_impl_Balance : EnvOK Try.prog G_slices_Clone_impl_Balance_impl_Balance := envOK_cons hm hT ok_impl_BalancesFault Try.func68 (by kernel_rfl) hBB fun x r hr => ⟨FU, (e_slices_Clone_impl_Balance_impl_Balance FU x).trans hr⟩
theorem e_impl_NewShard (n : Nat) (x) : afun G_slices_Clone_impl_Balance_impl_Balance T BB 0 n Try.f19 a_impl_NewShard S_impl_NewShard.ps S_impl_NewShard.rs x = p_impl_NewShard n x := by kernel_rfl
theorem ok_impl_NewShard : EnvOK Try.prog G_impl_NewShard := envOK_cons hm hT ok_slices_Clone_impl_Balance_impl_Balance Try.func19 (by kernel_rfl) hBB fun x r hr => ⟨FU, (e_impl_NewShard FU x).trans hr⟩
theorem e_laws_eqBalance (n : Nat) (x) : afun G_impl_NewShard T BB 0 n Try.f70 a_laws_eqBalance S_laws_eqBalance.ps S_laws_eqBalance.rs x = p_laws_eqBalance n x := by kernel_rfl
theorem ok_laws_eqBalance : EnvOK Try.prog G_laws_eqBalance := envOK_cons hm hT ok_impl_NewShard Try.func70 (by kernel_rfl) hBB fun x r hr => ⟨FU, (e_laws_eqBalance FU x).trans hr⟩
theorem e_laws_eqBalanceS (n : Nat) (x) : afun G_laws_eqBalance T BB 0 n Try.f21 a_laws_eqBalanceS S_laws_eqBalanceS.ps S_laws_eqBalanceS.rs x = p_laws_eqBalanceS n x := by kernel_rfl
theorem ok_laws_eqBalanceS : EnvOK Try.prog G_laws_eqBalanceS := envOK_cons hm hT ok_laws_eqBalance Try.func21 (by kernel_rfl) hBB fun x r hr => ⟨FU, (e_laws_eqBalanceS FU x).trans hr⟩
theorem e_laws_eqMark (n : Nat) (x) : afun G_laws_eqBalanceS T BB 0 n Try.f182 a_laws_eqMark S_laws_eqMark.ps S_laws_eqMark.rs x = p_laws_eqMark n x := by kernel_rfl
theorem ok_laws_eqMark : EnvOK Try.prog G_laws_eqMark := envOK_cons hm hT ok_laws_eqBalanceS Try.func182 (by kernel_rfl) hBB fun x r hr => ⟨FU, (e_laws_eqMark FU x).trans hr⟩
theorem e_laws_eqMarkS (n : Nat) (x) : afun G_laws_eqMark T BB 0 n Try.f132 a_laws_eqMarkS S_laws_eqMarkS.ps S_laws_eqMarkS.rs x = p_laws_eqMarkS n x := by kernel_rfl
theorem ok_laws_eqMarkS : EnvOK Try.prog G_laws_eqMarkS := envOK_cons hm hT ok_laws_eqMark Try.func132 (by kernel_rfl) hBB fun x r hr => ⟨FU, (e_laws_eqMarkS FU x).trans hr⟩
theorem e_laws_eqLeg (n : Nat) (x) : afun G_laws_eqMarkS T BB 0 n Try.f247 a_laws_eqLeg S_laws_eqLeg.ps S_laws_eqLeg.rs x = p_laws_eqLeg n x := by kernel_rfl
theorem ok_laws_eqLeg : EnvOK Try.prog G_laws_eqLeg := envOK_cons hm hT ok_laws_eqMarkS Try.func247 (by kernel_rfl) hBB fun x r hr => ⟨FU, (e_laws_eqLeg FU x).trans hr⟩
theorem e_laws_eqLegS (n : Nat) (x) : afun G_laws_eqLeg T BB 0 n Try.f232 a_laws_eqLegS S_laws_eqLegS.ps S_laws_eqLegS.rs x = p_laws_eqLegS n x := by kernel_rfl
theorem ok_laws_eqLegS : EnvOK Try.prog G_laws_eqLegS := envOK_cons hm hT ok_laws_eqLeg Try.func232 (by kernel_rfl) hBB fun x r hr => ⟨FU, (e_laws_eqLegS FU x).trans hr⟩
theorem e_laws_eqContract (n : Nat) (x) : afun G_laws_eqLegS T BB 0 n Try.f183 a_laws_eqContract S_laws_eqContract.ps S_laws_eqContract.rs x = p_laws_eqContract n x := by kernel_rfl
theorem ok_laws_eqContract : EnvOK Try.prog G_laws_eqContract := envOK_cons hm hT ok_laws_eqLegS Try.func183 (by kernel_rfl) hBB fun x r hr => ⟨FU, (e_laws_eqContract FU x).trans hr⟩
theorem e_laws_eqContractS (n : Nat) (x) : afun G_laws_eqContract T BB 0 n Try.f133 a_laws_eqContractS S_laws_eqContractS.ps S_laws_eqContractS.rs x = p_laws_eqContractS n x := by kernel_rfl
theorem ok_laws_eqContractS : EnvOK Try.prog G_laws_eqContractS := envOK_cons hm hT ok_laws_eqContract Try.func133 (by kernel_rfl) hBB fun x r hr => ⟨FU, (e_laws_eqContractS FU x).trans hr⟩
theorem e_laws_eqInt64S (n : Nat) (x) : afun G_laws_eqContractS T BB 0 n Try.f63 a_laws_eqInt64S S_laws_eqInt64S.ps S_laws_eqInt64S.rs x = p_laws_eqInt64S n x := by kernel_rfl
theorem ok_laws_eqInt64S : EnvOK Try.prog G_laws_eqInt64S := envOK_cons hm hT ok_laws_eqContractS Try.func63 (by kernel_rfl) hBB fun x r hr => ⟨FU, (e_laws_eqInt64S FU x).trans hr⟩
theorem e_laws_eqShard (n : Nat) (x) : afun G_laws_eqInt64S T BB 0 n Try.f69 a_laws_eqShard S_laws_eqShard.ps S_laws_eqShard.rs x = p_laws_eqShard n x := by kernel_rfl
theorem ok_laws_eqShard : EnvOK Try.prog G_laws_eqShard := envOK_cons hm hT ok_laws_eqInt64S Try.func69 (by kernel_rfl) hBB fun x r hr => ⟨FU, (e_laws_eqShard FU x).trans hr⟩
theorem e_laws_eqShardResult (n : Nat) (x) : afun G_laws_eqShard T BB 0 n Try.f20 a_laws_eqShardResult S_laws_eqShardResult.ps S_laws_eqShardResult.rs x = p_laws_eqShardResult n x := by kernel_rfl
theorem ok_laws_eqShardResult : EnvOK Try.prog G_laws_eqShardResult := envOK_cons hm hT ok_laws_eqShard Try.func20 (by kernel_rfl) hBB fun x r hr => ⟨FU, (e_laws_eqShardResult FU x).trans hr⟩
theorem e_laws_markBalanceS (n : Nat) (x) : afun G_laws_eqShardResult T BB 0 n Try.f22 a_laws_markBalanceS S_laws_markBalanceS.ps S_laws_markBalanceS.rs x = p_laws_markBalanceS n x := by kernel_rfl
theorem ok_laws_markBalanceS : EnvOK Try.prog G_laws_markBalanceS := envOK_cons hm hT ok_laws_eqShardResult Try.func22 (by kernel_rfl) hBB fun x r hr => ⟨FU, (e_laws_markBalanceS FU x).trans hr⟩
theorem e_laws_markMarkS (n : Nat) (x) : afun G_laws_markBalanceS T BB 0 n Try.f134 a_laws_markMarkS S_laws_markMarkS.ps S_laws_markMarkS.rs x = p_laws_markMarkS n x := by kernel_rfl
theorem ok_laws_markMarkS : EnvOK Try.prog G_laws_markMarkS := envOK_cons hm hT ok_laws_markBalanceS Try.func134 (by kernel_rfl) hBB fun x r hr => ⟨FU, (e_laws_markMarkS FU x).trans hr⟩
theorem e_laws_markLegS (n : Nat) (x) : afun G_laws_markMarkS T BB 0 n Try.f184 a_laws_markLegS S_laws_markLegS.ps S_laws_markLegS.rs x = p_laws_markLegS n x := by kernel_rfl
theorem ok_laws_markLegS : EnvOK Try.prog G_laws_markLegS := envOK_cons hm hT ok_laws_markMarkS Try.func184 (by kernel_rfl) hBB fun x r hr => ⟨FU, (e_laws_markLegS FU x).trans hr⟩
theorem e_laws_markContractS (n : Nat) (x) : afun G_laws_markLegS T BB 0 n Try.f135 a_laws_markContractS S_laws_markContractS.ps S_laws_markContractS.rs x = p_laws_markContractS n x := by kernel_rfl
theorem ok_laws_markContractS : EnvOK Try.prog G_laws_markContractS := envOK_cons hm hT ok_laws_markLegS Try.func135 (by kernel_rfl) hBB fun x r hr => ⟨FU, (e_laws_markContractS FU x).trans hr⟩
theorem e_laws_markInt64S (n : Nat) (x) : afun G_laws_markContractS T BB 0 n Try.f75 a_laws_markInt64S S_laws_markInt64S.ps S_laws_markInt64S.rs x = p_laws_markInt64S n x := by kernel_rfl
theorem ok_laws_markInt64S : EnvOK Try.prog G_laws_markInt64S := envOK_cons hm hT ok_laws_markContractS Try.func75 (by kernel_rfl) hBB fun x r hr => ⟨FU, (e_laws_markInt64S FU x).trans hr⟩
theorem e_laws_heldBalanceS (n : Nat) (x) : afun G_laws_markInt64S T BB 0 n Try.f136 a_laws_heldBalanceS S_laws_heldBalanceS.ps S_laws_heldBalanceS.rs x = p_laws_heldBalanceS n x := by kernel_rfl
theorem ok_laws_heldBalanceS : EnvOK Try.prog G_laws_heldBalanceS := envOK_cons hm hT ok_laws_markInt64S Try.func136 (by kernel_rfl) hBB fun x r hr => ⟨FU, (e_laws_heldBalanceS FU x).trans hr⟩
theorem e_laws_heldMarkS (n : Nat) (x) : afun G_laws_heldBalanceS T BB 0 n Try.f137 a_laws_heldMarkS S_laws_heldMarkS.ps S_laws_heldMarkS.rs x = p_laws_heldMarkS n x := by kernel_rfl
theorem ok_laws_heldMarkS : EnvOK Try.prog G_laws_heldMarkS := envOK_cons hm hT ok_laws_heldBalanceS Try.func137 (by kernel_rfl) hBB fun x r hr => ⟨FU, (e_laws_heldMarkS FU x).trans hr⟩
theorem e_laws_heldLegS (n : Nat) (x) : afun G_laws_heldMarkS T BB 0 n Try.f185 a_laws_heldLegS S_laws_heldLegS.ps S_laws_heldLegS.rs x = p_laws_heldLegS n x := by kernel_rfl
theorem ok_laws_heldLegS : EnvOK Try.prog G_laws_heldLegS := envOK_cons hm hT ok_laws_heldMarkS Try.func185 (by kernel_rfl) hBB fun x r hr => ⟨FU, (e_laws_heldLegS FU x).trans hr⟩
theorem e_laws_heldContractS (n : Nat) (x) : afun G_laws_heldLegS T BB 0 n Try.f138 a_laws_heldContractS S_laws_heldContractS.ps S_laws_heldContractS.rs x = p_laws_heldContractS n x := by kernel_rfl
theorem ok_laws_heldContractS : EnvOK Try.prog G_laws_heldContractS := envOK_cons hm hT ok_laws_heldLegS Try.func138 (by kernel_rfl) hBB fun x r hr => ⟨FU, (e_laws_heldContractS FU x).trans hr⟩
theorem e_laws_heldInt64S (n : Nat) (x) : afun G_laws_heldContractS T BB 0 n Try.f76 a_laws_heldInt64S S_laws_heldInt64S.ps S_laws_heldInt64S.rs x = p_laws_heldInt64S n x := by kernel_rfl
theorem ok_laws_heldInt64S : EnvOK Try.prog G_laws_heldInt64S := envOK_cons hm hT ok_laws_heldContractS Try.func76 (by kernel_rfl) hBB fun x r hr => ⟨FU, (e_laws_heldInt64S FU x).trans hr⟩
theorem e_laws_heldShard (n : Nat) (x) : afun G_laws_heldInt64S T BB 0 n Try.f72 a_laws_heldShard S_laws_heldShard.ps S_laws_heldShard.rs x = p_laws_heldShard n x := by kernel_rfl
theorem ok_laws_heldShard : EnvOK Try.prog G_laws_heldShard := envOK_cons hm hT ok_laws_heldInt64S Try.func72 (by kernel_rfl) hBB fun x r hr => ⟨FU, (e_laws_heldShard FU x).trans hr⟩
theorem e_laws_heldShardResult (n : Nat) (x) : afun G_laws_heldShard T BB 0 n Try.f24 a_laws_heldShardResult S_laws_heldShardResult.ps S_laws_heldShardResult.rs x = p_laws_heldShardResult n x := by kernel_rfl
theorem ok_laws_heldShardResult : EnvOK Try.prog G_laws_heldShardResult := envOK_cons hm hT ok_laws_heldShard Try.func24 (by kernel_rfl) hBB fun x r hr => ⟨FU, (e_laws_heldShardResult FU x).trans hr⟩
theorem e_laws_FnExactNewShard (n : Nat) (x) : afun G_laws_heldShardResult T BB 2 n Try.f4 a_laws_FnExactNewShard S_laws_FnExactNewShard.ps S_laws_FnExactNewShard.rs x = p_laws_FnExactNewShard n x := by kernel_rfl
theorem ok_laws_FnExactNewShard : EnvOK Try.prog G_laws_FnExactNewShard := envOK_cons hm hT ok_laws_heldShardResult Try.func4 (by kernel_rfl) hBB fun x r hr => ⟨FU, (e_laws_FnExactNewShard FU x).trans hr⟩
end Go.RvP
