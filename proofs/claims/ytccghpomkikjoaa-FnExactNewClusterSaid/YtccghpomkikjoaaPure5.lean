/- The plain law: spec and program answer alike, for FnExactNewCluster. Condition: the data are such as can come in. -/
import Derived.Test.YtccghpomkikjoaaRvP5
import Derived.Test.YtccghpomkikjoaaRvK
import Derived.Test.YtccghpomkikjoaaRvM
import Derived.Test.YtccghpomkikjoaaRvV
namespace Go.RvP
open Go.Rv
def W_BalanceS (xs : (List (Int × (Int × Int)))) : Nat := xs.length

theorem z_laws_szBalanceS (xs : (List (Int × (Int × Int)))) (h : WFk (.sl none (.pair (.int .i64) (.pair (.int .i64) (.int .i64)))) xs) : SZ m_laws_szBalanceS W_BalanceS xs := szf xs h.1

def W_BalanceSS (xs : (List (List (Int × (Int × Int))))) : Nat := xs.length + wsum W_BalanceS xs

theorem z_laws_szBalanceSS (xs : (List (List (Int × (Int × Int))))) (h : WFk (.sl none (.sl none (.pair (.int .i64) (.pair (.int .i64) (.int .i64))))) xs) : SZ m_laws_szBalanceSS W_BalanceSS xs := szl xs m_laws_szBalanceS W_BalanceS h.1 (fun x hx => z_laws_szBalanceS x (h.2 x hx))

def W_Ledger (x : (List (List (Int × (Int × Int))))) : Nat := W_BalanceSS x

theorem z_laws_szLedger (x : (List (List (Int × (Int × Int))))) (h : WFk (.one (.sl none (.sl none (.pair (.int .i64) (.pair (.int .i64) (.int .i64)))))) x) : SZ m_laws_szLedger W_Ledger x := by
  intro left h0 h1
  have hm : maxLen = 9223372036854775807 := rfl
  show p_laws_szLedger FU _ = _ ∨ (p_laws_szLedger FU _ = _ ∧ _)
  unfold p_laws_szLedger W_Ledger
  have b1 : 0 ≤ left := by omega
  rcases z_laws_szBalanceSS x h (left) (by omega) (by omega) with e1 | ⟨e1, f1⟩
  · left; simp only [e1, Option.bind_some, cond_false]; rfl
  · have d1 : decide (left - (W_BalanceSS x : Int) < 0) = false := decide_eq_false (by omega)
    exact .inr ⟨by simp only [e1, d1, Option.bind_some, cond_false], f1⟩

theorem o_laws_toBalance (x : (Int × (Int × Int))) : m_laws_toBalance x = some x := by
  show p_laws_toBalance FU _ = _
  unfold p_laws_toBalance
  rfl

theorem o_laws_toBalanceS (xs : (List (Int × (Int × Int)))) (h : W_BalanceS xs ≤ 1048576) : m_laws_toBalanceS xs = some xs := by
  unfold W_BalanceS at h
  show p_laws_toBalanceS FU xs = _
  unfold p_laws_toBalanceS
  rw [if_pos rfl, if_pos (by simp [lenI_eq])]
  have hb : Nat.ble (24 * (lenI xs).toNat) maxBytes = true := by rw [Nat.ble_eq]; simp only [lenI_eq, Int.toNat_natCast, maxBytes]; omega
  rw [chk_true hb]
  exact copy_loop2 xs _ m_laws_toBalance (fun x _ => o_laws_toBalance x) (by omega)

theorem o_laws_toBalanceSS (xs : (List (List (Int × (Int × Int))))) (h : W_BalanceSS xs ≤ 1048576) : m_laws_toBalanceSS xs = some xs := by
  unfold W_BalanceSS at h
  show p_laws_toBalanceSS FU xs = _
  unfold p_laws_toBalanceSS
  rw [if_pos rfl, if_pos (by simp [lenI_eq])]
  have hb : Nat.ble (24 * (lenI xs).toNat) maxBytes = true := by rw [Nat.ble_eq]; simp only [lenI_eq, Int.toNat_natCast, maxBytes]; omega
  rw [chk_true hb]
  exact copy_loop2 xs _ m_laws_toBalanceS (fun x hx => o_laws_toBalanceS x (by have := wsum_mem W_BalanceS xs x hx; omega)) (by omega)

theorem o_laws_toLedger (x : (List (List (Int × (Int × Int))))) (h : W_Ledger x ≤ 1048576) : m_laws_toLedger x = some x := by
  unfold W_Ledger at h
  show p_laws_toLedger FU _ = _
  unfold p_laws_toLedger
  simp only [o_laws_toBalanceSS x (by omega), Option.bind_some]

theorem eq_laws_eqLeg (x : (Int × (Int × (Int × Int)))) : m_laws_eqLeg (x, x) = some true := by
  show p_laws_eqLeg FU _ = _
  unfold p_laws_eqLeg
  simp only [beq_self_eq_true, Bool.not_true, cond_false]

def W_LegS (xs : (List (Int × (Int × (Int × Int))))) : Nat := xs.length

theorem eq_laws_eqLegS (xs : (List (Int × (Int × (Int × Int))))) (h : W_LegS xs ≤ 1048576) : m_laws_eqLegS (xs, xs) = some true := by
  unfold W_LegS at h
  show p_laws_eqLegS FU _ = _
  unfold p_laws_eqLegS
  simp only [beq_self_eq_true, Bool.not_true, cond_false]
  exact eq_loop xs m_laws_eqLeg (fun x _ => eq_laws_eqLeg x) (by omega)

def W_Contract (x : (Int × (List (Int × (Int × (Int × Int)))))) : Nat := W_LegS x.2

theorem eq_laws_eqContract (x : (Int × (List (Int × (Int × (Int × Int)))))) (h : W_Contract x ≤ 1048576) : m_laws_eqContract (x, x) = some true := by
  unfold W_Contract at h
  show p_laws_eqContract FU _ = _
  unfold p_laws_eqContract
  simp only [beq_self_eq_true, Bool.not_true, cond_false, eq_laws_eqLegS x.2 (by omega), Option.bind_some]

def W_ContractS (xs : (List (Int × (List (Int × (Int × (Int × Int))))))) : Nat := xs.length + wsum W_Contract xs

theorem eq_laws_eqContractS (xs : (List (Int × (List (Int × (Int × (Int × Int))))))) (h : W_ContractS xs ≤ 1048576) : m_laws_eqContractS (xs, xs) = some true := by
  unfold W_ContractS at h
  show p_laws_eqContractS FU _ = _
  unfold p_laws_eqContractS
  simp only [beq_self_eq_true, Bool.not_true, cond_false]
  exact eq_loop xs m_laws_eqContract (fun x hx => eq_laws_eqContract x (by have := wsum_mem W_Contract xs x hx; omega)) (by omega)

theorem eq_laws_eqBalance (x : (Int × (Int × Int))) : m_laws_eqBalance (x, x) = some true := by
  show p_laws_eqBalance FU _ = _
  unfold p_laws_eqBalance
  simp only [beq_self_eq_true, Bool.not_true, cond_false]

theorem eq_laws_eqBalanceS (xs : (List (Int × (Int × Int)))) (h : W_BalanceS xs ≤ 1048576) : m_laws_eqBalanceS (xs, xs) = some true := by
  unfold W_BalanceS at h
  show p_laws_eqBalanceS FU _ = _
  unfold p_laws_eqBalanceS
  simp only [beq_self_eq_true, Bool.not_true, cond_false]
  exact eq_loop xs m_laws_eqBalance (fun x _ => eq_laws_eqBalance x) (by omega)

theorem eq_laws_eqMark (x : (Int × Int)) : m_laws_eqMark (x, x) = some true := by
  show p_laws_eqMark FU _ = _
  unfold p_laws_eqMark
  simp only [beq_self_eq_true, Bool.not_true, cond_false]

def W_MarkS (xs : (List (Int × Int))) : Nat := xs.length

theorem eq_laws_eqMarkS (xs : (List (Int × Int))) (h : W_MarkS xs ≤ 1048576) : m_laws_eqMarkS (xs, xs) = some true := by
  unfold W_MarkS at h
  show p_laws_eqMarkS FU _ = _
  unfold p_laws_eqMarkS
  simp only [beq_self_eq_true, Bool.not_true, cond_false]
  exact eq_loop xs m_laws_eqMark (fun x _ => eq_laws_eqMark x) (by omega)

def W_Int64S (xs : (List Int)) : Nat := xs.length

theorem eq_laws_eqInt64S (xs : (List Int)) (h : W_Int64S xs ≤ 1048576) : m_laws_eqInt64S (xs, xs) = some true := by
  unfold W_Int64S at h
  show p_laws_eqInt64S FU _ = _
  unfold p_laws_eqInt64S
  simp only [beq_self_eq_true, Bool.not_true, cond_false]
  exact eq_flat xs (by omega)

def W_Shard (x : (Int × ((List (Int × (Int × Int))) × ((List (Int × Int)) × ((List (Int × (List (Int × (Int × (Int × Int)))))) × ((List (Int × Int)) × (List Int))))))) : Nat := W_BalanceS x.2.1 + W_MarkS x.2.2.1 + W_ContractS x.2.2.2.1 + W_MarkS x.2.2.2.2.1 + W_Int64S x.2.2.2.2.2

theorem eq_laws_eqShard (x : (Int × ((List (Int × (Int × Int))) × ((List (Int × Int)) × ((List (Int × (List (Int × (Int × (Int × Int)))))) × ((List (Int × Int)) × (List Int))))))) (h : W_Shard x ≤ 1048576) : m_laws_eqShard (x, x) = some true := by
  unfold W_Shard at h
  show p_laws_eqShard FU _ = _
  unfold p_laws_eqShard
  simp only [beq_self_eq_true, Bool.not_true, cond_false, eq_laws_eqBalanceS x.2.1 (by omega), eq_laws_eqMarkS x.2.2.1 (by omega), eq_laws_eqContractS x.2.2.2.1 (by omega), eq_laws_eqMarkS x.2.2.2.2.1 (by omega), eq_laws_eqInt64S x.2.2.2.2.2 (by omega), Option.bind_some]

def W_ShardS (xs : (List (Int × ((List (Int × (Int × Int))) × ((List (Int × Int)) × ((List (Int × (List (Int × (Int × (Int × Int)))))) × ((List (Int × Int)) × (List Int)))))))) : Nat := xs.length + wsum W_Shard xs

theorem eq_laws_eqShardS (xs : (List (Int × ((List (Int × (Int × Int))) × ((List (Int × Int)) × ((List (Int × (List (Int × (Int × (Int × Int)))))) × ((List (Int × Int)) × (List Int)))))))) (h : W_ShardS xs ≤ 1048576) : m_laws_eqShardS (xs, xs) = some true := by
  unfold W_ShardS at h
  show p_laws_eqShardS FU _ = _
  unfold p_laws_eqShardS
  simp only [beq_self_eq_true, Bool.not_true, cond_false]
  exact eq_loop xs m_laws_eqShard (fun x hx => eq_laws_eqShard x (by have := wsum_mem W_Shard xs x hx; omega)) (by omega)

theorem eq_laws_eqVote (x : (Int × Int)) : m_laws_eqVote (x, x) = some true := by
  show p_laws_eqVote FU _ = _
  unfold p_laws_eqVote
  simp only [beq_self_eq_true, Bool.not_true, cond_false]

def W_VoteS (xs : (List (Int × Int))) : Nat := xs.length

theorem eq_laws_eqVoteS (xs : (List (Int × Int))) (h : W_VoteS xs ≤ 1048576) : m_laws_eqVoteS (xs, xs) = some true := by
  unfold W_VoteS at h
  show p_laws_eqVoteS FU _ = _
  unfold p_laws_eqVoteS
  simp only [beq_self_eq_true, Bool.not_true, cond_false]
  exact eq_loop xs m_laws_eqVote (fun x _ => eq_laws_eqVote x) (by omega)

def W_Slot (x : (Int × (Int × (Int × ((Int × Int) × (List (Int × Int))))))) : Nat := W_VoteS x.2.2.2.2

theorem eq_laws_eqSlot (x : (Int × (Int × (Int × ((Int × Int) × (List (Int × Int))))))) (h : W_Slot x ≤ 1048576) : m_laws_eqSlot (x, x) = some true := by
  unfold W_Slot at h
  show p_laws_eqSlot FU _ = _
  unfold p_laws_eqSlot
  simp only [beq_self_eq_true, Bool.not_true, cond_false, eq_laws_eqVote x.2.2.2.1, eq_laws_eqVoteS x.2.2.2.2 (by omega), Option.bind_some]

def W_SlotS (xs : (List (Int × (Int × (Int × ((Int × Int) × (List (Int × Int)))))))) : Nat := xs.length + wsum W_Slot xs

theorem eq_laws_eqSlotS (xs : (List (Int × (Int × (Int × ((Int × Int) × (List (Int × Int)))))))) (h : W_SlotS xs ≤ 1048576) : m_laws_eqSlotS (xs, xs) = some true := by
  unfold W_SlotS at h
  show p_laws_eqSlotS FU _ = _
  unfold p_laws_eqSlotS
  simp only [beq_self_eq_true, Bool.not_true, cond_false]
  exact eq_loop xs m_laws_eqSlot (fun x hx => eq_laws_eqSlot x (by have := wsum_mem W_Slot xs x hx; omega)) (by omega)

def W_Acceptor (x : (List (Int × (Int × (Int × ((Int × Int) × (List (Int × Int)))))))) : Nat := W_SlotS x

theorem eq_laws_eqAcceptor (x : (List (Int × (Int × (Int × ((Int × Int) × (List (Int × Int)))))))) (h : W_Acceptor x ≤ 1048576) : m_laws_eqAcceptor (x, x) = some true := by
  unfold W_Acceptor at h
  show p_laws_eqAcceptor FU _ = _
  unfold p_laws_eqAcceptor
  simp only [beq_self_eq_true, Bool.not_true, cond_false, eq_laws_eqSlotS x (by omega), Option.bind_some]

def W_AcceptorS (xs : (List (List (Int × (Int × (Int × ((Int × Int) × (List (Int × Int))))))))) : Nat := xs.length + wsum W_Acceptor xs

theorem eq_laws_eqAcceptorS (xs : (List (List (Int × (Int × (Int × ((Int × Int) × (List (Int × Int))))))))) (h : W_AcceptorS xs ≤ 1048576) : m_laws_eqAcceptorS (xs, xs) = some true := by
  unfold W_AcceptorS at h
  show p_laws_eqAcceptorS FU _ = _
  unfold p_laws_eqAcceptorS
  simp only [beq_self_eq_true, Bool.not_true, cond_false]
  exact eq_loop xs m_laws_eqAcceptor (fun x hx => eq_laws_eqAcceptor x (by have := wsum_mem W_Acceptor xs x hx; omega)) (by omega)

def W_Try (x : (Int × (Int × (Int × (Int × ((List Int) × (List (Int × Int)))))))) : Nat := W_Int64S x.2.2.2.2.1 + W_VoteS x.2.2.2.2.2

theorem eq_laws_eqTry (x : (Int × (Int × (Int × (Int × ((List Int) × (List (Int × Int)))))))) (h : W_Try x ≤ 1048576) : m_laws_eqTry (x, x) = some true := by
  unfold W_Try at h
  show p_laws_eqTry FU _ = _
  unfold p_laws_eqTry
  simp only [beq_self_eq_true, Bool.not_true, cond_false, eq_laws_eqInt64S x.2.2.2.2.1 (by omega), eq_laws_eqVoteS x.2.2.2.2.2 (by omega), Option.bind_some]

def W_TryS (xs : (List (Int × (Int × (Int × (Int × ((List Int) × (List (Int × Int))))))))) : Nat := xs.length + wsum W_Try xs

theorem eq_laws_eqTryS (xs : (List (Int × (Int × (Int × (Int × ((List Int) × (List (Int × Int))))))))) (h : W_TryS xs ≤ 1048576) : m_laws_eqTryS (xs, xs) = some true := by
  unfold W_TryS at h
  show p_laws_eqTryS FU _ = _
  unfold p_laws_eqTryS
  simp only [beq_self_eq_true, Bool.not_true, cond_false]
  exact eq_loop xs m_laws_eqTry (fun x hx => eq_laws_eqTry x (by have := wsum_mem W_Try xs x hx; omega)) (by omega)

theorem eq_laws_eqHeard (x : (Int × (Int × (Int × (Int × Int))))) : m_laws_eqHeard (x, x) = some true := by
  show p_laws_eqHeard FU _ = _
  unfold p_laws_eqHeard
  simp only [beq_self_eq_true, Bool.not_true, cond_false]

def W_HeardS (xs : (List (Int × (Int × (Int × (Int × Int)))))) : Nat := xs.length

theorem eq_laws_eqHeardS (xs : (List (Int × (Int × (Int × (Int × Int)))))) (h : W_HeardS xs ≤ 1048576) : m_laws_eqHeardS (xs, xs) = some true := by
  unfold W_HeardS at h
  show p_laws_eqHeardS FU _ = _
  unfold p_laws_eqHeardS
  simp only [beq_self_eq_true, Bool.not_true, cond_false]
  exact eq_loop xs m_laws_eqHeard (fun x _ => eq_laws_eqHeard x) (by omega)

def W_Leader (x : (Int × ((List (Int × (Int × (Int × (Int × ((List Int) × (List (Int × Int)))))))) × (List (Int × (Int × (Int × (Int × Int)))))))) : Nat := W_TryS x.2.1 + W_HeardS x.2.2

theorem eq_laws_eqLeader (x : (Int × ((List (Int × (Int × (Int × (Int × ((List Int) × (List (Int × Int)))))))) × (List (Int × (Int × (Int × (Int × Int)))))))) (h : W_Leader x ≤ 1048576) : m_laws_eqLeader (x, x) = some true := by
  unfold W_Leader at h
  show p_laws_eqLeader FU _ = _
  unfold p_laws_eqLeader
  simp only [beq_self_eq_true, Bool.not_true, cond_false, eq_laws_eqTryS x.2.1 (by omega), eq_laws_eqHeardS x.2.2 (by omega), Option.bind_some]

def W_LeaderS (xs : (List (Int × ((List (Int × (Int × (Int × (Int × ((List Int) × (List (Int × Int)))))))) × (List (Int × (Int × (Int × (Int × Int))))))))) : Nat := xs.length + wsum W_Leader xs

theorem eq_laws_eqLeaderS (xs : (List (Int × ((List (Int × (Int × (Int × (Int × ((List Int) × (List (Int × Int)))))))) × (List (Int × (Int × (Int × (Int × Int))))))))) (h : W_LeaderS xs ≤ 1048576) : m_laws_eqLeaderS (xs, xs) = some true := by
  unfold W_LeaderS at h
  show p_laws_eqLeaderS FU _ = _
  unfold p_laws_eqLeaderS
  simp only [beq_self_eq_true, Bool.not_true, cond_false]
  exact eq_loop xs m_laws_eqLeader (fun x hx => eq_laws_eqLeader x (by have := wsum_mem W_Leader xs x hx; omega)) (by omega)

theorem eq_laws_eqMessage (x : (Int × (Int × (Int × (Int × (Int × (Int × (Int × (Int × Int))))))))) : m_laws_eqMessage (x, x) = some true := by
  show p_laws_eqMessage FU _ = _
  unfold p_laws_eqMessage
  simp only [beq_self_eq_true, Bool.not_true, cond_false, eq_laws_eqVote x.2.2.2.2.2.2.2, Option.bind_some]

def W_MessageS (xs : (List (Int × (Int × (Int × (Int × (Int × (Int × (Int × (Int × Int)))))))))) : Nat := xs.length

theorem eq_laws_eqMessageS (xs : (List (Int × (Int × (Int × (Int × (Int × (Int × (Int × (Int × Int)))))))))) (h : W_MessageS xs ≤ 1048576) : m_laws_eqMessageS (xs, xs) = some true := by
  unfold W_MessageS at h
  show p_laws_eqMessageS FU _ = _
  unfold p_laws_eqMessageS
  simp only [beq_self_eq_true, Bool.not_true, cond_false]
  exact eq_loop xs m_laws_eqMessage (fun x _ => eq_laws_eqMessage x) (by omega)

def W_Cluster (x : ((List (Int × (List (Int × (Int × (Int × Int)))))) × ((List (Int × ((List (Int × (Int × Int))) × ((List (Int × Int)) × ((List (Int × (List (Int × (Int × (Int × Int)))))) × ((List (Int × Int)) × (List Int))))))) × ((List (List (Int × (Int × (Int × ((Int × Int) × (List (Int × Int)))))))) × ((List (Int × ((List (Int × (Int × (Int × (Int × ((List Int) × (List (Int × Int)))))))) × (List (Int × (Int × (Int × (Int × Int)))))))) × (List (Int × (Int × (Int × (Int × (Int × (Int × (Int × (Int × Int)))))))))))))) : Nat := W_ContractS x.1 + W_ShardS x.2.1 + W_AcceptorS x.2.2.1 + W_LeaderS x.2.2.2.1 + W_MessageS x.2.2.2.2

theorem eq_laws_eqCluster (x : ((List (Int × (List (Int × (Int × (Int × Int)))))) × ((List (Int × ((List (Int × (Int × Int))) × ((List (Int × Int)) × ((List (Int × (List (Int × (Int × (Int × Int)))))) × ((List (Int × Int)) × (List Int))))))) × ((List (List (Int × (Int × (Int × ((Int × Int) × (List (Int × Int)))))))) × ((List (Int × ((List (Int × (Int × (Int × (Int × ((List Int) × (List (Int × Int)))))))) × (List (Int × (Int × (Int × (Int × Int)))))))) × (List (Int × (Int × (Int × (Int × (Int × (Int × (Int × (Int × Int)))))))))))))) (h : W_Cluster x ≤ 1048576) : m_laws_eqCluster (x, x) = some true := by
  unfold W_Cluster at h
  show p_laws_eqCluster FU _ = _
  unfold p_laws_eqCluster
  simp only [beq_self_eq_true, Bool.not_true, cond_false, eq_laws_eqContractS x.1 (by omega), eq_laws_eqShardS x.2.1 (by omega), eq_laws_eqAcceptorS x.2.2.1 (by omega), eq_laws_eqLeaderS x.2.2.2.1 (by omega), eq_laws_eqMessageS x.2.2.2.2 (by omega), Option.bind_some]

def W_ClusterResult (x : (Int × ((List (Int × (List (Int × (Int × (Int × Int)))))) × ((List (Int × ((List (Int × (Int × Int))) × ((List (Int × Int)) × ((List (Int × (List (Int × (Int × (Int × Int)))))) × ((List (Int × Int)) × (List Int))))))) × ((List (List (Int × (Int × (Int × ((Int × Int) × (List (Int × Int)))))))) × ((List (Int × ((List (Int × (Int × (Int × (Int × ((List Int) × (List (Int × Int)))))))) × (List (Int × (Int × (Int × (Int × Int)))))))) × (List (Int × (Int × (Int × (Int × (Int × (Int × (Int × (Int × Int))))))))))))))) : Nat := W_Cluster x.2

theorem eq_laws_eqClusterResult (x : (Int × ((List (Int × (List (Int × (Int × (Int × Int)))))) × ((List (Int × ((List (Int × (Int × Int))) × ((List (Int × Int)) × ((List (Int × (List (Int × (Int × (Int × Int)))))) × ((List (Int × Int)) × (List Int))))))) × ((List (List (Int × (Int × (Int × ((Int × Int) × (List (Int × Int)))))))) × ((List (Int × ((List (Int × (Int × (Int × (Int × ((List Int) × (List (Int × Int)))))))) × (List (Int × (Int × (Int × (Int × Int)))))))) × (List (Int × (Int × (Int × (Int × (Int × (Int × (Int × (Int × Int))))))))))))))) (h : W_ClusterResult x ≤ 1048576) : m_laws_eqClusterResult (x, x) = some true := by
  unfold W_ClusterResult at h
  show p_laws_eqClusterResult FU _ = _
  unfold p_laws_eqClusterResult
  simp only [beq_self_eq_true, Bool.not_true, cond_false, eq_laws_eqCluster x.2 (by omega), Option.bind_some]

theorem eq_laws_eqBalanceSS (xs : (List (List (Int × (Int × Int))))) (h : W_BalanceSS xs ≤ 1048576) : m_laws_eqBalanceSS (xs, xs) = some true := by
  unfold W_BalanceSS at h
  show p_laws_eqBalanceSS FU _ = _
  unfold p_laws_eqBalanceSS
  simp only [beq_self_eq_true, Bool.not_true, cond_false]
  exact eq_loop xs m_laws_eqBalanceS (fun x hx => eq_laws_eqBalanceS x (by have := wsum_mem W_BalanceS xs x hx; omega)) (by omega)

theorem eq_laws_eqLedger (x : (List (List (Int × (Int × Int))))) (h : W_Ledger x ≤ 1048576) : m_laws_eqLedger (x, x) = some true := by
  unfold W_Ledger at h
  show p_laws_eqLedger FU _ = _
  unfold p_laws_eqLedger
  simp only [beq_self_eq_true, Bool.not_true, cond_false, eq_laws_eqBalanceSS x (by omega), Option.bind_some]

def V_Balance (_ : (Int × (Int × Int))) : Nat := 3

def V_BalanceS (xs : (List (Int × (Int × Int)))) : Nat := wsum V_Balance xs

theorem vb_BalanceS (xs : (List (Int × (Int × Int)))) : V_BalanceS xs ≤ 3 * W_BalanceS xs := wsum_bnd V_Balance 3 xs (fun x _ => by unfold V_Balance; omega)

def V_BalanceSS (xs : (List (List (Int × (Int × Int))))) : Nat := wsum V_BalanceS xs

theorem vb_BalanceSS (xs : (List (List (Int × (Int × Int))))) : V_BalanceSS xs ≤ 3 * W_BalanceSS xs := wsum_le V_BalanceS W_BalanceS 3 xs (fun x _ => by have := vb_BalanceS x; omega)

theorem mh_BalanceS (xs : (List (Int × (Int × Int)))) (k : Int) (hW : W_BalanceS xs ≤ 1048576) (h0 : 0 ≤ k) (hk : k + (V_BalanceS xs : Int) ≤ B40) : ∃ L : (List (Int × (Int × Int))), L.length = xs.length ∧ m_laws_markBalanceS (xs, k) = some (k + (V_BalanceS xs : Int), L) ∧ m_laws_heldBalanceS (L, k) = some (k + (V_BalanceS xs : Int)) := by
  unfold W_BalanceS at hW
  have hB : B40 = 1099511627776 := rfl
  show ∃ L : (List (Int × (Int × Int))), _ ∧ p_laws_markBalanceS FU (xs, k) = _ ∧ p_laws_heldBalanceS FU (L, k) = _
  unfold p_laws_markBalanceS l_laws_markBalanceS_1 p_laws_heldBalanceS l_laws_heldBalanceS_1
  dsimp only
  refine mark_held V_Balance xs k (by unfold B36; omega) h0 hk (fun i k x hx hi h0 hk hw => ?_) (fun k L rec => ?_) (fun k L rec => ?_)
  · have hx := True.intro
    unfold V_Balance at hk ⊢
    have w1 : IntKind.wrap .i64 (k + 1) = k + 1 := wrap64 (by omega) (by omega)
    have w2 : IntKind.wrap .i64 (k + 1 + 1) = k + 1 + 1 := wrap64 (by omega) (by omega)
    have w3 : IntKind.wrap .i64 (k + 1 + 1 + 1) = k + 1 + 1 + 1 := wrap64 (by omega) (by omega)
    have ew : k + ((3 : Nat) : Int) = k + 1 + 1 + 1 := by omega
    rw [ew]
    refine ⟨(k, (k + 1, k + 1 + 1)), fun L hL g1 g2 rec => ?_, fun L hL g1 rec => ?_⟩
    · simp only [lt_lenI hL, cond_true, g1, g2, Option.bind_some, Int.toNat_natCast, geti_set hL, gets_set hL, List.set_set, w1, w2, w3, hw]
    · simp only [lt_lenI hL, cond_true, g1, Option.bind_some, beq_self_eq_true, Bool.not_true, cond_false, w1, w2, w3, hw]
  · simp only [ge_lenI, cond_false]
  · simp only [ge_lenI, cond_false]

theorem mk_BalanceSS (xs : (List (List (Int × (Int × Int))))) (k : Int) (hW : W_BalanceSS xs ≤ 1048576) (h0 : 0 ≤ k) (hk : k + (V_BalanceSS xs : Int) ≤ B40) : ∃ L : (List (List (Int × (Int × Int)))), L.length = xs.length ∧ m_laws_markBalanceSS (xs, k) = some (k + (V_BalanceSS xs : Int), L) := by
  unfold W_BalanceSS at hW
  have hB : B40 = 1099511627776 := rfl
  show ∃ L : (List (List (Int × (Int × Int)))), _ ∧ p_laws_markBalanceSS FU (xs, k) = _
  unfold p_laws_markBalanceSS l_laws_markBalanceSS_1
  dsimp only
  refine mark_only V_BalanceS xs k (by unfold B36; omega) h0 hk (fun i k x hx hi h0 hk hw => ?_) (fun k L rec => ?_)
  · have hx : W_BalanceS x ≤ 1048576 := by have := wsum_mem W_BalanceS xs x hx; omega
    obtain ⟨L1, _, m1, q1⟩ := mh_BalanceS x (k) (by omega) (by omega) (by omega)
    have ew : k + ((V_BalanceS x : Nat) : Int) = k + (V_BalanceS x : Int) := by omega
    rw [ew]
    refine ⟨L1, fun L hL g1 g2 rec => ?_⟩
    · simp only [lt_lenI hL, cond_true, g1, g2, Option.bind_some, Int.toNat_natCast, geti_set hL, gets_set hL, List.set_set, m1, hw]
  · simp only [ge_lenI, cond_false]

def V_Leg (_ : (Int × (Int × (Int × Int)))) : Nat := 4

def V_LegS (xs : (List (Int × (Int × (Int × Int))))) : Nat := wsum V_Leg xs

theorem vb_LegS (xs : (List (Int × (Int × (Int × Int))))) : V_LegS xs ≤ 4 * W_LegS xs := wsum_bnd V_Leg 4 xs (fun x _ => by unfold V_Leg; omega)

theorem mh_LegS (xs : (List (Int × (Int × (Int × Int))))) (k : Int) (hW : W_LegS xs ≤ 1048576) (h0 : 0 ≤ k) (hk : k + (V_LegS xs : Int) ≤ B40) : ∃ L : (List (Int × (Int × (Int × Int)))), L.length = xs.length ∧ m_laws_markLegS (xs, k) = some (k + (V_LegS xs : Int), L) ∧ m_laws_heldLegS (L, k) = some (k + (V_LegS xs : Int)) := by
  unfold W_LegS at hW
  have hB : B40 = 1099511627776 := rfl
  show ∃ L : (List (Int × (Int × (Int × Int)))), _ ∧ p_laws_markLegS FU (xs, k) = _ ∧ p_laws_heldLegS FU (L, k) = _
  unfold p_laws_markLegS l_laws_markLegS_1 p_laws_heldLegS l_laws_heldLegS_1
  dsimp only
  refine mark_held V_Leg xs k (by unfold B36; omega) h0 hk (fun i k x hx hi h0 hk hw => ?_) (fun k L rec => ?_) (fun k L rec => ?_)
  · have hx := True.intro
    unfold V_Leg at hk ⊢
    have w1 : IntKind.wrap .i64 (k + 1) = k + 1 := wrap64 (by omega) (by omega)
    have w2 : IntKind.wrap .i64 (k + 1 + 1) = k + 1 + 1 := wrap64 (by omega) (by omega)
    have w3 : IntKind.wrap .i64 (k + 1 + 1 + 1) = k + 1 + 1 + 1 := wrap64 (by omega) (by omega)
    have w4 : IntKind.wrap .i64 (k + 1 + 1 + 1 + 1) = k + 1 + 1 + 1 + 1 := wrap64 (by omega) (by omega)
    have ew : k + ((4 : Nat) : Int) = k + 1 + 1 + 1 + 1 := by omega
    rw [ew]
    refine ⟨(k, (k + 1, (k + 1 + 1, k + 1 + 1 + 1))), fun L hL g1 g2 rec => ?_, fun L hL g1 rec => ?_⟩
    · simp only [lt_lenI hL, cond_true, g1, g2, Option.bind_some, Int.toNat_natCast, geti_set hL, gets_set hL, List.set_set, w1, w2, w3, w4, hw]
    · simp only [lt_lenI hL, cond_true, g1, Option.bind_some, beq_self_eq_true, Bool.not_true, cond_false, w1, w2, w3, w4, hw]
  · simp only [ge_lenI, cond_false]
  · simp only [ge_lenI, cond_false]

def V_Contract (x : (Int × (List (Int × (Int × (Int × Int)))))) : Nat := 1 + V_LegS x.2

def V_ContractS (xs : (List (Int × (List (Int × (Int × (Int × Int))))))) : Nat := wsum V_Contract xs

theorem vb_ContractS (xs : (List (Int × (List (Int × (Int × (Int × Int))))))) : V_ContractS xs ≤ 4 * W_ContractS xs := wsum_le V_Contract W_Contract 4 xs (fun x _ => by have := vb_LegS x.2; unfold V_Contract W_Contract; omega)

theorem mh_ContractS (xs : (List (Int × (List (Int × (Int × (Int × Int))))))) (k : Int) (hW : W_ContractS xs ≤ 1048576) (h0 : 0 ≤ k) (hk : k + (V_ContractS xs : Int) ≤ B40) : ∃ L : (List (Int × (List (Int × (Int × (Int × Int)))))), L.length = xs.length ∧ m_laws_markContractS (xs, k) = some (k + (V_ContractS xs : Int), L) ∧ m_laws_heldContractS (L, k) = some (k + (V_ContractS xs : Int)) := by
  unfold W_ContractS at hW
  have hB : B40 = 1099511627776 := rfl
  show ∃ L : (List (Int × (List (Int × (Int × (Int × Int)))))), _ ∧ p_laws_markContractS FU (xs, k) = _ ∧ p_laws_heldContractS FU (L, k) = _
  unfold p_laws_markContractS l_laws_markContractS_1 p_laws_heldContractS l_laws_heldContractS_1
  dsimp only
  refine mark_held V_Contract xs k (by unfold B36; omega) h0 hk (fun i k x hx hi h0 hk hw => ?_) (fun k L rec => ?_) (fun k L rec => ?_)
  · have hx : W_Contract x ≤ 1048576 := by have := wsum_mem W_Contract xs x hx; omega
    unfold W_Contract at hx
    unfold V_Contract at hk ⊢
    have w1 : IntKind.wrap .i64 (k + 1) = k + 1 := wrap64 (by omega) (by omega)
    obtain ⟨L1, _, m1, q1⟩ := mh_LegS x.2 (k + 1) (by omega) (by omega) (by omega)
    have d1 : decide (k + 1 + (V_LegS x.2 : Int) < 0) = false := decide_eq_false (by omega)
    have ew : k + ((1 + V_LegS x.2 : Nat) : Int) = k + 1 + (V_LegS x.2 : Int) := by omega
    rw [ew]
    refine ⟨(k, L1), fun L hL g1 g2 rec => ?_, fun L hL g1 rec => ?_⟩
    · simp only [lt_lenI hL, cond_true, g1, g2, Option.bind_some, Int.toNat_natCast, geti_set hL, gets_set hL, List.set_set, w1, m1, hw]
    · simp only [lt_lenI hL, cond_true, g1, Option.bind_some, beq_self_eq_true, Bool.not_true, cond_false, w1, q1, d1, hw]
  · simp only [ge_lenI, cond_false]
  · simp only [ge_lenI, cond_false]

def V_Mark (_ : (Int × Int)) : Nat := 2

def V_MarkS (xs : (List (Int × Int))) : Nat := wsum V_Mark xs

theorem vb_MarkS (xs : (List (Int × Int))) : V_MarkS xs ≤ 2 * W_MarkS xs := wsum_bnd V_Mark 2 xs (fun x _ => by unfold V_Mark; omega)

theorem mh_MarkS (xs : (List (Int × Int))) (k : Int) (hW : W_MarkS xs ≤ 1048576) (h0 : 0 ≤ k) (hk : k + (V_MarkS xs : Int) ≤ B40) : ∃ L : (List (Int × Int)), L.length = xs.length ∧ m_laws_markMarkS (xs, k) = some (k + (V_MarkS xs : Int), L) ∧ m_laws_heldMarkS (L, k) = some (k + (V_MarkS xs : Int)) := by
  unfold W_MarkS at hW
  have hB : B40 = 1099511627776 := rfl
  show ∃ L : (List (Int × Int)), _ ∧ p_laws_markMarkS FU (xs, k) = _ ∧ p_laws_heldMarkS FU (L, k) = _
  unfold p_laws_markMarkS l_laws_markMarkS_1 p_laws_heldMarkS l_laws_heldMarkS_1
  dsimp only
  refine mark_held V_Mark xs k (by unfold B36; omega) h0 hk (fun i k x hx hi h0 hk hw => ?_) (fun k L rec => ?_) (fun k L rec => ?_)
  · have hx := True.intro
    unfold V_Mark at hk ⊢
    have w1 : IntKind.wrap .i64 (k + 1) = k + 1 := wrap64 (by omega) (by omega)
    have w2 : IntKind.wrap .i64 (k + 1 + 1) = k + 1 + 1 := wrap64 (by omega) (by omega)
    have ew : k + ((2 : Nat) : Int) = k + 1 + 1 := by omega
    rw [ew]
    refine ⟨(k, k + 1), fun L hL g1 g2 rec => ?_, fun L hL g1 rec => ?_⟩
    · simp only [lt_lenI hL, cond_true, g1, g2, Option.bind_some, Int.toNat_natCast, geti_set hL, gets_set hL, List.set_set, w1, w2, hw]
    · simp only [lt_lenI hL, cond_true, g1, Option.bind_some, beq_self_eq_true, Bool.not_true, cond_false, w1, w2, hw]
  · simp only [ge_lenI, cond_false]
  · simp only [ge_lenI, cond_false]

def V_Int64 (_ : Int) : Nat := 1

def V_Int64S (xs : (List Int)) : Nat := wsum V_Int64 xs

theorem vb_Int64S (xs : (List Int)) : V_Int64S xs ≤ 1 * W_Int64S xs := wsum_bnd V_Int64 1 xs (fun x _ => by unfold V_Int64; omega)

theorem mh_Int64S (xs : (List Int)) (k : Int) (hW : W_Int64S xs ≤ 1048576) (h0 : 0 ≤ k) (hk : k + (V_Int64S xs : Int) ≤ B40) : ∃ L : (List Int), L.length = xs.length ∧ m_laws_markInt64S (xs, k) = some (k + (V_Int64S xs : Int), L) ∧ m_laws_heldInt64S (L, k) = some (k + (V_Int64S xs : Int)) := by
  unfold W_Int64S at hW
  have hB : B40 = 1099511627776 := rfl
  show ∃ L : (List Int), _ ∧ p_laws_markInt64S FU (xs, k) = _ ∧ p_laws_heldInt64S FU (L, k) = _
  unfold p_laws_markInt64S l_laws_markInt64S_1 p_laws_heldInt64S l_laws_heldInt64S_1
  dsimp only
  refine mark_held V_Int64 xs k (by unfold B36; omega) h0 hk (fun i k x hx hi h0 hk hw => ?_) (fun k L rec => ?_) (fun k L rec => ?_)
  · have hx := True.intro
    unfold V_Int64 at hk ⊢
    have w1 : IntKind.wrap .i64 (k + 1) = k + 1 := wrap64 (by omega) (by omega)
    have ew : k + ((1 : Nat) : Int) = k + 1 := by omega
    rw [ew]
    refine ⟨k, fun L hL g1 g2 rec => ?_, fun L hL g1 rec => ?_⟩
    · simp only [lt_lenI hL, cond_true, g1, g2, Option.bind_some, Int.toNat_natCast, geti_set hL, gets_set hL, List.set_set, w1, hw]
    · simp only [lt_lenI hL, cond_true, g1, Option.bind_some, beq_self_eq_true, Bool.not_true, cond_false, w1, hw]
  · simp only [ge_lenI, cond_false]
  · simp only [ge_lenI, cond_false]

def V_Shard (x : (Int × ((List (Int × (Int × Int))) × ((List (Int × Int)) × ((List (Int × (List (Int × (Int × (Int × Int)))))) × ((List (Int × Int)) × (List Int))))))) : Nat := 1 + V_BalanceS x.2.1 + V_MarkS x.2.2.1 + V_ContractS x.2.2.2.1 + V_MarkS x.2.2.2.2.1 + V_Int64S x.2.2.2.2.2

def V_ShardS (xs : (List (Int × ((List (Int × (Int × Int))) × ((List (Int × Int)) × ((List (Int × (List (Int × (Int × (Int × Int)))))) × ((List (Int × Int)) × (List Int)))))))) : Nat := wsum V_Shard xs

theorem vb_ShardS (xs : (List (Int × ((List (Int × (Int × Int))) × ((List (Int × Int)) × ((List (Int × (List (Int × (Int × (Int × Int)))))) × ((List (Int × Int)) × (List Int)))))))) : V_ShardS xs ≤ 4 * W_ShardS xs := wsum_le V_Shard W_Shard 4 xs (fun x _ => by have := vb_BalanceS x.2.1; have := vb_MarkS x.2.2.1; have := vb_ContractS x.2.2.2.1; have := vb_MarkS x.2.2.2.2.1; have := vb_Int64S x.2.2.2.2.2; unfold V_Shard W_Shard; omega)

theorem mh_ShardS (xs : (List (Int × ((List (Int × (Int × Int))) × ((List (Int × Int)) × ((List (Int × (List (Int × (Int × (Int × Int)))))) × ((List (Int × Int)) × (List Int)))))))) (k : Int) (hW : W_ShardS xs ≤ 1048576) (h0 : 0 ≤ k) (hk : k + (V_ShardS xs : Int) ≤ B40) : ∃ L : (List (Int × ((List (Int × (Int × Int))) × ((List (Int × Int)) × ((List (Int × (List (Int × (Int × (Int × Int)))))) × ((List (Int × Int)) × (List Int))))))), L.length = xs.length ∧ m_laws_markShardS (xs, k) = some (k + (V_ShardS xs : Int), L) ∧ m_laws_heldShardS (L, k) = some (k + (V_ShardS xs : Int)) := by
  unfold W_ShardS at hW
  have hB : B40 = 1099511627776 := rfl
  show ∃ L : (List (Int × ((List (Int × (Int × Int))) × ((List (Int × Int)) × ((List (Int × (List (Int × (Int × (Int × Int)))))) × ((List (Int × Int)) × (List Int))))))), _ ∧ p_laws_markShardS FU (xs, k) = _ ∧ p_laws_heldShardS FU (L, k) = _
  unfold p_laws_markShardS l_laws_markShardS_1 p_laws_heldShardS l_laws_heldShardS_1
  dsimp only
  refine mark_held V_Shard xs k (by unfold B36; omega) h0 hk (fun i k x hx hi h0 hk hw => ?_) (fun k L rec => ?_) (fun k L rec => ?_)
  · have hx : W_Shard x ≤ 1048576 := by have := wsum_mem W_Shard xs x hx; omega
    unfold W_Shard at hx
    unfold V_Shard at hk ⊢
    have w1 : IntKind.wrap .i64 (k + 1) = k + 1 := wrap64 (by omega) (by omega)
    obtain ⟨L1, _, m1, q1⟩ := mh_BalanceS x.2.1 (k + 1) (by omega) (by omega) (by omega)
    have d1 : decide (k + 1 + (V_BalanceS x.2.1 : Int) < 0) = false := decide_eq_false (by omega)
    obtain ⟨L2, _, m2, q2⟩ := mh_MarkS x.2.2.1 (k + 1 + (V_BalanceS x.2.1 : Int)) (by omega) (by omega) (by omega)
    have d2 : decide (k + 1 + (V_BalanceS x.2.1 : Int) + (V_MarkS x.2.2.1 : Int) < 0) = false := decide_eq_false (by omega)
    obtain ⟨L3, _, m3, q3⟩ := mh_ContractS x.2.2.2.1 (k + 1 + (V_BalanceS x.2.1 : Int) + (V_MarkS x.2.2.1 : Int)) (by omega) (by omega) (by omega)
    have d3 : decide (k + 1 + (V_BalanceS x.2.1 : Int) + (V_MarkS x.2.2.1 : Int) + (V_ContractS x.2.2.2.1 : Int) < 0) = false := decide_eq_false (by omega)
    obtain ⟨L4, _, m4, q4⟩ := mh_MarkS x.2.2.2.2.1 (k + 1 + (V_BalanceS x.2.1 : Int) + (V_MarkS x.2.2.1 : Int) + (V_ContractS x.2.2.2.1 : Int)) (by omega) (by omega) (by omega)
    have d4 : decide (k + 1 + (V_BalanceS x.2.1 : Int) + (V_MarkS x.2.2.1 : Int) + (V_ContractS x.2.2.2.1 : Int) + (V_MarkS x.2.2.2.2.1 : Int) < 0) = false := decide_eq_false (by omega)
    obtain ⟨L5, _, m5, q5⟩ := mh_Int64S x.2.2.2.2.2 (k + 1 + (V_BalanceS x.2.1 : Int) + (V_MarkS x.2.2.1 : Int) + (V_ContractS x.2.2.2.1 : Int) + (V_MarkS x.2.2.2.2.1 : Int)) (by omega) (by omega) (by omega)
    have d5 : decide (k + 1 + (V_BalanceS x.2.1 : Int) + (V_MarkS x.2.2.1 : Int) + (V_ContractS x.2.2.2.1 : Int) + (V_MarkS x.2.2.2.2.1 : Int) + (V_Int64S x.2.2.2.2.2 : Int) < 0) = false := decide_eq_false (by omega)
    have ew : k + ((1 + V_BalanceS x.2.1 + V_MarkS x.2.2.1 + V_ContractS x.2.2.2.1 + V_MarkS x.2.2.2.2.1 + V_Int64S x.2.2.2.2.2 : Nat) : Int) = k + 1 + (V_BalanceS x.2.1 : Int) + (V_MarkS x.2.2.1 : Int) + (V_ContractS x.2.2.2.1 : Int) + (V_MarkS x.2.2.2.2.1 : Int) + (V_Int64S x.2.2.2.2.2 : Int) := by omega
    rw [ew]
    refine ⟨(k, (L1, (L2, (L3, (L4, L5))))), fun L hL g1 g2 rec => ?_, fun L hL g1 rec => ?_⟩
    · simp only [lt_lenI hL, cond_true, g1, g2, Option.bind_some, Int.toNat_natCast, geti_set hL, gets_set hL, List.set_set, w1, m1, m2, m3, m4, m5, hw]
    · simp only [lt_lenI hL, cond_true, g1, Option.bind_some, beq_self_eq_true, Bool.not_true, cond_false, w1, q1, d1, q2, d2, q3, d3, q4, d4, q5, d5, hw]
  · simp only [ge_lenI, cond_false]
  · simp only [ge_lenI, cond_false]

def V_Vote (_ : (Int × Int)) : Nat := 2

def V_VoteS (xs : (List (Int × Int))) : Nat := wsum V_Vote xs

theorem vb_VoteS (xs : (List (Int × Int))) : V_VoteS xs ≤ 2 * W_VoteS xs := wsum_bnd V_Vote 2 xs (fun x _ => by unfold V_Vote; omega)

theorem mh_VoteS (xs : (List (Int × Int))) (k : Int) (hW : W_VoteS xs ≤ 1048576) (h0 : 0 ≤ k) (hk : k + (V_VoteS xs : Int) ≤ B40) : ∃ L : (List (Int × Int)), L.length = xs.length ∧ m_laws_markVoteS (xs, k) = some (k + (V_VoteS xs : Int), L) ∧ m_laws_heldVoteS (L, k) = some (k + (V_VoteS xs : Int)) := by
  unfold W_VoteS at hW
  have hB : B40 = 1099511627776 := rfl
  show ∃ L : (List (Int × Int)), _ ∧ p_laws_markVoteS FU (xs, k) = _ ∧ p_laws_heldVoteS FU (L, k) = _
  unfold p_laws_markVoteS l_laws_markVoteS_1 p_laws_heldVoteS l_laws_heldVoteS_1
  dsimp only
  refine mark_held V_Vote xs k (by unfold B36; omega) h0 hk (fun i k x hx hi h0 hk hw => ?_) (fun k L rec => ?_) (fun k L rec => ?_)
  · have hx := True.intro
    unfold V_Vote at hk ⊢
    have w1 : IntKind.wrap .i64 (k + 1) = k + 1 := wrap64 (by omega) (by omega)
    have w2 : IntKind.wrap .i64 (k + 1 + 1) = k + 1 + 1 := wrap64 (by omega) (by omega)
    have ew : k + ((2 : Nat) : Int) = k + 1 + 1 := by omega
    rw [ew]
    refine ⟨(k, k + 1), fun L hL g1 g2 rec => ?_, fun L hL g1 rec => ?_⟩
    · simp only [lt_lenI hL, cond_true, g1, g2, Option.bind_some, Int.toNat_natCast, geti_set hL, gets_set hL, List.set_set, w1, w2, hw]
    · simp only [lt_lenI hL, cond_true, g1, Option.bind_some, beq_self_eq_true, Bool.not_true, cond_false, w1, w2, hw]
  · simp only [ge_lenI, cond_false]
  · simp only [ge_lenI, cond_false]

def V_Slot (x : (Int × (Int × (Int × ((Int × Int) × (List (Int × Int))))))) : Nat := 5 + V_VoteS x.2.2.2.2

def V_SlotS (xs : (List (Int × (Int × (Int × ((Int × Int) × (List (Int × Int)))))))) : Nat := wsum V_Slot xs

theorem vb_SlotS (xs : (List (Int × (Int × (Int × ((Int × Int) × (List (Int × Int)))))))) : V_SlotS xs ≤ 5 * W_SlotS xs := wsum_le V_Slot W_Slot 5 xs (fun x _ => by have := vb_VoteS x.2.2.2.2; unfold V_Slot W_Slot; omega)

theorem mh_SlotS (xs : (List (Int × (Int × (Int × ((Int × Int) × (List (Int × Int)))))))) (k : Int) (hW : W_SlotS xs ≤ 1048576) (h0 : 0 ≤ k) (hk : k + (V_SlotS xs : Int) ≤ B40) : ∃ L : (List (Int × (Int × (Int × ((Int × Int) × (List (Int × Int))))))), L.length = xs.length ∧ m_laws_markSlotS (xs, k) = some (k + (V_SlotS xs : Int), L) ∧ m_laws_heldSlotS (L, k) = some (k + (V_SlotS xs : Int)) := by
  unfold W_SlotS at hW
  have hB : B40 = 1099511627776 := rfl
  show ∃ L : (List (Int × (Int × (Int × ((Int × Int) × (List (Int × Int))))))), _ ∧ p_laws_markSlotS FU (xs, k) = _ ∧ p_laws_heldSlotS FU (L, k) = _
  unfold p_laws_markSlotS l_laws_markSlotS_1 p_laws_heldSlotS l_laws_heldSlotS_1
  dsimp only
  refine mark_held V_Slot xs k (by unfold B36; omega) h0 hk (fun i k x hx hi h0 hk hw => ?_) (fun k L rec => ?_) (fun k L rec => ?_)
  · have hx : W_Slot x ≤ 1048576 := by have := wsum_mem W_Slot xs x hx; omega
    unfold W_Slot at hx
    unfold V_Slot at hk ⊢
    have w1 : IntKind.wrap .i64 (k + 1) = k + 1 := wrap64 (by omega) (by omega)
    have w2 : IntKind.wrap .i64 (k + 1 + 1) = k + 1 + 1 := wrap64 (by omega) (by omega)
    have w3 : IntKind.wrap .i64 (k + 1 + 1 + 1) = k + 1 + 1 + 1 := wrap64 (by omega) (by omega)
    have w4 : IntKind.wrap .i64 (k + 1 + 1 + 1 + 1) = k + 1 + 1 + 1 + 1 := wrap64 (by omega) (by omega)
    have w5 : IntKind.wrap .i64 (k + 1 + 1 + 1 + 1 + 1) = k + 1 + 1 + 1 + 1 + 1 := wrap64 (by omega) (by omega)
    obtain ⟨L1, _, m1, q1⟩ := mh_VoteS x.2.2.2.2 (k + 1 + 1 + 1 + 1 + 1) (by omega) (by omega) (by omega)
    have d1 : decide (k + 1 + 1 + 1 + 1 + 1 + (V_VoteS x.2.2.2.2 : Int) < 0) = false := decide_eq_false (by omega)
    have ew : k + ((5 + V_VoteS x.2.2.2.2 : Nat) : Int) = k + 1 + 1 + 1 + 1 + 1 + (V_VoteS x.2.2.2.2 : Int) := by omega
    rw [ew]
    refine ⟨(k, (k + 1, (k + 1 + 1, ((k + 1 + 1 + 1, k + 1 + 1 + 1 + 1), L1)))), fun L hL g1 g2 rec => ?_, fun L hL g1 rec => ?_⟩
    · simp only [lt_lenI hL, cond_true, g1, g2, Option.bind_some, Int.toNat_natCast, geti_set hL, gets_set hL, List.set_set, w1, w2, w3, w4, w5, m1, hw]
    · simp only [lt_lenI hL, cond_true, g1, Option.bind_some, beq_self_eq_true, Bool.not_true, cond_false, w1, w2, w3, w4, w5, q1, d1, hw]
  · simp only [ge_lenI, cond_false]
  · simp only [ge_lenI, cond_false]

def V_Acceptor (x : (List (Int × (Int × (Int × ((Int × Int) × (List (Int × Int)))))))) : Nat := 0 + V_SlotS x

def V_AcceptorS (xs : (List (List (Int × (Int × (Int × ((Int × Int) × (List (Int × Int))))))))) : Nat := wsum V_Acceptor xs

theorem vb_AcceptorS (xs : (List (List (Int × (Int × (Int × ((Int × Int) × (List (Int × Int))))))))) : V_AcceptorS xs ≤ 5 * W_AcceptorS xs := wsum_le V_Acceptor W_Acceptor 5 xs (fun x _ => by have := vb_SlotS x; unfold V_Acceptor W_Acceptor; omega)

theorem mh_AcceptorS (xs : (List (List (Int × (Int × (Int × ((Int × Int) × (List (Int × Int))))))))) (k : Int) (hW : W_AcceptorS xs ≤ 1048576) (h0 : 0 ≤ k) (hk : k + (V_AcceptorS xs : Int) ≤ B40) : ∃ L : (List (List (Int × (Int × (Int × ((Int × Int) × (List (Int × Int)))))))), L.length = xs.length ∧ m_laws_markAcceptorS (xs, k) = some (k + (V_AcceptorS xs : Int), L) ∧ m_laws_heldAcceptorS (L, k) = some (k + (V_AcceptorS xs : Int)) := by
  unfold W_AcceptorS at hW
  have hB : B40 = 1099511627776 := rfl
  show ∃ L : (List (List (Int × (Int × (Int × ((Int × Int) × (List (Int × Int)))))))), _ ∧ p_laws_markAcceptorS FU (xs, k) = _ ∧ p_laws_heldAcceptorS FU (L, k) = _
  unfold p_laws_markAcceptorS l_laws_markAcceptorS_1 p_laws_heldAcceptorS l_laws_heldAcceptorS_1
  dsimp only
  refine mark_held V_Acceptor xs k (by unfold B36; omega) h0 hk (fun i k x hx hi h0 hk hw => ?_) (fun k L rec => ?_) (fun k L rec => ?_)
  · have hx : W_Acceptor x ≤ 1048576 := by have := wsum_mem W_Acceptor xs x hx; omega
    unfold W_Acceptor at hx
    unfold V_Acceptor at hk ⊢
    obtain ⟨L1, _, m1, q1⟩ := mh_SlotS x (k) (by omega) (by omega) (by omega)
    have d1 : decide (k + (V_SlotS x : Int) < 0) = false := decide_eq_false (by omega)
    have ew : k + ((0 + V_SlotS x : Nat) : Int) = k + (V_SlotS x : Int) := by omega
    rw [ew]
    refine ⟨L1, fun L hL g1 g2 rec => ?_, fun L hL g1 rec => ?_⟩
    · simp only [lt_lenI hL, cond_true, g1, g2, Option.bind_some, Int.toNat_natCast, geti_set hL, gets_set hL, List.set_set, m1, hw]
    · simp only [lt_lenI hL, cond_true, g1, Option.bind_some, beq_self_eq_true, Bool.not_true, cond_false, q1, d1, hw]
  · simp only [ge_lenI, cond_false]
  · simp only [ge_lenI, cond_false]

def V_Try (x : (Int × (Int × (Int × (Int × ((List Int) × (List (Int × Int)))))))) : Nat := 4 + V_Int64S x.2.2.2.2.1 + V_VoteS x.2.2.2.2.2

def V_TryS (xs : (List (Int × (Int × (Int × (Int × ((List Int) × (List (Int × Int))))))))) : Nat := wsum V_Try xs

theorem vb_TryS (xs : (List (Int × (Int × (Int × (Int × ((List Int) × (List (Int × Int))))))))) : V_TryS xs ≤ 4 * W_TryS xs := wsum_le V_Try W_Try 4 xs (fun x _ => by have := vb_Int64S x.2.2.2.2.1; have := vb_VoteS x.2.2.2.2.2; unfold V_Try W_Try; omega)

theorem mh_TryS (xs : (List (Int × (Int × (Int × (Int × ((List Int) × (List (Int × Int))))))))) (k : Int) (hW : W_TryS xs ≤ 1048576) (h0 : 0 ≤ k) (hk : k + (V_TryS xs : Int) ≤ B40) : ∃ L : (List (Int × (Int × (Int × (Int × ((List Int) × (List (Int × Int)))))))), L.length = xs.length ∧ m_laws_markTryS (xs, k) = some (k + (V_TryS xs : Int), L) ∧ m_laws_heldTryS (L, k) = some (k + (V_TryS xs : Int)) := by
  unfold W_TryS at hW
  have hB : B40 = 1099511627776 := rfl
  show ∃ L : (List (Int × (Int × (Int × (Int × ((List Int) × (List (Int × Int)))))))), _ ∧ p_laws_markTryS FU (xs, k) = _ ∧ p_laws_heldTryS FU (L, k) = _
  unfold p_laws_markTryS l_laws_markTryS_1 p_laws_heldTryS l_laws_heldTryS_1
  dsimp only
  refine mark_held V_Try xs k (by unfold B36; omega) h0 hk (fun i k x hx hi h0 hk hw => ?_) (fun k L rec => ?_) (fun k L rec => ?_)
  · have hx : W_Try x ≤ 1048576 := by have := wsum_mem W_Try xs x hx; omega
    unfold W_Try at hx
    unfold V_Try at hk ⊢
    have w1 : IntKind.wrap .i64 (k + 1) = k + 1 := wrap64 (by omega) (by omega)
    have w2 : IntKind.wrap .i64 (k + 1 + 1) = k + 1 + 1 := wrap64 (by omega) (by omega)
    have w3 : IntKind.wrap .i64 (k + 1 + 1 + 1) = k + 1 + 1 + 1 := wrap64 (by omega) (by omega)
    have w4 : IntKind.wrap .i64 (k + 1 + 1 + 1 + 1) = k + 1 + 1 + 1 + 1 := wrap64 (by omega) (by omega)
    obtain ⟨L1, _, m1, q1⟩ := mh_Int64S x.2.2.2.2.1 (k + 1 + 1 + 1 + 1) (by omega) (by omega) (by omega)
    have d1 : decide (k + 1 + 1 + 1 + 1 + (V_Int64S x.2.2.2.2.1 : Int) < 0) = false := decide_eq_false (by omega)
    obtain ⟨L2, _, m2, q2⟩ := mh_VoteS x.2.2.2.2.2 (k + 1 + 1 + 1 + 1 + (V_Int64S x.2.2.2.2.1 : Int)) (by omega) (by omega) (by omega)
    have d2 : decide (k + 1 + 1 + 1 + 1 + (V_Int64S x.2.2.2.2.1 : Int) + (V_VoteS x.2.2.2.2.2 : Int) < 0) = false := decide_eq_false (by omega)
    have ew : k + ((4 + V_Int64S x.2.2.2.2.1 + V_VoteS x.2.2.2.2.2 : Nat) : Int) = k + 1 + 1 + 1 + 1 + (V_Int64S x.2.2.2.2.1 : Int) + (V_VoteS x.2.2.2.2.2 : Int) := by omega
    rw [ew]
    refine ⟨(k, (k + 1, (k + 1 + 1, (k + 1 + 1 + 1, (L1, L2))))), fun L hL g1 g2 rec => ?_, fun L hL g1 rec => ?_⟩
    · simp only [lt_lenI hL, cond_true, g1, g2, Option.bind_some, Int.toNat_natCast, geti_set hL, gets_set hL, List.set_set, w1, w2, w3, w4, m1, m2, hw]
    · simp only [lt_lenI hL, cond_true, g1, Option.bind_some, beq_self_eq_true, Bool.not_true, cond_false, w1, w2, w3, w4, q1, d1, q2, d2, hw]
  · simp only [ge_lenI, cond_false]
  · simp only [ge_lenI, cond_false]

def V_Heard (_ : (Int × (Int × (Int × (Int × Int))))) : Nat := 5

def V_HeardS (xs : (List (Int × (Int × (Int × (Int × Int)))))) : Nat := wsum V_Heard xs

theorem vb_HeardS (xs : (List (Int × (Int × (Int × (Int × Int)))))) : V_HeardS xs ≤ 5 * W_HeardS xs := wsum_bnd V_Heard 5 xs (fun x _ => by unfold V_Heard; omega)

theorem mh_HeardS (xs : (List (Int × (Int × (Int × (Int × Int)))))) (k : Int) (hW : W_HeardS xs ≤ 1048576) (h0 : 0 ≤ k) (hk : k + (V_HeardS xs : Int) ≤ B40) : ∃ L : (List (Int × (Int × (Int × (Int × Int))))), L.length = xs.length ∧ m_laws_markHeardS (xs, k) = some (k + (V_HeardS xs : Int), L) ∧ m_laws_heldHeardS (L, k) = some (k + (V_HeardS xs : Int)) := by
  unfold W_HeardS at hW
  have hB : B40 = 1099511627776 := rfl
  show ∃ L : (List (Int × (Int × (Int × (Int × Int))))), _ ∧ p_laws_markHeardS FU (xs, k) = _ ∧ p_laws_heldHeardS FU (L, k) = _
  unfold p_laws_markHeardS l_laws_markHeardS_1 p_laws_heldHeardS l_laws_heldHeardS_1
  dsimp only
  refine mark_held V_Heard xs k (by unfold B36; omega) h0 hk (fun i k x hx hi h0 hk hw => ?_) (fun k L rec => ?_) (fun k L rec => ?_)
  · have hx := True.intro
    unfold V_Heard at hk ⊢
    have w1 : IntKind.wrap .i64 (k + 1) = k + 1 := wrap64 (by omega) (by omega)
    have w2 : IntKind.wrap .i64 (k + 1 + 1) = k + 1 + 1 := wrap64 (by omega) (by omega)
    have w3 : IntKind.wrap .i64 (k + 1 + 1 + 1) = k + 1 + 1 + 1 := wrap64 (by omega) (by omega)
    have w4 : IntKind.wrap .i64 (k + 1 + 1 + 1 + 1) = k + 1 + 1 + 1 + 1 := wrap64 (by omega) (by omega)
    have w5 : IntKind.wrap .i64 (k + 1 + 1 + 1 + 1 + 1) = k + 1 + 1 + 1 + 1 + 1 := wrap64 (by omega) (by omega)
    have ew : k + ((5 : Nat) : Int) = k + 1 + 1 + 1 + 1 + 1 := by omega
    rw [ew]
    refine ⟨(k, (k + 1, (k + 1 + 1, (k + 1 + 1 + 1, k + 1 + 1 + 1 + 1)))), fun L hL g1 g2 rec => ?_, fun L hL g1 rec => ?_⟩
    · simp only [lt_lenI hL, cond_true, g1, g2, Option.bind_some, Int.toNat_natCast, geti_set hL, gets_set hL, List.set_set, w1, w2, w3, w4, w5, hw]
    · simp only [lt_lenI hL, cond_true, g1, Option.bind_some, beq_self_eq_true, Bool.not_true, cond_false, w1, w2, w3, w4, w5, hw]
  · simp only [ge_lenI, cond_false]
  · simp only [ge_lenI, cond_false]

def V_Leader (x : (Int × ((List (Int × (Int × (Int × (Int × ((List Int) × (List (Int × Int)))))))) × (List (Int × (Int × (Int × (Int × Int)))))))) : Nat := 1 + V_TryS x.2.1 + V_HeardS x.2.2

def V_LeaderS (xs : (List (Int × ((List (Int × (Int × (Int × (Int × ((List Int) × (List (Int × Int)))))))) × (List (Int × (Int × (Int × (Int × Int))))))))) : Nat := wsum V_Leader xs

theorem vb_LeaderS (xs : (List (Int × ((List (Int × (Int × (Int × (Int × ((List Int) × (List (Int × Int)))))))) × (List (Int × (Int × (Int × (Int × Int))))))))) : V_LeaderS xs ≤ 5 * W_LeaderS xs := wsum_le V_Leader W_Leader 5 xs (fun x _ => by have := vb_TryS x.2.1; have := vb_HeardS x.2.2; unfold V_Leader W_Leader; omega)

theorem mh_LeaderS (xs : (List (Int × ((List (Int × (Int × (Int × (Int × ((List Int) × (List (Int × Int)))))))) × (List (Int × (Int × (Int × (Int × Int))))))))) (k : Int) (hW : W_LeaderS xs ≤ 1048576) (h0 : 0 ≤ k) (hk : k + (V_LeaderS xs : Int) ≤ B40) : ∃ L : (List (Int × ((List (Int × (Int × (Int × (Int × ((List Int) × (List (Int × Int)))))))) × (List (Int × (Int × (Int × (Int × Int)))))))), L.length = xs.length ∧ m_laws_markLeaderS (xs, k) = some (k + (V_LeaderS xs : Int), L) ∧ m_laws_heldLeaderS (L, k) = some (k + (V_LeaderS xs : Int)) := by
  unfold W_LeaderS at hW
  have hB : B40 = 1099511627776 := rfl
  show ∃ L : (List (Int × ((List (Int × (Int × (Int × (Int × ((List Int) × (List (Int × Int)))))))) × (List (Int × (Int × (Int × (Int × Int)))))))), _ ∧ p_laws_markLeaderS FU (xs, k) = _ ∧ p_laws_heldLeaderS FU (L, k) = _
  unfold p_laws_markLeaderS l_laws_markLeaderS_1 p_laws_heldLeaderS l_laws_heldLeaderS_1
  dsimp only
  refine mark_held V_Leader xs k (by unfold B36; omega) h0 hk (fun i k x hx hi h0 hk hw => ?_) (fun k L rec => ?_) (fun k L rec => ?_)
  · have hx : W_Leader x ≤ 1048576 := by have := wsum_mem W_Leader xs x hx; omega
    unfold W_Leader at hx
    unfold V_Leader at hk ⊢
    have w1 : IntKind.wrap .i64 (k + 1) = k + 1 := wrap64 (by omega) (by omega)
    obtain ⟨L1, _, m1, q1⟩ := mh_TryS x.2.1 (k + 1) (by omega) (by omega) (by omega)
    have d1 : decide (k + 1 + (V_TryS x.2.1 : Int) < 0) = false := decide_eq_false (by omega)
    obtain ⟨L2, _, m2, q2⟩ := mh_HeardS x.2.2 (k + 1 + (V_TryS x.2.1 : Int)) (by omega) (by omega) (by omega)
    have d2 : decide (k + 1 + (V_TryS x.2.1 : Int) + (V_HeardS x.2.2 : Int) < 0) = false := decide_eq_false (by omega)
    have ew : k + ((1 + V_TryS x.2.1 + V_HeardS x.2.2 : Nat) : Int) = k + 1 + (V_TryS x.2.1 : Int) + (V_HeardS x.2.2 : Int) := by omega
    rw [ew]
    refine ⟨(k, (L1, L2)), fun L hL g1 g2 rec => ?_, fun L hL g1 rec => ?_⟩
    · simp only [lt_lenI hL, cond_true, g1, g2, Option.bind_some, Int.toNat_natCast, geti_set hL, gets_set hL, List.set_set, w1, m1, m2, hw]
    · simp only [lt_lenI hL, cond_true, g1, Option.bind_some, beq_self_eq_true, Bool.not_true, cond_false, w1, q1, d1, q2, d2, hw]
  · simp only [ge_lenI, cond_false]
  · simp only [ge_lenI, cond_false]

def V_Message (_ : (Int × (Int × (Int × (Int × (Int × (Int × (Int × (Int × Int))))))))) : Nat := 9

def V_MessageS (xs : (List (Int × (Int × (Int × (Int × (Int × (Int × (Int × (Int × Int)))))))))) : Nat := wsum V_Message xs

theorem vb_MessageS (xs : (List (Int × (Int × (Int × (Int × (Int × (Int × (Int × (Int × Int)))))))))) : V_MessageS xs ≤ 9 * W_MessageS xs := wsum_bnd V_Message 9 xs (fun x _ => by unfold V_Message; omega)

theorem mh_MessageS (xs : (List (Int × (Int × (Int × (Int × (Int × (Int × (Int × (Int × Int)))))))))) (k : Int) (hW : W_MessageS xs ≤ 1048576) (h0 : 0 ≤ k) (hk : k + (V_MessageS xs : Int) ≤ B40) : ∃ L : (List (Int × (Int × (Int × (Int × (Int × (Int × (Int × (Int × Int))))))))), L.length = xs.length ∧ m_laws_markMessageS (xs, k) = some (k + (V_MessageS xs : Int), L) ∧ m_laws_heldMessageS (L, k) = some (k + (V_MessageS xs : Int)) := by
  unfold W_MessageS at hW
  have hB : B40 = 1099511627776 := rfl
  show ∃ L : (List (Int × (Int × (Int × (Int × (Int × (Int × (Int × (Int × Int))))))))), _ ∧ p_laws_markMessageS FU (xs, k) = _ ∧ p_laws_heldMessageS FU (L, k) = _
  unfold p_laws_markMessageS l_laws_markMessageS_1 p_laws_heldMessageS l_laws_heldMessageS_1
  dsimp only
  refine mark_held V_Message xs k (by unfold B36; omega) h0 hk (fun i k x hx hi h0 hk hw => ?_) (fun k L rec => ?_) (fun k L rec => ?_)
  · have hx := True.intro
    unfold V_Message at hk ⊢
    have w1 : IntKind.wrap .i64 (k + 1) = k + 1 := wrap64 (by omega) (by omega)
    have w2 : IntKind.wrap .i64 (k + 1 + 1) = k + 1 + 1 := wrap64 (by omega) (by omega)
    have w3 : IntKind.wrap .i64 (k + 1 + 1 + 1) = k + 1 + 1 + 1 := wrap64 (by omega) (by omega)
    have w4 : IntKind.wrap .i64 (k + 1 + 1 + 1 + 1) = k + 1 + 1 + 1 + 1 := wrap64 (by omega) (by omega)
    have w5 : IntKind.wrap .i64 (k + 1 + 1 + 1 + 1 + 1) = k + 1 + 1 + 1 + 1 + 1 := wrap64 (by omega) (by omega)
    have w6 : IntKind.wrap .i64 (k + 1 + 1 + 1 + 1 + 1 + 1) = k + 1 + 1 + 1 + 1 + 1 + 1 := wrap64 (by omega) (by omega)
    have w7 : IntKind.wrap .i64 (k + 1 + 1 + 1 + 1 + 1 + 1 + 1) = k + 1 + 1 + 1 + 1 + 1 + 1 + 1 := wrap64 (by omega) (by omega)
    have w8 : IntKind.wrap .i64 (k + 1 + 1 + 1 + 1 + 1 + 1 + 1 + 1) = k + 1 + 1 + 1 + 1 + 1 + 1 + 1 + 1 := wrap64 (by omega) (by omega)
    have w9 : IntKind.wrap .i64 (k + 1 + 1 + 1 + 1 + 1 + 1 + 1 + 1 + 1) = k + 1 + 1 + 1 + 1 + 1 + 1 + 1 + 1 + 1 := wrap64 (by omega) (by omega)
    have ew : k + ((9 : Nat) : Int) = k + 1 + 1 + 1 + 1 + 1 + 1 + 1 + 1 + 1 := by omega
    rw [ew]
    refine ⟨(k, (k + 1, (k + 1 + 1, (k + 1 + 1 + 1, (k + 1 + 1 + 1 + 1, (k + 1 + 1 + 1 + 1 + 1, (k + 1 + 1 + 1 + 1 + 1 + 1, (k + 1 + 1 + 1 + 1 + 1 + 1 + 1, k + 1 + 1 + 1 + 1 + 1 + 1 + 1 + 1)))))))), fun L hL g1 g2 rec => ?_, fun L hL g1 rec => ?_⟩
    · simp only [lt_lenI hL, cond_true, g1, g2, Option.bind_some, Int.toNat_natCast, geti_set hL, gets_set hL, List.set_set, w1, w2, w3, w4, w5, w6, w7, w8, w9, hw]
    · simp only [lt_lenI hL, cond_true, g1, Option.bind_some, beq_self_eq_true, Bool.not_true, cond_false, w1, w2, w3, w4, w5, w6, w7, w8, w9, hw]
  · simp only [ge_lenI, cond_false]
  · simp only [ge_lenI, cond_false]

theorem h_laws_heldCluster (x : ((List (Int × (List (Int × (Int × (Int × Int)))))) × ((List (Int × ((List (Int × (Int × Int))) × ((List (Int × Int)) × ((List (Int × (List (Int × (Int × (Int × Int)))))) × ((List (Int × Int)) × (List Int))))))) × ((List (List (Int × (Int × (Int × ((Int × Int) × (List (Int × Int)))))))) × ((List (Int × ((List (Int × (Int × (Int × (Int × ((List Int) × (List (Int × Int)))))))) × (List (Int × (Int × (Int × (Int × Int)))))))) × (List (Int × (Int × (Int × (Int × (Int × (Int × (Int × (Int × Int)))))))))))))) (k k1 k2 k3 k4 k5 : Int) (e1 : m_laws_heldContractS (x.1, k) = some k1) (n1 : 0 ≤ k1) (e2 : m_laws_heldShardS (x.2.1, k1) = some k2) (n2 : 0 ≤ k2) (e3 : m_laws_heldAcceptorS (x.2.2.1, k2) = some k3) (n3 : 0 ≤ k3) (e4 : m_laws_heldLeaderS (x.2.2.2.1, k3) = some k4) (n4 : 0 ≤ k4) (e5 : m_laws_heldMessageS (x.2.2.2.2, k4) = some k5) (n5 : 0 ≤ k5) : m_laws_heldCluster (x, k) = some k5 := by
  show p_laws_heldCluster FU _ = _
  unfold p_laws_heldCluster
  simp only [e1, decide_eq_false (show ¬ k1 < 0 by omega), e2, decide_eq_false (show ¬ k2 < 0 by omega), e3, decide_eq_false (show ¬ k3 < 0 by omega), e4, decide_eq_false (show ¬ k4 < 0 by omega), e5, decide_eq_false (show ¬ k5 < 0 by omega), Option.bind_some, cond_false]

theorem h_laws_heldClusterResult (x : (Int × ((List (Int × (List (Int × (Int × (Int × Int)))))) × ((List (Int × ((List (Int × (Int × Int))) × ((List (Int × Int)) × ((List (Int × (List (Int × (Int × (Int × Int)))))) × ((List (Int × Int)) × (List Int))))))) × ((List (List (Int × (Int × (Int × ((Int × Int) × (List (Int × Int)))))))) × ((List (Int × ((List (Int × (Int × (Int × (Int × ((List Int) × (List (Int × Int)))))))) × (List (Int × (Int × (Int × (Int × Int)))))))) × (List (Int × (Int × (Int × (Int × (Int × (Int × (Int × (Int × Int))))))))))))))) (k k1 : Int) (e1 : m_laws_heldCluster (x.2, k) = some k1) (n1 : 0 ≤ k1) : m_laws_heldClusterResult (x, k) = some k1 := by
  show p_laws_heldClusterResult FU _ = _
  unfold p_laws_heldClusterResult
  simp only [e1, decide_eq_false (show ¬ k1 < 0 by omega), Option.bind_some, cond_false]

theorem t_spec_l1In (a b c : Int) : m_spec_l1In (a, b, c) = some (inB a b c) := by
  show p_spec_l1In FU _ = _
  unfold p_spec_l1In inB
  by_cases h : b ≤ a <;> simp [h]

theorem t_spec_l2Key (a b : Int) : m_spec_l2Key (a, b) = some (plB a b) := by
  show p_spec_l2Key FU _ = _
  unfold p_spec_l2Key plB
  simp only [t_spec_l1In, Option.bind_some]
  cases inB a 0 5 <;> rfl

theorem t_impl_within (a b c : Int) : m_impl_within (a, b, c) = some (inB a b c) := by
  show p_impl_within FU _ = _
  unfold p_impl_within inB
  by_cases h : b ≤ a <;> simp [h]

theorem t_impl_isAsset (a : Int) : m_impl_isAsset a = some (inB a 0 2) := by
  show p_impl_isAsset FU _ = _
  unfold p_impl_isAsset
  simp only [t_impl_within, Option.bind_some]

theorem t_impl_isPlace (a b : Int) : m_impl_isPlace (a, b) = some (plB a b) := by
  show p_impl_isPlace FU _ = _
  unfold p_impl_isPlace plB
  simp only [t_impl_within, t_impl_isAsset, Option.bind_some]
  cases inB a 0 5 <;> rfl

theorem t_cmp_Compare_int64 (a b : Int) : m_cmp_Compare_int64 (a, b) = some (if a < b then -1 else if a > b then 1 else 0) := by
  show p_cmp_Compare_int64 FU _ = _
  unfold p_cmp_Compare_int64
  have e : ∀ a : Int, m_cmp_isNaN_int64 a = some false := fun a => by
    show p_cmp_isNaN_int64 FU a = _
    unfold p_cmp_isNaN_int64
    simp
  simp only [e, Option.bind_some, cond_false]
  by_cases h1 : a < b
  · simp [h1]
  · by_cases h2 : a > b <;> simp [h1, h2]

theorem t_cmp_Or_int (a b : Int) : m_cmp_Or_int [a, b] = some (if a = 0 then b else a) := by
  show p_cmp_Or_int FU _ = _
  unfold p_cmp_Or_int l_cmp_Or_int_1
  obtain ⟨m, hm⟩ : ∃ m, FU = m + 1 + 1 + 1 := ⟨18446744073709551613, rfl⟩
  rw [hm]
  have w1 : IntKind.wrap .i64 1 = 1 := rfl
  have w2 : IntKind.wrap .i64 2 = 2 := rfl
  by_cases h1 : a = 0
  · by_cases h2 : b = 0
    · simp [lp, geti, lenI, h1, h2, w1, w2]
    · have hb : (b == 0) = false := by simp [h2]
      simp [lp, geti, lenI, h1, hb, w1, w2]
  · have hb : (a == 0) = false := by simp [h1]
    simp [lp, geti, lenI, h1, hb]

theorem t_impl_comparePlaces (a b : BalT) : m_impl_comparePlaces (a, b) = some (cmpP a b) := by
  show p_impl_comparePlaces FU _ = _
  unfold p_impl_comparePlaces cmpP
  simp only [t_cmp_Compare_int64, t_cmp_Or_int, Option.bind_some]

theorem t_impl_BalancesFault (xs : List BalT) : m_impl_BalancesFault xs = some (balCode xs) := by
  show p_impl_BalancesFault FU xs = _
  unfold p_impl_BalancesFault balCode
  by_cases hl : xs.length > 18
  · have : decide (lenI xs > 18) = true := decide_eq_true (by rw [lenI_eq]; omega)
    rw [this, if_pos hl]; rfl
  · have : decide (lenI xs > 18) = false := decide_eq_false (by rw [lenI_eq]; omega)
    rw [this, if_neg hl, cond_false]
    unfold l_impl_BalancesFault_1
    refine (lp_fst xs (balStep xs) (some 0) (by unfold B36; omega) (fun i hi rec hw => ?_) (fun rec => ?_)).trans (by cases fstI (balStep xs) 0 xs <;> rfl)
    · simp only [lt_lenI hi, cond_true, geti_lt xs i hi, Option.bind_some, t_impl_isPlace, t_impl_within, balStep, okBal, hw]
      cases plB xs[i].1 xs[i].2.1 with
      | false => rfl
      | true =>
        cases inB xs[i].2.2 1 1000000000000 with
        | false => rfl
        | true =>
          simp only [Bool.not_true, cond_false, Option.bind_some, Bool.and_self]
          by_cases h0 : 0 < i
          · have hd : decide ((i : Int) > 0) = true := by simp; omega
            have hi1 : i - 1 < xs.length := by omega
            simp only [hd, cond_true, prv (i := i) (by unfold B36; omega) h0, geti_lt xs _ hi1, Option.bind_some, t_impl_comparePlaces, h0, decide_true, Bool.true_and, List.getElem?_eq_getElem hi1, Option.getD_some]
            cases decide (cmpP xs[i - 1] xs[i] ≥ 0) <;> rfl
          · have hd : decide ((i : Int) > 0) = false := by simp; omega
            simp only [hd, cond_false, Option.bind_some, h0, decide_false, Bool.false_and]
    · simp only [ge_lenI, cond_false]

theorem key_cmp (a b : BalT) (ha : okBal a = true) (hb : okBal b = true) : decide ((IntKind.wrap .i64 ((IntKind.wrap .i64 (b.1 * (3 : Int))) + b.2.1)) ≤ (IntKind.wrap .i64 ((IntKind.wrap .i64 (a.1 * (3 : Int))) + a.2.1))) = decide (cmpP a b ≥ 0) := by
  unfold okBal plB inB at ha hb
  simp only [Bool.and_eq_true, decide_eq_true_eq] at ha hb
  obtain ⟨⟨⟨a1, a2⟩, a3, a4⟩, _⟩ := ha
  obtain ⟨⟨⟨b1, b2⟩, b3, b4⟩, _⟩ := hb
  rw [wrap64 (n := a.1 * 3) (by omega) (by omega), wrap64 (n := b.1 * 3) (by omega) (by omega), wrap64 (by omega) (by omega), wrap64 (by omega) (by omega)]
  have h := cmpP_lt a b
  by_cases hc : cmpP a b < 0
  · have h1 := h.1 hc
    rw [decide_eq_false (show ¬ cmpP a b ≥ 0 by omega), decide_eq_false (by omega)]
  · have h1 : ¬ (a.1 < b.1 ∨ a.1 = b.1 ∧ a.2.1 < b.2.1) := fun q => hc (h.2 q)
    rw [decide_eq_true (show cmpP a b ≥ 0 by omega), decide_eq_true (by omega)]
theorem t_spec_BalancesFault (xs : List BalT) : m_spec_BalancesFault xs = some (balCode xs) := by
  show p_spec_BalancesFault FU xs = _
  unfold p_spec_BalancesFault balCode
  by_cases hl : xs.length > 18
  · have : decide (lenI xs > 18) = true := decide_eq_true (by rw [lenI_eq]; omega)
    rw [this, if_pos hl]; rfl
  · have : decide (lenI xs > 18) = false := decide_eq_false (by rw [lenI_eq]; omega)
    rw [this, if_neg hl, cond_false]
    unfold l_spec_BalancesFault_1
    refine (lp_fstI xs (balStep xs) (some 0) (fun i => ∀ (h : i - 1 < xs.length), 0 < i → okBal (xs[i - 1]'h) = true) (by unfold B36; omega) (fun _ h => by omega) (fun i hi hI hw => ⟨fun rec => ?_, fun hn h _ => ?_⟩) (fun rec => ?_)).trans (by cases fstI (balStep xs) 0 xs <;> rfl)
    · simp only [lt_lenI hi, cond_true, geti_lt xs i hi, Option.bind_some, t_spec_l2Key, t_spec_l1In, balStep, hw]
      cases ho : okBal xs[i] with
      | false =>
        unfold okBal at ho
        cases hp : plB xs[i].1 xs[i].2.1 with
        | false => rfl
        | true => rw [hp] at ho; simp only [Bool.true_and] at ho; rw [ho]; rfl
      | true =>
        have ho' := ho
        unfold okBal at ho'
        simp only [Bool.and_eq_true] at ho'
        simp only [ho'.1, ho'.2, Bool.not_true, cond_false, Option.bind_some]
        by_cases h0 : 0 < i
        · have hd : decide ((i : Int) > 0) = true := by simp; omega
          have hi1 : i - 1 < xs.length := by omega
          simp only [hd, cond_true, prv (i := i) (by unfold B36; omega) h0, geti_lt xs _ hi1, Option.bind_some, key_cmp _ _ (hI hi1 h0) ho, h0, decide_true, Bool.true_and, List.getElem?_eq_getElem hi1, Option.getD_some]
          cases decide (cmpP xs[i - 1] xs[i] ≥ 0) <;> rfl
        · have hd : decide ((i : Int) > 0) = false := by simp; omega
          simp only [hd, cond_false, Option.bind_some, h0, decide_false, Bool.false_and]
    · simp only [Nat.add_sub_cancel]
      unfold balStep at hn
      cases ho : okBal xs[i] with
      | true => rfl
      | false => rw [ho] at hn; cases hn
    · simp only [ge_lenI, cond_false]

theorem t_spec_LedgerFault (g : List (List BalT)) (hl : g.length ≤ 1048576) : m_spec_LedgerFault g = some (ledCode g) := by
  show p_spec_LedgerFault FU _ = _
  unfold p_spec_LedgerFault ledCode
  by_cases h1 : g.length < 1
  · have d1 : decide (lenI g < (1 : Int)) = true := decide_eq_true (by rw [lenI_eq]; omega)
    have d2 : inB (g.length : Int) 1 3 = false := by unfold inB; rw [decide_eq_false (show ¬ (1 : Int) ≤ (g.length : Int) by omega)]; rfl
    rw [d1, d2]; rfl
  · have d1 : decide (lenI g < (1 : Int)) = false := decide_eq_false (by rw [lenI_eq]; omega)
    by_cases h2 : g.length > 3
    · have d3 : decide (lenI g > (3 : Int)) = true := decide_eq_true (by rw [lenI_eq]; omega)
      have d2 : inB (g.length : Int) 1 3 = false := by unfold inB; rw [decide_eq_false (show ¬ (g.length : Int) ≤ 3 by omega), Bool.and_false]
      rw [d1, d2, d3]; rfl
    · have d3 : decide (lenI g > (3 : Int)) = false := decide_eq_false (by rw [lenI_eq]; omega)
      have d2 : inB (g.length : Int) 1 3 = true := by unfold inB; rw [decide_eq_true (show (1 : Int) ≤ (g.length : Int) by omega), decide_eq_true (show (g.length : Int) ≤ 3 by omega)]; rfl
      rw [d1, d2, d3]
      simp only [cond_false, Option.bind_some, Bool.not_true]
      unfold l_spec_LedgerFault_1
      refine (lp_fst g (fun _ y => ledF y) (some 0) (by unfold B36; omega) (fun i hi rec hw => ?_) (fun rec => ?_)).trans (by cases fstI (fun _ y => ledF y) 0 g <;> rfl)
      · simp only [lt_lenI hi, cond_true, geti_lt g i hi, Option.bind_some, t_spec_BalancesFault, ledF, hw]
        cases (balCode g[i] == 0) <;> rfl
      · simp only [ge_lenI, cond_false]

theorem t_spec_l10Base (a : Int) (xs : List BalT) : m_spec_l10Base (a, xs) = some (cond (!(inB a 0 2)) 3 (balCode xs)) := by
  show p_spec_l10Base FU _ = _
  unfold p_spec_l10Base
  simp only [t_spec_l1In, t_spec_BalancesFault, Option.bind_some]
  cases inB a 0 2 <;> rfl

def zSh : Int × ShT := (0, (0, ([], ([], ([], ([], []))))))
def shardR (a : Int) (xs : List BalT) : Int × (Int × ShT) := cond (!(inB a 0 2)) (3, zSh) (cond (!(balCode xs == 0)) (balCode xs, zSh) (0, (0, (a, (xs, ([], ([], ([], []))))))))
theorem t_spec_NewShard (a : Int) (xs : List BalT) (hl : xs.length ≤ 1048576) : m_spec_NewShard (a, xs) = some (shardR a xs) := by
  show p_spec_NewShard FU _ = _
  unfold p_spec_NewShard shardR
  have e : m_spec_l10Base (a, xs) = some (cond (!(inB a 0 2)) 3 (balCode xs)) := by
    show p_spec_l10Base FU _ = _
    unfold p_spec_l10Base
    simp only [t_spec_l1In, t_spec_BalancesFault, Option.bind_some]
    cases inB a 0 2 <;> rfl
  have hb : Nat.ble ((([] : List (Int × (Int × Int))).length + xs.length) * 24) maxBytes = true := ble_mem (by simp only [List.length_nil, maxBytes]; omega)
  simp only [e, Option.bind_some, chk_true hb]
  cases inB a 0 2 with
  | false => rfl
  | true =>
    simp only [Bool.not_true, cond_false]
    cases hc : (balCode xs == 0) with
    | false => rfl
    | true => rfl

theorem same4 {α : Type} {a b c d r : Option α} (h1 : a = r) (h2 : b = r) (h3 : c = r) (h4 : d = r) : same (same a b) (same c d) = r := by
  rw [h1, h2, h3, h4, same_self, same_self]
theorem shardR_zero {i : Int} {b : List BalT} (hi : inB i 0 2 = true) (hb : balCode b = 0) : shardR i b = (0, (0, (i, (b, ([], ([], ([], []))))))) := by
  unfold shardR
  rw [hi, hb]; rfl
theorem t_spec_NewCluster (g : List (List BalT)) (n : Int) (hl : g.length ≤ 1048576) (hb : ∀ b ∈ g, b.length ≤ 1048576) : m_spec_NewCluster (g, n) = some (newC g n) := by
  show p_spec_NewCluster FU _ = _
  unfold p_spec_NewCluster newC
  simp only [t_spec_LedgerFault g hl, Option.bind_some, t_spec_l1In]
  cases h0 : (ledCode g == 0) with
  | false => rfl
  | true =>
    obtain ⟨h1, h3, hz⟩ := ledCode_zero (eq_of_beq h0)
    cases hn : inB n 1 5 with
    | false => rfl
    | true =>
      simp only [inB, Bool.and_eq_true, decide_eq_true_eq] at hn
      have hn0 : 0 ≤ n := by omega
      have c1 : Nat.ble (24 * n.toNat) maxBytes = true := by rw [Nat.ble_eq]; simp only [maxBytes]; omega
      have c2 : Nat.ble (56 * (2 : Int).toNat) maxBytes = true := by decide
      have hloop : ∀ (r : List (List SlotT) × (List LdT × List MsgT)), l_spec_NewCluster_1 FU g ((0 : Int), ([], ([], r))) = some ((0 : Int), ([], (g.foldl putSh [], r))) := by
        intro r
        unfold l_spec_NewCluster_1
        refine (lp_foldI g putSh (fun i (s : List ShT) => ((i : Int), (([] : List ConT), (s, r)))) (fun s => some ((0 : Int), ([], (s, r)))) (fun i s => s.length = i) (by unfold B36; omega) [] rfl (fun i hi s hI => ⟨by unfold putSh; simp [hI], fun rec => ?_⟩) (fun s hI rec => ?_)).1
        · have hin : inB (i : Int) 0 2 = true := by unfold inB; rw [decide_eq_true (show (0 : Int) ≤ (i : Int) by omega), decide_eq_true (show (i : Int) ≤ 2 by omega)]; rfl
          have c3 : Nat.ble ((s.length + [((i : Int), (g[i], (([] : List MarkT), (([] : List ConT), (([] : List MarkT), ([] : List Int))))))].length) * 128) maxBytes = true := by rw [Nat.ble_eq]; simp only [List.length_cons, List.length_nil, maxBytes]; omega
          have hp : putSh s g[i] = s ++ [((i : Int), (g[i], ([], ([], ([], [])))))] := by unfold putSh; rw [hI]
          simp only [lt_lenI hi, cond_true, geti_lt g i hi, Option.bind_some, t_spec_NewShard (i : Int) g[i] (hb _ (List.getElem_mem hi)), shardR_zero hin (hz _ (List.getElem_mem hi)), chk, c3, hp, wrap_next hi hl]
        · simp only [ge_lenI, cond_false]
      simp only [Bool.not_true, cond_false]
      refine same4 ?_ ?_ ?_ ?_ <;> (simp only [if_true, if_pos hn0, chk, c1, c2, cond_true, dup_eq]; rw [if_pos (by decide), hloop])
      all_goals rfl

theorem t_impl_LedgerFault (g : List (List BalT)) (hl : g.length ≤ 1048576) : m_impl_LedgerFault g = some (ledCode g) := by
  show p_impl_LedgerFault FU _ = _
  unfold p_impl_LedgerFault ledCode
  have e0 : m_impl_size_impl_Balance g = some (g.length : Int) := rfl
  simp only [e0, Option.bind_some, t_impl_within]
  cases inB (g.length : Int) 1 3 with
  | false => rfl
  | true =>
    simp only [Bool.not_true, cond_false]
    unfold l_impl_LedgerFault_1
    refine (lp_fst g (fun _ y => ledF y) (some 0) (by unfold B36; omega) (fun i hi rec hw => ?_) (fun rec => ?_)).trans (by cases fstI (fun _ y => ledF y) 0 g <;> rfl)
    · simp only [lt_lenI hi, cond_true, geti_lt g i hi, Option.bind_some, t_impl_BalancesFault, ledF, hw]
      cases (balCode g[i] == 0) <;> rfl
    · simp only [ge_lenI, cond_false]

theorem t_slices_Clone_BalK (xs : List BalT) (h : xs.length ≤ 1048576) : m_slices_Clone_impl_Balance_impl_Balance xs = some xs := by
  show p_slices_Clone_impl_Balance_impl_Balance FU _ = _
  unfold p_slices_Clone_impl_Balance_impl_Balance
  have hb : Nat.ble ((([] : List (Int × (Int × Int))).length + xs.length) * 24) maxBytes = true := ble_mem (by simp only [List.length_nil, maxBytes]; omega)
  rw [chk_true hb]
  exact clone_same xs _ rfl
theorem t_impl_NewCluster (g : List (List BalT)) (n : Int) (hl : g.length ≤ 1048576) (hb : ∀ b ∈ g, b.length ≤ 1048576) : m_impl_NewCluster (g, n) = some (newC g n) := by
  show p_impl_NewCluster FU _ = _
  unfold p_impl_NewCluster newC
  simp only [t_impl_LedgerFault g hl, Option.bind_some, t_impl_within]
  cases h0 : (ledCode g == 0) with
  | false => rfl
  | true =>
    obtain ⟨h1, h3, hz⟩ := ledCode_zero (eq_of_beq h0)
    cases hn : inB n 1 5 with
    | false => rfl
    | true =>
      simp only [inB, Bool.and_eq_true, decide_eq_true_eq] at hn
      have hn0 : 0 ≤ n := by omega
      have c1 : Nat.ble (24 * n.toNat) maxBytes = true := by rw [Nat.ble_eq]; simp only [maxBytes]; omega
      have c2 : Nat.ble (56 * (2 : Int).toNat) maxBytes = true := by decide
      have hloop : ∀ (r : List (List SlotT) × (List LdT × List MsgT)), l_impl_NewCluster_1 FU g ((0 : Int), ([], ([], r))) = some ((0 : Int), ([], (g.foldl putSh [], r))) := by
        intro r
        unfold l_impl_NewCluster_1
        refine (lp_foldI g putSh (fun i (s : List ShT) => ((i : Int), (([] : List ConT), (s, r)))) (fun s => some ((0 : Int), ([], (s, r)))) (fun i s => s.length = i) (by unfold B36; omega) [] rfl (fun i hi s hI => ⟨by unfold putSh; simp [hI], fun rec => ?_⟩) (fun s hI rec => ?_)).1
        · have c3 : Nat.ble ((s.length + [((i : Int), (g[i], (([] : List MarkT), (([] : List ConT), (([] : List MarkT), ([] : List Int))))))].length) * 128) maxBytes = true := by rw [Nat.ble_eq]; simp only [List.length_cons, List.length_nil, maxBytes]; omega
          have hp : putSh s g[i] = s ++ [((i : Int), (g[i], ([], ([], ([], [])))))] := by unfold putSh; rw [hI]
          simp only [lt_lenI hi, cond_true, geti_lt g i hi, Option.bind_some, t_slices_Clone_BalK g[i] (hb _ (List.getElem_mem hi)), chk, c3, hp, wrap_next hi hl]
        · simp only [ge_lenI, cond_false]
      simp only [Bool.not_true, cond_false]
      refine same4 ?_ ?_ ?_ ?_ <;> (simp only [if_true, if_pos hn0, chk, c1, c2, cond_true, dup_eq]; rw [if_pos (by decide), hloop])
      all_goals rfl

theorem t_laws_eqVote (a : Int × Int) : m_laws_eqVote (a, a) = some true := by
  show p_laws_eqVote FU _ = _
  unfold p_laws_eqVote
  simp

theorem t_laws_eqVoteS (xs : List (Int × Int)) (hl : xs.length ≤ 1048576) : m_laws_eqVoteS (xs, xs) = some true := by
  show p_laws_eqVoteS FU _ = _
  unfold p_laws_eqVoteS
  simp only [beq_self_eq_true, Bool.not_true, cond_false]
  exact eq_loop xs m_laws_eqVote (fun x hx => t_laws_eqVote x) hl

theorem t_laws_eqSlot (x : SlotT) (h : x.2.2.2.2.length ≤ 1048576) : m_laws_eqSlot (x, x) = some true := by
  show p_laws_eqSlot FU _ = _
  unfold p_laws_eqSlot
  simp only [beq_self_eq_true, Bool.not_true, cond_false, t_laws_eqVote, t_laws_eqVoteS _ h, Option.bind_some]

theorem t_laws_eqSlotS (xs : List SlotT) (hl : xs.length ≤ 1048576) (h : ∀ x ∈ xs, x.2.2.2.2.length ≤ 1048576) : m_laws_eqSlotS (xs, xs) = some true := by
  show p_laws_eqSlotS FU _ = _
  unfold p_laws_eqSlotS
  simp only [beq_self_eq_true, Bool.not_true, cond_false]
  exact eq_loop xs m_laws_eqSlot (fun x hx => t_laws_eqSlot x (h x hx)) hl

theorem t_laws_heldVoteS (xs : List (Int × Int)) (k : Int) (hl : xs.length ≤ B36) (h0 : 0 ≤ k) (hk : k + 2 * xs.length ≤ B40) : m_laws_heldVoteS (markAll 2 mkVote k xs, k) = some (k + 2 * xs.length) := by
  show p_laws_heldVoteS FU _ = _
  unfold p_laws_heldVoteS l_laws_heldVoteS_1
  exact held_VoteS xs k hl h0 hk

theorem law_laws_FnExactNewCluster (x : List (List BalT) × Int) (h : WFs S_laws_FnExactNewCluster.ps x) : m_laws_FnExactNewCluster x = some true := by
  obtain ⟨g, n⟩ := x
  show p_laws_FnExactNewCluster FU _ = _
  unfold p_laws_FnExactNewCluster
  simp only
  rcases z_laws_szLedger g h.1 1048576 (by omega) (by omega) with e1 | ⟨e1, b1⟩
  · rw [e1]; rfl
  · have hW : W_Ledger g ≤ 1048576 := by omega
    have hWs : W_BalanceSS g ≤ 1048576 := hW
    have hl : g.length ≤ 1048576 := by unfold W_BalanceSS at hWs; omega
    have hbl : ∀ b ∈ g, b.length ≤ 1048576 := fun b hb => by
      have := wsum_mem W_BalanceS g b hb
      unfold W_BalanceSS at hWs
      have e : W_BalanceS b = b.length := rfl
      omega
    have d1 : decide ((1048576 : Int) - (W_Ledger g : Int) < 0) = false := decide_eq_false (by omega)
    have hB : B40 = 1099511627776 := rfl
    -- the result
    have hr : ∃ c s a l, newC g n = (c, ([], (s, (a, (l, []))))) ∧ W_ShardS s ≤ 1000 ∧ W_AcceptorS a ≤ 1000 ∧ W_LeaderS l ≤ 1000 := by
      have z1 : W_ShardS [] ≤ 1000 := Nat.zero_le _
      have z2 : W_AcceptorS [] ≤ 1000 := Nat.zero_le _
      have z3 : W_LeaderS [] ≤ 1000 := Nat.zero_le _
      unfold newC
      cases h0 : (ledCode g == 0) with
      | false => exact ⟨_, _, _, _, rfl, z1, z2, z3⟩
      | true =>
        obtain ⟨q1, q3, hz⟩ := ledCode_zero (eq_of_beq h0)
        cases hn : inB n 1 5 with
        | false => exact ⟨_, _, _, _, rfl, z1, z2, z3⟩
        | true =>
          simp only [inB, Bool.and_eq_true, decide_eq_true_eq] at hn
          refine ⟨_, _, _, _, rfl, ?_, ?_, ?_⟩
          · have k1 : wsum W_Shard (g.foldl putSh []) ≤ 18 * (g.foldl putSh []).length := wsum_bnd W_Shard 18 _ fun s hs => by
              rcases putSh_mem g [] s hs with hs | ⟨b, hb, e⟩
              · cases hs
              · have := balCode_len (hz b hb)
                unfold W_Shard
                rw [e]
                show b.length + 0 + 0 + 0 + 0 ≤ 18
                omega
            have k2 := putSh_len g []
            unfold W_ShardS
            simp only [List.length_nil] at k2
            omega
          · have k1 : wsum W_Acceptor (List.replicate n.toNat ([] : List SlotT)) ≤ 0 * (List.replicate n.toNat ([] : List SlotT)).length := wsum_bnd W_Acceptor 0 _ fun a ha => by
              rw [(List.mem_replicate.1 ha).2]; exact Nat.le_refl _
            unfold W_AcceptorS
            rw [List.length_replicate] at k1 ⊢
            omega
          · exact (by decide : (2 : Nat) ≤ 1000)
    obtain ⟨c, s, a, l, hr1, w2, w3, w4⟩ := hr
    have w1 : W_ContractS [] ≤ 1048576 := Nat.zero_le _
    have w5 : W_MessageS [] ≤ 1048576 := Nat.zero_le _
    have v1 := vb_BalanceSS g
    have u1 := vb_ContractS []
    have u2 := vb_ShardS s
    have u3 := vb_AcceptorS a
    have u4 := vb_LeaderS l
    have u5 := vb_MessageS []
    obtain ⟨L1, _, m1⟩ := mk_BalanceSS g 1 hWs (by omega) (by omega)
    obtain ⟨M1, _, k1, g1⟩ := mh_ContractS [] 1 w1 (by omega) (by omega)
    obtain ⟨M2, _, k2, g2⟩ := mh_ShardS s (1 + (V_ContractS [] : Int)) (by omega) (by omega) (by omega)
    obtain ⟨M3, _, k3, g3⟩ := mh_AcceptorS a (1 + (V_ContractS [] : Int) + (V_ShardS s : Int)) (by omega) (by omega) (by omega)
    obtain ⟨M4, _, k4, g4⟩ := mh_LeaderS l (1 + (V_ContractS [] : Int) + (V_ShardS s : Int) + (V_AcceptorS a : Int)) (by omega) (by omega) (by omega)
    obtain ⟨M5, _, k5, g5⟩ := mh_MessageS [] (1 + (V_ContractS [] : Int) + (V_ShardS s : Int) + (V_AcceptorS a : Int) + (V_LeaderS l : Int)) w5 (by omega) (by omega)
    have d2 : decide ((1 : Int) + (V_BalanceSS g : Int) < 0) = false := decide_eq_false (by omega)
    have d3 : decide (1 + (V_ContractS [] : Int) + (V_ShardS s : Int) + (V_AcceptorS a : Int) + (V_LeaderS l : Int) + (V_MessageS [] : Int) < 0) = false := decide_eq_false (by omega)
    have q2 := h_laws_heldCluster (M1, (M2, (M3, (M4, M5)))) 1 _ _ _ _ _ g1 (by omega) g2 (by omega) g3 (by omega) g4 (by omega) g5 (by omega)
    have q3 := h_laws_heldClusterResult (c, (M1, (M2, (M3, (M4, M5))))) 1 _ q2 (by omega)
    have ee := eq_laws_eqClusterResult (c, ([], (s, (a, (l, []))))) (by
      show W_ContractS [] + W_ShardS s + W_AcceptorS a + W_LeaderS l + W_MessageS [] ≤ 1048576
      have h1 : W_ContractS [] = 0 := rfl
      have h2 : W_MessageS [] = 0 := rfl
      omega)
    simp only [e1, Option.bind_some, d1, cond_false, o_laws_toLedger g hW, t_spec_NewCluster g n hl hbl, t_impl_NewCluster g n hl hbl, hr1, ee, Bool.not_true, eq_laws_eqLedger g hW, m1, d2, k1, k2, k3, k4, k5, q3, d3, beq_self_eq_true]
end Go.RvP
