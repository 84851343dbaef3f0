/- The plain law: spec and program answer alike, for FnExactMessageFault. Condition: the data are such as can come in. -/
import Derived.Test.YtccghpomkikjoaaGreatRvP6
import Derived.Test.YtccghpomkikjoaaGreatRvM
namespace Go.RvP
open Go.Rv
def W_LegS (xs : (List (Int × (Int × (Int × Int))))) : Nat := xs.length

theorem z_laws_szLegS (xs : (List (Int × (Int × (Int × Int))))) (h : WFk (.sl none (.pair (.int .i64) (.pair (.int .i64) (.pair (.int .i64) (.int .i64))))) xs) : SZ m_laws_szLegS W_LegS xs := szf xs h.1

def W_Contract (x : (Int × (List (Int × (Int × (Int × Int)))))) : Nat := W_LegS x.2

theorem z_laws_szContract (x : (Int × (List (Int × (Int × (Int × Int)))))) (h : WFk (.pair (.int .i64) (.sl none (.pair (.int .i64) (.pair (.int .i64) (.pair (.int .i64) (.int .i64)))))) x) : SZ m_laws_szContract W_Contract x := by
  intro left h0 h1
  have hm : maxLen = 9223372036854775807 := rfl
  show p_laws_szContract FU _ = _ ∨ (p_laws_szContract FU _ = _ ∧ _)
  unfold p_laws_szContract W_Contract
  have b1 : 0 ≤ left := by omega
  rcases z_laws_szLegS x.2 h.2 (left) (by omega) (by omega) with e1 | ⟨e1, f1⟩
  · left; simp only [e1, Option.bind_some]; rfl
  · have d1 : decide (left - (W_LegS x.2 : Int) < 0) = false := decide_eq_false (by omega)
    exact .inr ⟨by simp only [e1, d1, Option.bind_some, cond_false], f1⟩

def W_ContractS (xs : (List (Int × (List (Int × (Int × (Int × Int))))))) : Nat := xs.length + wsum W_Contract xs

theorem z_laws_szContractS (xs : (List (Int × (List (Int × (Int × (Int × Int))))))) (h : WFk (.sl none (.pair (.int .i64) (.sl none (.pair (.int .i64) (.pair (.int .i64) (.pair (.int .i64) (.int .i64))))))) xs) : SZ m_laws_szContractS W_ContractS xs := szl xs m_laws_szContract W_Contract h.1 (fun x hx => z_laws_szContract x (h.2 x hx))

def W_BalanceS (xs : (List (Int × (Int × Int)))) : Nat := xs.length

theorem z_laws_szBalanceS (xs : (List (Int × (Int × Int)))) (h : WFk (.sl none (.pair (.int .i64) (.pair (.int .i64) (.int .i64)))) xs) : SZ m_laws_szBalanceS W_BalanceS xs := szf xs h.1

def W_MarkS (xs : (List (Int × Int))) : Nat := xs.length

theorem z_laws_szMarkS (xs : (List (Int × Int))) (h : WFk (.sl none (.pair (.int .i64) (.int .i64))) xs) : SZ m_laws_szMarkS W_MarkS xs := szf xs h.1

def W_Int64S (xs : (List Int)) : Nat := xs.length

theorem z_laws_szInt64S (xs : (List Int)) (h : WFk (.sl none (.int .i64)) xs) : SZ m_laws_szInt64S W_Int64S xs := szf xs h.1

def W_Shard (x : (Int × ((List (Int × (Int × Int))) × ((List (Int × Int)) × ((List (Int × (List (Int × (Int × (Int × Int)))))) × ((List (Int × Int)) × (List Int))))))) : Nat := W_BalanceS x.2.1 + W_MarkS x.2.2.1 + W_ContractS x.2.2.2.1 + W_MarkS x.2.2.2.2.1 + W_Int64S x.2.2.2.2.2

theorem z_laws_szShard (x : (Int × ((List (Int × (Int × Int))) × ((List (Int × Int)) × ((List (Int × (List (Int × (Int × (Int × Int)))))) × ((List (Int × Int)) × (List Int))))))) (h : WFk (.pair (.int .i64) (.pair (.sl none (.pair (.int .i64) (.pair (.int .i64) (.int .i64)))) (.pair (.sl none (.pair (.int .i64) (.int .i64))) (.pair (.sl none (.pair (.int .i64) (.sl none (.pair (.int .i64) (.pair (.int .i64) (.pair (.int .i64) (.int .i64))))))) (.pair (.sl none (.pair (.int .i64) (.int .i64))) (.sl none (.int .i64))))))) x) : SZ m_laws_szShard W_Shard x := by
  intro left h0 h1
  have hm : maxLen = 9223372036854775807 := rfl
  show p_laws_szShard FU _ = _ ∨ (p_laws_szShard FU _ = _ ∧ _)
  unfold p_laws_szShard W_Shard
  have b1 : 0 ≤ left := by omega
  rcases z_laws_szBalanceS x.2.1 h.2.1 (left) (by omega) (by omega) with e1 | ⟨e1, f1⟩
  · left; simp only [e1, Option.bind_some]; rfl
  · have d1 : decide (left - (W_BalanceS x.2.1 : Int) < 0) = false := decide_eq_false (by omega)
    have b2 : 0 ≤ left - (W_BalanceS x.2.1 : Int) := by omega
    rcases z_laws_szMarkS x.2.2.1 h.2.2.1 (left - (W_BalanceS x.2.1 : Int)) (by omega) (by omega) with e2 | ⟨e2, f2⟩
    · left; simp only [e1, d1, e2, Option.bind_some, cond_false]; rfl
    · have d2 : decide (left - (W_BalanceS x.2.1 : Int) - (W_MarkS x.2.2.1 : Int) < 0) = false := decide_eq_false (by omega)
      have b3 : 0 ≤ left - (W_BalanceS x.2.1 : Int) - (W_MarkS x.2.2.1 : Int) := by omega
      rcases z_laws_szContractS x.2.2.2.1 h.2.2.2.1 (left - (W_BalanceS x.2.1 : Int) - (W_MarkS x.2.2.1 : Int)) (by omega) (by omega) with e3 | ⟨e3, f3⟩
      · left; simp only [e1, d1, e2, d2, e3, Option.bind_some, cond_false]; rfl
      · have d3 : decide (left - (W_BalanceS x.2.1 : Int) - (W_MarkS x.2.2.1 : Int) - (W_ContractS x.2.2.2.1 : Int) < 0) = false := decide_eq_false (by omega)
        have b4 : 0 ≤ left - (W_BalanceS x.2.1 : Int) - (W_MarkS x.2.2.1 : Int) - (W_ContractS x.2.2.2.1 : Int) := by omega
        rcases z_laws_szMarkS x.2.2.2.2.1 h.2.2.2.2.1 (left - (W_BalanceS x.2.1 : Int) - (W_MarkS x.2.2.1 : Int) - (W_ContractS x.2.2.2.1 : Int)) (by omega) (by omega) with e4 | ⟨e4, f4⟩
        · left; simp only [e1, d1, e2, d2, e3, d3, e4, Option.bind_some, cond_false]; rfl
        · have d4 : decide (left - (W_BalanceS x.2.1 : Int) - (W_MarkS x.2.2.1 : Int) - (W_ContractS x.2.2.2.1 : Int) - (W_MarkS x.2.2.2.2.1 : Int) < 0) = false := decide_eq_false (by omega)
          have b5 : 0 ≤ left - (W_BalanceS x.2.1 : Int) - (W_MarkS x.2.2.1 : Int) - (W_ContractS x.2.2.2.1 : Int) - (W_MarkS x.2.2.2.2.1 : Int) := by omega
          rcases z_laws_szInt64S x.2.2.2.2.2 h.2.2.2.2.2 (left - (W_BalanceS x.2.1 : Int) - (W_MarkS x.2.2.1 : Int) - (W_ContractS x.2.2.2.1 : Int) - (W_MarkS x.2.2.2.2.1 : Int)) (by omega) (by omega) with e5 | ⟨e5, f5⟩
          · left; simp only [e1, d1, e2, d2, e3, d3, e4, d4, e5, Option.bind_some, cond_false]; rfl
          · have d5 : decide (left - (W_BalanceS x.2.1 : Int) - (W_MarkS x.2.2.1 : Int) - (W_ContractS x.2.2.2.1 : Int) - (W_MarkS x.2.2.2.2.1 : Int) - (W_Int64S x.2.2.2.2.2 : Int) < 0) = false := decide_eq_false (by omega)
            refine .inr ⟨?_, by omega⟩
            simp only [e1, d1, e2, d2, e3, d3, e4, d4, e5, d5, Option.bind_some, cond_false]
            congr 1; omega

def W_ShardS (xs : (List (Int × ((List (Int × (Int × Int))) × ((List (Int × Int)) × ((List (Int × (List (Int × (Int × (Int × Int)))))) × ((List (Int × Int)) × (List Int)))))))) : Nat := xs.length + wsum W_Shard xs

theorem z_laws_szShardS (xs : (List (Int × ((List (Int × (Int × Int))) × ((List (Int × Int)) × ((List (Int × (List (Int × (Int × (Int × Int)))))) × ((List (Int × Int)) × (List Int)))))))) (h : WFk (.sl none (.pair (.int .i64) (.pair (.sl none (.pair (.int .i64) (.pair (.int .i64) (.int .i64)))) (.pair (.sl none (.pair (.int .i64) (.int .i64))) (.pair (.sl none (.pair (.int .i64) (.sl none (.pair (.int .i64) (.pair (.int .i64) (.pair (.int .i64) (.int .i64))))))) (.pair (.sl none (.pair (.int .i64) (.int .i64))) (.sl none (.int .i64)))))))) xs) : SZ m_laws_szShardS W_ShardS xs := szl xs m_laws_szShard W_Shard h.1 (fun x hx => z_laws_szShard x (h.2 x hx))

def W_VoteS (xs : (List (Int × Int))) : Nat := xs.length

theorem z_laws_szVoteS (xs : (List (Int × Int))) (h : WFk (.sl none (.pair (.int .i64) (.int .i64))) xs) : SZ m_laws_szVoteS W_VoteS xs := szf xs h.1

def W_Slot (x : (Int × (Int × (Int × ((Int × Int) × (List (Int × Int))))))) : Nat := W_VoteS x.2.2.2.2

theorem z_laws_szSlot (x : (Int × (Int × (Int × ((Int × Int) × (List (Int × Int))))))) (h : WFk (.pair (.int .i64) (.pair (.int .i64) (.pair (.int .i64) (.pair (.pair (.int .i64) (.int .i64)) (.sl none (.pair (.int .i64) (.int .i64))))))) x) : SZ m_laws_szSlot W_Slot x := by
  intro left h0 h1
  have hm : maxLen = 9223372036854775807 := rfl
  show p_laws_szSlot FU _ = _ ∨ (p_laws_szSlot FU _ = _ ∧ _)
  unfold p_laws_szSlot W_Slot
  have b1 : 0 ≤ left := by omega
  rcases z_laws_szVoteS x.2.2.2.2 h.2.2.2.2 (left) (by omega) (by omega) with e1 | ⟨e1, f1⟩
  · left; simp only [e1, Option.bind_some]; rfl
  · have d1 : decide (left - (W_VoteS x.2.2.2.2 : Int) < 0) = false := decide_eq_false (by omega)
    exact .inr ⟨by simp only [e1, d1, Option.bind_some, cond_false], f1⟩

def W_SlotS (xs : (List (Int × (Int × (Int × ((Int × Int) × (List (Int × Int)))))))) : Nat := xs.length + wsum W_Slot xs

theorem z_laws_szSlotS (xs : (List (Int × (Int × (Int × ((Int × Int) × (List (Int × Int)))))))) (h : WFk (.sl none (.pair (.int .i64) (.pair (.int .i64) (.pair (.int .i64) (.pair (.pair (.int .i64) (.int .i64)) (.sl none (.pair (.int .i64) (.int .i64)))))))) xs) : SZ m_laws_szSlotS W_SlotS xs := szl xs m_laws_szSlot W_Slot h.1 (fun x hx => z_laws_szSlot x (h.2 x hx))

def W_Acceptor (x : (List (Int × (Int × (Int × ((Int × Int) × (List (Int × Int)))))))) : Nat := W_SlotS x

theorem z_laws_szAcceptor (x : (List (Int × (Int × (Int × ((Int × Int) × (List (Int × Int)))))))) (h : WFk (.one (.sl none (.pair (.int .i64) (.pair (.int .i64) (.pair (.int .i64) (.pair (.pair (.int .i64) (.int .i64)) (.sl none (.pair (.int .i64) (.int .i64))))))))) x) : SZ m_laws_szAcceptor W_Acceptor x := by
  intro left h0 h1
  have hm : maxLen = 9223372036854775807 := rfl
  show p_laws_szAcceptor FU _ = _ ∨ (p_laws_szAcceptor FU _ = _ ∧ _)
  unfold p_laws_szAcceptor W_Acceptor
  have b1 : 0 ≤ left := by omega
  rcases z_laws_szSlotS x h (left) (by omega) (by omega) with e1 | ⟨e1, f1⟩
  · left; simp only [e1, Option.bind_some]; rfl
  · have d1 : decide (left - (W_SlotS x : Int) < 0) = false := decide_eq_false (by omega)
    exact .inr ⟨by simp only [e1, d1, Option.bind_some, cond_false], f1⟩

def W_AcceptorS (xs : (List (List (Int × (Int × (Int × ((Int × Int) × (List (Int × Int))))))))) : Nat := xs.length + wsum W_Acceptor xs

theorem z_laws_szAcceptorS (xs : (List (List (Int × (Int × (Int × ((Int × Int) × (List (Int × Int))))))))) (h : WFk (.sl none (.one (.sl none (.pair (.int .i64) (.pair (.int .i64) (.pair (.int .i64) (.pair (.pair (.int .i64) (.int .i64)) (.sl none (.pair (.int .i64) (.int .i64)))))))))) xs) : SZ m_laws_szAcceptorS W_AcceptorS xs := szl xs m_laws_szAcceptor W_Acceptor h.1 (fun x hx => z_laws_szAcceptor x (h.2 x hx))

def W_Try (x : (Int × (Int × (Int × (Int × ((List Int) × (List (Int × Int)))))))) : Nat := W_Int64S x.2.2.2.2.1 + W_VoteS x.2.2.2.2.2

theorem z_laws_szTry (x : (Int × (Int × (Int × (Int × ((List Int) × (List (Int × Int)))))))) (h : WFk (.pair (.int .i64) (.pair (.int .i64) (.pair (.int .i64) (.pair (.int .i64) (.pair (.sl none (.int .i64)) (.sl none (.pair (.int .i64) (.int .i64)))))))) x) : SZ m_laws_szTry W_Try x := by
  intro left h0 h1
  have hm : maxLen = 9223372036854775807 := rfl
  show p_laws_szTry FU _ = _ ∨ (p_laws_szTry FU _ = _ ∧ _)
  unfold p_laws_szTry W_Try
  have b1 : 0 ≤ left := by omega
  rcases z_laws_szInt64S x.2.2.2.2.1 h.2.2.2.2.1 (left) (by omega) (by omega) with e1 | ⟨e1, f1⟩
  · left; simp only [e1, Option.bind_some]; rfl
  · have d1 : decide (left - (W_Int64S x.2.2.2.2.1 : Int) < 0) = false := decide_eq_false (by omega)
    have b2 : 0 ≤ left - (W_Int64S x.2.2.2.2.1 : Int) := by omega
    rcases z_laws_szVoteS x.2.2.2.2.2 h.2.2.2.2.2 (left - (W_Int64S x.2.2.2.2.1 : Int)) (by omega) (by omega) with e2 | ⟨e2, f2⟩
    · left; simp only [e1, d1, e2, Option.bind_some, cond_false]; rfl
    · have d2 : decide (left - (W_Int64S x.2.2.2.2.1 : Int) - (W_VoteS x.2.2.2.2.2 : Int) < 0) = false := decide_eq_false (by omega)
      refine .inr ⟨?_, by omega⟩
      simp only [e1, d1, e2, d2, Option.bind_some, cond_false]
      congr 1; omega

def W_TryS (xs : (List (Int × (Int × (Int × (Int × ((List Int) × (List (Int × Int))))))))) : Nat := xs.length + wsum W_Try xs

theorem z_laws_szTryS (xs : (List (Int × (Int × (Int × (Int × ((List Int) × (List (Int × Int))))))))) (h : WFk (.sl none (.pair (.int .i64) (.pair (.int .i64) (.pair (.int .i64) (.pair (.int .i64) (.pair (.sl none (.int .i64)) (.sl none (.pair (.int .i64) (.int .i64))))))))) xs) : SZ m_laws_szTryS W_TryS xs := szl xs m_laws_szTry W_Try h.1 (fun x hx => z_laws_szTry x (h.2 x hx))

def W_HeardS (xs : (List (Int × (Int × (Int × (Int × Int)))))) : Nat := xs.length

theorem z_laws_szHeardS (xs : (List (Int × (Int × (Int × (Int × Int)))))) (h : WFk (.sl none (.pair (.int .i64) (.pair (.int .i64) (.pair (.int .i64) (.pair (.int .i64) (.int .i64)))))) xs) : SZ m_laws_szHeardS W_HeardS xs := szf xs h.1

def W_Leader (x : (Int × ((List (Int × (Int × (Int × (Int × ((List Int) × (List (Int × Int)))))))) × (List (Int × (Int × (Int × (Int × Int)))))))) : Nat := W_TryS x.2.1 + W_HeardS x.2.2

theorem z_laws_szLeader (x : (Int × ((List (Int × (Int × (Int × (Int × ((List Int) × (List (Int × Int)))))))) × (List (Int × (Int × (Int × (Int × Int)))))))) (h : WFk (.pair (.int .i64) (.pair (.sl none (.pair (.int .i64) (.pair (.int .i64) (.pair (.int .i64) (.pair (.int .i64) (.pair (.sl none (.int .i64)) (.sl none (.pair (.int .i64) (.int .i64))))))))) (.sl none (.pair (.int .i64) (.pair (.int .i64) (.pair (.int .i64) (.pair (.int .i64) (.int .i64)))))))) x) : SZ m_laws_szLeader W_Leader x := by
  intro left h0 h1
  have hm : maxLen = 9223372036854775807 := rfl
  show p_laws_szLeader FU _ = _ ∨ (p_laws_szLeader FU _ = _ ∧ _)
  unfold p_laws_szLeader W_Leader
  have b1 : 0 ≤ left := by omega
  rcases z_laws_szTryS x.2.1 h.2.1 (left) (by omega) (by omega) with e1 | ⟨e1, f1⟩
  · left; simp only [e1, Option.bind_some]; rfl
  · have d1 : decide (left - (W_TryS x.2.1 : Int) < 0) = false := decide_eq_false (by omega)
    have b2 : 0 ≤ left - (W_TryS x.2.1 : Int) := by omega
    rcases z_laws_szHeardS x.2.2 h.2.2 (left - (W_TryS x.2.1 : Int)) (by omega) (by omega) with e2 | ⟨e2, f2⟩
    · left; simp only [e1, d1, e2, Option.bind_some, cond_false]; rfl
    · have d2 : decide (left - (W_TryS x.2.1 : Int) - (W_HeardS x.2.2 : Int) < 0) = false := decide_eq_false (by omega)
      refine .inr ⟨?_, by omega⟩
      simp only [e1, d1, e2, d2, Option.bind_some, cond_false]
      congr 1; omega

def W_LeaderS (xs : (List (Int × ((List (Int × (Int × (Int × (Int × ((List Int) × (List (Int × Int)))))))) × (List (Int × (Int × (Int × (Int × Int))))))))) : Nat := xs.length + wsum W_Leader xs

theorem z_laws_szLeaderS (xs : (List (Int × ((List (Int × (Int × (Int × (Int × ((List Int) × (List (Int × Int)))))))) × (List (Int × (Int × (Int × (Int × Int))))))))) (h : WFk (.sl none (.pair (.int .i64) (.pair (.sl none (.pair (.int .i64) (.pair (.int .i64) (.pair (.int .i64) (.pair (.int .i64) (.pair (.sl none (.int .i64)) (.sl none (.pair (.int .i64) (.int .i64))))))))) (.sl none (.pair (.int .i64) (.pair (.int .i64) (.pair (.int .i64) (.pair (.int .i64) (.int .i64))))))))) xs) : SZ m_laws_szLeaderS W_LeaderS xs := szl xs m_laws_szLeader W_Leader h.1 (fun x hx => z_laws_szLeader x (h.2 x hx))

def W_MessageS (xs : (List (Int × (Int × (Int × (Int × (Int × (Int × (Int × (Int × Int)))))))))) : Nat := xs.length

theorem z_laws_szMessageS (xs : (List (Int × (Int × (Int × (Int × (Int × (Int × (Int × (Int × Int)))))))))) (h : WFk (.sl none (.pair (.int .i64) (.pair (.int .i64) (.pair (.int .i64) (.pair (.int .i64) (.pair (.int .i64) (.pair (.int .i64) (.pair (.int .i64) (.pair (.int .i64) (.int .i64)))))))))) xs) : SZ m_laws_szMessageS W_MessageS xs := szf xs h.1

def W_Cluster (x : ((List (Int × (List (Int × (Int × (Int × Int)))))) × ((List (Int × ((List (Int × (Int × Int))) × ((List (Int × Int)) × ((List (Int × (List (Int × (Int × (Int × Int)))))) × ((List (Int × Int)) × (List Int))))))) × ((List (List (Int × (Int × (Int × ((Int × Int) × (List (Int × Int)))))))) × ((List (Int × ((List (Int × (Int × (Int × (Int × ((List Int) × (List (Int × Int)))))))) × (List (Int × (Int × (Int × (Int × Int)))))))) × (List (Int × (Int × (Int × (Int × (Int × (Int × (Int × (Int × Int)))))))))))))) : Nat := W_ContractS x.1 + W_ShardS x.2.1 + W_AcceptorS x.2.2.1 + W_LeaderS x.2.2.2.1 + W_MessageS x.2.2.2.2

theorem z_laws_szCluster (x : ((List (Int × (List (Int × (Int × (Int × Int)))))) × ((List (Int × ((List (Int × (Int × Int))) × ((List (Int × Int)) × ((List (Int × (List (Int × (Int × (Int × Int)))))) × ((List (Int × Int)) × (List Int))))))) × ((List (List (Int × (Int × (Int × ((Int × Int) × (List (Int × Int)))))))) × ((List (Int × ((List (Int × (Int × (Int × (Int × ((List Int) × (List (Int × Int)))))))) × (List (Int × (Int × (Int × (Int × Int)))))))) × (List (Int × (Int × (Int × (Int × (Int × (Int × (Int × (Int × Int)))))))))))))) (h : WFk (.pair (.sl none (.pair (.int .i64) (.sl none (.pair (.int .i64) (.pair (.int .i64) (.pair (.int .i64) (.int .i64))))))) (.pair (.sl none (.pair (.int .i64) (.pair (.sl none (.pair (.int .i64) (.pair (.int .i64) (.int .i64)))) (.pair (.sl none (.pair (.int .i64) (.int .i64))) (.pair (.sl none (.pair (.int .i64) (.sl none (.pair (.int .i64) (.pair (.int .i64) (.pair (.int .i64) (.int .i64))))))) (.pair (.sl none (.pair (.int .i64) (.int .i64))) (.sl none (.int .i64)))))))) (.pair (.sl none (.one (.sl none (.pair (.int .i64) (.pair (.int .i64) (.pair (.int .i64) (.pair (.pair (.int .i64) (.int .i64)) (.sl none (.pair (.int .i64) (.int .i64)))))))))) (.pair (.sl none (.pair (.int .i64) (.pair (.sl none (.pair (.int .i64) (.pair (.int .i64) (.pair (.int .i64) (.pair (.int .i64) (.pair (.sl none (.int .i64)) (.sl none (.pair (.int .i64) (.int .i64))))))))) (.sl none (.pair (.int .i64) (.pair (.int .i64) (.pair (.int .i64) (.pair (.int .i64) (.int .i64))))))))) (.sl none (.pair (.int .i64) (.pair (.int .i64) (.pair (.int .i64) (.pair (.int .i64) (.pair (.int .i64) (.pair (.int .i64) (.pair (.int .i64) (.pair (.int .i64) (.int .i64)))))))))))))) x) : SZ m_laws_szCluster W_Cluster x := by
  intro left h0 h1
  have hm : maxLen = 9223372036854775807 := rfl
  show p_laws_szCluster FU _ = _ ∨ (p_laws_szCluster FU _ = _ ∧ _)
  unfold p_laws_szCluster W_Cluster
  have b1 : 0 ≤ left := by omega
  rcases z_laws_szContractS x.1 h.1 (left) (by omega) (by omega) with e1 | ⟨e1, f1⟩
  · left; simp only [e1, Option.bind_some]; rfl
  · have d1 : decide (left - (W_ContractS x.1 : Int) < 0) = false := decide_eq_false (by omega)
    have b2 : 0 ≤ left - (W_ContractS x.1 : Int) := by omega
    rcases z_laws_szShardS x.2.1 h.2.1 (left - (W_ContractS x.1 : Int)) (by omega) (by omega) with e2 | ⟨e2, f2⟩
    · left; simp only [e1, d1, e2, Option.bind_some, cond_false]; rfl
    · have d2 : decide (left - (W_ContractS x.1 : Int) - (W_ShardS x.2.1 : Int) < 0) = false := decide_eq_false (by omega)
      have b3 : 0 ≤ left - (W_ContractS x.1 : Int) - (W_ShardS x.2.1 : Int) := by omega
      rcases z_laws_szAcceptorS x.2.2.1 h.2.2.1 (left - (W_ContractS x.1 : Int) - (W_ShardS x.2.1 : Int)) (by omega) (by omega) with e3 | ⟨e3, f3⟩
      · left; simp only [e1, d1, e2, d2, e3, Option.bind_some, cond_false]; rfl
      · have d3 : decide (left - (W_ContractS x.1 : Int) - (W_ShardS x.2.1 : Int) - (W_AcceptorS x.2.2.1 : Int) < 0) = false := decide_eq_false (by omega)
        have b4 : 0 ≤ left - (W_ContractS x.1 : Int) - (W_ShardS x.2.1 : Int) - (W_AcceptorS x.2.2.1 : Int) := by omega
        rcases z_laws_szLeaderS x.2.2.2.1 h.2.2.2.1 (left - (W_ContractS x.1 : Int) - (W_ShardS x.2.1 : Int) - (W_AcceptorS x.2.2.1 : Int)) (by omega) (by omega) with e4 | ⟨e4, f4⟩
        · left; simp only [e1, d1, e2, d2, e3, d3, e4, Option.bind_some, cond_false]; rfl
        · have d4 : decide (left - (W_ContractS x.1 : Int) - (W_ShardS x.2.1 : Int) - (W_AcceptorS x.2.2.1 : Int) - (W_LeaderS x.2.2.2.1 : Int) < 0) = false := decide_eq_false (by omega)
          have b5 : 0 ≤ left - (W_ContractS x.1 : Int) - (W_ShardS x.2.1 : Int) - (W_AcceptorS x.2.2.1 : Int) - (W_LeaderS x.2.2.2.1 : Int) := by omega
          rcases z_laws_szMessageS x.2.2.2.2 h.2.2.2.2 (left - (W_ContractS x.1 : Int) - (W_ShardS x.2.1 : Int) - (W_AcceptorS x.2.2.1 : Int) - (W_LeaderS x.2.2.2.1 : Int)) (by omega) (by omega) with e5 | ⟨e5, f5⟩
          · left; simp only [e1, d1, e2, d2, e3, d3, e4, d4, e5, Option.bind_some, cond_false]; rfl
          · have d5 : decide (left - (W_ContractS x.1 : Int) - (W_ShardS x.2.1 : Int) - (W_AcceptorS x.2.2.1 : Int) - (W_LeaderS x.2.2.2.1 : Int) - (W_MessageS x.2.2.2.2 : Int) < 0) = false := decide_eq_false (by omega)
            refine .inr ⟨?_, by omega⟩
            simp only [e1, d1, e2, d2, e3, d3, e4, d4, e5, d5, Option.bind_some, cond_false]
            congr 1; omega

theorem o_laws_toLeg (x : (Int × (Int × (Int × Int)))) : m_laws_toLeg x = some x := by
  show p_laws_toLeg FU _ = _
  unfold p_laws_toLeg
  rfl

theorem o_laws_toLegS (xs : (List (Int × (Int × (Int × Int))))) (h : W_LegS xs ≤ 1048576) : m_laws_toLegS xs = some xs := by
  unfold W_LegS at h
  show p_laws_toLegS FU xs = _
  unfold p_laws_toLegS
  rw [if_pos rfl, if_pos (by simp [lenI_eq])]
  have hb : Nat.ble (32 * (lenI xs).toNat) maxBytes = true := by rw [Nat.ble_eq]; simp only [lenI_eq, Int.toNat_natCast, maxBytes]; omega
  rw [chk_true hb]
  exact copy_loop2 xs _ m_laws_toLeg (fun x _ => o_laws_toLeg x) (by omega)

theorem o_laws_toContract (x : (Int × (List (Int × (Int × (Int × Int)))))) (h : W_Contract x ≤ 1048576) : m_laws_toContract x = some x := by
  unfold W_Contract at h
  show p_laws_toContract FU _ = _
  unfold p_laws_toContract
  simp only [o_laws_toLegS x.2 (by omega), Option.bind_some]

theorem o_laws_toContractS (xs : (List (Int × (List (Int × (Int × (Int × Int))))))) (h : W_ContractS xs ≤ 1048576) : m_laws_toContractS xs = some xs := by
  unfold W_ContractS at h
  show p_laws_toContractS FU xs = _
  unfold p_laws_toContractS
  rw [if_pos rfl, if_pos (by simp [lenI_eq])]
  have hb : Nat.ble (32 * (lenI xs).toNat) maxBytes = true := by rw [Nat.ble_eq]; simp only [lenI_eq, Int.toNat_natCast, maxBytes]; omega
  rw [chk_true hb]
  exact copy_loop2 xs _ m_laws_toContract (fun x hx => o_laws_toContract x (by have := wsum_mem W_Contract xs x hx; omega)) (by omega)

theorem o_laws_toBalance (x : (Int × (Int × Int))) : m_laws_toBalance x = some x := by
  show p_laws_toBalance FU _ = _
  unfold p_laws_toBalance
  rfl

theorem o_laws_toBalanceS (xs : (List (Int × (Int × Int)))) (h : W_BalanceS xs ≤ 1048576) : m_laws_toBalanceS xs = some xs := by
  unfold W_BalanceS at h
  show p_laws_toBalanceS FU xs = _
  unfold p_laws_toBalanceS
  rw [if_pos rfl, if_pos (by simp [lenI_eq])]
  have hb : Nat.ble (24 * (lenI xs).toNat) maxBytes = true := by rw [Nat.ble_eq]; simp only [lenI_eq, Int.toNat_natCast, maxBytes]; omega
  rw [chk_true hb]
  exact copy_loop2 xs _ m_laws_toBalance (fun x _ => o_laws_toBalance x) (by omega)

theorem o_laws_toMark (x : (Int × Int)) : m_laws_toMark x = some x := by
  show p_laws_toMark FU _ = _
  unfold p_laws_toMark
  rfl

theorem o_laws_toMarkS (xs : (List (Int × Int))) (h : W_MarkS xs ≤ 1048576) : m_laws_toMarkS xs = some xs := by
  unfold W_MarkS at h
  show p_laws_toMarkS FU xs = _
  unfold p_laws_toMarkS
  rw [if_pos rfl, if_pos (by simp [lenI_eq])]
  have hb : Nat.ble (16 * (lenI xs).toNat) maxBytes = true := by rw [Nat.ble_eq]; simp only [lenI_eq, Int.toNat_natCast, maxBytes]; omega
  rw [chk_true hb]
  exact copy_loop2 xs _ m_laws_toMark (fun x _ => o_laws_toMark x) (by omega)

theorem o_laws_toInt64S (xs : (List Int)) (h : W_Int64S xs ≤ 1048576) : m_laws_toInt64S xs = some xs := by
  unfold W_Int64S at h
  show p_laws_toInt64S FU xs = _
  unfold p_laws_toInt64S
  rw [if_pos rfl, if_pos (by simp [lenI_eq])]
  have hb : Nat.ble (8 * (lenI xs).toNat) maxBytes = true := by rw [Nat.ble_eq]; simp only [lenI_eq, Int.toNat_natCast, maxBytes]; omega
  rw [chk_true hb]
  exact copy_flat xs _ (by omega)

theorem o_laws_toShard (x : (Int × ((List (Int × (Int × Int))) × ((List (Int × Int)) × ((List (Int × (List (Int × (Int × (Int × Int)))))) × ((List (Int × Int)) × (List Int))))))) (h : W_Shard x ≤ 1048576) : m_laws_toShard x = some x := by
  unfold W_Shard at h
  show p_laws_toShard FU _ = _
  unfold p_laws_toShard
  simp only [o_laws_toBalanceS x.2.1 (by omega), o_laws_toMarkS x.2.2.1 (by omega), o_laws_toContractS x.2.2.2.1 (by omega), o_laws_toMarkS x.2.2.2.2.1 (by omega), o_laws_toInt64S x.2.2.2.2.2 (by omega), Option.bind_some]

theorem o_laws_toShardS (xs : (List (Int × ((List (Int × (Int × Int))) × ((List (Int × Int)) × ((List (Int × (List (Int × (Int × (Int × Int)))))) × ((List (Int × Int)) × (List Int)))))))) (h : W_ShardS xs ≤ 1048576) : m_laws_toShardS xs = some xs := by
  unfold W_ShardS at h
  show p_laws_toShardS FU xs = _
  unfold p_laws_toShardS
  rw [if_pos rfl, if_pos (by simp [lenI_eq])]
  have hb : Nat.ble (128 * (lenI xs).toNat) maxBytes = true := by rw [Nat.ble_eq]; simp only [lenI_eq, Int.toNat_natCast, maxBytes]; omega
  rw [chk_true hb]
  exact copy_loop2 xs _ m_laws_toShard (fun x hx => o_laws_toShard x (by have := wsum_mem W_Shard xs x hx; omega)) (by omega)

theorem o_laws_toVote (x : (Int × Int)) : m_laws_toVote x = some x := by
  show p_laws_toVote FU _ = _
  unfold p_laws_toVote
  rfl

theorem o_laws_toVoteS (xs : (List (Int × Int))) (h : W_VoteS xs ≤ 1048576) : m_laws_toVoteS xs = some xs := by
  unfold W_VoteS at h
  show p_laws_toVoteS FU xs = _
  unfold p_laws_toVoteS
  rw [if_pos rfl, if_pos (by simp [lenI_eq])]
  have hb : Nat.ble (16 * (lenI xs).toNat) maxBytes = true := by rw [Nat.ble_eq]; simp only [lenI_eq, Int.toNat_natCast, maxBytes]; omega
  rw [chk_true hb]
  exact copy_loop2 xs _ m_laws_toVote (fun x _ => o_laws_toVote x) (by omega)

theorem o_laws_toSlot (x : (Int × (Int × (Int × ((Int × Int) × (List (Int × Int))))))) (h : W_Slot x ≤ 1048576) : m_laws_toSlot x = some x := by
  unfold W_Slot at h
  show p_laws_toSlot FU _ = _
  unfold p_laws_toSlot
  simp only [o_laws_toVote x.2.2.2.1, o_laws_toVoteS x.2.2.2.2 (by omega), Option.bind_some]

theorem o_laws_toSlotS (xs : (List (Int × (Int × (Int × ((Int × Int) × (List (Int × Int)))))))) (h : W_SlotS xs ≤ 1048576) : m_laws_toSlotS xs = some xs := by
  unfold W_SlotS at h
  show p_laws_toSlotS FU xs = _
  unfold p_laws_toSlotS
  rw [if_pos rfl, if_pos (by simp [lenI_eq])]
  have hb : Nat.ble (64 * (lenI xs).toNat) maxBytes = true := by rw [Nat.ble_eq]; simp only [lenI_eq, Int.toNat_natCast, maxBytes]; omega
  rw [chk_true hb]
  exact copy_loop2 xs _ m_laws_toSlot (fun x hx => o_laws_toSlot x (by have := wsum_mem W_Slot xs x hx; omega)) (by omega)

theorem o_laws_toAcceptor (x : (List (Int × (Int × (Int × ((Int × Int) × (List (Int × Int)))))))) (h : W_Acceptor x ≤ 1048576) : m_laws_toAcceptor x = some x := by
  unfold W_Acceptor at h
  show p_laws_toAcceptor FU _ = _
  unfold p_laws_toAcceptor
  simp only [o_laws_toSlotS x (by omega), Option.bind_some]

theorem o_laws_toAcceptorS (xs : (List (List (Int × (Int × (Int × ((Int × Int) × (List (Int × Int))))))))) (h : W_AcceptorS xs ≤ 1048576) : m_laws_toAcceptorS xs = some xs := by
  unfold W_AcceptorS at h
  show p_laws_toAcceptorS FU xs = _
  unfold p_laws_toAcceptorS
  rw [if_pos rfl, if_pos (by simp [lenI_eq])]
  have hb : Nat.ble (24 * (lenI xs).toNat) maxBytes = true := by rw [Nat.ble_eq]; simp only [lenI_eq, Int.toNat_natCast, maxBytes]; omega
  rw [chk_true hb]
  exact copy_loop2 xs _ m_laws_toAcceptor (fun x hx => o_laws_toAcceptor x (by have := wsum_mem W_Acceptor xs x hx; omega)) (by omega)

theorem o_laws_toTry (x : (Int × (Int × (Int × (Int × ((List Int) × (List (Int × Int)))))))) (h : W_Try x ≤ 1048576) : m_laws_toTry x = some x := by
  unfold W_Try at h
  show p_laws_toTry FU _ = _
  unfold p_laws_toTry
  simp only [o_laws_toInt64S x.2.2.2.2.1 (by omega), o_laws_toVoteS x.2.2.2.2.2 (by omega), Option.bind_some]

theorem o_laws_toTryS (xs : (List (Int × (Int × (Int × (Int × ((List Int) × (List (Int × Int))))))))) (h : W_TryS xs ≤ 1048576) : m_laws_toTryS xs = some xs := by
  unfold W_TryS at h
  show p_laws_toTryS FU xs = _
  unfold p_laws_toTryS
  rw [if_pos rfl, if_pos (by simp [lenI_eq])]
  have hb : Nat.ble (80 * (lenI xs).toNat) maxBytes = true := by rw [Nat.ble_eq]; simp only [lenI_eq, Int.toNat_natCast, maxBytes]; omega
  rw [chk_true hb]
  exact copy_loop2 xs _ m_laws_toTry (fun x hx => o_laws_toTry x (by have := wsum_mem W_Try xs x hx; omega)) (by omega)

theorem o_laws_toHeard (x : (Int × (Int × (Int × (Int × Int))))) : m_laws_toHeard x = some x := by
  show p_laws_toHeard FU _ = _
  unfold p_laws_toHeard
  rfl

theorem o_laws_toHeardS (xs : (List (Int × (Int × (Int × (Int × Int)))))) (h : W_HeardS xs ≤ 1048576) : m_laws_toHeardS xs = some xs := by
  unfold W_HeardS at h
  show p_laws_toHeardS FU xs = _
  unfold p_laws_toHeardS
  rw [if_pos rfl, if_pos (by simp [lenI_eq])]
  have hb : Nat.ble (40 * (lenI xs).toNat) maxBytes = true := by rw [Nat.ble_eq]; simp only [lenI_eq, Int.toNat_natCast, maxBytes]; omega
  rw [chk_true hb]
  exact copy_loop2 xs _ m_laws_toHeard (fun x _ => o_laws_toHeard x) (by omega)

theorem o_laws_toLeader (x : (Int × ((List (Int × (Int × (Int × (Int × ((List Int) × (List (Int × Int)))))))) × (List (Int × (Int × (Int × (Int × Int)))))))) (h : W_Leader x ≤ 1048576) : m_laws_toLeader x = some x := by
  unfold W_Leader at h
  show p_laws_toLeader FU _ = _
  unfold p_laws_toLeader
  simp only [o_laws_toTryS x.2.1 (by omega), o_laws_toHeardS x.2.2 (by omega), Option.bind_some]

theorem o_laws_toLeaderS (xs : (List (Int × ((List (Int × (Int × (Int × (Int × ((List Int) × (List (Int × Int)))))))) × (List (Int × (Int × (Int × (Int × Int))))))))) (h : W_LeaderS xs ≤ 1048576) : m_laws_toLeaderS xs = some xs := by
  unfold W_LeaderS at h
  show p_laws_toLeaderS FU xs = _
  unfold p_laws_toLeaderS
  rw [if_pos rfl, if_pos (by simp [lenI_eq])]
  have hb : Nat.ble (56 * (lenI xs).toNat) maxBytes = true := by rw [Nat.ble_eq]; simp only [lenI_eq, Int.toNat_natCast, maxBytes]; omega
  rw [chk_true hb]
  exact copy_loop2 xs _ m_laws_toLeader (fun x hx => o_laws_toLeader x (by have := wsum_mem W_Leader xs x hx; omega)) (by omega)

theorem o_laws_toMessage (x : (Int × (Int × (Int × (Int × (Int × (Int × (Int × (Int × Int))))))))) : m_laws_toMessage x = some x := by
  show p_laws_toMessage FU _ = _
  unfold p_laws_toMessage
  simp only [o_laws_toVote x.2.2.2.2.2.2.2, Option.bind_some]

theorem o_laws_toMessageS (xs : (List (Int × (Int × (Int × (Int × (Int × (Int × (Int × (Int × Int)))))))))) (h : W_MessageS xs ≤ 1048576) : m_laws_toMessageS xs = some xs := by
  unfold W_MessageS at h
  show p_laws_toMessageS FU xs = _
  unfold p_laws_toMessageS
  rw [if_pos rfl, if_pos (by simp [lenI_eq])]
  have hb : Nat.ble (72 * (lenI xs).toNat) maxBytes = true := by rw [Nat.ble_eq]; simp only [lenI_eq, Int.toNat_natCast, maxBytes]; omega
  rw [chk_true hb]
  exact copy_loop2 xs _ m_laws_toMessage (fun x _ => o_laws_toMessage x) (by omega)

theorem o_laws_toCluster (x : ((List (Int × (List (Int × (Int × (Int × Int)))))) × ((List (Int × ((List (Int × (Int × Int))) × ((List (Int × Int)) × ((List (Int × (List (Int × (Int × (Int × Int)))))) × ((List (Int × Int)) × (List Int))))))) × ((List (List (Int × (Int × (Int × ((Int × Int) × (List (Int × Int)))))))) × ((List (Int × ((List (Int × (Int × (Int × (Int × ((List Int) × (List (Int × Int)))))))) × (List (Int × (Int × (Int × (Int × Int)))))))) × (List (Int × (Int × (Int × (Int × (Int × (Int × (Int × (Int × Int)))))))))))))) (h : W_Cluster x ≤ 1048576) : m_laws_toCluster x = some x := by
  unfold W_Cluster at h
  show p_laws_toCluster FU _ = _
  unfold p_laws_toCluster
  simp only [o_laws_toContractS x.1 (by omega), o_laws_toShardS x.2.1 (by omega), o_laws_toAcceptorS x.2.2.1 (by omega), o_laws_toLeaderS x.2.2.2.1 (by omega), o_laws_toMessageS x.2.2.2.2 (by omega), Option.bind_some]

theorem eq_laws_eqLeg (x : (Int × (Int × (Int × Int)))) : m_laws_eqLeg (x, x) = some true := by
  show p_laws_eqLeg FU _ = _
  unfold p_laws_eqLeg
  simp only [beq_self_eq_true, Bool.not_true, cond_false]

theorem eq_laws_eqLegS (xs : (List (Int × (Int × (Int × Int))))) (h : W_LegS xs ≤ 1048576) : m_laws_eqLegS (xs, xs) = some true := by
  unfold W_LegS at h
  show p_laws_eqLegS FU _ = _
  unfold p_laws_eqLegS
  simp only [beq_self_eq_true, Bool.not_true, cond_false]
  exact eq_loop xs m_laws_eqLeg (fun x _ => eq_laws_eqLeg x) (by omega)

theorem eq_laws_eqContract (x : (Int × (List (Int × (Int × (Int × Int)))))) (h : W_Contract x ≤ 1048576) : m_laws_eqContract (x, x) = some true := by
  unfold W_Contract at h
  show p_laws_eqContract FU _ = _
  unfold p_laws_eqContract
  simp only [beq_self_eq_true, Bool.not_true, cond_false, eq_laws_eqLegS x.2 (by omega), Option.bind_some]

theorem eq_laws_eqContractS (xs : (List (Int × (List (Int × (Int × (Int × Int))))))) (h : W_ContractS xs ≤ 1048576) : m_laws_eqContractS (xs, xs) = some true := by
  unfold W_ContractS at h
  show p_laws_eqContractS FU _ = _
  unfold p_laws_eqContractS
  simp only [beq_self_eq_true, Bool.not_true, cond_false]
  exact eq_loop xs m_laws_eqContract (fun x hx => eq_laws_eqContract x (by have := wsum_mem W_Contract xs x hx; omega)) (by omega)

theorem eq_laws_eqBalance (x : (Int × (Int × Int))) : m_laws_eqBalance (x, x) = some true := by
  show p_laws_eqBalance FU _ = _
  unfold p_laws_eqBalance
  simp only [beq_self_eq_true, Bool.not_true, cond_false]

theorem eq_laws_eqBalanceS (xs : (List (Int × (Int × Int)))) (h : W_BalanceS xs ≤ 1048576) : m_laws_eqBalanceS (xs, xs) = some true := by
  unfold W_BalanceS at h
  show p_laws_eqBalanceS FU _ = _
  unfold p_laws_eqBalanceS
  simp only [beq_self_eq_true, Bool.not_true, cond_false]
  exact eq_loop xs m_laws_eqBalance (fun x _ => eq_laws_eqBalance x) (by omega)

theorem eq_laws_eqMark (x : (Int × Int)) : m_laws_eqMark (x, x) = some true := by
  show p_laws_eqMark FU _ = _
  unfold p_laws_eqMark
  simp only [beq_self_eq_true, Bool.not_true, cond_false]

theorem eq_laws_eqMarkS (xs : (List (Int × Int))) (h : W_MarkS xs ≤ 1048576) : m_laws_eqMarkS (xs, xs) = some true := by
  unfold W_MarkS at h
  show p_laws_eqMarkS FU _ = _
  unfold p_laws_eqMarkS
  simp only [beq_self_eq_true, Bool.not_true, cond_false]
  exact eq_loop xs m_laws_eqMark (fun x _ => eq_laws_eqMark x) (by omega)

theorem eq_laws_eqInt64S (xs : (List Int)) (h : W_Int64S xs ≤ 1048576) : m_laws_eqInt64S (xs, xs) = some true := by
  unfold W_Int64S at h
  show p_laws_eqInt64S FU _ = _
  unfold p_laws_eqInt64S
  simp only [beq_self_eq_true, Bool.not_true, cond_false]
  exact eq_flat xs (by omega)

theorem eq_laws_eqShard (x : (Int × ((List (Int × (Int × Int))) × ((List (Int × Int)) × ((List (Int × (List (Int × (Int × (Int × Int)))))) × ((List (Int × Int)) × (List Int))))))) (h : W_Shard x ≤ 1048576) : m_laws_eqShard (x, x) = some true := by
  unfold W_Shard at h
  show p_laws_eqShard FU _ = _
  unfold p_laws_eqShard
  simp only [beq_self_eq_true, Bool.not_true, cond_false, eq_laws_eqBalanceS x.2.1 (by omega), eq_laws_eqMarkS x.2.2.1 (by omega), eq_laws_eqContractS x.2.2.2.1 (by omega), eq_laws_eqMarkS x.2.2.2.2.1 (by omega), eq_laws_eqInt64S x.2.2.2.2.2 (by omega), Option.bind_some]

theorem eq_laws_eqShardS (xs : (List (Int × ((List (Int × (Int × Int))) × ((List (Int × Int)) × ((List (Int × (List (Int × (Int × (Int × Int)))))) × ((List (Int × Int)) × (List Int)))))))) (h : W_ShardS xs ≤ 1048576) : m_laws_eqShardS (xs, xs) = some true := by
  unfold W_ShardS at h
  show p_laws_eqShardS FU _ = _
  unfold p_laws_eqShardS
  simp only [beq_self_eq_true, Bool.not_true, cond_false]
  exact eq_loop xs m_laws_eqShard (fun x hx => eq_laws_eqShard x (by have := wsum_mem W_Shard xs x hx; omega)) (by omega)

theorem eq_laws_eqVote (x : (Int × Int)) : m_laws_eqVote (x, x) = some true := by
  show p_laws_eqVote FU _ = _
  unfold p_laws_eqVote
  simp only [beq_self_eq_true, Bool.not_true, cond_false]

theorem eq_laws_eqVoteS (xs : (List (Int × Int))) (h : W_VoteS xs ≤ 1048576) : m_laws_eqVoteS (xs, xs) = some true := by
  unfold W_VoteS at h
  show p_laws_eqVoteS FU _ = _
  unfold p_laws_eqVoteS
  simp only [beq_self_eq_true, Bool.not_true, cond_false]
  exact eq_loop xs m_laws_eqVote (fun x _ => eq_laws_eqVote x) (by omega)

theorem eq_laws_eqSlot (x : (Int × (Int × (Int × ((Int × Int) × (List (Int × Int))))))) (h : W_Slot x ≤ 1048576) : m_laws_eqSlot (x, x) = some true := by
  unfold W_Slot at h
  show p_laws_eqSlot FU _ = _
  unfold p_laws_eqSlot
  simp only [beq_self_eq_true, Bool.not_true, cond_false, eq_laws_eqVote x.2.2.2.1, eq_laws_eqVoteS x.2.2.2.2 (by omega), Option.bind_some]

theorem eq_laws_eqSlotS (xs : (List (Int × (Int × (Int × ((Int × Int) × (List (Int × Int)))))))) (h : W_SlotS xs ≤ 1048576) : m_laws_eqSlotS (xs, xs) = some true := by
  unfold W_SlotS at h
  show p_laws_eqSlotS FU _ = _
  unfold p_laws_eqSlotS
  simp only [beq_self_eq_true, Bool.not_true, cond_false]
  exact eq_loop xs m_laws_eqSlot (fun x hx => eq_laws_eqSlot x (by have := wsum_mem W_Slot xs x hx; omega)) (by omega)

theorem eq_laws_eqAcceptor (x : (List (Int × (Int × (Int × ((Int × Int) × (List (Int × Int)))))))) (h : W_Acceptor x ≤ 1048576) : m_laws_eqAcceptor (x, x) = some true := by
  unfold W_Acceptor at h
  show p_laws_eqAcceptor FU _ = _
  unfold p_laws_eqAcceptor
  simp only [Bool.not_true, cond_false, eq_laws_eqSlotS x (by omega), Option.bind_some]

theorem eq_laws_eqAcceptorS (xs : (List (List (Int × (Int × (Int × ((Int × Int) × (List (Int × Int))))))))) (h : W_AcceptorS xs ≤ 1048576) : m_laws_eqAcceptorS (xs, xs) = some true := by
  unfold W_AcceptorS at h
  show p_laws_eqAcceptorS FU _ = _
  unfold p_laws_eqAcceptorS
  simp only [beq_self_eq_true, Bool.not_true, cond_false]
  exact eq_loop xs m_laws_eqAcceptor (fun x hx => eq_laws_eqAcceptor x (by have := wsum_mem W_Acceptor xs x hx; omega)) (by omega)

theorem eq_laws_eqTry (x : (Int × (Int × (Int × (Int × ((List Int) × (List (Int × Int)))))))) (h : W_Try x ≤ 1048576) : m_laws_eqTry (x, x) = some true := by
  unfold W_Try at h
  show p_laws_eqTry FU _ = _
  unfold p_laws_eqTry
  simp only [beq_self_eq_true, Bool.not_true, cond_false, eq_laws_eqInt64S x.2.2.2.2.1 (by omega), eq_laws_eqVoteS x.2.2.2.2.2 (by omega), Option.bind_some]

theorem eq_laws_eqTryS (xs : (List (Int × (Int × (Int × (Int × ((List Int) × (List (Int × Int))))))))) (h : W_TryS xs ≤ 1048576) : m_laws_eqTryS (xs, xs) = some true := by
  unfold W_TryS at h
  show p_laws_eqTryS FU _ = _
  unfold p_laws_eqTryS
  simp only [beq_self_eq_true, Bool.not_true, cond_false]
  exact eq_loop xs m_laws_eqTry (fun x hx => eq_laws_eqTry x (by have := wsum_mem W_Try xs x hx; omega)) (by omega)

theorem eq_laws_eqHeard (x : (Int × (Int × (Int × (Int × Int))))) : m_laws_eqHeard (x, x) = some true := by
  show p_laws_eqHeard FU _ = _
  unfold p_laws_eqHeard
  simp only [beq_self_eq_true, Bool.not_true, cond_false]

theorem eq_laws_eqHeardS (xs : (List (Int × (Int × (Int × (Int × Int)))))) (h : W_HeardS xs ≤ 1048576) : m_laws_eqHeardS (xs, xs) = some true := by
  unfold W_HeardS at h
  show p_laws_eqHeardS FU _ = _
  unfold p_laws_eqHeardS
  simp only [beq_self_eq_true, Bool.not_true, cond_false]
  exact eq_loop xs m_laws_eqHeard (fun x _ => eq_laws_eqHeard x) (by omega)

theorem eq_laws_eqLeader (x : (Int × ((List (Int × (Int × (Int × (Int × ((List Int) × (List (Int × Int)))))))) × (List (Int × (Int × (Int × (Int × Int)))))))) (h : W_Leader x ≤ 1048576) : m_laws_eqLeader (x, x) = some true := by
  unfold W_Leader at h
  show p_laws_eqLeader FU _ = _
  unfold p_laws_eqLeader
  simp only [beq_self_eq_true, Bool.not_true, cond_false, eq_laws_eqTryS x.2.1 (by omega), eq_laws_eqHeardS x.2.2 (by omega), Option.bind_some]

theorem eq_laws_eqLeaderS (xs : (List (Int × ((List (Int × (Int × (Int × (Int × ((List Int) × (List (Int × Int)))))))) × (List (Int × (Int × (Int × (Int × Int))))))))) (h : W_LeaderS xs ≤ 1048576) : m_laws_eqLeaderS (xs, xs) = some true := by
  unfold W_LeaderS at h
  show p_laws_eqLeaderS FU _ = _
  unfold p_laws_eqLeaderS
  simp only [beq_self_eq_true, Bool.not_true, cond_false]
  exact eq_loop xs m_laws_eqLeader (fun x hx => eq_laws_eqLeader x (by have := wsum_mem W_Leader xs x hx; omega)) (by omega)

theorem eq_laws_eqMessage (x : (Int × (Int × (Int × (Int × (Int × (Int × (Int × (Int × Int))))))))) : m_laws_eqMessage (x, x) = some true := by
  show p_laws_eqMessage FU _ = _
  unfold p_laws_eqMessage
  simp only [beq_self_eq_true, Bool.not_true, cond_false, eq_laws_eqVote x.2.2.2.2.2.2.2, Option.bind_some]

theorem eq_laws_eqMessageS (xs : (List (Int × (Int × (Int × (Int × (Int × (Int × (Int × (Int × Int)))))))))) (h : W_MessageS xs ≤ 1048576) : m_laws_eqMessageS (xs, xs) = some true := by
  unfold W_MessageS at h
  show p_laws_eqMessageS FU _ = _
  unfold p_laws_eqMessageS
  simp only [beq_self_eq_true, Bool.not_true, cond_false]
  exact eq_loop xs m_laws_eqMessage (fun x _ => eq_laws_eqMessage x) (by omega)

theorem eq_laws_eqCluster (x : ((List (Int × (List (Int × (Int × (Int × Int)))))) × ((List (Int × ((List (Int × (Int × Int))) × ((List (Int × Int)) × ((List (Int × (List (Int × (Int × (Int × Int)))))) × ((List (Int × Int)) × (List Int))))))) × ((List (List (Int × (Int × (Int × ((Int × Int) × (List (Int × Int)))))))) × ((List (Int × ((List (Int × (Int × (Int × (Int × ((List Int) × (List (Int × Int)))))))) × (List (Int × (Int × (Int × (Int × Int)))))))) × (List (Int × (Int × (Int × (Int × (Int × (Int × (Int × (Int × Int)))))))))))))) (h : W_Cluster x ≤ 1048576) : m_laws_eqCluster (x, x) = some true := by
  unfold W_Cluster at h
  show p_laws_eqCluster FU _ = _
  unfold p_laws_eqCluster
  simp only [Bool.not_true, cond_false, eq_laws_eqContractS x.1 (by omega), eq_laws_eqShardS x.2.1 (by omega), eq_laws_eqAcceptorS x.2.2.1 (by omega), eq_laws_eqLeaderS x.2.2.2.1 (by omega), eq_laws_eqMessageS x.2.2.2.2 (by omega), Option.bind_some]

theorem t_laws_szVoteS (xs : List (Int × Int)) (h : (xs.length : Int) ≤ 9223372036854775807) : m_laws_szVoteS (xs, 1048576) = some (if 1048576 - (xs.length : Int) < 0 then -1 else 1048576 - (xs.length : Int)) := by
  show p_laws_szVoteS FU _ = _
  unfold p_laws_szVoteS
  have hw : IntKind.wrap .i64 (1048576 - (xs.length : Int)) = 1048576 - (xs.length : Int) := wrap64 (by omega) (by omega)
  simp only [lenI_eq, hw]
  by_cases hh : (1048576 : Int) - (xs.length : Int) < 0 <;> simp [hh]

theorem sz_laws_szSlot (x : SlotT) (h : x.2.2.2.2.length ≤ maxLen) : SZ m_laws_szSlot (fun x => x.2.2.2.2.length) x := by
  intro left h0 h1
  have hm : maxLen = 9223372036854775807 := rfl
  show p_laws_szSlot FU _ = _ ∨ (p_laws_szSlot FU _ = _ ∧ _)
  unfold p_laws_szSlot
  have e : m_laws_szVoteS (x.2.2.2.2, left) = some (if left - (x.2.2.2.2.length : Int) < 0 then -1 else left - (x.2.2.2.2.length : Int)) := by
    show p_laws_szVoteS FU _ = _
    unfold p_laws_szVoteS
    have hw : IntKind.wrap .i64 (left - (x.2.2.2.2.length : Int)) = left - (x.2.2.2.2.length : Int) := wrap64 (by omega) (by omega)
    simp only [lenI_eq, hw]
    by_cases hh : left - (x.2.2.2.2.length : Int) < 0 <;> simp [hh]
  rw [e]
  by_cases hh : left - (x.2.2.2.2.length : Int) < 0
  · simp [hh]
  · right
    simp [hh]
    omega

theorem t_laws_szSlot (x : SlotT) (h : (x.2.2.2.2.length : Int) ≤ 9223372036854775807) : m_laws_szSlot (x, 1048576) = some (if 1048576 - (x.2.2.2.2.length : Int) < 0 then -1 else 1048576 - (x.2.2.2.2.length : Int)) := by
  show p_laws_szSlot FU _ = _
  unfold p_laws_szSlot
  rw [t_laws_szVoteS _ h]
  by_cases hh : (1048576 : Int) - (x.2.2.2.2.length : Int) < 0 <;> simp [hh]

def wSlots (xs : List SlotT) : Nat := xs.length + (xs.map fun x => x.2.2.2.2.length).sum

theorem sz_laws_szSlotS (xs : List SlotT) (hl : xs.length ≤ maxLen) (h : ∀ x ∈ xs, x.2.2.2.2.length ≤ maxLen) : SZ m_laws_szSlotS wSlots xs := by
  intro left h0 h1
  have hm : maxLen = 9223372036854775807 := rfl
  show p_laws_szSlotS FU _ = _ ∨ (p_laws_szSlotS FU _ = _ ∧ _)
  unfold p_laws_szSlotS wSlots
  have hw : IntKind.wrap .i64 (left - (xs.length : Int)) = left - (xs.length : Int) := wrap64 (by omega) (by omega)
  simp only [lenI_eq, hw]
  by_cases hh : left - (xs.length : Int) < 0
  · left; simp [hh]
  · have := sz_loop xs m_laws_szSlot (fun x => x.2.2.2.2.length) (fun x hx => sz_laws_szSlot x (h x hx)) (by omega) (left - (xs.length : Int)) (by omega) (by omega)
    simp only [hh, decide_false, cond_false]
    rcases this with h2 | ⟨h2, h3⟩
    · exact .inl h2
    · right
      refine ⟨?_, by omega⟩
      rw [show left - ((xs.length + (xs.map fun x => x.2.2.2.2.length).sum : Nat) : Int) = left - (xs.length : Int) - (((xs.map fun x => x.2.2.2.2.length).sum : Nat) : Int) from by omega]
      exact h2

theorem t_laws_toVote (a : Int × Int) : m_laws_toVote a = some a := rfl

theorem t_laws_toVoteS (xs : List (Int × Int)) (hl : xs.length ≤ 1048576) : m_laws_toVoteS xs = some xs := by
  show p_laws_toVoteS FU xs = _
  unfold p_laws_toVoteS
  rw [if_pos rfl, if_pos (by simp [lenI_eq])]
  have hb : Nat.ble (16 * (lenI xs).toNat) maxBytes = true := by rw [Nat.ble_eq]; simp only [lenI_eq, Int.toNat_natCast, maxBytes]; omega
  simp only [hb, chk, cond_true]
  exact copy_loop2 xs _ m_laws_toVote (fun x hx => t_laws_toVote x) hl

theorem t_laws_toSlot (x : SlotT) (h : x.2.2.2.2.length ≤ 1048576) : m_laws_toSlot x = some x := by
  show p_laws_toSlot FU _ = _
  unfold p_laws_toSlot
  simp only [t_laws_toVote, Option.bind_some, t_laws_toVoteS _ h]

theorem t_laws_toSlotS (xs : List SlotT) (hl : xs.length ≤ 1048576) (h : ∀ x ∈ xs, x.2.2.2.2.length ≤ 1048576) : m_laws_toSlotS xs = some xs := by
  show p_laws_toSlotS FU xs = _
  unfold p_laws_toSlotS
  rw [if_pos rfl, if_pos (by simp [lenI_eq])]
  have hb : Nat.ble (64 * (lenI xs).toNat) maxBytes = true := by rw [Nat.ble_eq]; simp only [lenI_eq, Int.toNat_natCast, maxBytes]; omega
  simp only [hb, chk, cond_true]
  exact copy_loop2 xs _ m_laws_toSlot (fun x hx => t_laws_toSlot x (h x hx)) hl

theorem t_spec_l1In (a b c : Int) : m_spec_l1In (a, b, c) = some (inB a b c) := by
  show p_spec_l1In FU _ = _
  unfold p_spec_l1In inB
  by_cases h : b ≤ a <;> simp [h]

/-- Whom a message goes to, whom it comes from: are they there? (s, a, l: how many shards, acceptors, leaders) -/
def endsB (k to from_ s a l : Int) : Bool := inB to 0 ((if k = 3 ∨ k = 5 then l else if k = 1 ∨ k = 6 then s else a) - 1) && (decide (k < 3) || decide (k > 5) || inB from_ 0 ((if k = 4 then l else a) - 1))
theorem t_spec_l11Ends (c m) (h1 : c.2.1.length ≤ 1048576) (h2 : c.2.2.1.length ≤ 1048576) (h3 : c.2.2.2.1.length ≤ 1048576) : m_spec_l11Ends (c, m) = some (endsB m.1 m.2.1 m.2.2.1 c.2.1.length c.2.2.1.length c.2.2.2.1.length, c) := by
  obtain ⟨k, to, from_, m⟩ := m
  show p_spec_l11Ends FU _ = _
  unfold p_spec_l11Ends endsB
  have w1 : IntKind.wrap .i64 ((c.2.1.length : Int) - 1) = (c.2.1.length : Int) - 1 := wrap64 (by omega) (by omega)
  have w2 : IntKind.wrap .i64 ((c.2.2.1.length : Int) - 1) = (c.2.2.1.length : Int) - 1 := wrap64 (by omega) (by omega)
  have w3 : IntKind.wrap .i64 ((c.2.2.2.1.length : Int) - 1) = (c.2.2.2.1.length : Int) - 1 := wrap64 (by omega) (by omega)
  have e1 : (Option.bind (α := Bool) (cond (k == (1 : Int)) (some true) (some (k == (6 : Int)))) fun j2 => (cond j2 (some (lenI c.2.1)) (some (lenI c.2.2.1)))) = some (if k = 1 ∨ k = 6 then (c.2.1.length : Int) else c.2.2.1.length) := by
    by_cases q1 : k = 1
    · subst q1; rfl
    · have b1 : (k == 1) = false := by simp [q1]
      by_cases q2 : k = 6
      · subst q2; rfl
      · have b2 : (k == 6) = false := by simp [q2]
        simp [b1, b2, q1, q2, lenI_eq]
  simp only [e1, Option.bind_some]
  have e2 : ∀ j3 : Int, (Option.bind (α := Bool) (cond (k == (3 : Int)) (some true) (some (k == (5 : Int)))) fun j5 => (cond j5 (some (lenI c.2.2.2.1)) (some j3))) = some (if k = 3 ∨ k = 5 then (c.2.2.2.1.length : Int) else j3) := by
    intro j3
    by_cases q1 : k = 3
    · subst q1; rfl
    · have b1 : (k == 3) = false := by simp [q1]
      by_cases q2 : k = 5
      · subst q2; rfl
      · have b2 : (k == 5) = false := by simp [q2]
        simp [b1, b2, q1, q2]
  simp only [e2, Option.bind_some]
  have e3 : (cond (k == (4 : Int)) (some (lenI c.2.2.2.1)) (some (lenI c.2.2.1))) = some (if k = 4 then (c.2.2.2.1.length : Int) else c.2.2.1.length) := by
    by_cases q1 : k = 4
    · subst q1; rfl
    · have b1 : (k == 4) = false := by simp [q1]
      simp [b1, q1, lenI_eq]
  simp only [e3, Option.bind_some, t_spec_l1In]
  have w4 : ∀ (n : Int), n = (c.2.1.length : Int) ∨ n = c.2.2.1.length ∨ n = c.2.2.2.1.length → IntKind.wrap .i64 (n - 1) = n - 1 := fun n hn => wrap64 (by omega) (by omega)
  have w5 : IntKind.wrap .i64 ((if k = 3 ∨ k = 5 then (c.2.2.2.1.length : Int) else if k = 1 ∨ k = 6 then (c.2.1.length : Int) else c.2.2.1.length) - 1) = (if k = 3 ∨ k = 5 then (c.2.2.2.1.length : Int) else if k = 1 ∨ k = 6 then (c.2.1.length : Int) else c.2.2.1.length) - 1 := by
    refine w4 _ ?_
    split
    · exact .inr (.inr rfl)
    · split
      · exact .inl rfl
      · exact .inr (.inl rfl)
  have w6 : IntKind.wrap .i64 ((if k = 4 then (c.2.2.2.1.length : Int) else c.2.2.1.length) - 1) = (if k = 4 then (c.2.2.2.1.length : Int) else c.2.2.1.length) - 1 := by
    refine w4 _ ?_
    split
    · exact .inr (.inr rfl)
    · exact .inr (.inl rfl)
  rw [w5, w6]
  cases inB to 0 ((if k = 3 ∨ k = 5 then (c.2.2.2.1.length : Int) else if k = 1 ∨ k = 6 then (c.2.1.length : Int) else c.2.2.1.length) - 1) with
  | false => rfl
  | true =>
    simp only [cond_true, Bool.true_and]
    cases decide (k < 3) with
    | true => rfl
    | false => cases decide (k > 5) <;> rfl

theorem t_spec_l11Find (c) (i : Int) (hl : c.1.length ≤ 1048576) : m_spec_l11Find (c, i) = some (match c.1.findIdx? (fun y => y.1 == i) with | some j => ((j : Int), c) | none => (-1, c)) := by
  show p_spec_l11Find FU _ = _
  unfold p_spec_l11Find l_spec_l11Find_1
  simp only
  refine (lp_place c.1 (fun y => y.1 == i) (fun j => some ((j : Int), c)) (some (-1, c)) (by unfold B36; omega) (fun j hj rec hw => ?_) (fun rec => ?_)).trans ?_
  · simp only [lt_lenI hj, cond_true, geti_lt c.1 j hj, Option.bind_some, hw]
  · simp only [ge_lenI, cond_false]
  · cases c.1.findIdx? (fun y => y.1 == i) <;> rfl

/-- A number put into a rising list. -/
def put1 (xs : List Int) (a : Int) : List Int := match xs.findIdx? (fun y => !(decide (y < a))) with
  | some j => if xs[j]? = some a then xs else xs.take j ++ [a] ++ xs.drop j
  | none => xs ++ [a]
theorem put1_len (xs : List Int) (a : Int) : (put1 xs a).length ≤ xs.length + 1 := by
  unfold put1
  split
  · split
    · omega
    · simp; omega
  · simp
theorem put1_mem (xs : List Int) (a b : Int) : b ∈ put1 xs a ↔ b ∈ xs ∨ b = a := by
  unfold put1
  split
  · rename_i j hj
    split
    · rename_i h
      constructor
      · exact .inl
      · rintro (h1 | rfl)
        · exact h1
        · exact List.mem_of_getElem? h
    · have e := List.take_append_drop j xs
      constructor
      · intro h
        simp only [List.mem_append, List.mem_singleton] at h
        rcases h with (h | h) | h
        · exact .inl (List.mem_of_mem_take h)
        · exact .inr h
        · exact .inl (List.mem_of_mem_drop h)
      · rintro (h | h)
        · rw [← e] at h
          simp only [List.mem_append, List.mem_singleton] at h ⊢
          rcases h with h | h
          · exact .inl (.inl h)
          · exact .inr h
        · simp [h]
  · simp
theorem t_spec_l1Put (xs : List Int) (a : Int) (hl : xs.length ≤ 2097152) : m_spec_l1Put (xs, a) = some (put1 xs a) := by
  show p_spec_l1Put FU _ = _
  unfold p_spec_l1Put
  simp only
  have e1 : l_spec_l1Put_1 FU xs a 0 = some (match xs.findIdx? (fun y => !(decide (y < a))) with | some j => (j : Int) | none => (xs.length : Int)) := by
    unfold l_spec_l1Put_1
    refine (lp_place xs (fun y => !(decide (y < a))) (fun j => some (j : Int)) (some (xs.length : Int)) (by unfold B36; omega) (fun j hj rec hw => ?_) (fun rec => ?_)).trans (by cases xs.findIdx? (fun y => !(decide (y < a))) <;> rfl)
    · simp only [lt_lenI hj, cond_true, geti_lt xs j hj, Option.bind_some, hw]
      cases decide (xs[j] < a) <;> rfl
    · simp only [ge_lenI, cond_false, Option.bind_some]
  rw [e1]
  unfold put1
  cases hf : xs.findIdx? (fun y => !(decide (y < a))) with
  | none =>
    have hd : decide ((xs.length : Int) < lenI xs) = false := ge_lenI
    have b1 : bndB none (some (xs.length : Int)) none xs.length = true := by simp [bndB]
    have b2 : bndB (some (xs.length : Int)) none none xs.length = true := by simp [bndB]
    have c1 : cutL none (some (xs.length : Int)) xs = xs := by simp [cutL]
    have c2 : cutL (some (xs.length : Int)) none xs = [] := by simp [cutL]
    have m1 : Nat.ble (xs.length * 8) maxBytes = true := ble_mem (by simp only [maxBytes]; omega)
    have m2 : Nat.ble ((xs.length + [a].length) * 8) maxBytes = true := ble_mem (by simp only [maxBytes, List.length_singleton]; omega)
    have m3 : Nat.ble (((xs ++ [a]).length + ([] : List Int).length) * 8) maxBytes = true := ble_mem (by simp only [maxBytes, List.length_append, List.length_singleton, List.length_nil]; omega)
    simp only [Option.bind_some, hd, cond_false, b1, b2, c1, c2, chk_true, m1, m2, m3, List.append_nil]
  | some j =>
    have hj : j < xs.length := (List.findIdx?_eq_some_iff_getElem.1 hf).1
    simp only [Option.bind_some, lt_lenI hj, cond_true, geti_lt xs j hj, List.getElem?_eq_getElem hj, Option.some.injEq]
    by_cases hx : xs[j] = a
    · simp [hx]
    · have hb : (xs[j] == a) = false := by simp [hx]
      have b1 : bndB none (some (j : Int)) none xs.length = true := by simp [bndB]; omega
      have b2 : bndB (some (j : Int)) none none xs.length = true := by simp [bndB]; omega
      have c1 : cutL none (some (j : Int)) xs = xs.take j := by simp [cutL]
      have c2 : cutL (some (j : Int)) none xs = xs.drop j := by simp only [cutL, Option.getD_some, Option.getD_none, Int.toNat_natCast]; exact List.take_of_length_le (by simp)
      have l1 : (xs.take j).length = j := by simp; omega
      have m1 : Nat.ble ((xs.take j).length * 8) maxBytes = true := ble_mem (by rw [l1]; simp only [maxBytes]; omega)
      have m2 : Nat.ble (((xs.take j).length + [a].length) * 8) maxBytes = true := ble_mem (by rw [l1]; simp only [maxBytes, List.length_singleton]; omega)
      have m3 : Nat.ble (((xs.take j ++ [a]).length + (xs.drop j).length) * 8) maxBytes = true := ble_mem (by simp only [maxBytes, List.length_append, List.length_singleton, l1, List.length_drop]; omega)
      simp only [hb, cond_false, b1, b2, c1, c2, chk_true, m1, m2, m3, if_neg hx]

/-- The shards of some legs, rising. -/
def shardsL (xs : List (Int × (Int × (Int × Int)))) : List Int := xs.foldl (fun s y => put1 s y.1) []
theorem fold_put (xs : List (Int × (Int × (Int × Int)))) : ∀ s : List Int, (xs.foldl (fun s y => put1 s y.1) s).length ≤ s.length + xs.length ∧ ∀ b, b ∈ xs.foldl (fun s y => put1 s y.1) s ↔ b ∈ s ∨ ∃ y ∈ xs, y.1 = b := by
  induction xs with
  | nil => intro s; simp
  | cons x xs ih =>
    intro s
    obtain ⟨h1, h2⟩ := ih (put1 s x.1)
    have h3 := put1_len s x.1
    refine ⟨by rw [List.foldl_cons, List.length_cons]; omega, fun b => ?_⟩
    rw [List.foldl_cons, h2, put1_mem]
    constructor
    · rintro ((h | h) | ⟨y, hy, h⟩)
      · exact .inl h
      · exact .inr ⟨x, by simp, h.symm⟩
      · exact .inr ⟨y, by simp [hy], h⟩
    · rintro (h | ⟨y, hy, h⟩)
      · exact .inl (.inl h)
      · rcases List.mem_cons.1 hy with rfl | hy
        · exact .inl (.inr h.symm)
        · exact .inr ⟨y, hy, h⟩
theorem t_spec_l1Shards (a : Int) (xs : List (Int × (Int × (Int × Int)))) (hl : xs.length ≤ 1048576) : m_spec_l1Shards (a, xs) = some (shardsL xs) := by
  show p_spec_l1Shards FU _ = _
  unfold p_spec_l1Shards l_spec_l1Shards_1 shardsL
  simp only
  refine lp_for (fun r => r = some (xs.foldl (fun s y => put1 s y.1) [])) (fun i z => z = ((xs.take i).foldl (fun s y => put1 s y.1) [], (i : Int))) xs.length (fun i z hi hz => ?_) (fun z hz rec => ?_) FU _ (FU_gt hl) rfl
  · subst hz
    have h := (fold_put (xs.take i) []).1
    simp only [List.length_nil, List.length_take] at h
    refine .inr ⟨_, rfl, fun rec => ?_⟩
    simp only [lt_lenI hi, cond_true, geti_lt xs i hi, Option.bind_some, t_spec_l1Put _ _ (show ((xs.take i).foldl (fun s y => put1 s y.1) []).length ≤ 2097152 by omega), wrap_next hi hl]
    rw [List.take_succ_eq_append_getElem hi, List.foldl_append]
    rfl
  · subst hz
    simp only [ge_lenI, cond_false, List.take_length]

theorem t_spec_l1Has (xs : List Int) (a : Int) (hl : xs.length ≤ 2097152) : m_spec_l1Has (xs, a) = some (xs.any fun y => y == a) := by
  show p_spec_l1Has FU _ = _
  unfold p_spec_l1Has l_spec_l1Has_1
  simp only
  refine (lp_hit xs (fun y => y == a) (some true) (some false) (by unfold B36; omega) (fun i hi rec hw => ?_) (fun rec => ?_)).trans (by cases xs.any fun y => y == a <;> rfl)
  · simp only [lt_lenI hi, cond_true, geti_lt xs i hi, Option.bind_some, hw]
  · simp only [ge_lenI, cond_false]

def hasB (xs : List (Int × (Int × (Int × Int)))) (a : Int) : Bool := xs.any fun y => y.1 == a
theorem shards_any (xs : List (Int × (Int × (Int × Int)))) (a : Int) : ((shardsL xs).any fun y => y == a) = hasB xs a := by
  rw [Bool.eq_iff_iff]
  unfold hasB shardsL
  simp only [List.any_eq_true, beq_iff_eq, exists_eq_right]
  rw [(fold_put xs []).2]
  simp
theorem t_spec_l11Has (c) (i a : Int) (hl : c.1.length ≤ 1048576) (h2 : ∀ y ∈ c.1, y.2.length ≤ 1048576) : m_spec_l11Has (c, i, a) = some (match c.1.findIdx? (fun y => y.1 == i) with | some j => (hasB ((c.1[j]?).getD (0, [])).2 a, c) | none => (false, c)) := by
  show p_spec_l11Has FU _ = _
  unfold p_spec_l11Has
  simp only [t_spec_l11Find c i hl, Option.bind_some]
  cases hf : c.1.findIdx? (fun y => y.1 == i) with
  | none => rfl
  | some j =>
    have hj : j < c.1.length := (List.findIdx?_eq_some_iff_getElem.1 hf).1
    have hd : decide ((j : Int) ≥ 0) = true := decide_eq_true (by omega)
    have hs := t_spec_l1Shards c.1[j].1 c.1[j].2 (h2 _ (List.getElem_mem hj))
    have hsl : (shardsL c.1[j].2).length ≤ 2097152 := by
      have h1 := (fold_put c.1[j].2 []).1
      have h3 := h2 _ (List.getElem_mem hj)
      unfold shardsL
      simp only [List.length_nil] at h1
      omega
    simp only [hd, cond_true, geti_lt c.1 j hj, Option.bind_some, hs, t_spec_l1Has _ _ hsl, shards_any, List.getElem?_eq_getElem hj, Option.getD_some]

theorem t_spec_l8Ballot (a : Int) : m_spec_l8Ballot a = some (bal a) := by
  show p_spec_l8Ballot FU _ = _
  unfold p_spec_l8Ballot bal
  rw [t_spec_l1In]; rfl

theorem t_spec_l8Value (a : Int) : m_spec_l8Value a = some (vlu a) := by
  show p_spec_l8Value FU _ = _
  unfold p_spec_l8Value vlu
  cases h : (a == (1 : Int)) <;> simp

theorem t_spec_l8None : m_spec_l8None () = some (-1, 0) := rfl

theorem bare_eq (m) (h : inB m.1 1 6 = true) : ∃ r, m_impl_Message_plain m = some r ∧ m_spec_l11Bare m = some r := by
  obtain ⟨k, a, b, c, d, e, f, u, v⟩ := m
  unfold inB at h
  simp only [Bool.and_eq_true, decide_eq_true_eq] at h
  have : k = 1 ∨ k = 2 ∨ k = 3 ∨ k = 4 ∨ k = 5 ∨ k = 6 := by omega
  rcases this with rfl | rfl | rfl | rfl | rfl | rfl <;> exact ⟨_, rfl, rfl⟩

theorem t_impl_within (a b c : Int) : m_impl_within (a, b, c) = some (inB a b c) := by
  show p_impl_within FU _ = _
  unfold p_impl_within inB
  by_cases h : b ≤ a <;> simp [h]

theorem t_place_Shard (i : Int) (xs) (h : xs.length ≤ 1048576) : m_impl_isPlaceOf_impl_Shard (i, xs) = some (inB i 0 ((xs.length : Int) - 1)) := by
  show p_impl_isPlaceOf_impl_Shard FU _ = _
  unfold p_impl_isPlaceOf_impl_Shard
  have e : m_impl_size_impl_Shard xs = some (xs.length : Int) := rfl
  have w1 : IntKind.wrap .i64 ((xs.length : Int) - 1) = (xs.length : Int) - 1 := wrap64 (by omega) (by omega)
  simp only [e, Option.bind_some, t_impl_within, w1]
theorem t_place_Acceptor (i : Int) (xs) (h : xs.length ≤ 1048576) : m_impl_isPlaceOf_impl_Acceptor (i, xs) = some (inB i 0 ((xs.length : Int) - 1)) := by
  show p_impl_isPlaceOf_impl_Acceptor FU _ = _
  unfold p_impl_isPlaceOf_impl_Acceptor
  have e : m_impl_size_impl_Acceptor xs = some (xs.length : Int) := rfl
  have w1 : IntKind.wrap .i64 ((xs.length : Int) - 1) = (xs.length : Int) - 1 := wrap64 (by omega) (by omega)
  simp only [e, Option.bind_some, t_impl_within, w1]
theorem t_place_Leader (i : Int) (xs) (h : xs.length ≤ 1048576) : m_impl_isPlaceOf_impl_Leader (i, xs) = some (inB i 0 ((xs.length : Int) - 1)) := by
  show p_impl_isPlaceOf_impl_Leader FU _ = _
  unfold p_impl_isPlaceOf_impl_Leader
  have e : m_impl_size_impl_Leader xs = some (xs.length : Int) := rfl
  have w1 : IntKind.wrap .i64 ((xs.length : Int) - 1) = (xs.length : Int) - 1 := wrap64 (by omega) (by omega)
  simp only [e, Option.bind_some, t_impl_within, w1]
def toB (k to s a l : Int) : Bool := inB to 0 ((if k = 1 ∨ k = 6 then s else if k = 2 ∨ k = 4 then a else l) - 1)
def fromB (k fr a l : Int) : Bool := if k = 4 then inB fr 0 (l - 1) else if k = 3 ∨ k = 5 then inB fr 0 (a - 1) else true
theorem t_impl_Cluster_isTo (c m) (h1 : c.2.1.length ≤ 1048576) (h2 : c.2.2.1.length ≤ 1048576) (h3 : c.2.2.2.1.length ≤ 1048576) : m_impl_Cluster_isTo (c, m) = some (toB m.1 m.2.1 c.2.1.length c.2.2.1.length c.2.2.2.1.length, c) := by
  obtain ⟨k, to, m⟩ := m
  show p_impl_Cluster_isTo FU _ = _
  unfold p_impl_Cluster_isTo toB
  simp only [t_place_Shard _ _ h1, t_place_Acceptor _ _ h2, t_place_Leader _ _ h3, Option.bind_some]
  by_cases q1 : k = 1
  · subst q1; rfl
  · by_cases q6 : k = 6
    · subst q6; rfl
    · by_cases q2 : k = 2
      · subst q2; rfl
      · by_cases q4 : k = 4
        · subst q4; rfl
        · have b1 : (k == 1) = false := by simp [q1]
          have b6 : (k == 6) = false := by simp [q6]
          have b2 : (k == 2) = false := by simp [q2]
          have b4 : (k == 4) = false := by simp [q4]
          simp [b1, b6, b2, b4, q1, q2, q4, q6]
theorem t_impl_Cluster_isFrom (c m) (h2 : c.2.2.1.length ≤ 1048576) (h3 : c.2.2.2.1.length ≤ 1048576) : m_impl_Cluster_isFrom (c, m) = some (fromB m.1 m.2.2.1 c.2.2.1.length c.2.2.2.1.length, c) := by
  obtain ⟨k, to, fr, m⟩ := m
  show p_impl_Cluster_isFrom FU _ = _
  unfold p_impl_Cluster_isFrom fromB
  simp only [t_place_Acceptor _ _ h2, t_place_Leader _ _ h3, Option.bind_some]
  by_cases q4 : k = 4
  · subst q4; rfl
  · by_cases q3 : k = 3
    · subst q3; rfl
    · by_cases q5 : k = 5
      · subst q5; rfl
      · have b3 : (k == 3) = false := by simp [q3]
        have b5 : (k == 5) = false := by simp [q5]
        have b4 : (k == 4) = false := by simp [q4]
        simp [b3, b4, b5, q3, q4, q5]
theorem ends_to (k to fr s a l : Int) (h : inB k 1 6 = true) : endsB k to fr s a l = (toB k to s a l && fromB k fr a l) := by
  unfold inB at h
  simp only [Bool.and_eq_true, decide_eq_true_eq] at h
  have : k = 1 ∨ k = 2 ∨ k = 3 ∨ k = 4 ∨ k = 5 ∨ k = 6 := by omega
  rcases this with rfl | rfl | rfl | rfl | rfl | rfl <;> simp [endsB, toB, fromB]

def conOf (xs : List (Int × List (Int × (Int × (Int × Int))))) (i : Int) : Option (Nat × (Int × List (Int × (Int × (Int × Int))))) := (xs.findIdx? fun y => y.1 == i).bind fun j => (xs[j]?).map fun y => (j, y)
theorem conOf_le {xs : List (Int × List (Int × (Int × (Int × Int))))} {i : Int} {j : Nat} {y} (h : conOf xs i = some (j, y)) : j < xs.length ∧ xs[j]? = some y ∧ y ∈ xs ∧ y.1 = i := by
  unfold conOf at h
  simp only [Option.bind_eq_some_iff, Option.map_eq_some_iff, Prod.mk.injEq] at h
  obtain ⟨k, h1, z, h2, rfl, rfl⟩ := h
  have hl := (List.getElem?_eq_some_iff.1 h2).1
  refine ⟨hl, h2, List.mem_of_getElem? h2, ?_⟩
  have := (List.findIdx?_eq_some_iff_getElem.1 h1).2.1
  rw [(List.getElem?_eq_some_iff.1 h2).2] at this
  simpa using this
theorem t_impl_Cluster_contract (c) (i : Int) (hl : c.1.length ≤ 1048576) : m_impl_Cluster_contract (c, i) = some (match conOf c.1 i with | some (_, y) => (y, true, c) | none => ((0, []), false, c)) := by
  show p_impl_Cluster_contract FU _ = _
  unfold p_impl_Cluster_contract
  simp only
  have e1 : l_impl_Cluster_contract_1 FU i c.1 0 = match c.1.findIdx? (fun y => y.1 == i) with
      | some j => some (j : Int)
      | none => some (-1) := by
    unfold l_impl_Cluster_contract_1
    refine lp_place c.1 (fun y => y.1 == i) (fun j => some (j : Int)) (some (-1)) (by unfold B36; omega) (fun j hj rec hw => ?_) (fun rec => ?_)
    · simp only [lt_lenI hj, cond_true, geti_lt c.1 j hj, Option.bind_some, hw]
    · simp only [ge_lenI, cond_false]
  rw [e1]
  unfold conOf
  cases hf : c.1.findIdx? (fun y => y.1 == i) with
  | none => rfl
  | some j =>
    have hj : j < c.1.length := (List.findIdx?_eq_some_iff_getElem.1 hf).1
    have hd : decide ((j : Int) < 0) = false := decide_eq_false (by omega)
    simp only [Option.bind_some, hd, cond_false, geti_lt c.1 j hj, List.getElem?_eq_getElem hj, Option.map_some]

theorem t_impl_legsAt (b : Int) (xs : List (Int × (Int × (Int × Int)))) (a : Int) (hl : xs.length ≤ 1048576) : m_impl_legsAt ((b, xs), a) = some (xs.filter fun y => y.1 == a) := by
  show p_impl_legsAt FU _ = _
  unfold p_impl_legsAt l_impl_legsAt_1
  simp only
  refine lp_for (fun r => r = some (xs.filter fun y => y.1 == a)) (fun i z => z = ((xs.take i).filter fun y => y.1 == a, (i : Int))) xs.length (fun i z hi hz => ?_) (fun z hz rec => ?_) FU _ (FU_gt hl) rfl
  · subst hz
    have h := List.length_filter_le (fun y : Int × (Int × (Int × Int)) => y.1 == a) (xs.take i)
    simp only [List.length_take] at h
    have hb : Nat.ble ((((xs.take i).filter fun y => y.1 == a).length + [xs[i]].length) * 32) maxBytes = true := ble_mem (by simp only [maxBytes, List.length_singleton]; omega)
    refine .inr ⟨_, rfl, fun rec => ?_⟩
    simp only [lt_lenI hi, cond_true, geti_lt xs i hi, Option.bind_some, wrap_next hi hl, chk_true hb]
    rw [List.take_succ_eq_append_getElem hi, List.filter_append]
    cases hx : (xs[i].1 == a) <;> simp [hx]
  · subst hz
    simp only [ge_lenI, cond_false, List.take_length]

theorem t_impl_Cluster_has (c) (i a : Int) (hl : c.1.length ≤ 1048576) (h2 : ∀ y ∈ c.1, y.2.length ≤ 1048576) : m_impl_Cluster_has (c, i, a) = some (match conOf c.1 i with | some (_, y) => (hasB y.2 a, c) | none => (false, c)) := by
  show p_impl_Cluster_has FU _ = _
  unfold p_impl_Cluster_has
  simp only [t_impl_Cluster_contract c i hl, Option.bind_some]
  cases hf : conOf c.1 i with
  | none => rfl
  | some jy =>
    obtain ⟨j, y⟩ := jy
    obtain ⟨_, _, hy, _⟩ := conOf_le hf
    have h := t_impl_legsAt y.1 y.2 a (h2 y hy)
    simp only [cond_true, h, Option.bind_some]
    congr 2
    unfold hasB
    rw [Bool.eq_iff_iff]
    simp only [lenI_eq, List.any_eq_true]
    constructor
    · intro h
      have h1 : (y.2.filter fun z => z.1 == a) ≠ [] := by intro e; rw [e] at h; simp at h
      obtain ⟨z, hz⟩ := List.exists_mem_of_ne_nil _ h1
      rw [List.mem_filter] at hz
      exact ⟨z, hz⟩
    · rintro ⟨z, hz⟩
      have := List.length_pos_of_mem ((List.mem_filter (p := fun z : Int × (Int × (Int × Int)) => z.1 == a)).2 hz)
      exact decide_eq_true (Int.natCast_pos.2 this)

theorem t_impl_isBallot (a : Int) : m_impl_isBallot a = some (bal a) := by
  show p_impl_isBallot FU _ = _
  unfold p_impl_isBallot bal
  rw [t_impl_within]; rfl

theorem t_impl_isValue (a : Int) : m_impl_isValue a = some (vlu a) := by
  show p_impl_isValue FU _ = _
  unfold p_impl_isValue vlu
  cases h : (a == (1 : Int)) <;> simp

theorem t_impl_noVote : m_impl_noVote () = some (-1, 0) := rfl

theorem t_impl_isVote (a : Int × Int) : m_impl_isVote a = some (votB a) := by
  show p_impl_isVote FU _ = _
  unfold p_impl_isVote votB
  rw [t_impl_isBallot, t_impl_isValue]
  cases bal a.1 <;> rfl

theorem t_impl_isOutcome (a : Int) : m_impl_isOutcome a = some (vlu a) := by
  show p_impl_isOutcome FU _ = _
  unfold p_impl_isOutcome vlu
  cases (a == 1) <;> rfl
theorem t_spec_l11Right (v : Int × Int) : m_spec_l11Right v = some (votB v) := by
  show p_spec_l11Right FU _ = _
  unfold p_spec_l11Right votB
  simp only [t_spec_l8Ballot, t_spec_l8Value, Option.bind_some]
  cases bal v.1 <;> rfl
/-- Do a message's numbers lie where they should? -/
def numsB (k bl v : Int) (vt : Int × Int) : Bool := (decide (k < 2) || decide (k > 5) || bal bl) && ((!(k == 2 || k == 3 || k == 6)) || vlu v) && ((!(k == 5)) || (vt.1 == -1 && (vt.2 == 0 && true)) || votB vt)
theorem t_impl_Cluster_rangesOk (c m) (hk : inB m.1 1 6 = true) (hl : c.1.length ≤ 1048576) (h2 : ∀ y ∈ c.1, y.2.length ≤ 1048576) : m_impl_Cluster_rangesOk (c, m) = some ((match conOf c.1 m.2.2.2.1 with | some (_, y) => hasB y.2 (if m.1 = 1 ∨ m.1 = 6 then m.2.1 else m.2.2.2.2.1) | none => false) && numsB m.1 m.2.2.2.2.2.1 m.2.2.2.2.2.2.1 m.2.2.2.2.2.2.2, c) := by
  obtain ⟨k, to, fr, i, sh, bl, v, v1, v2⟩ := m
  unfold inB at hk
  simp only [Bool.and_eq_true, decide_eq_true_eq] at hk
  have hk : k = 1 ∨ k = 2 ∨ k = 3 ∨ k = 4 ∨ k = 5 ∨ k = 6 := by omega
  show p_impl_Cluster_rangesOk FU _ = _
  unfold p_impl_Cluster_rangesOk
  simp only [t_impl_Cluster_has c _ _ hl h2, t_impl_isOutcome, t_impl_isBallot, t_impl_isValue, t_impl_noVote, t_impl_isVote, Option.bind_some]
  rcases hk with rfl | rfl | rfl | rfl | rfl | rfl
  all_goals
    cases hf : conOf c.1 i with
    | none => rfl
    | some jy =>
      obtain ⟨j, y⟩ := jy
      first
      | (cases hasB y.2 to <;> cases vlu v <;> rfl)
      | (cases hb0 : hasB y.2 to <;> cases hb3 : vlu v <;> simp [hb0, hb3, numsB]; done)
      | (cases hb : hasB y.2 sh <;> cases hb2 : bal bl <;> cases hb3 : vlu v <;> cases hb4 : (v1 == -1) <;> cases hb5 : (v2 == 0) <;> cases hb6 : votB (v1, v2) <;> simp [hb, hb2, hb3, hb4, hb5, hb6, numsB])
/-- The code of a message. -/
def msgCode (cs : List (Int × List (Int × (Int × (Int × Int))))) (s a l : Int) (m : Int × (Int × (Int × (Int × (Int × (Int × (Int × (Int × Int)))))))) : Int :=
  cond (!(inB m.1 1 6)) 5 (cond (!(endsB m.1 m.2.1 m.2.2.1 s a l)) 3 (match conOf cs m.2.2.2.1 with
    | none => 4
    | some (_, y) => cond (!(hasB y.2 (if m.1 = 1 ∨ m.1 = 6 then m.2.1 else m.2.2.2.2.1) && numsB m.1 m.2.2.2.2.2.1 m.2.2.2.2.2.2.1 m.2.2.2.2.2.2.2)) 3 (match m_impl_Message_plain m with
      | some r => cond (!((m.1 == r.1) && ((m.2.1 == r.2.1) && ((m.2.2.1 == r.2.2.1) && ((m.2.2.2.1 == r.2.2.2.1) && ((m.2.2.2.2.1 == r.2.2.2.2.1) && ((m.2.2.2.2.2.1 == r.2.2.2.2.2.1) && ((m.2.2.2.2.2.2.1 == r.2.2.2.2.2.2.1) && ((m.2.2.2.2.2.2.2.1 == r.2.2.2.2.2.2.2.1) && ((m.2.2.2.2.2.2.2.2 == r.2.2.2.2.2.2.2.2) && true)))))))))) 1 0
      | none => 0)))
theorem t_impl_MessageFault (c m) (hl : c.1.length ≤ 1048576) (h2 : ∀ y ∈ c.1, y.2.length ≤ 1048576) (l1 : c.2.1.length ≤ 1048576) (l2 : c.2.2.1.length ≤ 1048576) (l3 : c.2.2.2.1.length ≤ 1048576) : m_impl_MessageFault (c, m) = some (msgCode c.1 c.2.1.length c.2.2.1.length c.2.2.2.1.length m) := by
  show p_impl_MessageFault FU _ = _
  unfold p_impl_MessageFault msgCode
  simp only [t_impl_within, Option.bind_some]
  cases hk : inB m.1 1 6 with
  | false => rfl
  | true =>
    simp only [Bool.not_true, cond_false, ends_to _ _ _ _ _ _ hk, t_impl_Cluster_isTo c m l1 l2 l3, t_impl_Cluster_isFrom c m l2 l3, Option.bind_some]
    cases toB m.1 m.2.1 c.2.1.length c.2.2.1.length c.2.2.2.1.length with
    | false => rfl
    | true =>
      cases fromB m.1 m.2.2.1 c.2.2.1.length c.2.2.2.1.length with
      | false => rfl
      | true =>
        simp only [Bool.not_true, cond_false, Option.bind_some, Bool.and_self, t_impl_Cluster_contract c _ hl]
        cases hf : conOf c.1 m.2.2.2.1 with
        | none => rfl
        | some jy =>
          obtain ⟨j, y⟩ := jy
          simp only [Bool.not_true, cond_false, t_impl_Cluster_rangesOk c m hk hl h2, hf, Option.bind_some]
          cases (hasB y.2 (if m.1 = 1 ∨ m.1 = 6 then m.2.1 else m.2.2.2.2.1) && numsB m.1 m.2.2.2.2.2.1 m.2.2.2.2.2.2.1 m.2.2.2.2.2.2.2) with
          | false => rfl
          | true =>
            obtain ⟨r, q1, q2⟩ := bare_eq m hk
            simp only [q1, Bool.not_true, cond_false, Option.bind_some]
            cases (!((m.1 == r.1) && ((m.2.1 == r.2.1) && ((m.2.2.1 == r.2.2.1) && ((m.2.2.2.1 == r.2.2.2.1) && ((m.2.2.2.2.1 == r.2.2.2.2.1) && ((m.2.2.2.2.2.1 == r.2.2.2.2.2.1) && ((m.2.2.2.2.2.2.1 == r.2.2.2.2.2.2.1) && ((m.2.2.2.2.2.2.2.1 == r.2.2.2.2.2.2.2.1) && ((m.2.2.2.2.2.2.2.2 == r.2.2.2.2.2.2.2.2) && true)))))))))) <;> rfl
theorem t_spec_MessageFault (c m) (hl : c.1.length ≤ 1048576) (h2 : ∀ y ∈ c.1, y.2.length ≤ 1048576) (l1 : c.2.1.length ≤ 1048576) (l2 : c.2.2.1.length ≤ 1048576) (l3 : c.2.2.2.1.length ≤ 1048576) : m_spec_MessageFault (c, m) = some (msgCode c.1 c.2.1.length c.2.2.1.length c.2.2.2.1.length m) := by
  show p_spec_MessageFault FU _ = _
  unfold p_spec_MessageFault
  suffices h : m_spec_l11Message (c, m) = some (msgCode c.1 c.2.1.length c.2.2.1.length c.2.2.2.1.length m, c) by rw [h]; rfl
  show p_spec_l11Message FU _ = _
  unfold p_spec_l11Message msgCode
  simp only [t_spec_l1In, Option.bind_some]
  cases hk : inB m.1 1 6 with
  | false => rfl
  | true =>
    simp only [Bool.not_true, cond_false, t_spec_l11Ends c m l1 l2 l3, Option.bind_some]
    cases endsB m.1 m.2.1 m.2.2.1 c.2.1.length c.2.2.1.length c.2.2.2.1.length with
    | false => rfl
    | true =>
      simp only [Bool.not_true, cond_false, Option.bind_some, t_spec_l11Find c _ hl]
      have hcon : conOf c.1 m.2.2.2.1 = (c.1.findIdx? fun y => y.1 == m.2.2.2.1).bind fun j => (c.1[j]?).map fun y => (j, y) := rfl
      cases hf : c.1.findIdx? (fun y => y.1 == m.2.2.2.1) with
      | none => rw [hcon, hf]; rfl
      | some j =>
        have hj : j < c.1.length := (List.findIdx?_eq_some_iff_getElem.1 hf).1
        rw [hcon, hf]
        have hd : decide ((j : Int) < 0) = false := decide_eq_false (by omega)
        simp only [Option.bind_some, hd, cond_false, List.getElem?_eq_getElem hj, Option.map_some]
        have e6 : (Option.bind (α := Bool) (cond (m.1 == (1 : Int)) (some true) (some (m.1 == (6 : Int)))) fun j5 => (cond j5 (some m.2.1) (some m.2.2.2.2.1))) = some (if m.1 = 1 ∨ m.1 = 6 then m.2.1 else m.2.2.2.2.1) := by
          by_cases q1 : m.1 = 1
          · simp [q1]
          · have b1 : (m.1 == 1) = false := by simp [q1]
            by_cases q2 : m.1 = 6
            · simp [q2]
            · have b2 : (m.1 == 6) = false := by simp [q2]
              simp [b1, b2, q1, q2]
        rw [e6]
        simp only [Option.bind_some, t_spec_l11Has c _ _ hl h2, hf, List.getElem?_eq_getElem hj, Option.getD_some]
        cases hasB c.1[j].2 (if m.1 = 1 ∨ m.1 = 6 then m.2.1 else m.2.2.2.2.1) with
        | false => rfl
        | true =>
          simp only [Bool.not_true, cond_false, Bool.true_and, t_spec_l8Ballot, t_spec_l8Value, t_spec_l8None, t_spec_l11Right, Option.bind_some]
          obtain ⟨r, q1, q2⟩ := bare_eq m hk
          rw [q1, q2]
          simp only [Option.bind_some]
          have hk' : m.1 = 1 ∨ m.1 = 2 ∨ m.1 = 3 ∨ m.1 = 4 ∨ m.1 = 5 ∨ m.1 = 6 := by
            unfold inB at hk
            simp only [Bool.and_eq_true, decide_eq_true_eq] at hk
            omega
          generalize ((m.1 == r.1) && ((m.2.1 == r.2.1) && ((m.2.2.1 == r.2.2.1) && ((m.2.2.2.1 == r.2.2.2.1) && ((m.2.2.2.2.1 == r.2.2.2.2.1) && ((m.2.2.2.2.2.1 == r.2.2.2.2.2.1) && ((m.2.2.2.2.2.2.1 == r.2.2.2.2.2.2.1) && ((m.2.2.2.2.2.2.2.1 == r.2.2.2.2.2.2.2.1) && ((m.2.2.2.2.2.2.2.2 == r.2.2.2.2.2.2.2.2) && true))))))))) = Q
          unfold numsB
          rcases hk' with hk' | hk' | hk' | hk' | hk' | hk' <;> rw [hk'] <;> cases bal m.2.2.2.2.2.1 <;> cases vlu m.2.2.2.2.2.2.1 <;> cases votB m.2.2.2.2.2.2.2 <;> cases (m.2.2.2.2.2.2.2.1 == -1) <;> cases (m.2.2.2.2.2.2.2.2 == 0) <;> cases Q <;> rfl

theorem t_laws_eqVote (a : Int × Int) : m_laws_eqVote (a, a) = some true := by
  show p_laws_eqVote FU _ = _
  unfold p_laws_eqVote
  simp

theorem t_laws_eqVoteS (xs : List (Int × Int)) (hl : xs.length ≤ 1048576) : m_laws_eqVoteS (xs, xs) = some true := by
  show p_laws_eqVoteS FU _ = _
  unfold p_laws_eqVoteS
  simp only [beq_self_eq_true, Bool.not_true, cond_false]
  exact eq_loop xs m_laws_eqVote (fun x hx => t_laws_eqVote x) hl

theorem t_laws_eqSlot (x : SlotT) (h : x.2.2.2.2.length ≤ 1048576) : m_laws_eqSlot (x, x) = some true := by
  show p_laws_eqSlot FU _ = _
  unfold p_laws_eqSlot
  simp only [beq_self_eq_true, Bool.not_true, cond_false, t_laws_eqVote, t_laws_eqVoteS _ h, Option.bind_some]

theorem t_laws_eqSlotS (xs : List SlotT) (hl : xs.length ≤ 1048576) (h : ∀ x ∈ xs, x.2.2.2.2.length ≤ 1048576) : m_laws_eqSlotS (xs, xs) = some true := by
  show p_laws_eqSlotS FU _ = _
  unfold p_laws_eqSlotS
  simp only [beq_self_eq_true, Bool.not_true, cond_false]
  exact eq_loop xs m_laws_eqSlot (fun x hx => t_laws_eqSlot x (h x hx)) hl

theorem law_laws_FnExactMessageFault (x : CluT × MsgT) (h : WFs S_laws_FnExactMessageFault.ps x) : m_laws_FnExactMessageFault x = some true := by
  obtain ⟨c, m⟩ := x
  show p_laws_FnExactMessageFault FU _ = _
  unfold p_laws_FnExactMessageFault
  simp only
  rcases z_laws_szCluster c h.1 1048576 (by omega) (by omega) with e1 | ⟨e1, b1⟩
  · rw [e1]; rfl
  · have hW : W_Cluster c ≤ 1048576 := by omega
    have d1 : decide ((1048576 : Int) - (W_Cluster c : Int) < 0) = false := decide_eq_false (by omega)
    have hW' := hW
    unfold W_Cluster W_ContractS W_ShardS W_AcceptorS W_LeaderS at hW'
    have h2 : ∀ y ∈ c.1, y.2.length ≤ 1048576 := fun y hy => by
      have h1 := wsum_mem W_Contract c.1 y hy
      have h3 : W_Contract y = y.2.length := rfl
      omega
    simp only [e1, Option.bind_some, d1, cond_false, o_laws_toCluster c hW, o_laws_toMessage m, t_spec_MessageFault c m (by omega) h2 (by omega) (by omega) (by omega), t_impl_MessageFault c m (by omega) h2 (by omega) (by omega) (by omega), beq_self_eq_true, Bool.not_true, eq_laws_eqCluster c hW]
end Go.RvP
