/- The plain functions that the evaluator comes to, for FnExactMessageFault. No condition. -/
import Derived.Test.YtccghpomkikjoaaGreatRvL
namespace Go.RvP
open Go Go.Rv
noncomputable section
/-! laws.szLegS -/
def p_laws_szLegS (n : Nat) (x : ((List (Int × (Int × (Int × Int)))) × Int)) : Option Int :=
(cond (decide ((IntKind.wrap .i64 (x.2 - (lenI x.1))) < (0 : Int)))
 (some (-1 : Int))
 (some (IntKind.wrap .i64 (x.2 - (lenI x.1)))))
def m_laws_szLegS (x : ((List (Int × (Int × (Int × Int)))) × Int)) : Option Int := p_laws_szLegS FU x
def a_laws_szLegS : Ann := .leaf
def S_laws_szLegS : FSpec := ⟨[.val (.sl none (.pair (.int .i64) (.pair (.int .i64) (.pair (.int .i64) (.int .i64))))), .val (.int .i64)], [(.int .i64)], m_laws_szLegS⟩

/-! laws.szContract -/
def p_laws_szContract (n : Nat) (x : ((Int × (List (Int × (Int × (Int × Int))))) × Int)) : Option Int :=
((m_laws_szLegS (x.1.2, x.2)).bind fun r1 =>
(cond (decide (r1 < (0 : Int)))
 (some (-1 : Int))
 (some r1)))
def m_laws_szContract (x : ((Int × (List (Int × (Int × (Int × Int))))) × Int)) : Option Int := p_laws_szContract FU x
def a_laws_szContract : Ann := .leaf
def S_laws_szContract : FSpec := ⟨[.val (.pair (.int .i64) (.sl none (.pair (.int .i64) (.pair (.int .i64) (.pair (.int .i64) (.int .i64)))))), .val (.int .i64)], [(.int .i64)], m_laws_szContract⟩

/-! laws.szContractS -/
def l_laws_szContractS_1 (n : Nat) (x_1 : (List (Int × (List (Int × (Int × (Int × Int))))))) (z0 : (Int × Int)) : Option Int :=
(lp (fun rec5 (z4 : (Int × Int)) =>
 (cond (decide (z4.2 < (lenI x_1)))
  ((geti x_1 z4.2).bind fun y6 =>
  ((m_laws_szContract (y6, z4.1)).bind fun r7 =>
  (cond (decide (r7 < (0 : Int)))
   (some (-1 : Int))
   (rec5 (r7, IntKind.wrap .i64 (z4.2 + (1 : Int)))))))
  (some z4.1))) n z0)
def p_laws_szContractS (n : Nat) (x : ((List (Int × (List (Int × (Int × (Int × Int)))))) × Int)) : Option Int :=
(cond (decide ((IntKind.wrap .i64 (x.2 - (lenI x.1))) < (0 : Int)))
 (some (-1 : Int))
 (l_laws_szContractS_1 n x.1 (IntKind.wrap .i64 (x.2 - (lenI x.1)), (0 : Int))))
def m_laws_szContractS (x : ((List (Int × (List (Int × (Int × (Int × Int)))))) × Int)) : Option Int := p_laws_szContractS FU x
def a_laws_szContractS : Ann := (.node .leaf (.node .leaf (.node .leaf (.node (.node .leaf (.loop [.slot 1 (.int .i64), .slot 5 (.int .i64)] [4, 12, 13, 14, 15, 16, 17, 18, 19, 20, 21, 22, 23, 24, 25] .leaf)) .leaf))))
def S_laws_szContractS : FSpec := ⟨[.val (.sl none (.pair (.int .i64) (.sl none (.pair (.int .i64) (.pair (.int .i64) (.pair (.int .i64) (.int .i64))))))), .val (.int .i64)], [(.int .i64)], m_laws_szContractS⟩

/-! laws.szBalanceS -/
def p_laws_szBalanceS (n : Nat) (x : ((List (Int × (Int × Int))) × Int)) : Option Int :=
(cond (decide ((IntKind.wrap .i64 (x.2 - (lenI x.1))) < (0 : Int)))
 (some (-1 : Int))
 (some (IntKind.wrap .i64 (x.2 - (lenI x.1)))))
def m_laws_szBalanceS (x : ((List (Int × (Int × Int))) × Int)) : Option Int := p_laws_szBalanceS FU x
def a_laws_szBalanceS : Ann := .leaf
def S_laws_szBalanceS : FSpec := ⟨[.val (.sl none (.pair (.int .i64) (.pair (.int .i64) (.int .i64)))), .val (.int .i64)], [(.int .i64)], m_laws_szBalanceS⟩

/-! laws.szMarkS -/
def p_laws_szMarkS (n : Nat) (x : ((List (Int × Int)) × Int)) : Option Int :=
(cond (decide ((IntKind.wrap .i64 (x.2 - (lenI x.1))) < (0 : Int)))
 (some (-1 : Int))
 (some (IntKind.wrap .i64 (x.2 - (lenI x.1)))))
def m_laws_szMarkS (x : ((List (Int × Int)) × Int)) : Option Int := p_laws_szMarkS FU x
def a_laws_szMarkS : Ann := .leaf
def S_laws_szMarkS : FSpec := ⟨[.val (.sl none (.pair (.int .i64) (.int .i64))), .val (.int .i64)], [(.int .i64)], m_laws_szMarkS⟩

/-! laws.szInt64S -/
def p_laws_szInt64S (n : Nat) (x : ((List Int) × Int)) : Option Int :=
(cond (decide ((IntKind.wrap .i64 (x.2 - (lenI x.1))) < (0 : Int)))
 (some (-1 : Int))
 (some (IntKind.wrap .i64 (x.2 - (lenI x.1)))))
def m_laws_szInt64S (x : ((List Int) × Int)) : Option Int := p_laws_szInt64S FU x
def a_laws_szInt64S : Ann := .leaf
def S_laws_szInt64S : FSpec := ⟨[.val (.sl none (.int .i64)), .val (.int .i64)], [(.int .i64)], m_laws_szInt64S⟩

/-! laws.szShard -/
def p_laws_szShard (n : Nat) (x : ((Int × ((List (Int × (Int × Int))) × ((List (Int × Int)) × ((List (Int × (List (Int × (Int × (Int × Int)))))) × ((List (Int × Int)) × (List Int)))))) × Int)) : Option Int :=
((m_laws_szBalanceS (x.1.2.1, x.2)).bind fun r1 =>
(cond (decide (r1 < (0 : Int)))
 (some (-1 : Int))
 ((m_laws_szMarkS (x.1.2.2.1, r1)).bind fun r2 =>
 (cond (decide (r2 < (0 : Int)))
  (some (-1 : Int))
  ((m_laws_szContractS (x.1.2.2.2.1, r2)).bind fun r3 =>
  (cond (decide (r3 < (0 : Int)))
   (some (-1 : Int))
   ((m_laws_szMarkS (x.1.2.2.2.2.1, r3)).bind fun r4 =>
   (cond (decide (r4 < (0 : Int)))
    (some (-1 : Int))
    ((m_laws_szInt64S (x.1.2.2.2.2.2, r4)).bind fun r5 =>
    (cond (decide (r5 < (0 : Int)))
     (some (-1 : Int))
     (some r5)))))))))))
def m_laws_szShard (x : ((Int × ((List (Int × (Int × Int))) × ((List (Int × Int)) × ((List (Int × (List (Int × (Int × (Int × Int)))))) × ((List (Int × Int)) × (List Int)))))) × Int)) : Option Int := p_laws_szShard FU x
def a_laws_szShard : Ann := .leaf
def S_laws_szShard : FSpec := ⟨[.val (.pair (.int .i64) (.pair (.sl none (.pair (.int .i64) (.pair (.int .i64) (.int .i64)))) (.pair (.sl none (.pair (.int .i64) (.int .i64))) (.pair (.sl none (.pair (.int .i64) (.sl none (.pair (.int .i64) (.pair (.int .i64) (.pair (.int .i64) (.int .i64))))))) (.pair (.sl none (.pair (.int .i64) (.int .i64))) (.sl none (.int .i64))))))), .val (.int .i64)], [(.int .i64)], m_laws_szShard⟩

/-! laws.szShardS -/
def l_laws_szShardS_1 (n : Nat) (x_1 : (List (Int × ((List (Int × (Int × Int))) × ((List (Int × Int)) × ((List (Int × (List (Int × (Int × (Int × Int)))))) × ((List (Int × Int)) × (List Int)))))))) (z0 : (Int × Int)) : Option Int :=
(lp (fun rec5 (z4 : (Int × Int)) =>
 (cond (decide (z4.2 < (lenI x_1)))
  ((geti x_1 z4.2).bind fun y6 =>
  ((m_laws_szShard (y6, z4.1)).bind fun r7 =>
  (cond (decide (r7 < (0 : Int)))
   (some (-1 : Int))
   (rec5 (r7, IntKind.wrap .i64 (z4.2 + (1 : Int)))))))
  (some z4.1))) n z0)
def p_laws_szShardS (n : Nat) (x : ((List (Int × ((List (Int × (Int × Int))) × ((List (Int × Int)) × ((List (Int × (List (Int × (Int × (Int × Int)))))) × ((List (Int × Int)) × (List Int))))))) × Int)) : Option Int :=
(cond (decide ((IntKind.wrap .i64 (x.2 - (lenI x.1))) < (0 : Int)))
 (some (-1 : Int))
 (l_laws_szShardS_1 n x.1 (IntKind.wrap .i64 (x.2 - (lenI x.1)), (0 : Int))))
def m_laws_szShardS (x : ((List (Int × ((List (Int × (Int × Int))) × ((List (Int × Int)) × ((List (Int × (List (Int × (Int × (Int × Int)))))) × ((List (Int × Int)) × (List Int))))))) × Int)) : Option Int := p_laws_szShardS FU x
def a_laws_szShardS : Ann := (.node .leaf (.node .leaf (.node .leaf (.node (.node .leaf (.loop [.slot 1 (.int .i64), .slot 5 (.int .i64)] [4, 12, 13, 14, 15, 16, 17, 18, 19, 20, 21, 22, 23, 24, 25] .leaf)) .leaf))))
def S_laws_szShardS : FSpec := ⟨[.val (.sl none (.pair (.int .i64) (.pair (.sl none (.pair (.int .i64) (.pair (.int .i64) (.int .i64)))) (.pair (.sl none (.pair (.int .i64) (.int .i64))) (.pair (.sl none (.pair (.int .i64) (.sl none (.pair (.int .i64) (.pair (.int .i64) (.pair (.int .i64) (.int .i64))))))) (.pair (.sl none (.pair (.int .i64) (.int .i64))) (.sl none (.int .i64)))))))), .val (.int .i64)], [(.int .i64)], m_laws_szShardS⟩

/-! laws.szVoteS -/
def p_laws_szVoteS (n : Nat) (x : ((List (Int × Int)) × Int)) : Option Int :=
(cond (decide ((IntKind.wrap .i64 (x.2 - (lenI x.1))) < (0 : Int)))
 (some (-1 : Int))
 (some (IntKind.wrap .i64 (x.2 - (lenI x.1)))))
def m_laws_szVoteS (x : ((List (Int × Int)) × Int)) : Option Int := p_laws_szVoteS FU x
def a_laws_szVoteS : Ann := .leaf
def S_laws_szVoteS : FSpec := ⟨[.val (.sl none (.pair (.int .i64) (.int .i64))), .val (.int .i64)], [(.int .i64)], m_laws_szVoteS⟩

/-! laws.szSlot -/
def p_laws_szSlot (n : Nat) (x : ((Int × (Int × (Int × ((Int × Int) × (List (Int × Int)))))) × Int)) : Option Int :=
((m_laws_szVoteS (x.1.2.2.2.2, x.2)).bind fun r1 =>
(cond (decide (r1 < (0 : Int)))
 (some (-1 : Int))
 (some r1)))
def m_laws_szSlot (x : ((Int × (Int × (Int × ((Int × Int) × (List (Int × Int)))))) × Int)) : Option Int := p_laws_szSlot FU x
def a_laws_szSlot : Ann := .leaf
def S_laws_szSlot : FSpec := ⟨[.val (.pair (.int .i64) (.pair (.int .i64) (.pair (.int .i64) (.pair (.pair (.int .i64) (.int .i64)) (.sl none (.pair (.int .i64) (.int .i64))))))), .val (.int .i64)], [(.int .i64)], m_laws_szSlot⟩

/-! laws.szSlotS -/
def l_laws_szSlotS_1 (n : Nat) (x_1 : (List (Int × (Int × (Int × ((Int × Int) × (List (Int × Int)))))))) (z0 : (Int × Int)) : Option Int :=
(lp (fun rec5 (z4 : (Int × Int)) =>
 (cond (decide (z4.2 < (lenI x_1)))
  ((geti x_1 z4.2).bind fun y6 =>
  ((m_laws_szSlot (y6, z4.1)).bind fun r7 =>
  (cond (decide (r7 < (0 : Int)))
   (some (-1 : Int))
   (rec5 (r7, IntKind.wrap .i64 (z4.2 + (1 : Int)))))))
  (some z4.1))) n z0)
def p_laws_szSlotS (n : Nat) (x : ((List (Int × (Int × (Int × ((Int × Int) × (List (Int × Int))))))) × Int)) : Option Int :=
(cond (decide ((IntKind.wrap .i64 (x.2 - (lenI x.1))) < (0 : Int)))
 (some (-1 : Int))
 (l_laws_szSlotS_1 n x.1 (IntKind.wrap .i64 (x.2 - (lenI x.1)), (0 : Int))))
def m_laws_szSlotS (x : ((List (Int × (Int × (Int × ((Int × Int) × (List (Int × Int))))))) × Int)) : Option Int := p_laws_szSlotS FU x
def a_laws_szSlotS : Ann := (.node .leaf (.node .leaf (.node .leaf (.node (.node .leaf (.loop [.slot 1 (.int .i64), .slot 5 (.int .i64)] [4, 12, 13, 14, 15, 16, 17, 18, 19, 20, 21, 22, 23, 24, 25] .leaf)) .leaf))))
def S_laws_szSlotS : FSpec := ⟨[.val (.sl none (.pair (.int .i64) (.pair (.int .i64) (.pair (.int .i64) (.pair (.pair (.int .i64) (.int .i64)) (.sl none (.pair (.int .i64) (.int .i64)))))))), .val (.int .i64)], [(.int .i64)], m_laws_szSlotS⟩

/-! laws.szAcceptor -/
def p_laws_szAcceptor (n : Nat) (x : ((List (Int × (Int × (Int × ((Int × Int) × (List (Int × Int))))))) × Int)) : Option Int :=
((m_laws_szSlotS (x.1, x.2)).bind fun r1 =>
(cond (decide (r1 < (0 : Int)))
 (some (-1 : Int))
 (some r1)))
def m_laws_szAcceptor (x : ((List (Int × (Int × (Int × ((Int × Int) × (List (Int × Int))))))) × Int)) : Option Int := p_laws_szAcceptor FU x
def a_laws_szAcceptor : Ann := .leaf
def S_laws_szAcceptor : FSpec := ⟨[.val (.one (.sl none (.pair (.int .i64) (.pair (.int .i64) (.pair (.int .i64) (.pair (.pair (.int .i64) (.int .i64)) (.sl none (.pair (.int .i64) (.int .i64))))))))), .val (.int .i64)], [(.int .i64)], m_laws_szAcceptor⟩

/-! laws.szAcceptorS -/
def l_laws_szAcceptorS_1 (n : Nat) (x_1 : (List (List (Int × (Int × (Int × ((Int × Int) × (List (Int × Int))))))))) (z0 : (Int × Int)) : Option Int :=
(lp (fun rec5 (z4 : (Int × Int)) =>
 (cond (decide (z4.2 < (lenI x_1)))
  ((geti x_1 z4.2).bind fun y6 =>
  ((m_laws_szAcceptor (y6, z4.1)).bind fun r7 =>
  (cond (decide (r7 < (0 : Int)))
   (some (-1 : Int))
   (rec5 (r7, IntKind.wrap .i64 (z4.2 + (1 : Int)))))))
  (some z4.1))) n z0)
def p_laws_szAcceptorS (n : Nat) (x : ((List (List (Int × (Int × (Int × ((Int × Int) × (List (Int × Int)))))))) × Int)) : Option Int :=
(cond (decide ((IntKind.wrap .i64 (x.2 - (lenI x.1))) < (0 : Int)))
 (some (-1 : Int))
 (l_laws_szAcceptorS_1 n x.1 (IntKind.wrap .i64 (x.2 - (lenI x.1)), (0 : Int))))
def m_laws_szAcceptorS (x : ((List (List (Int × (Int × (Int × ((Int × Int) × (List (Int × Int)))))))) × Int)) : Option Int := p_laws_szAcceptorS FU x
def a_laws_szAcceptorS : Ann := (.node .leaf (.node .leaf (.node .leaf (.node (.node .leaf (.loop [.slot 1 (.int .i64), .slot 5 (.int .i64)] [4, 12, 13, 14, 15, 16, 17, 18, 19, 20, 21, 22, 23, 24, 25] .leaf)) .leaf))))
def S_laws_szAcceptorS : FSpec := ⟨[.val (.sl none (.one (.sl none (.pair (.int .i64) (.pair (.int .i64) (.pair (.int .i64) (.pair (.pair (.int .i64) (.int .i64)) (.sl none (.pair (.int .i64) (.int .i64)))))))))), .val (.int .i64)], [(.int .i64)], m_laws_szAcceptorS⟩

/-! laws.szTry -/
def p_laws_szTry (n : Nat) (x : ((Int × (Int × (Int × (Int × ((List Int) × (List (Int × Int))))))) × Int)) : Option Int :=
((m_laws_szInt64S (x.1.2.2.2.2.1, x.2)).bind fun r1 =>
(cond (decide (r1 < (0 : Int)))
 (some (-1 : Int))
 ((m_laws_szVoteS (x.1.2.2.2.2.2, r1)).bind fun r2 =>
 (cond (decide (r2 < (0 : Int)))
  (some (-1 : Int))
  (some r2)))))
def m_laws_szTry (x : ((Int × (Int × (Int × (Int × ((List Int) × (List (Int × Int))))))) × Int)) : Option Int := p_laws_szTry FU x
def a_laws_szTry : Ann := .leaf
def S_laws_szTry : FSpec := ⟨[.val (.pair (.int .i64) (.pair (.int .i64) (.pair (.int .i64) (.pair (.int .i64) (.pair (.sl none (.int .i64)) (.sl none (.pair (.int .i64) (.int .i64)))))))), .val (.int .i64)], [(.int .i64)], m_laws_szTry⟩

/-! laws.szTryS -/
def l_laws_szTryS_1 (n : Nat) (x_1 : (List (Int × (Int × (Int × (Int × ((List Int) × (List (Int × Int))))))))) (z0 : (Int × Int)) : Option Int :=
(lp (fun rec5 (z4 : (Int × Int)) =>
 (cond (decide (z4.2 < (lenI x_1)))
  ((geti x_1 z4.2).bind fun y6 =>
  ((m_laws_szTry (y6, z4.1)).bind fun r7 =>
  (cond (decide (r7 < (0 : Int)))
   (some (-1 : Int))
   (rec5 (r7, IntKind.wrap .i64 (z4.2 + (1 : Int)))))))
  (some z4.1))) n z0)
def p_laws_szTryS (n : Nat) (x : ((List (Int × (Int × (Int × (Int × ((List Int) × (List (Int × Int)))))))) × Int)) : Option Int :=
(cond (decide ((IntKind.wrap .i64 (x.2 - (lenI x.1))) < (0 : Int)))
 (some (-1 : Int))
 (l_laws_szTryS_1 n x.1 (IntKind.wrap .i64 (x.2 - (lenI x.1)), (0 : Int))))
def m_laws_szTryS (x : ((List (Int × (Int × (Int × (Int × ((List Int) × (List (Int × Int)))))))) × Int)) : Option Int := p_laws_szTryS FU x
def a_laws_szTryS : Ann := (.node .leaf (.node .leaf (.node .leaf (.node (.node .leaf (.loop [.slot 1 (.int .i64), .slot 5 (.int .i64)] [4, 12, 13, 14, 15, 16, 17, 18, 19, 20, 21, 22, 23, 24, 25] .leaf)) .leaf))))
def S_laws_szTryS : FSpec := ⟨[.val (.sl none (.pair (.int .i64) (.pair (.int .i64) (.pair (.int .i64) (.pair (.int .i64) (.pair (.sl none (.int .i64)) (.sl none (.pair (.int .i64) (.int .i64))))))))), .val (.int .i64)], [(.int .i64)], m_laws_szTryS⟩

/-! laws.szHeardS -/
def p_laws_szHeardS (n : Nat) (x : ((List (Int × (Int × (Int × (Int × Int))))) × Int)) : Option Int :=
(cond (decide ((IntKind.wrap .i64 (x.2 - (lenI x.1))) < (0 : Int)))
 (some (-1 : Int))
 (some (IntKind.wrap .i64 (x.2 - (lenI x.1)))))
def m_laws_szHeardS (x : ((List (Int × (Int × (Int × (Int × Int))))) × Int)) : Option Int := p_laws_szHeardS FU x
def a_laws_szHeardS : Ann := .leaf
def S_laws_szHeardS : FSpec := ⟨[.val (.sl none (.pair (.int .i64) (.pair (.int .i64) (.pair (.int .i64) (.pair (.int .i64) (.int .i64)))))), .val (.int .i64)], [(.int .i64)], m_laws_szHeardS⟩

/-! laws.szLeader -/
def p_laws_szLeader (n : Nat) (x : ((Int × ((List (Int × (Int × (Int × (Int × ((List Int) × (List (Int × Int)))))))) × (List (Int × (Int × (Int × (Int × Int))))))) × Int)) : Option Int :=
((m_laws_szTryS (x.1.2.1, x.2)).bind fun r1 =>
(cond (decide (r1 < (0 : Int)))
 (some (-1 : Int))
 ((m_laws_szHeardS (x.1.2.2, r1)).bind fun r2 =>
 (cond (decide (r2 < (0 : Int)))
  (some (-1 : Int))
  (some r2)))))
def m_laws_szLeader (x : ((Int × ((List (Int × (Int × (Int × (Int × ((List Int) × (List (Int × Int)))))))) × (List (Int × (Int × (Int × (Int × Int))))))) × Int)) : Option Int := p_laws_szLeader FU x
def a_laws_szLeader : Ann := .leaf
def S_laws_szLeader : FSpec := ⟨[.val (.pair (.int .i64) (.pair (.sl none (.pair (.int .i64) (.pair (.int .i64) (.pair (.int .i64) (.pair (.int .i64) (.pair (.sl none (.int .i64)) (.sl none (.pair (.int .i64) (.int .i64))))))))) (.sl none (.pair (.int .i64) (.pair (.int .i64) (.pair (.int .i64) (.pair (.int .i64) (.int .i64)))))))), .val (.int .i64)], [(.int .i64)], m_laws_szLeader⟩

/-! laws.szLeaderS -/
def l_laws_szLeaderS_1 (n : Nat) (x_1 : (List (Int × ((List (Int × (Int × (Int × (Int × ((List Int) × (List (Int × Int)))))))) × (List (Int × (Int × (Int × (Int × Int))))))))) (z0 : (Int × Int)) : Option Int :=
(lp (fun rec5 (z4 : (Int × Int)) =>
 (cond (decide (z4.2 < (lenI x_1)))
  ((geti x_1 z4.2).bind fun y6 =>
  ((m_laws_szLeader (y6, z4.1)).bind fun r7 =>
  (cond (decide (r7 < (0 : Int)))
   (some (-1 : Int))
   (rec5 (r7, IntKind.wrap .i64 (z4.2 + (1 : Int)))))))
  (some z4.1))) n z0)
def p_laws_szLeaderS (n : Nat) (x : ((List (Int × ((List (Int × (Int × (Int × (Int × ((List Int) × (List (Int × Int)))))))) × (List (Int × (Int × (Int × (Int × Int)))))))) × Int)) : Option Int :=
(cond (decide ((IntKind.wrap .i64 (x.2 - (lenI x.1))) < (0 : Int)))
 (some (-1 : Int))
 (l_laws_szLeaderS_1 n x.1 (IntKind.wrap .i64 (x.2 - (lenI x.1)), (0 : Int))))
def m_laws_szLeaderS (x : ((List (Int × ((List (Int × (Int × (Int × (Int × ((List Int) × (List (Int × Int)))))))) × (List (Int × (Int × (Int × (Int × Int)))))))) × Int)) : Option Int := p_laws_szLeaderS FU x
def a_laws_szLeaderS : Ann := (.node .leaf (.node .leaf (.node .leaf (.node (.node .leaf (.loop [.slot 1 (.int .i64), .slot 5 (.int .i64)] [4, 12, 13, 14, 15, 16, 17, 18, 19, 20, 21, 22, 23, 24, 25] .leaf)) .leaf))))
def S_laws_szLeaderS : FSpec := ⟨[.val (.sl none (.pair (.int .i64) (.pair (.sl none (.pair (.int .i64) (.pair (.int .i64) (.pair (.int .i64) (.pair (.int .i64) (.pair (.sl none (.int .i64)) (.sl none (.pair (.int .i64) (.int .i64))))))))) (.sl none (.pair (.int .i64) (.pair (.int .i64) (.pair (.int .i64) (.pair (.int .i64) (.int .i64))))))))), .val (.int .i64)], [(.int .i64)], m_laws_szLeaderS⟩

/-! laws.szMessageS -/
def p_laws_szMessageS (n : Nat) (x : ((List (Int × (Int × (Int × (Int × (Int × (Int × (Int × (Int × Int))))))))) × Int)) : Option Int :=
(cond (decide ((IntKind.wrap .i64 (x.2 - (lenI x.1))) < (0 : Int)))
 (some (-1 : Int))
 (some (IntKind.wrap .i64 (x.2 - (lenI x.1)))))
def m_laws_szMessageS (x : ((List (Int × (Int × (Int × (Int × (Int × (Int × (Int × (Int × Int))))))))) × Int)) : Option Int := p_laws_szMessageS FU x
def a_laws_szMessageS : Ann := .leaf
def S_laws_szMessageS : FSpec := ⟨[.val (.sl none (.pair (.int .i64) (.pair (.int .i64) (.pair (.int .i64) (.pair (.int .i64) (.pair (.int .i64) (.pair (.int .i64) (.pair (.int .i64) (.pair (.int .i64) (.int .i64)))))))))), .val (.int .i64)], [(.int .i64)], m_laws_szMessageS⟩

/-! laws.szCluster -/
def p_laws_szCluster (n : Nat) (x : (((List (Int × (List (Int × (Int × (Int × Int)))))) × ((List (Int × ((List (Int × (Int × Int))) × ((List (Int × Int)) × ((List (Int × (List (Int × (Int × (Int × Int)))))) × ((List (Int × Int)) × (List Int))))))) × ((List (List (Int × (Int × (Int × ((Int × Int) × (List (Int × Int)))))))) × ((List (Int × ((List (Int × (Int × (Int × (Int × ((List Int) × (List (Int × Int)))))))) × (List (Int × (Int × (Int × (Int × Int)))))))) × (List (Int × (Int × (Int × (Int × (Int × (Int × (Int × (Int × Int))))))))))))) × Int)) : Option Int :=
((m_laws_szContractS (x.1.1, x.2)).bind fun r1 =>
(cond (decide (r1 < (0 : Int)))
 (some (-1 : Int))
 ((m_laws_szShardS (x.1.2.1, r1)).bind fun r2 =>
 (cond (decide (r2 < (0 : Int)))
  (some (-1 : Int))
  ((m_laws_szAcceptorS (x.1.2.2.1, r2)).bind fun r3 =>
  (cond (decide (r3 < (0 : Int)))
   (some (-1 : Int))
   ((m_laws_szLeaderS (x.1.2.2.2.1, r3)).bind fun r4 =>
   (cond (decide (r4 < (0 : Int)))
    (some (-1 : Int))
    ((m_laws_szMessageS (x.1.2.2.2.2, r4)).bind fun r5 =>
    (cond (decide (r5 < (0 : Int)))
     (some (-1 : Int))
     (some r5)))))))))))
def m_laws_szCluster (x : (((List (Int × (List (Int × (Int × (Int × Int)))))) × ((List (Int × ((List (Int × (Int × Int))) × ((List (Int × Int)) × ((List (Int × (List (Int × (Int × (Int × Int)))))) × ((List (Int × Int)) × (List Int))))))) × ((List (List (Int × (Int × (Int × ((Int × Int) × (List (Int × Int)))))))) × ((List (Int × ((List (Int × (Int × (Int × (Int × ((List Int) × (List (Int × Int)))))))) × (List (Int × (Int × (Int × (Int × Int)))))))) × (List (Int × (Int × (Int × (Int × (Int × (Int × (Int × (Int × Int))))))))))))) × Int)) : Option Int := p_laws_szCluster FU x
def a_laws_szCluster : Ann := .leaf
def S_laws_szCluster : FSpec := ⟨[.val (.pair (.sl none (.pair (.int .i64) (.sl none (.pair (.int .i64) (.pair (.int .i64) (.pair (.int .i64) (.int .i64))))))) (.pair (.sl none (.pair (.int .i64) (.pair (.sl none (.pair (.int .i64) (.pair (.int .i64) (.int .i64)))) (.pair (.sl none (.pair (.int .i64) (.int .i64))) (.pair (.sl none (.pair (.int .i64) (.sl none (.pair (.int .i64) (.pair (.int .i64) (.pair (.int .i64) (.int .i64))))))) (.pair (.sl none (.pair (.int .i64) (.int .i64))) (.sl none (.int .i64)))))))) (.pair (.sl none (.one (.sl none (.pair (.int .i64) (.pair (.int .i64) (.pair (.int .i64) (.pair (.pair (.int .i64) (.int .i64)) (.sl none (.pair (.int .i64) (.int .i64)))))))))) (.pair (.sl none (.pair (.int .i64) (.pair (.sl none (.pair (.int .i64) (.pair (.int .i64) (.pair (.int .i64) (.pair (.int .i64) (.pair (.sl none (.int .i64)) (.sl none (.pair (.int .i64) (.int .i64))))))))) (.sl none (.pair (.int .i64) (.pair (.int .i64) (.pair (.int .i64) (.pair (.int .i64) (.int .i64))))))))) (.sl none (.pair (.int .i64) (.pair (.int .i64) (.pair (.int .i64) (.pair (.int .i64) (.pair (.int .i64) (.pair (.int .i64) (.pair (.int .i64) (.pair (.int .i64) (.int .i64)))))))))))))), .val (.int .i64)], [(.int .i64)], m_laws_szCluster⟩

/-! laws.toLeg -/
def p_laws_toLeg (n : Nat) (x : (Int × (Int × (Int × Int)))) : Option (Int × (Int × (Int × Int))) :=
some x
def m_laws_toLeg (x : (Int × (Int × (Int × Int)))) : Option (Int × (Int × (Int × Int))) := p_laws_toLeg FU x
def a_laws_toLeg : Ann := .leaf
def S_laws_toLeg : FSpec := ⟨[.val (.pair (.int .i64) (.pair (.int .i64) (.pair (.int .i64) (.int .i64))))], [(.pair (.int .i64) (.pair (.int .i64) (.pair (.int .i64) (.int .i64))))], m_laws_toLeg⟩

/-! laws.toLegS -/
def l_laws_toLegS_1 (n : Nat) (x : (List (Int × (Int × (Int × Int))))) (z0 : (Int × (List (Int × (Int × (Int × Int)))))) : Option (List (Int × (Int × (Int × Int)))) :=
(lp (fun rec10 (z9 : (Int × (List (Int × (Int × (Int × Int)))))) =>
 (cond (decide (z9.1 < (lenI x)))
  ((geti x z9.1).bind fun y11 =>
  ((m_laws_toLeg y11).bind fun r12 =>
  ((geti z9.2 z9.1).bind fun _ =>
  ((z9.2[z9.1.toNat]?).bind fun y13 =>
  rec10 (IntKind.wrap .i64 (z9.1 + (1 : Int)), (z9.2.set z9.1.toNat r12))))))
  (some z9.2))) n z0)
def p_laws_toLegS (n : Nat) (x : (List (Int × (Int × (Int × Int))))) : Option (List (Int × (Int × (Int × Int)))) :=
(if (lenI x) = (lenI x) then (if 0 ≤ (lenI x) then chk (Nat.ble (32 * (lenI x).toNat) maxBytes)
(l_laws_toLegS_1 n x ((0 : Int), (List.replicate (lenI x).toNat ((0 : Int), ((0 : Int), ((0 : Int), (0 : Int))))))) else none) else none)
def m_laws_toLegS (x : (List (Int × (Int × (Int × Int))))) : Option (List (Int × (Int × (Int × Int)))) := p_laws_toLegS FU x
def a_laws_toLegS : Ann := (.node .leaf (.node .leaf (.node (.node .leaf (.loop [.slot 4 (.int .i64), .row 0 194 (.pair (.int .i64) (.pair (.int .i64) (.pair (.int .i64) (.int .i64))))] [8, 9, 10, 11, 12, 13, 14, 15, 16, 17, 18, 19, 20, 21] .leaf)) .leaf)))
def S_laws_toLegS : FSpec := ⟨[.val (.sl none (.pair (.int .i64) (.pair (.int .i64) (.pair (.int .i64) (.int .i64)))))], [(.sl (some 194) (.pair (.int .i64) (.pair (.int .i64) (.pair (.int .i64) (.int .i64)))))], m_laws_toLegS⟩

/-! laws.toContract -/
def p_laws_toContract (n : Nat) (x : (Int × (List (Int × (Int × (Int × Int)))))) : Option (Int × (List (Int × (Int × (Int × Int))))) :=
((m_laws_toLegS x.2).bind fun r1 =>
some (x.1, r1))
def m_laws_toContract (x : (Int × (List (Int × (Int × (Int × Int)))))) : Option (Int × (List (Int × (Int × (Int × Int))))) := p_laws_toContract FU x
def a_laws_toContract : Ann := .leaf
def S_laws_toContract : FSpec := ⟨[.val (.pair (.int .i64) (.sl none (.pair (.int .i64) (.pair (.int .i64) (.pair (.int .i64) (.int .i64))))))], [(.pair (.int .i64) (.sl (some 194) (.pair (.int .i64) (.pair (.int .i64) (.pair (.int .i64) (.int .i64))))))], m_laws_toContract⟩

/-! laws.toContractS -/
def l_laws_toContractS_1 (n : Nat) (x : (List (Int × (List (Int × (Int × (Int × Int))))))) (z0 : (Int × (List (Int × (List (Int × (Int × (Int × Int)))))))) : Option (List (Int × (List (Int × (Int × (Int × Int)))))) :=
(lp (fun rec8 (z7 : (Int × (List (Int × (List (Int × (Int × (Int × Int)))))))) =>
 (cond (decide (z7.1 < (lenI x)))
  ((geti x z7.1).bind fun y9 =>
  ((m_laws_toContract y9).bind fun r10 =>
  ((geti z7.2 z7.1).bind fun _ =>
  ((z7.2[z7.1.toNat]?).bind fun _ =>
  rec8 (IntKind.wrap .i64 (z7.1 + (1 : Int)), (z7.2.set z7.1.toNat r10))))))
  (some z7.2))) n z0)
def p_laws_toContractS (n : Nat) (x : (List (Int × (List (Int × (Int × (Int × Int))))))) : Option (List (Int × (List (Int × (Int × (Int × Int)))))) :=
(if (lenI x) = (lenI x) then (if 0 ≤ (lenI x) then chk (Nat.ble (32 * (lenI x).toNat) maxBytes)
(l_laws_toContractS_1 n x ((0 : Int), (List.replicate (lenI x).toNat ((0 : Int), [])))) else none) else none)
def m_laws_toContractS (x : (List (Int × (List (Int × (Int × (Int × Int))))))) : Option (List (Int × (List (Int × (Int × (Int × Int)))))) := p_laws_toContractS FU x
def a_laws_toContractS : Ann := (.node .leaf (.node (.own 7 (.pair (.int .i64) (.sl (some 194) (.pair (.int .i64) (.pair (.int .i64) (.pair (.int .i64) (.int .i64)))))) .leaf) (.node (.node .leaf (.loop [.slot 4 (.int .i64), .row 0 47 (.pair (.int .i64) (.sl (some 194) (.pair (.int .i64) (.pair (.int .i64) (.pair (.int .i64) (.int .i64))))))] [8, 9, 10, 11, 12, 13, 14, 15, 16, 17, 18, 19, 20, 21] .leaf)) .leaf)))
def S_laws_toContractS : FSpec := ⟨[.val (.sl none (.pair (.int .i64) (.sl none (.pair (.int .i64) (.pair (.int .i64) (.pair (.int .i64) (.int .i64)))))))], [(.sl (some 47) (.pair (.int .i64) (.sl (some 194) (.pair (.int .i64) (.pair (.int .i64) (.pair (.int .i64) (.int .i64)))))))], m_laws_toContractS⟩

/-! laws.toBalance -/
def p_laws_toBalance (n : Nat) (x : (Int × (Int × Int))) : Option (Int × (Int × Int)) :=
some x
def m_laws_toBalance (x : (Int × (Int × Int))) : Option (Int × (Int × Int)) := p_laws_toBalance FU x
def a_laws_toBalance : Ann := .leaf
def S_laws_toBalance : FSpec := ⟨[.val (.pair (.int .i64) (.pair (.int .i64) (.int .i64)))], [(.pair (.int .i64) (.pair (.int .i64) (.int .i64)))], m_laws_toBalance⟩

/-! laws.toBalanceS -/
def l_laws_toBalanceS_1 (n : Nat) (x : (List (Int × (Int × Int)))) (z0 : (Int × (List (Int × (Int × Int))))) : Option (List (Int × (Int × Int))) :=
(lp (fun rec10 (z9 : (Int × (List (Int × (Int × Int))))) =>
 (cond (decide (z9.1 < (lenI x)))
  ((geti x z9.1).bind fun y11 =>
  ((m_laws_toBalance y11).bind fun r12 =>
  ((geti z9.2 z9.1).bind fun _ =>
  ((z9.2[z9.1.toNat]?).bind fun y13 =>
  rec10 (IntKind.wrap .i64 (z9.1 + (1 : Int)), (z9.2.set z9.1.toNat r12))))))
  (some z9.2))) n z0)
def p_laws_toBalanceS (n : Nat) (x : (List (Int × (Int × Int)))) : Option (List (Int × (Int × Int))) :=
(if (lenI x) = (lenI x) then (if 0 ≤ (lenI x) then chk (Nat.ble (24 * (lenI x).toNat) maxBytes)
(l_laws_toBalanceS_1 n x ((0 : Int), (List.replicate (lenI x).toNat ((0 : Int), ((0 : Int), (0 : Int)))))) else none) else none)
def m_laws_toBalanceS (x : (List (Int × (Int × Int)))) : Option (List (Int × (Int × Int))) := p_laws_toBalanceS FU x
def a_laws_toBalanceS : Ann := (.node .leaf (.node .leaf (.node (.node .leaf (.loop [.slot 4 (.int .i64), .row 0 263 (.pair (.int .i64) (.pair (.int .i64) (.int .i64)))] [8, 9, 10, 11, 12, 13, 14, 15, 16, 17, 18, 19, 20, 21] .leaf)) .leaf)))
def S_laws_toBalanceS : FSpec := ⟨[.val (.sl none (.pair (.int .i64) (.pair (.int .i64) (.int .i64))))], [(.sl (some 263) (.pair (.int .i64) (.pair (.int .i64) (.int .i64))))], m_laws_toBalanceS⟩

/-! laws.toMark -/
def p_laws_toMark (n : Nat) (x : (Int × Int)) : Option (Int × Int) :=
some x
def m_laws_toMark (x : (Int × Int)) : Option (Int × Int) := p_laws_toMark FU x
def a_laws_toMark : Ann := .leaf
def S_laws_toMark : FSpec := ⟨[.val (.pair (.int .i64) (.int .i64))], [(.pair (.int .i64) (.int .i64))], m_laws_toMark⟩

/-! laws.toMarkS -/
def l_laws_toMarkS_1 (n : Nat) (x : (List (Int × Int))) (z0 : (Int × (List (Int × Int)))) : Option (List (Int × Int)) :=
(lp (fun rec10 (z9 : (Int × (List (Int × Int)))) =>
 (cond (decide (z9.1 < (lenI x)))
  ((geti x z9.1).bind fun y11 =>
  ((m_laws_toMark y11).bind fun r12 =>
  ((geti z9.2 z9.1).bind fun _ =>
  ((z9.2[z9.1.toNat]?).bind fun y13 =>
  rec10 (IntKind.wrap .i64 (z9.1 + (1 : Int)), (z9.2.set z9.1.toNat r12))))))
  (some z9.2))) n z0)
def p_laws_toMarkS (n : Nat) (x : (List (Int × Int))) : Option (List (Int × Int)) :=
(if (lenI x) = (lenI x) then (if 0 ≤ (lenI x) then chk (Nat.ble (16 * (lenI x).toNat) maxBytes)
(l_laws_toMarkS_1 n x ((0 : Int), (List.replicate (lenI x).toNat ((0 : Int), (0 : Int))))) else none) else none)
def m_laws_toMarkS (x : (List (Int × Int))) : Option (List (Int × Int)) := p_laws_toMarkS FU x
def a_laws_toMarkS : Ann := (.node .leaf (.node .leaf (.node (.node .leaf (.loop [.slot 4 (.int .i64), .row 0 185 (.pair (.int .i64) (.int .i64))] [8, 9, 10, 11, 12, 13, 14, 15, 16, 17, 18, 19, 20, 21] .leaf)) .leaf)))
def S_laws_toMarkS : FSpec := ⟨[.val (.sl none (.pair (.int .i64) (.int .i64)))], [(.sl (some 185) (.pair (.int .i64) (.int .i64)))], m_laws_toMarkS⟩

/-! laws.toInt64S -/
def l_laws_toInt64S_1 (n : Nat) (x : (List Int)) (z0 : (Int × (List Int))) : Option (List Int) :=
(lp (fun rec8 (z7 : (Int × (List Int))) =>
 (cond (decide (z7.1 < (lenI x)))
  ((geti x z7.1).bind fun y9 =>
  ((geti z7.2 z7.1).bind fun _ =>
  ((z7.2[z7.1.toNat]?).bind fun y10 =>
  rec8 (IntKind.wrap .i64 (z7.1 + (1 : Int)), (z7.2.set z7.1.toNat y9)))))
  (some z7.2))) n z0)
def p_laws_toInt64S (n : Nat) (x : (List Int)) : Option (List Int) :=
(if (lenI x) = (lenI x) then (if 0 ≤ (lenI x) then chk (Nat.ble (8 * (lenI x).toNat) maxBytes)
(l_laws_toInt64S_1 n x ((0 : Int), (List.replicate (lenI x).toNat (0 : Int)))) else none) else none)
def m_laws_toInt64S (x : (List Int)) : Option (List Int) := p_laws_toInt64S FU x
def a_laws_toInt64S : Ann := (.node .leaf (.node .leaf (.node (.node .leaf (.loop [.slot 4 (.int .i64), .row 0 2 (.int .i64)] [8, 9, 10, 11, 12, 13, 14, 15, 16, 17, 18, 19, 20] .leaf)) .leaf)))
def S_laws_toInt64S : FSpec := ⟨[.val (.sl none (.int .i64))], [(.sl (some 2) (.int .i64))], m_laws_toInt64S⟩

/-! laws.toShard -/
def p_laws_toShard (n : Nat) (x : (Int × ((List (Int × (Int × Int))) × ((List (Int × Int)) × ((List (Int × (List (Int × (Int × (Int × Int)))))) × ((List (Int × Int)) × (List Int))))))) : Option (Int × ((List (Int × (Int × Int))) × ((List (Int × Int)) × ((List (Int × (List (Int × (Int × (Int × Int)))))) × ((List (Int × Int)) × (List Int)))))) :=
((m_laws_toBalanceS x.2.1).bind fun r1 =>
((m_laws_toMarkS x.2.2.1).bind fun r2 =>
((m_laws_toContractS x.2.2.2.1).bind fun r3 =>
((m_laws_toMarkS x.2.2.2.2.1).bind fun r4 =>
((m_laws_toInt64S x.2.2.2.2.2).bind fun r5 =>
some (x.1, (r1, (r2, (r3, (r4, r5))))))))))
def m_laws_toShard (x : (Int × ((List (Int × (Int × Int))) × ((List (Int × Int)) × ((List (Int × (List (Int × (Int × (Int × Int)))))) × ((List (Int × Int)) × (List Int))))))) : Option (Int × ((List (Int × (Int × Int))) × ((List (Int × Int)) × ((List (Int × (List (Int × (Int × (Int × Int)))))) × ((List (Int × Int)) × (List Int)))))) := p_laws_toShard FU x
def a_laws_toShard : Ann := .leaf
def S_laws_toShard : FSpec := ⟨[.val (.pair (.int .i64) (.pair (.sl none (.pair (.int .i64) (.pair (.int .i64) (.int .i64)))) (.pair (.sl none (.pair (.int .i64) (.int .i64))) (.pair (.sl none (.pair (.int .i64) (.sl none (.pair (.int .i64) (.pair (.int .i64) (.pair (.int .i64) (.int .i64))))))) (.pair (.sl none (.pair (.int .i64) (.int .i64))) (.sl none (.int .i64)))))))], [(.pair (.int .i64) (.pair (.sl (some 263) (.pair (.int .i64) (.pair (.int .i64) (.int .i64)))) (.pair (.sl (some 185) (.pair (.int .i64) (.int .i64))) (.pair (.sl (some 47) (.pair (.int .i64) (.sl (some 194) (.pair (.int .i64) (.pair (.int .i64) (.pair (.int .i64) (.int .i64))))))) (.pair (.sl (some 185) (.pair (.int .i64) (.int .i64))) (.sl (some 2) (.int .i64)))))))], m_laws_toShard⟩

/-! laws.toShardS -/
def l_laws_toShardS_1 (n : Nat) (x : (List (Int × ((List (Int × (Int × Int))) × ((List (Int × Int)) × ((List (Int × (List (Int × (Int × (Int × Int)))))) × ((List (Int × Int)) × (List Int)))))))) (z0 : (Int × (List (Int × ((List (Int × (Int × Int))) × ((List (Int × Int)) × ((List (Int × (List (Int × (Int × (Int × Int)))))) × ((List (Int × Int)) × (List Int))))))))) : Option (List (Int × ((List (Int × (Int × Int))) × ((List (Int × Int)) × ((List (Int × (List (Int × (Int × (Int × Int)))))) × ((List (Int × Int)) × (List Int))))))) :=
(lp (fun rec8 (z7 : (Int × (List (Int × ((List (Int × (Int × Int))) × ((List (Int × Int)) × ((List (Int × (List (Int × (Int × (Int × Int)))))) × ((List (Int × Int)) × (List Int))))))))) =>
 (cond (decide (z7.1 < (lenI x)))
  ((geti x z7.1).bind fun y9 =>
  ((m_laws_toShard y9).bind fun r10 =>
  ((geti z7.2 z7.1).bind fun _ =>
  ((z7.2[z7.1.toNat]?).bind fun _ =>
  rec8 (IntKind.wrap .i64 (z7.1 + (1 : Int)), (z7.2.set z7.1.toNat r10))))))
  (some z7.2))) n z0)
def p_laws_toShardS (n : Nat) (x : (List (Int × ((List (Int × (Int × Int))) × ((List (Int × Int)) × ((List (Int × (List (Int × (Int × (Int × Int)))))) × ((List (Int × Int)) × (List Int)))))))) : Option (List (Int × ((List (Int × (Int × Int))) × ((List (Int × Int)) × ((List (Int × (List (Int × (Int × (Int × Int)))))) × ((List (Int × Int)) × (List Int))))))) :=
(if (lenI x) = (lenI x) then (if 0 ≤ (lenI x) then chk (Nat.ble (128 * (lenI x).toNat) maxBytes)
(l_laws_toShardS_1 n x ((0 : Int), (List.replicate (lenI x).toNat ((0 : Int), ([], ([], ([], ([], [])))))))) else none) else none)
def m_laws_toShardS (x : (List (Int × ((List (Int × (Int × Int))) × ((List (Int × Int)) × ((List (Int × (List (Int × (Int × (Int × Int)))))) × ((List (Int × Int)) × (List Int)))))))) : Option (List (Int × ((List (Int × (Int × Int))) × ((List (Int × Int)) × ((List (Int × (List (Int × (Int × (Int × Int)))))) × ((List (Int × Int)) × (List Int))))))) := p_laws_toShardS FU x
def a_laws_toShardS : Ann := (.node .leaf (.node (.own 7 (.pair (.int .i64) (.pair (.sl (some 263) (.pair (.int .i64) (.pair (.int .i64) (.int .i64)))) (.pair (.sl (some 185) (.pair (.int .i64) (.int .i64))) (.pair (.sl (some 47) (.pair (.int .i64) (.sl (some 194) (.pair (.int .i64) (.pair (.int .i64) (.pair (.int .i64) (.int .i64))))))) (.pair (.sl (some 185) (.pair (.int .i64) (.int .i64))) (.sl (some 2) (.int .i64))))))) .leaf) (.node (.node .leaf (.loop [.slot 4 (.int .i64), .row 0 94 (.pair (.int .i64) (.pair (.sl (some 263) (.pair (.int .i64) (.pair (.int .i64) (.int .i64)))) (.pair (.sl (some 185) (.pair (.int .i64) (.int .i64))) (.pair (.sl (some 47) (.pair (.int .i64) (.sl (some 194) (.pair (.int .i64) (.pair (.int .i64) (.pair (.int .i64) (.int .i64))))))) (.pair (.sl (some 185) (.pair (.int .i64) (.int .i64))) (.sl (some 2) (.int .i64)))))))] [8, 9, 10, 11, 12, 13, 14, 15, 16, 17, 18, 19, 20, 21] .leaf)) .leaf)))
def S_laws_toShardS : FSpec := ⟨[.val (.sl none (.pair (.int .i64) (.pair (.sl none (.pair (.int .i64) (.pair (.int .i64) (.int .i64)))) (.pair (.sl none (.pair (.int .i64) (.int .i64))) (.pair (.sl none (.pair (.int .i64) (.sl none (.pair (.int .i64) (.pair (.int .i64) (.pair (.int .i64) (.int .i64))))))) (.pair (.sl none (.pair (.int .i64) (.int .i64))) (.sl none (.int .i64))))))))], [(.sl (some 94) (.pair (.int .i64) (.pair (.sl (some 263) (.pair (.int .i64) (.pair (.int .i64) (.int .i64)))) (.pair (.sl (some 185) (.pair (.int .i64) (.int .i64))) (.pair (.sl (some 47) (.pair (.int .i64) (.sl (some 194) (.pair (.int .i64) (.pair (.int .i64) (.pair (.int .i64) (.int .i64))))))) (.pair (.sl (some 185) (.pair (.int .i64) (.int .i64))) (.sl (some 2) (.int .i64))))))))], m_laws_toShardS⟩

/-! laws.toVote -/
def p_laws_toVote (n : Nat) (x : (Int × Int)) : Option (Int × Int) :=
some x
def m_laws_toVote (x : (Int × Int)) : Option (Int × Int) := p_laws_toVote FU x
def a_laws_toVote : Ann := .leaf
def S_laws_toVote : FSpec := ⟨[.val (.pair (.int .i64) (.int .i64))], [(.pair (.int .i64) (.int .i64))], m_laws_toVote⟩

/-! laws.toVoteS -/
def l_laws_toVoteS_1 (n : Nat) (x : (List (Int × Int))) (z0 : (Int × (List (Int × Int)))) : Option (List (Int × Int)) :=
(lp (fun rec10 (z9 : (Int × (List (Int × Int)))) =>
 (cond (decide (z9.1 < (lenI x)))
  ((geti x z9.1).bind fun y11 =>
  ((m_laws_toVote y11).bind fun r12 =>
  ((geti z9.2 z9.1).bind fun _ =>
  ((z9.2[z9.1.toNat]?).bind fun y13 =>
  rec10 (IntKind.wrap .i64 (z9.1 + (1 : Int)), (z9.2.set z9.1.toNat r12))))))
  (some z9.2))) n z0)
def p_laws_toVoteS (n : Nat) (x : (List (Int × Int))) : Option (List (Int × Int)) :=
(if (lenI x) = (lenI x) then (if 0 ≤ (lenI x) then chk (Nat.ble (16 * (lenI x).toNat) maxBytes)
(l_laws_toVoteS_1 n x ((0 : Int), (List.replicate (lenI x).toNat ((0 : Int), (0 : Int))))) else none) else none)
def m_laws_toVoteS (x : (List (Int × Int))) : Option (List (Int × Int)) := p_laws_toVoteS FU x
def a_laws_toVoteS : Ann := (.node .leaf (.node .leaf (.node (.node .leaf (.loop [.slot 4 (.int .i64), .row 0 79 (.pair (.int .i64) (.int .i64))] [8, 9, 10, 11, 12, 13, 14, 15, 16, 17, 18, 19, 20, 21] .leaf)) .leaf)))
def S_laws_toVoteS : FSpec := ⟨[.val (.sl none (.pair (.int .i64) (.int .i64)))], [(.sl (some 79) (.pair (.int .i64) (.int .i64)))], m_laws_toVoteS⟩

/-! laws.toSlot -/
def p_laws_toSlot (n : Nat) (x : (Int × (Int × (Int × ((Int × Int) × (List (Int × Int))))))) : Option (Int × (Int × (Int × ((Int × Int) × (List (Int × Int)))))) :=
((m_laws_toVote x.2.2.2.1).bind fun r1 =>
((m_laws_toVoteS x.2.2.2.2).bind fun r2 =>
some (x.1, (x.2.1, (x.2.2.1, (r1, r2))))))
def m_laws_toSlot (x : (Int × (Int × (Int × ((Int × Int) × (List (Int × Int))))))) : Option (Int × (Int × (Int × ((Int × Int) × (List (Int × Int)))))) := p_laws_toSlot FU x
def a_laws_toSlot : Ann := .leaf
def S_laws_toSlot : FSpec := ⟨[.val (.pair (.int .i64) (.pair (.int .i64) (.pair (.int .i64) (.pair (.pair (.int .i64) (.int .i64)) (.sl none (.pair (.int .i64) (.int .i64)))))))], [(.pair (.int .i64) (.pair (.int .i64) (.pair (.int .i64) (.pair (.pair (.int .i64) (.int .i64)) (.sl (some 79) (.pair (.int .i64) (.int .i64)))))))], m_laws_toSlot⟩

/-! laws.toSlotS -/
def l_laws_toSlotS_1 (n : Nat) (x : (List (Int × (Int × (Int × ((Int × Int) × (List (Int × Int)))))))) (z0 : (Int × (List (Int × (Int × (Int × ((Int × Int) × (List (Int × Int))))))))) : Option (List (Int × (Int × (Int × ((Int × Int) × (List (Int × Int))))))) :=
(lp (fun rec8 (z7 : (Int × (List (Int × (Int × (Int × ((Int × Int) × (List (Int × Int))))))))) =>
 (cond (decide (z7.1 < (lenI x)))
  ((geti x z7.1).bind fun y9 =>
  ((m_laws_toSlot y9).bind fun r10 =>
  ((geti z7.2 z7.1).bind fun _ =>
  ((z7.2[z7.1.toNat]?).bind fun _ =>
  rec8 (IntKind.wrap .i64 (z7.1 + (1 : Int)), (z7.2.set z7.1.toNat r10))))))
  (some z7.2))) n z0)
def p_laws_toSlotS (n : Nat) (x : (List (Int × (Int × (Int × ((Int × Int) × (List (Int × Int)))))))) : Option (List (Int × (Int × (Int × ((Int × Int) × (List (Int × Int))))))) :=
(if (lenI x) = (lenI x) then (if 0 ≤ (lenI x) then chk (Nat.ble (64 * (lenI x).toNat) maxBytes)
(l_laws_toSlotS_1 n x ((0 : Int), (List.replicate (lenI x).toNat ((0 : Int), ((0 : Int), ((0 : Int), (((0 : Int), (0 : Int)), []))))))) else none) else none)
def m_laws_toSlotS (x : (List (Int × (Int × (Int × ((Int × Int) × (List (Int × Int)))))))) : Option (List (Int × (Int × (Int × ((Int × Int) × (List (Int × Int))))))) := p_laws_toSlotS FU x
def a_laws_toSlotS : Ann := (.node .leaf (.node (.own 7 (.pair (.int .i64) (.pair (.int .i64) (.pair (.int .i64) (.pair (.pair (.int .i64) (.int .i64)) (.sl (some 79) (.pair (.int .i64) (.int .i64))))))) .leaf) (.node (.node .leaf (.loop [.slot 4 (.int .i64), .row 0 135 (.pair (.int .i64) (.pair (.int .i64) (.pair (.int .i64) (.pair (.pair (.int .i64) (.int .i64)) (.sl (some 79) (.pair (.int .i64) (.int .i64)))))))] [8, 9, 10, 11, 12, 13, 14, 15, 16, 17, 18, 19, 20, 21] .leaf)) .leaf)))
def S_laws_toSlotS : FSpec := ⟨[.val (.sl none (.pair (.int .i64) (.pair (.int .i64) (.pair (.int .i64) (.pair (.pair (.int .i64) (.int .i64)) (.sl none (.pair (.int .i64) (.int .i64))))))))], [(.sl (some 135) (.pair (.int .i64) (.pair (.int .i64) (.pair (.int .i64) (.pair (.pair (.int .i64) (.int .i64)) (.sl (some 79) (.pair (.int .i64) (.int .i64))))))))], m_laws_toSlotS⟩

/-! laws.toAcceptor -/
def p_laws_toAcceptor (n : Nat) (x : (List (Int × (Int × (Int × ((Int × Int) × (List (Int × Int)))))))) : Option (List (Int × (Int × (Int × ((Int × Int) × (List (Int × Int))))))) :=
((m_laws_toSlotS x).bind fun r1 =>
some r1)
def m_laws_toAcceptor (x : (List (Int × (Int × (Int × ((Int × Int) × (List (Int × Int)))))))) : Option (List (Int × (Int × (Int × ((Int × Int) × (List (Int × Int))))))) := p_laws_toAcceptor FU x
def a_laws_toAcceptor : Ann := .leaf
def S_laws_toAcceptor : FSpec := ⟨[.val (.one (.sl none (.pair (.int .i64) (.pair (.int .i64) (.pair (.int .i64) (.pair (.pair (.int .i64) (.int .i64)) (.sl none (.pair (.int .i64) (.int .i64)))))))))], [(.one (.sl (some 135) (.pair (.int .i64) (.pair (.int .i64) (.pair (.int .i64) (.pair (.pair (.int .i64) (.int .i64)) (.sl (some 79) (.pair (.int .i64) (.int .i64)))))))))], m_laws_toAcceptor⟩

/-! laws.toAcceptorS -/
def l_laws_toAcceptorS_1 (n : Nat) (x : (List (List (Int × (Int × (Int × ((Int × Int) × (List (Int × Int))))))))) (z0 : (Int × (List (List (Int × (Int × (Int × ((Int × Int) × (List (Int × Int)))))))))) : Option (List (List (Int × (Int × (Int × ((Int × Int) × (List (Int × Int)))))))) :=
(lp (fun rec8 (z7 : (Int × (List (List (Int × (Int × (Int × ((Int × Int) × (List (Int × Int)))))))))) =>
 (cond (decide (z7.1 < (lenI x)))
  ((geti x z7.1).bind fun y9 =>
  ((m_laws_toAcceptor y9).bind fun r10 =>
  ((geti z7.2 z7.1).bind fun _ =>
  ((z7.2[z7.1.toNat]?).bind fun _ =>
  rec8 (IntKind.wrap .i64 (z7.1 + (1 : Int)), (z7.2.set z7.1.toNat r10))))))
  (some z7.2))) n z0)
def p_laws_toAcceptorS (n : Nat) (x : (List (List (Int × (Int × (Int × ((Int × Int) × (List (Int × Int))))))))) : Option (List (List (Int × (Int × (Int × ((Int × Int) × (List (Int × Int)))))))) :=
(if (lenI x) = (lenI x) then (if 0 ≤ (lenI x) then chk (Nat.ble (24 * (lenI x).toNat) maxBytes)
(l_laws_toAcceptorS_1 n x ((0 : Int), (List.replicate (lenI x).toNat []))) else none) else none)
def m_laws_toAcceptorS (x : (List (List (Int × (Int × (Int × ((Int × Int) × (List (Int × Int))))))))) : Option (List (List (Int × (Int × (Int × ((Int × Int) × (List (Int × Int)))))))) := p_laws_toAcceptorS FU x
def a_laws_toAcceptorS : Ann := (.node .leaf (.node (.own 7 (.one (.sl (some 135) (.pair (.int .i64) (.pair (.int .i64) (.pair (.int .i64) (.pair (.pair (.int .i64) (.int .i64)) (.sl (some 79) (.pair (.int .i64) (.int .i64))))))))) .leaf) (.node (.node .leaf (.loop [.slot 4 (.int .i64), .row 0 124 (.one (.sl (some 135) (.pair (.int .i64) (.pair (.int .i64) (.pair (.int .i64) (.pair (.pair (.int .i64) (.int .i64)) (.sl (some 79) (.pair (.int .i64) (.int .i64)))))))))] [8, 9, 10, 11, 12, 13, 14, 15, 16, 17, 18, 19, 20, 21] .leaf)) .leaf)))
def S_laws_toAcceptorS : FSpec := ⟨[.val (.sl none (.one (.sl none (.pair (.int .i64) (.pair (.int .i64) (.pair (.int .i64) (.pair (.pair (.int .i64) (.int .i64)) (.sl none (.pair (.int .i64) (.int .i64))))))))))], [(.sl (some 124) (.one (.sl (some 135) (.pair (.int .i64) (.pair (.int .i64) (.pair (.int .i64) (.pair (.pair (.int .i64) (.int .i64)) (.sl (some 79) (.pair (.int .i64) (.int .i64))))))))))], m_laws_toAcceptorS⟩

/-! laws.toTry -/
def p_laws_toTry (n : Nat) (x : (Int × (Int × (Int × (Int × ((List Int) × (List (Int × Int)))))))) : Option (Int × (Int × (Int × (Int × ((List Int) × (List (Int × Int))))))) :=
((m_laws_toInt64S x.2.2.2.2.1).bind fun r1 =>
((m_laws_toVoteS x.2.2.2.2.2).bind fun r2 =>
some (x.1, (x.2.1, (x.2.2.1, (x.2.2.2.1, (r1, r2)))))))
def m_laws_toTry (x : (Int × (Int × (Int × (Int × ((List Int) × (List (Int × Int)))))))) : Option (Int × (Int × (Int × (Int × ((List Int) × (List (Int × Int))))))) := p_laws_toTry FU x
def a_laws_toTry : Ann := .leaf
def S_laws_toTry : FSpec := ⟨[.val (.pair (.int .i64) (.pair (.int .i64) (.pair (.int .i64) (.pair (.int .i64) (.pair (.sl none (.int .i64)) (.sl none (.pair (.int .i64) (.int .i64))))))))], [(.pair (.int .i64) (.pair (.int .i64) (.pair (.int .i64) (.pair (.int .i64) (.pair (.sl (some 2) (.int .i64)) (.sl (some 79) (.pair (.int .i64) (.int .i64))))))))], m_laws_toTry⟩

/-! laws.toTryS -/
def l_laws_toTryS_1 (n : Nat) (x : (List (Int × (Int × (Int × (Int × ((List Int) × (List (Int × Int))))))))) (z0 : (Int × (List (Int × (Int × (Int × (Int × ((List Int) × (List (Int × Int)))))))))) : Option (List (Int × (Int × (Int × (Int × ((List Int) × (List (Int × Int)))))))) :=
(lp (fun rec8 (z7 : (Int × (List (Int × (Int × (Int × (Int × ((List Int) × (List (Int × Int)))))))))) =>
 (cond (decide (z7.1 < (lenI x)))
  ((geti x z7.1).bind fun y9 =>
  ((m_laws_toTry y9).bind fun r10 =>
  ((geti z7.2 z7.1).bind fun _ =>
  ((z7.2[z7.1.toNat]?).bind fun _ =>
  rec8 (IntKind.wrap .i64 (z7.1 + (1 : Int)), (z7.2.set z7.1.toNat r10))))))
  (some z7.2))) n z0)
def p_laws_toTryS (n : Nat) (x : (List (Int × (Int × (Int × (Int × ((List Int) × (List (Int × Int))))))))) : Option (List (Int × (Int × (Int × (Int × ((List Int) × (List (Int × Int)))))))) :=
(if (lenI x) = (lenI x) then (if 0 ≤ (lenI x) then chk (Nat.ble (80 * (lenI x).toNat) maxBytes)
(l_laws_toTryS_1 n x ((0 : Int), (List.replicate (lenI x).toNat ((0 : Int), ((0 : Int), ((0 : Int), ((0 : Int), ([], [])))))))) else none) else none)
def m_laws_toTryS (x : (List (Int × (Int × (Int × (Int × ((List Int) × (List (Int × Int))))))))) : Option (List (Int × (Int × (Int × (Int × ((List Int) × (List (Int × Int)))))))) := p_laws_toTryS FU x
def a_laws_toTryS : Ann := (.node .leaf (.node (.own 7 (.pair (.int .i64) (.pair (.int .i64) (.pair (.int .i64) (.pair (.int .i64) (.pair (.sl (some 2) (.int .i64)) (.sl (some 79) (.pair (.int .i64) (.int .i64)))))))) .leaf) (.node (.node .leaf (.loop [.slot 4 (.int .i64), .row 0 362 (.pair (.int .i64) (.pair (.int .i64) (.pair (.int .i64) (.pair (.int .i64) (.pair (.sl (some 2) (.int .i64)) (.sl (some 79) (.pair (.int .i64) (.int .i64))))))))] [8, 9, 10, 11, 12, 13, 14, 15, 16, 17, 18, 19, 20, 21] .leaf)) .leaf)))
def S_laws_toTryS : FSpec := ⟨[.val (.sl none (.pair (.int .i64) (.pair (.int .i64) (.pair (.int .i64) (.pair (.int .i64) (.pair (.sl none (.int .i64)) (.sl none (.pair (.int .i64) (.int .i64)))))))))], [(.sl (some 362) (.pair (.int .i64) (.pair (.int .i64) (.pair (.int .i64) (.pair (.int .i64) (.pair (.sl (some 2) (.int .i64)) (.sl (some 79) (.pair (.int .i64) (.int .i64)))))))))], m_laws_toTryS⟩

/-! laws.toHeard -/
def p_laws_toHeard (n : Nat) (x : (Int × (Int × (Int × (Int × Int))))) : Option (Int × (Int × (Int × (Int × Int)))) :=
some x
def m_laws_toHeard (x : (Int × (Int × (Int × (Int × Int))))) : Option (Int × (Int × (Int × (Int × Int)))) := p_laws_toHeard FU x
def a_laws_toHeard : Ann := .leaf
def S_laws_toHeard : FSpec := ⟨[.val (.pair (.int .i64) (.pair (.int .i64) (.pair (.int .i64) (.pair (.int .i64) (.int .i64)))))], [(.pair (.int .i64) (.pair (.int .i64) (.pair (.int .i64) (.pair (.int .i64) (.int .i64)))))], m_laws_toHeard⟩

/-! laws.toHeardS -/
def l_laws_toHeardS_1 (n : Nat) (x : (List (Int × (Int × (Int × (Int × Int)))))) (z0 : (Int × (List (Int × (Int × (Int × (Int × Int))))))) : Option (List (Int × (Int × (Int × (Int × Int))))) :=
(lp (fun rec10 (z9 : (Int × (List (Int × (Int × (Int × (Int × Int))))))) =>
 (cond (decide (z9.1 < (lenI x)))
  ((geti x z9.1).bind fun y11 =>
  ((m_laws_toHeard y11).bind fun r12 =>
  ((geti z9.2 z9.1).bind fun _ =>
  ((z9.2[z9.1.toNat]?).bind fun y13 =>
  rec10 (IntKind.wrap .i64 (z9.1 + (1 : Int)), (z9.2.set z9.1.toNat r12))))))
  (some z9.2))) n z0)
def p_laws_toHeardS (n : Nat) (x : (List (Int × (Int × (Int × (Int × Int)))))) : Option (List (Int × (Int × (Int × (Int × Int))))) :=
(if (lenI x) = (lenI x) then (if 0 ≤ (lenI x) then chk (Nat.ble (40 * (lenI x).toNat) maxBytes)
(l_laws_toHeardS_1 n x ((0 : Int), (List.replicate (lenI x).toNat ((0 : Int), ((0 : Int), ((0 : Int), ((0 : Int), (0 : Int)))))))) else none) else none)
def m_laws_toHeardS (x : (List (Int × (Int × (Int × (Int × Int)))))) : Option (List (Int × (Int × (Int × (Int × Int))))) := p_laws_toHeardS FU x
def a_laws_toHeardS : Ann := (.node .leaf (.node .leaf (.node (.node .leaf (.loop [.slot 4 (.int .i64), .row 0 365 (.pair (.int .i64) (.pair (.int .i64) (.pair (.int .i64) (.pair (.int .i64) (.int .i64)))))] [8, 9, 10, 11, 12, 13, 14, 15, 16, 17, 18, 19, 20, 21] .leaf)) .leaf)))
def S_laws_toHeardS : FSpec := ⟨[.val (.sl none (.pair (.int .i64) (.pair (.int .i64) (.pair (.int .i64) (.pair (.int .i64) (.int .i64))))))], [(.sl (some 365) (.pair (.int .i64) (.pair (.int .i64) (.pair (.int .i64) (.pair (.int .i64) (.int .i64))))))], m_laws_toHeardS⟩

/-! laws.toLeader -/
def p_laws_toLeader (n : Nat) (x : (Int × ((List (Int × (Int × (Int × (Int × ((List Int) × (List (Int × Int)))))))) × (List (Int × (Int × (Int × (Int × Int)))))))) : Option (Int × ((List (Int × (Int × (Int × (Int × ((List Int) × (List (Int × Int)))))))) × (List (Int × (Int × (Int × (Int × Int))))))) :=
((m_laws_toTryS x.2.1).bind fun r1 =>
((m_laws_toHeardS x.2.2).bind fun r2 =>
some (x.1, (r1, r2))))
def m_laws_toLeader (x : (Int × ((List (Int × (Int × (Int × (Int × ((List Int) × (List (Int × Int)))))))) × (List (Int × (Int × (Int × (Int × Int)))))))) : Option (Int × ((List (Int × (Int × (Int × (Int × ((List Int) × (List (Int × Int)))))))) × (List (Int × (Int × (Int × (Int × Int))))))) := p_laws_toLeader FU x
def a_laws_toLeader : Ann := .leaf
def S_laws_toLeader : FSpec := ⟨[.val (.pair (.int .i64) (.pair (.sl none (.pair (.int .i64) (.pair (.int .i64) (.pair (.int .i64) (.pair (.int .i64) (.pair (.sl none (.int .i64)) (.sl none (.pair (.int .i64) (.int .i64))))))))) (.sl none (.pair (.int .i64) (.pair (.int .i64) (.pair (.int .i64) (.pair (.int .i64) (.int .i64))))))))], [(.pair (.int .i64) (.pair (.sl (some 362) (.pair (.int .i64) (.pair (.int .i64) (.pair (.int .i64) (.pair (.int .i64) (.pair (.sl (some 2) (.int .i64)) (.sl (some 79) (.pair (.int .i64) (.int .i64))))))))) (.sl (some 365) (.pair (.int .i64) (.pair (.int .i64) (.pair (.int .i64) (.pair (.int .i64) (.int .i64))))))))], m_laws_toLeader⟩

/-! laws.toLeaderS -/
def l_laws_toLeaderS_1 (n : Nat) (x : (List (Int × ((List (Int × (Int × (Int × (Int × ((List Int) × (List (Int × Int)))))))) × (List (Int × (Int × (Int × (Int × Int))))))))) (z0 : (Int × (List (Int × ((List (Int × (Int × (Int × (Int × ((List Int) × (List (Int × Int)))))))) × (List (Int × (Int × (Int × (Int × Int)))))))))) : Option (List (Int × ((List (Int × (Int × (Int × (Int × ((List Int) × (List (Int × Int)))))))) × (List (Int × (Int × (Int × (Int × Int)))))))) :=
(lp (fun rec8 (z7 : (Int × (List (Int × ((List (Int × (Int × (Int × (Int × ((List Int) × (List (Int × Int)))))))) × (List (Int × (Int × (Int × (Int × Int)))))))))) =>
 (cond (decide (z7.1 < (lenI x)))
  ((geti x z7.1).bind fun y9 =>
  ((m_laws_toLeader y9).bind fun r10 =>
  ((geti z7.2 z7.1).bind fun _ =>
  ((z7.2[z7.1.toNat]?).bind fun _ =>
  rec8 (IntKind.wrap .i64 (z7.1 + (1 : Int)), (z7.2.set z7.1.toNat r10))))))
  (some z7.2))) n z0)
def p_laws_toLeaderS (n : Nat) (x : (List (Int × ((List (Int × (Int × (Int × (Int × ((List Int) × (List (Int × Int)))))))) × (List (Int × (Int × (Int × (Int × Int))))))))) : Option (List (Int × ((List (Int × (Int × (Int × (Int × ((List Int) × (List (Int × Int)))))))) × (List (Int × (Int × (Int × (Int × Int)))))))) :=
(if (lenI x) = (lenI x) then (if 0 ≤ (lenI x) then chk (Nat.ble (56 * (lenI x).toNat) maxBytes)
(l_laws_toLeaderS_1 n x ((0 : Int), (List.replicate (lenI x).toNat ((0 : Int), ([], []))))) else none) else none)
def m_laws_toLeaderS (x : (List (Int × ((List (Int × (Int × (Int × (Int × ((List Int) × (List (Int × Int)))))))) × (List (Int × (Int × (Int × (Int × Int))))))))) : Option (List (Int × ((List (Int × (Int × (Int × (Int × ((List Int) × (List (Int × Int)))))))) × (List (Int × (Int × (Int × (Int × Int)))))))) := p_laws_toLeaderS FU x
def a_laws_toLeaderS : Ann := (.node .leaf (.node (.own 7 (.pair (.int .i64) (.pair (.sl (some 362) (.pair (.int .i64) (.pair (.int .i64) (.pair (.int .i64) (.pair (.int .i64) (.pair (.sl (some 2) (.int .i64)) (.sl (some 79) (.pair (.int .i64) (.int .i64))))))))) (.sl (some 365) (.pair (.int .i64) (.pair (.int .i64) (.pair (.int .i64) (.pair (.int .i64) (.int .i64)))))))) .leaf) (.node (.node .leaf (.loop [.slot 4 (.int .i64), .row 0 249 (.pair (.int .i64) (.pair (.sl (some 362) (.pair (.int .i64) (.pair (.int .i64) (.pair (.int .i64) (.pair (.int .i64) (.pair (.sl (some 2) (.int .i64)) (.sl (some 79) (.pair (.int .i64) (.int .i64))))))))) (.sl (some 365) (.pair (.int .i64) (.pair (.int .i64) (.pair (.int .i64) (.pair (.int .i64) (.int .i64))))))))] [8, 9, 10, 11, 12, 13, 14, 15, 16, 17, 18, 19, 20, 21] .leaf)) .leaf)))
def S_laws_toLeaderS : FSpec := ⟨[.val (.sl none (.pair (.int .i64) (.pair (.sl none (.pair (.int .i64) (.pair (.int .i64) (.pair (.int .i64) (.pair (.int .i64) (.pair (.sl none (.int .i64)) (.sl none (.pair (.int .i64) (.int .i64))))))))) (.sl none (.pair (.int .i64) (.pair (.int .i64) (.pair (.int .i64) (.pair (.int .i64) (.int .i64)))))))))], [(.sl (some 249) (.pair (.int .i64) (.pair (.sl (some 362) (.pair (.int .i64) (.pair (.int .i64) (.pair (.int .i64) (.pair (.int .i64) (.pair (.sl (some 2) (.int .i64)) (.sl (some 79) (.pair (.int .i64) (.int .i64))))))))) (.sl (some 365) (.pair (.int .i64) (.pair (.int .i64) (.pair (.int .i64) (.pair (.int .i64) (.int .i64)))))))))], m_laws_toLeaderS⟩

/-! laws.toMessage -/
def p_laws_toMessage (n : Nat) (x : (Int × (Int × (Int × (Int × (Int × (Int × (Int × (Int × Int))))))))) : Option (Int × (Int × (Int × (Int × (Int × (Int × (Int × (Int × Int)))))))) :=
((m_laws_toVote x.2.2.2.2.2.2.2).bind fun r1 =>
some (x.1, (x.2.1, (x.2.2.1, (x.2.2.2.1, (x.2.2.2.2.1, (x.2.2.2.2.2.1, (x.2.2.2.2.2.2.1, r1))))))))
def m_laws_toMessage (x : (Int × (Int × (Int × (Int × (Int × (Int × (Int × (Int × Int))))))))) : Option (Int × (Int × (Int × (Int × (Int × (Int × (Int × (Int × Int)))))))) := p_laws_toMessage FU x
def a_laws_toMessage : Ann := .leaf
def S_laws_toMessage : FSpec := ⟨[.val (.pair (.int .i64) (.pair (.int .i64) (.pair (.int .i64) (.pair (.int .i64) (.pair (.int .i64) (.pair (.int .i64) (.pair (.int .i64) (.pair (.int .i64) (.int .i64)))))))))], [(.pair (.int .i64) (.pair (.int .i64) (.pair (.int .i64) (.pair (.int .i64) (.pair (.int .i64) (.pair (.int .i64) (.pair (.int .i64) (.pair (.int .i64) (.int .i64)))))))))], m_laws_toMessage⟩

/-! laws.toMessageS -/
def l_laws_toMessageS_1 (n : Nat) (x : (List (Int × (Int × (Int × (Int × (Int × (Int × (Int × (Int × Int)))))))))) (z0 : (Int × (List (Int × (Int × (Int × (Int × (Int × (Int × (Int × (Int × Int))))))))))) : Option (List (Int × (Int × (Int × (Int × (Int × (Int × (Int × (Int × Int))))))))) :=
(lp (fun rec10 (z9 : (Int × (List (Int × (Int × (Int × (Int × (Int × (Int × (Int × (Int × Int))))))))))) =>
 (cond (decide (z9.1 < (lenI x)))
  ((geti x z9.1).bind fun y11 =>
  ((m_laws_toMessage y11).bind fun r12 =>
  ((geti z9.2 z9.1).bind fun _ =>
  ((z9.2[z9.1.toNat]?).bind fun y13 =>
  rec10 (IntKind.wrap .i64 (z9.1 + (1 : Int)), (z9.2.set z9.1.toNat r12))))))
  (some z9.2))) n z0)
def p_laws_toMessageS (n : Nat) (x : (List (Int × (Int × (Int × (Int × (Int × (Int × (Int × (Int × Int)))))))))) : Option (List (Int × (Int × (Int × (Int × (Int × (Int × (Int × (Int × Int))))))))) :=
(if (lenI x) = (lenI x) then (if 0 ≤ (lenI x) then chk (Nat.ble (72 * (lenI x).toNat) maxBytes)
(l_laws_toMessageS_1 n x ((0 : Int), (List.replicate (lenI x).toNat ((0 : Int), ((0 : Int), ((0 : Int), ((0 : Int), ((0 : Int), ((0 : Int), ((0 : Int), ((0 : Int), (0 : Int)))))))))))) else none) else none)
def m_laws_toMessageS (x : (List (Int × (Int × (Int × (Int × (Int × (Int × (Int × (Int × Int)))))))))) : Option (List (Int × (Int × (Int × (Int × (Int × (Int × (Int × (Int × Int))))))))) := p_laws_toMessageS FU x
def a_laws_toMessageS : Ann := (.node .leaf (.node .leaf (.node (.node .leaf (.loop [.slot 4 (.int .i64), .row 0 81 (.pair (.int .i64) (.pair (.int .i64) (.pair (.int .i64) (.pair (.int .i64) (.pair (.int .i64) (.pair (.int .i64) (.pair (.int .i64) (.pair (.int .i64) (.int .i64)))))))))] [8, 9, 10, 11, 12, 13, 14, 15, 16, 17, 18, 19, 20, 21] .leaf)) .leaf)))
def S_laws_toMessageS : FSpec := ⟨[.val (.sl none (.pair (.int .i64) (.pair (.int .i64) (.pair (.int .i64) (.pair (.int .i64) (.pair (.int .i64) (.pair (.int .i64) (.pair (.int .i64) (.pair (.int .i64) (.int .i64))))))))))], [(.sl (some 81) (.pair (.int .i64) (.pair (.int .i64) (.pair (.int .i64) (.pair (.int .i64) (.pair (.int .i64) (.pair (.int .i64) (.pair (.int .i64) (.pair (.int .i64) (.int .i64))))))))))], m_laws_toMessageS⟩

/-! laws.toCluster -/
def p_laws_toCluster (n : Nat) (x : ((List (Int × (List (Int × (Int × (Int × Int)))))) × ((List (Int × ((List (Int × (Int × Int))) × ((List (Int × Int)) × ((List (Int × (List (Int × (Int × (Int × Int)))))) × ((List (Int × Int)) × (List Int))))))) × ((List (List (Int × (Int × (Int × ((Int × Int) × (List (Int × Int)))))))) × ((List (Int × ((List (Int × (Int × (Int × (Int × ((List Int) × (List (Int × Int)))))))) × (List (Int × (Int × (Int × (Int × Int)))))))) × (List (Int × (Int × (Int × (Int × (Int × (Int × (Int × (Int × Int)))))))))))))) : Option ((List (Int × (List (Int × (Int × (Int × Int)))))) × ((List (Int × ((List (Int × (Int × Int))) × ((List (Int × Int)) × ((List (Int × (List (Int × (Int × (Int × Int)))))) × ((List (Int × Int)) × (List Int))))))) × ((List (List (Int × (Int × (Int × ((Int × Int) × (List (Int × Int)))))))) × ((List (Int × ((List (Int × (Int × (Int × (Int × ((List Int) × (List (Int × Int)))))))) × (List (Int × (Int × (Int × (Int × Int)))))))) × (List (Int × (Int × (Int × (Int × (Int × (Int × (Int × (Int × Int))))))))))))) :=
((m_laws_toContractS x.1).bind fun r1 =>
((m_laws_toShardS x.2.1).bind fun r2 =>
((m_laws_toAcceptorS x.2.2.1).bind fun r3 =>
((m_laws_toLeaderS x.2.2.2.1).bind fun r4 =>
((m_laws_toMessageS x.2.2.2.2).bind fun r5 =>
some (r1, (r2, (r3, (r4, r5)))))))))
def m_laws_toCluster (x : ((List (Int × (List (Int × (Int × (Int × Int)))))) × ((List (Int × ((List (Int × (Int × Int))) × ((List (Int × Int)) × ((List (Int × (List (Int × (Int × (Int × Int)))))) × ((List (Int × Int)) × (List Int))))))) × ((List (List (Int × (Int × (Int × ((Int × Int) × (List (Int × Int)))))))) × ((List (Int × ((List (Int × (Int × (Int × (Int × ((List Int) × (List (Int × Int)))))))) × (List (Int × (Int × (Int × (Int × Int)))))))) × (List (Int × (Int × (Int × (Int × (Int × (Int × (Int × (Int × Int)))))))))))))) : Option ((List (Int × (List (Int × (Int × (Int × Int)))))) × ((List (Int × ((List (Int × (Int × Int))) × ((List (Int × Int)) × ((List (Int × (List (Int × (Int × (Int × Int)))))) × ((List (Int × Int)) × (List Int))))))) × ((List (List (Int × (Int × (Int × ((Int × Int) × (List (Int × Int)))))))) × ((List (Int × ((List (Int × (Int × (Int × (Int × ((List Int) × (List (Int × Int)))))))) × (List (Int × (Int × (Int × (Int × Int)))))))) × (List (Int × (Int × (Int × (Int × (Int × (Int × (Int × (Int × Int))))))))))))) := p_laws_toCluster FU x
def a_laws_toCluster : Ann := .leaf
def S_laws_toCluster : FSpec := ⟨[.val (.pair (.sl none (.pair (.int .i64) (.sl none (.pair (.int .i64) (.pair (.int .i64) (.pair (.int .i64) (.int .i64))))))) (.pair (.sl none (.pair (.int .i64) (.pair (.sl none (.pair (.int .i64) (.pair (.int .i64) (.int .i64)))) (.pair (.sl none (.pair (.int .i64) (.int .i64))) (.pair (.sl none (.pair (.int .i64) (.sl none (.pair (.int .i64) (.pair (.int .i64) (.pair (.int .i64) (.int .i64))))))) (.pair (.sl none (.pair (.int .i64) (.int .i64))) (.sl none (.int .i64)))))))) (.pair (.sl none (.one (.sl none (.pair (.int .i64) (.pair (.int .i64) (.pair (.int .i64) (.pair (.pair (.int .i64) (.int .i64)) (.sl none (.pair (.int .i64) (.int .i64)))))))))) (.pair (.sl none (.pair (.int .i64) (.pair (.sl none (.pair (.int .i64) (.pair (.int .i64) (.pair (.int .i64) (.pair (.int .i64) (.pair (.sl none (.int .i64)) (.sl none (.pair (.int .i64) (.int .i64))))))))) (.sl none (.pair (.int .i64) (.pair (.int .i64) (.pair (.int .i64) (.pair (.int .i64) (.int .i64))))))))) (.sl none (.pair (.int .i64) (.pair (.int .i64) (.pair (.int .i64) (.pair (.int .i64) (.pair (.int .i64) (.pair (.int .i64) (.pair (.int .i64) (.pair (.int .i64) (.int .i64))))))))))))))], [(.pair (.sl (some 47) (.pair (.int .i64) (.sl (some 194) (.pair (.int .i64) (.pair (.int .i64) (.pair (.int .i64) (.int .i64))))))) (.pair (.sl (some 94) (.pair (.int .i64) (.pair (.sl (some 263) (.pair (.int .i64) (.pair (.int .i64) (.int .i64)))) (.pair (.sl (some 185) (.pair (.int .i64) (.int .i64))) (.pair (.sl (some 47) (.pair (.int .i64) (.sl (some 194) (.pair (.int .i64) (.pair (.int .i64) (.pair (.int .i64) (.int .i64))))))) (.pair (.sl (some 185) (.pair (.int .i64) (.int .i64))) (.sl (some 2) (.int .i64)))))))) (.pair (.sl (some 124) (.one (.sl (some 135) (.pair (.int .i64) (.pair (.int .i64) (.pair (.int .i64) (.pair (.pair (.int .i64) (.int .i64)) (.sl (some 79) (.pair (.int .i64) (.int .i64)))))))))) (.pair (.sl (some 249) (.pair (.int .i64) (.pair (.sl (some 362) (.pair (.int .i64) (.pair (.int .i64) (.pair (.int .i64) (.pair (.int .i64) (.pair (.sl (some 2) (.int .i64)) (.sl (some 79) (.pair (.int .i64) (.int .i64))))))))) (.sl (some 365) (.pair (.int .i64) (.pair (.int .i64) (.pair (.int .i64) (.pair (.int .i64) (.int .i64))))))))) (.sl (some 81) (.pair (.int .i64) (.pair (.int .i64) (.pair (.int .i64) (.pair (.int .i64) (.pair (.int .i64) (.pair (.int .i64) (.pair (.int .i64) (.pair (.int .i64) (.int .i64))))))))))))))], m_laws_toCluster⟩

/-! spec.l1In -/
def p_spec_l1In (n : Nat) (x : (Int × (Int × Int))) : Option Bool :=
(cond (decide (x.1 ≥ x.2.1))
 (some (decide (x.1 ≤ x.2.2)))
 (some false))
def m_spec_l1In (x : (Int × (Int × Int))) : Option Bool := p_spec_l1In FU x
def a_spec_l1In : Ann := .leaf
def S_spec_l1In : FSpec := ⟨[.val (.int .i64), .val (.int .i64), .val (.int .i64)], [.bool], m_spec_l1In⟩

/-! spec.l11Ends -/
def p_spec_l11Ends (n : Nat) (x : (((List (Int × (List (Int × (Int × (Int × Int)))))) × ((List (Int × ((List (Int × (Int × Int))) × ((List (Int × Int)) × ((List (Int × (List (Int × (Int × (Int × Int)))))) × ((List (Int × Int)) × (List Int))))))) × ((List (List (Int × (Int × (Int × ((Int × Int) × (List (Int × Int)))))))) × ((List (Int × ((List (Int × (Int × (Int × (Int × ((List Int) × (List (Int × Int)))))))) × (List (Int × (Int × (Int × (Int × Int)))))))) × (List (Int × (Int × (Int × (Int × (Int × (Int × (Int × (Int × Int))))))))))))) × (Int × (Int × (Int × (Int × (Int × (Int × (Int × (Int × Int)))))))))) : Option (Bool × ((List (Int × (List (Int × (Int × (Int × Int)))))) × ((List (Int × ((List (Int × (Int × Int))) × ((List (Int × Int)) × ((List (Int × (List (Int × (Int × (Int × Int)))))) × ((List (Int × Int)) × (List Int))))))) × ((List (List (Int × (Int × (Int × ((Int × Int) × (List (Int × Int)))))))) × ((List (Int × ((List (Int × (Int × (Int × (Int × ((List Int) × (List (Int × Int)))))))) × (List (Int × (Int × (Int × (Int × Int)))))))) × (List (Int × (Int × (Int × (Int × (Int × (Int × (Int × (Int × Int)))))))))))))) :=
(Option.bind (α := Int)
 (Option.bind (α := Bool)
  (cond (x.2.1 == (1 : Int))
   (some true)
   (some (x.2.1 == (6 : Int)))) fun j2 =>
 (cond j2
  (some (lenI x.1.2.1))
  (some (lenI x.1.2.2.1)))) fun j3 =>
(Option.bind (α := Int)
 (Option.bind (α := Bool)
  (cond (x.2.1 == (3 : Int))
   (some true)
   (some (x.2.1 == (5 : Int)))) fun j5 =>
 (cond j5
  (some (lenI x.1.2.2.2.1))
  (some j3))) fun j6 =>
(Option.bind (α := Int)
 (cond (x.2.1 == (4 : Int))
  (some (lenI x.1.2.2.2.1))
  (some (lenI x.1.2.2.1))) fun j7 =>
((m_spec_l1In (x.2.2.1, (0 : Int), IntKind.wrap .i64 (j6 - (1 : Int)))).bind fun r8 =>
(cond r8
 (cond (decide (x.2.1 < (3 : Int)))
  (some (true, x.1))
  (cond (decide (x.2.1 > (5 : Int)))
   (some (true, x.1))
   ((m_spec_l1In (x.2.2.2.1, (0 : Int), IntKind.wrap .i64 (j7 - (1 : Int)))).bind fun r9 =>
   some (r9, x.1))))
 (some (false, x.1)))))))
def m_spec_l11Ends (x : (((List (Int × (List (Int × (Int × (Int × Int)))))) × ((List (Int × ((List (Int × (Int × Int))) × ((List (Int × Int)) × ((List (Int × (List (Int × (Int × (Int × Int)))))) × ((List (Int × Int)) × (List Int))))))) × ((List (List (Int × (Int × (Int × ((Int × Int) × (List (Int × Int)))))))) × ((List (Int × ((List (Int × (Int × (Int × (Int × ((List Int) × (List (Int × Int)))))))) × (List (Int × (Int × (Int × (Int × Int)))))))) × (List (Int × (Int × (Int × (Int × (Int × (Int × (Int × (Int × Int))))))))))))) × (Int × (Int × (Int × (Int × (Int × (Int × (Int × (Int × Int)))))))))) : Option (Bool × ((List (Int × (List (Int × (Int × (Int × Int)))))) × ((List (Int × ((List (Int × (Int × Int))) × ((List (Int × Int)) × ((List (Int × (List (Int × (Int × (Int × Int)))))) × ((List (Int × Int)) × (List Int))))))) × ((List (List (Int × (Int × (Int × ((Int × Int) × (List (Int × Int)))))))) × ((List (Int × ((List (Int × (Int × (Int × (Int × ((List Int) × (List (Int × Int)))))))) × (List (Int × (Int × (Int × (Int × Int)))))))) × (List (Int × (Int × (Int × (Int × (Int × (Int × (Int × (Int × Int)))))))))))))) := p_spec_l11Ends FU x
def a_spec_l11Ends : Ann := (.node .leaf (.node .leaf (.join [.slot 5 (.int .i64)] [12, 13, 14, 15, 16, 17, 18, 19, 20, 21, 22, 23, 24] (.join [.slot 19 .bool] [12, 13, 14, 15, 16, 17, 18] .leaf .leaf) (.join [.slot 5 (.int .i64)] [25, 26, 27, 28, 29, 30, 31, 32, 33, 34, 35, 36, 37] (.join [.slot 32 .bool] [25, 26, 27, 28, 29, 30, 31] .leaf .leaf) (.node .leaf (.join [.slot 6 (.int .i64)] [43, 44, 45, 46, 47, 48, 49, 50] .leaf .leaf))))))
def S_spec_l11Ends : FSpec := ⟨[.box (.pair (.sl none (.pair (.int .i64) (.sl none (.pair (.int .i64) (.pair (.int .i64) (.pair (.int .i64) (.int .i64))))))) (.pair (.sl none (.pair (.int .i64) (.pair (.sl none (.pair (.int .i64) (.pair (.int .i64) (.int .i64)))) (.pair (.sl none (.pair (.int .i64) (.int .i64))) (.pair (.sl none (.pair (.int .i64) (.sl none (.pair (.int .i64) (.pair (.int .i64) (.pair (.int .i64) (.int .i64))))))) (.pair (.sl none (.pair (.int .i64) (.int .i64))) (.sl none (.int .i64)))))))) (.pair (.sl none (.one (.sl none (.pair (.int .i64) (.pair (.int .i64) (.pair (.int .i64) (.pair (.pair (.int .i64) (.int .i64)) (.sl none (.pair (.int .i64) (.int .i64)))))))))) (.pair (.sl none (.pair (.int .i64) (.pair (.sl none (.pair (.int .i64) (.pair (.int .i64) (.pair (.int .i64) (.pair (.int .i64) (.pair (.sl none (.int .i64)) (.sl none (.pair (.int .i64) (.int .i64))))))))) (.sl none (.pair (.int .i64) (.pair (.int .i64) (.pair (.int .i64) (.pair (.int .i64) (.int .i64))))))))) (.sl none (.pair (.int .i64) (.pair (.int .i64) (.pair (.int .i64) (.pair (.int .i64) (.pair (.int .i64) (.pair (.int .i64) (.pair (.int .i64) (.pair (.int .i64) (.int .i64)))))))))))))), .val (.pair (.int .i64) (.pair (.int .i64) (.pair (.int .i64) (.pair (.int .i64) (.pair (.int .i64) (.pair (.int .i64) (.pair (.int .i64) (.pair (.int .i64) (.int .i64)))))))))], [.bool], m_spec_l11Ends⟩

/-! spec.l11Find -/
def l_spec_l11Find_1 (n : Nat) (x_1 : ((List (Int × (List (Int × (Int × (Int × Int)))))) × ((List (Int × ((List (Int × (Int × Int))) × ((List (Int × Int)) × ((List (Int × (List (Int × (Int × (Int × Int)))))) × ((List (Int × Int)) × (List Int))))))) × ((List (List (Int × (Int × (Int × ((Int × Int) × (List (Int × Int)))))))) × ((List (Int × ((List (Int × (Int × (Int × (Int × ((List Int) × (List (Int × Int)))))))) × (List (Int × (Int × (Int × (Int × Int)))))))) × (List (Int × (Int × (Int × (Int × (Int × (Int × (Int × (Int × Int)))))))))))))) (x_2 : Int) (z0 : Int) : Option (Int × ((List (Int × (List (Int × (Int × (Int × Int)))))) × ((List (Int × ((List (Int × (Int × Int))) × ((List (Int × Int)) × ((List (Int × (List (Int × (Int × (Int × Int)))))) × ((List (Int × Int)) × (List Int))))))) × ((List (List (Int × (Int × (Int × ((Int × Int) × (List (Int × Int)))))))) × ((List (Int × ((List (Int × (Int × (Int × (Int × ((List Int) × (List (Int × Int)))))))) × (List (Int × (Int × (Int × (Int × Int)))))))) × (List (Int × (Int × (Int × (Int × (Int × (Int × (Int × (Int × Int)))))))))))))) :=
(lp (fun rec4 (z3 : Int) =>
 (cond (decide (z3 < (lenI x_1.1)))
  ((geti x_1.1 z3).bind fun y5 =>
  (cond (y5.1 == x_2)
   (some (z3, x_1))
   (rec4 (IntKind.wrap .i64 (z3 + (1 : Int))))))
  (some ((-1 : Int), x_1)))) n z0)
def p_spec_l11Find (n : Nat) (x : (((List (Int × (List (Int × (Int × (Int × Int)))))) × ((List (Int × ((List (Int × (Int × Int))) × ((List (Int × Int)) × ((List (Int × (List (Int × (Int × (Int × Int)))))) × ((List (Int × Int)) × (List Int))))))) × ((List (List (Int × (Int × (Int × ((Int × Int) × (List (Int × Int)))))))) × ((List (Int × ((List (Int × (Int × (Int × (Int × ((List Int) × (List (Int × Int)))))))) × (List (Int × (Int × (Int × (Int × Int)))))))) × (List (Int × (Int × (Int × (Int × (Int × (Int × (Int × (Int × Int))))))))))))) × Int)) : Option (Int × ((List (Int × (List (Int × (Int × (Int × Int)))))) × ((List (Int × ((List (Int × (Int × Int))) × ((List (Int × Int)) × ((List (Int × (List (Int × (Int × (Int × Int)))))) × ((List (Int × Int)) × (List Int))))))) × ((List (List (Int × (Int × (Int × ((Int × Int) × (List (Int × Int)))))))) × ((List (Int × ((List (Int × (Int × (Int × (Int × ((List Int) × (List (Int × Int)))))))) × (List (Int × (Int × (Int × (Int × Int)))))))) × (List (Int × (Int × (Int × (Int × (Int × (Int × (Int × (Int × Int)))))))))))))) :=
(l_spec_l11Find_1 n x.1 x.2 (0 : Int))
def m_spec_l11Find (x : (((List (Int × (List (Int × (Int × (Int × Int)))))) × ((List (Int × ((List (Int × (Int × Int))) × ((List (Int × Int)) × ((List (Int × (List (Int × (Int × (Int × Int)))))) × ((List (Int × Int)) × (List Int))))))) × ((List (List (Int × (Int × (Int × ((Int × Int) × (List (Int × Int)))))))) × ((List (Int × ((List (Int × (Int × (Int × (Int × ((List Int) × (List (Int × Int)))))))) × (List (Int × (Int × (Int × (Int × Int)))))))) × (List (Int × (Int × (Int × (Int × (Int × (Int × (Int × (Int × Int))))))))))))) × Int)) : Option (Int × ((List (Int × (List (Int × (Int × (Int × Int)))))) × ((List (Int × ((List (Int × (Int × Int))) × ((List (Int × Int)) × ((List (Int × (List (Int × (Int × (Int × Int)))))) × ((List (Int × Int)) × (List Int))))))) × ((List (List (Int × (Int × (Int × ((Int × Int) × (List (Int × Int)))))))) × ((List (Int × ((List (Int × (Int × (Int × (Int × ((List Int) × (List (Int × Int)))))))) × (List (Int × (Int × (Int × (Int × Int)))))))) × (List (Int × (Int × (Int × (Int × (Int × (Int × (Int × (Int × Int)))))))))))))) := p_spec_l11Find FU x
def a_spec_l11Find : Ann := (.node .leaf (.node (.node .leaf (.loop [.slot 5 (.int .i64)] [4, 6, 7, 8, 9, 10, 11, 12, 13, 14, 15, 16, 17, 18, 19, 20, 21, 22, 23, 24, 25] .leaf)) .leaf))
def S_spec_l11Find : FSpec := ⟨[.box (.pair (.sl none (.pair (.int .i64) (.sl none (.pair (.int .i64) (.pair (.int .i64) (.pair (.int .i64) (.int .i64))))))) (.pair (.sl none (.pair (.int .i64) (.pair (.sl none (.pair (.int .i64) (.pair (.int .i64) (.int .i64)))) (.pair (.sl none (.pair (.int .i64) (.int .i64))) (.pair (.sl none (.pair (.int .i64) (.sl none (.pair (.int .i64) (.pair (.int .i64) (.pair (.int .i64) (.int .i64))))))) (.pair (.sl none (.pair (.int .i64) (.int .i64))) (.sl none (.int .i64)))))))) (.pair (.sl none (.one (.sl none (.pair (.int .i64) (.pair (.int .i64) (.pair (.int .i64) (.pair (.pair (.int .i64) (.int .i64)) (.sl none (.pair (.int .i64) (.int .i64)))))))))) (.pair (.sl none (.pair (.int .i64) (.pair (.sl none (.pair (.int .i64) (.pair (.int .i64) (.pair (.int .i64) (.pair (.int .i64) (.pair (.sl none (.int .i64)) (.sl none (.pair (.int .i64) (.int .i64))))))))) (.sl none (.pair (.int .i64) (.pair (.int .i64) (.pair (.int .i64) (.pair (.int .i64) (.int .i64))))))))) (.sl none (.pair (.int .i64) (.pair (.int .i64) (.pair (.int .i64) (.pair (.int .i64) (.pair (.int .i64) (.pair (.int .i64) (.pair (.int .i64) (.pair (.int .i64) (.int .i64)))))))))))))), .val (.int .i64)], [(.int .i64)], m_spec_l11Find⟩

/-! spec.l1Put -/
def l_spec_l1Put_1 (n : Nat) (x_1 : (List Int)) (x_2 : Int) (z0 : Int) : Option Int :=
(lp (fun rec16 (z15 : Int) =>
 (Option.bind (α := Bool)
  (cond (decide (z15 < (lenI x_1)))
   ((geti x_1 z15).bind fun y18 =>
   some (decide (y18 < x_2)))
   (some false)) fun j19 =>
 (cond j19
  (rec16 (IntKind.wrap .i64 (z15 + (1 : Int))))
  (some z15)))) n z0)
def p_spec_l1Put (n : Nat) (x : ((List Int) × Int)) : Option (List Int) :=
(Option.bind (α := Int)
 (l_spec_l1Put_1 n x.1 x.2 (0 : Int)) fun j21 =>
(Option.bind (α := Bool)
 (cond (decide (j21 < (lenI x.1)))
  ((geti x.1 j21).bind fun y23 =>
  some (y23 == x.2))
  (some false)) fun j24 =>
(cond j24
 (some x.1)
 (chk (bndB none (some j21) none x.1.length)
  (chk (bndB (some j21) none none x.1.length)
   (chk (Nat.ble ((cutL none (some j21) x.1).length * 8) maxBytes)
   (chk (Nat.ble (((cutL none (some j21) x.1).length + [x.2].length) * 8) maxBytes)
   (chk (Nat.ble ((((cutL none (some j21) x.1) ++ [x.2]).length + (cutL (some j21) none x.1).length) * 8) maxBytes)
   (some (((cutL none (some j21) x.1) ++ [x.2]) ++ (cutL (some j21) none x.1)))))))))))
def m_spec_l1Put (x : ((List Int) × Int)) : Option (List Int) := p_spec_l1Put FU x
def a_spec_l1Put : Ann := (.node .leaf (.node .leaf (.join [.slot 5 (.int .i64)] [6, 7, 8, 9, 10, 11, 12, 13, 14, 15, 16, 17, 18, 19] (.loop [.slot 5 (.int .i64)] [6, 7, 8, 9, 10, 11, 12, 13, 14, 15, 16, 17, 18, 19] (.node (.join [.slot 17 .bool] [6, 7, 8, 9, 10, 11, 12, 13, 14, 15, 16] .leaf .leaf) .leaf)) (.node (.join [.slot 31 .bool] [20, 21, 22, 23, 24, 25, 26, 27, 28, 29, 30] .leaf .leaf) (.node (.lazy 39 (.lazy 33 .leaf)) .leaf)))))
def S_spec_l1Put : FSpec := ⟨[.val (.sl none (.int .i64)), .val (.int .i64)], [(.sl none (.int .i64))], m_spec_l1Put⟩

/-! spec.l1Shards -/
def l_spec_l1Shards_1 (n : Nat) (x_2 : (List (Int × (Int × (Int × Int))))) (z0 : ((List Int) × Int)) : Option (List Int) :=
(lp (fun rec8 (z7 : ((List Int) × Int)) =>
 (cond (decide (z7.2 < (lenI x_2)))
  ((geti x_2 z7.2).bind fun y9 =>
  ((m_spec_l1Put (z7.1, y9.1)).bind fun r10 =>
  rec8 (r10, IntKind.wrap .i64 (z7.2 + (1 : Int)))))
  (some z7.1))) n z0)
def p_spec_l1Shards (n : Nat) (x : (Int × (List (Int × (Int × (Int × Int)))))) : Option (List Int) :=
(l_spec_l1Shards_1 n x.2 (([] : List Int), (0 : Int)))
def m_spec_l1Shards (x : (Int × (List (Int × (Int × (Int × Int)))))) : Option (List Int) := p_spec_l1Shards FU x
def a_spec_l1Shards : Ann := (.node .leaf (.node .leaf (.node (.node .leaf (.loop [.slot 3 (.sl none (.int .i64)), .slot 4 (.int .i64)] [6, 7, 8, 9, 10, 11, 12, 13, 14, 15, 16, 17, 18, 19, 20] .leaf)) .leaf)))
def S_spec_l1Shards : FSpec := ⟨[.val (.pair (.int .i64) (.sl none (.pair (.int .i64) (.pair (.int .i64) (.pair (.int .i64) (.int .i64))))))], [(.sl none (.int .i64))], m_spec_l1Shards⟩

/-! spec.l1Has -/
def l_spec_l1Has_1 (n : Nat) (x_1 : (List Int)) (x_2 : Int) (z0 : Int) : Option Bool :=
(lp (fun rec4 (z3 : Int) =>
 (cond (decide (z3 < (lenI x_1)))
  ((geti x_1 z3).bind fun y5 =>
  (cond (y5 == x_2)
   (some true)
   (rec4 (IntKind.wrap .i64 (z3 + (1 : Int))))))
  (some false))) n z0)
def p_spec_l1Has (n : Nat) (x : ((List Int) × Int)) : Option Bool :=
(l_spec_l1Has_1 n x.1 x.2 (0 : Int))
def m_spec_l1Has (x : ((List Int) × Int)) : Option Bool := p_spec_l1Has FU x
def a_spec_l1Has : Ann := (.node .leaf (.node (.node .leaf (.loop [.slot 5 (.int .i64)] [4, 6, 7, 8, 9, 10, 11, 12, 13, 14, 15, 16, 17] .leaf)) .leaf))
def S_spec_l1Has : FSpec := ⟨[.val (.sl none (.int .i64)), .val (.int .i64)], [.bool], m_spec_l1Has⟩

/-! spec.l11Has -/
def p_spec_l11Has (n : Nat) (x : (((List (Int × (List (Int × (Int × (Int × Int)))))) × ((List (Int × ((List (Int × (Int × Int))) × ((List (Int × Int)) × ((List (Int × (List (Int × (Int × (Int × Int)))))) × ((List (Int × Int)) × (List Int))))))) × ((List (List (Int × (Int × (Int × ((Int × Int) × (List (Int × Int)))))))) × ((List (Int × ((List (Int × (Int × (Int × (Int × ((List Int) × (List (Int × Int)))))))) × (List (Int × (Int × (Int × (Int × Int)))))))) × (List (Int × (Int × (Int × (Int × (Int × (Int × (Int × (Int × Int))))))))))))) × (Int × Int))) : Option (Bool × ((List (Int × (List (Int × (Int × (Int × Int)))))) × ((List (Int × ((List (Int × (Int × Int))) × ((List (Int × Int)) × ((List (Int × (List (Int × (Int × (Int × Int)))))) × ((List (Int × Int)) × (List Int))))))) × ((List (List (Int × (Int × (Int × ((Int × Int) × (List (Int × Int)))))))) × ((List (Int × ((List (Int × (Int × (Int × (Int × ((List Int) × (List (Int × Int)))))))) × (List (Int × (Int × (Int × (Int × Int)))))))) × (List (Int × (Int × (Int × (Int × (Int × (Int × (Int × (Int × Int)))))))))))))) :=
((m_spec_l11Find (x.1, x.2.1)).bind fun r1 =>
(cond (decide (r1.1 ≥ (0 : Int)))
 ((geti r1.2.1 r1.1).bind fun y2 =>
 ((m_spec_l1Shards y2).bind fun r3 =>
 ((m_spec_l1Has (r3, x.2.2)).bind fun r4 =>
 some (r4, r1.2))))
 (some (false, r1.2))))
def m_spec_l11Has (x : (((List (Int × (List (Int × (Int × (Int × Int)))))) × ((List (Int × ((List (Int × (Int × Int))) × ((List (Int × Int)) × ((List (Int × (List (Int × (Int × (Int × Int)))))) × ((List (Int × Int)) × (List Int))))))) × ((List (List (Int × (Int × (Int × ((Int × Int) × (List (Int × Int)))))))) × ((List (Int × ((List (Int × (Int × (Int × (Int × ((List Int) × (List (Int × Int)))))))) × (List (Int × (Int × (Int × (Int × Int)))))))) × (List (Int × (Int × (Int × (Int × (Int × (Int × (Int × (Int × Int))))))))))))) × (Int × Int))) : Option (Bool × ((List (Int × (List (Int × (Int × (Int × Int)))))) × ((List (Int × ((List (Int × (Int × Int))) × ((List (Int × Int)) × ((List (Int × (List (Int × (Int × (Int × Int)))))) × ((List (Int × Int)) × (List Int))))))) × ((List (List (Int × (Int × (Int × ((Int × Int) × (List (Int × Int)))))))) × ((List (Int × ((List (Int × (Int × (Int × (Int × ((List Int) × (List (Int × Int)))))))) × (List (Int × (Int × (Int × (Int × Int)))))))) × (List (Int × (Int × (Int × (Int × (Int × (Int × (Int × (Int × Int)))))))))))))) := p_spec_l11Has FU x
def a_spec_l11Has : Ann := .leaf
def S_spec_l11Has : FSpec := ⟨[.box (.pair (.sl none (.pair (.int .i64) (.sl none (.pair (.int .i64) (.pair (.int .i64) (.pair (.int .i64) (.int .i64))))))) (.pair (.sl none (.pair (.int .i64) (.pair (.sl none (.pair (.int .i64) (.pair (.int .i64) (.int .i64)))) (.pair (.sl none (.pair (.int .i64) (.int .i64))) (.pair (.sl none (.pair (.int .i64) (.sl none (.pair (.int .i64) (.pair (.int .i64) (.pair (.int .i64) (.int .i64))))))) (.pair (.sl none (.pair (.int .i64) (.int .i64))) (.sl none (.int .i64)))))))) (.pair (.sl none (.one (.sl none (.pair (.int .i64) (.pair (.int .i64) (.pair (.int .i64) (.pair (.pair (.int .i64) (.int .i64)) (.sl none (.pair (.int .i64) (.int .i64)))))))))) (.pair (.sl none (.pair (.int .i64) (.pair (.sl none (.pair (.int .i64) (.pair (.int .i64) (.pair (.int .i64) (.pair (.int .i64) (.pair (.sl none (.int .i64)) (.sl none (.pair (.int .i64) (.int .i64))))))))) (.sl none (.pair (.int .i64) (.pair (.int .i64) (.pair (.int .i64) (.pair (.int .i64) (.int .i64))))))))) (.sl none (.pair (.int .i64) (.pair (.int .i64) (.pair (.int .i64) (.pair (.int .i64) (.pair (.int .i64) (.pair (.int .i64) (.pair (.int .i64) (.pair (.int .i64) (.int .i64)))))))))))))), .val (.int .i64), .val (.int .i64)], [.bool], m_spec_l11Has⟩

/-! spec.l8Ballot -/
def p_spec_l8Ballot (n : Nat) (x : Int) : Option Bool :=
((m_spec_l1In (x, (0 : Int), (1000 : Int))).bind fun r1 =>
some r1)
def m_spec_l8Ballot (x : Int) : Option Bool := p_spec_l8Ballot FU x
def a_spec_l8Ballot : Ann := .leaf
def S_spec_l8Ballot : FSpec := ⟨[.val (.int .i64)], [.bool], m_spec_l8Ballot⟩

/-! spec.l8Value -/
def p_spec_l8Value (n : Nat) (x : Int) : Option Bool :=
(cond (x == (1 : Int))
 (some true)
 (some (x == (2 : Int))))
def m_spec_l8Value (x : Int) : Option Bool := p_spec_l8Value FU x
def a_spec_l8Value : Ann := .leaf
def S_spec_l8Value : FSpec := ⟨[.val (.int .i64)], [.bool], m_spec_l8Value⟩

/-! spec.l8None -/
def p_spec_l8None (n : Nat) (x : Unit) : Option (Int × Int) :=
some ((-1 : Int), (0 : Int))
def m_spec_l8None (x : Unit) : Option (Int × Int) := p_spec_l8None FU x
def a_spec_l8None : Ann := .leaf
def S_spec_l8None : FSpec := ⟨[], [(.pair (.int .i64) (.int .i64))], m_spec_l8None⟩

/-! spec.l11Right -/
def p_spec_l11Right (n : Nat) (x : (Int × Int)) : Option Bool :=
((m_spec_l8Ballot x.1).bind fun r1 =>
(cond r1
 ((m_spec_l8Value x.2).bind fun r2 =>
 some r2)
 (some false)))
def m_spec_l11Right (x : (Int × Int)) : Option Bool := p_spec_l11Right FU x
def a_spec_l11Right : Ann := .leaf
def S_spec_l11Right : FSpec := ⟨[.val (.pair (.int .i64) (.int .i64))], [.bool], m_spec_l11Right⟩

/-! spec.l11Bare -/
def p_spec_l11Bare (n : Nat) (x : (Int × (Int × (Int × (Int × (Int × (Int × (Int × (Int × Int))))))))) : Option (Int × (Int × (Int × (Int × (Int × (Int × (Int × (Int × Int)))))))) :=
(Option.bind (α := (Int × (Int × (Int × (Int × (Int × (Int × (Int × (Int × Int)))))))))
 (Option.bind (α := Bool)
  (cond (decide (x.1 ≥ (2 : Int)))
   (some (decide (x.1 ≤ (5 : Int))))
   (some false)) fun j2 =>
 (cond j2
  (some (x.1, (x.2.1, ((0 : Int), (x.2.2.2.1, (x.2.2.2.2.1, (x.2.2.2.2.2.1, ((0 : Int), ((0 : Int), (0 : Int))))))))))
  (some (x.1, (x.2.1, ((0 : Int), (x.2.2.2.1, ((0 : Int), ((0 : Int), ((0 : Int), ((0 : Int), (0 : Int)))))))))))) fun j3 =>
(Option.bind (α := (Int × (Int × (Int × (Int × (Int × (Int × (Int × (Int × Int)))))))))
 (Option.bind (α := Bool)
  (cond (x.1 == (2 : Int))
   (some true)
   (cond (x.1 == (3 : Int))
    (some true)
    (some (x.1 == (6 : Int))))) fun j5 =>
 (cond j5
  (some (j3.1, (j3.2.1, (j3.2.2.1, (j3.2.2.2.1, (j3.2.2.2.2.1, (j3.2.2.2.2.2.1, (x.2.2.2.2.2.2.1, j3.2.2.2.2.2.2.2))))))))
  (some j3))) fun j6 =>
(Option.bind (α := (Int × (Int × (Int × (Int × (Int × (Int × (Int × (Int × Int)))))))))
 (Option.bind (α := Bool)
  (cond (decide (x.1 ≥ (3 : Int)))
   (some (decide (x.1 ≤ (5 : Int))))
   (some false)) fun j8 =>
 (cond j8
  (some (j6.1, (j6.2.1, (x.2.2.1, j6.2.2.2))))
  (some j6))) fun j9 =>
(cond (x.1 == (5 : Int))
 (some (j9.1, (j9.2.1, (j9.2.2.1, (j9.2.2.2.1, (j9.2.2.2.2.1, (j9.2.2.2.2.2.1, (j9.2.2.2.2.2.2.1, x.2.2.2.2.2.2.2))))))))
 (some j9)))))
def m_spec_l11Bare (x : (Int × (Int × (Int × (Int × (Int × (Int × (Int × (Int × Int))))))))) : Option (Int × (Int × (Int × (Int × (Int × (Int × (Int × (Int × Int)))))))) := p_spec_l11Bare FU x
def a_spec_l11Bare : Ann := (.node .leaf (.node .leaf (.join [.box 2 (.pair (.int .i64) (.pair (.int .i64) (.pair (.int .i64) (.pair (.int .i64) (.pair (.int .i64) (.pair (.int .i64) (.pair (.int .i64) (.pair (.int .i64) (.int .i64)))))))))] [11, 12, 13, 14, 15, 16, 17, 18, 19, 20, 21, 22, 23, 24] (.join [.slot 18 .bool] [11, 12, 13, 14, 15, 16, 17] .leaf .leaf) (.join [.box 2 (.pair (.int .i64) (.pair (.int .i64) (.pair (.int .i64) (.pair (.int .i64) (.pair (.int .i64) (.pair (.int .i64) (.pair (.int .i64) (.pair (.int .i64) (.int .i64)))))))))] [25, 26, 27, 28, 29, 30, 31, 32, 33, 34, 35, 36, 37, 38, 39, 40] (.join [.slot 37 .bool] [25, 26, 27, 28, 29, 30, 31, 32, 33, 34, 35, 36] .leaf .leaf) (.join [.box 2 (.pair (.int .i64) (.pair (.int .i64) (.pair (.int .i64) (.pair (.int .i64) (.pair (.int .i64) (.pair (.int .i64) (.pair (.int .i64) (.pair (.int .i64) (.int .i64)))))))))] [41, 42, 43, 44, 45, 46, 47, 48, 49, 50, 51] (.join [.slot 48 .bool] [41, 42, 43, 44, 45, 46, 47] .leaf .leaf) .leaf)))))
def S_spec_l11Bare : FSpec := ⟨[.val (.pair (.int .i64) (.pair (.int .i64) (.pair (.int .i64) (.pair (.int .i64) (.pair (.int .i64) (.pair (.int .i64) (.pair (.int .i64) (.pair (.int .i64) (.int .i64)))))))))], [(.pair (.int .i64) (.pair (.int .i64) (.pair (.int .i64) (.pair (.int .i64) (.pair (.int .i64) (.pair (.int .i64) (.pair (.int .i64) (.pair (.int .i64) (.int .i64)))))))))], m_spec_l11Bare⟩

/-! spec.l11Message -/
def p_spec_l11Message (n : Nat) (x : (((List (Int × (List (Int × (Int × (Int × Int)))))) × ((List (Int × ((List (Int × (Int × Int))) × ((List (Int × Int)) × ((List (Int × (List (Int × (Int × (Int × Int)))))) × ((List (Int × Int)) × (List Int))))))) × ((List (List (Int × (Int × (Int × ((Int × Int) × (List (Int × Int)))))))) × ((List (Int × ((List (Int × (Int × (Int × (Int × ((List Int) × (List (Int × Int)))))))) × (List (Int × (Int × (Int × (Int × Int)))))))) × (List (Int × (Int × (Int × (Int × (Int × (Int × (Int × (Int × Int))))))))))))) × (Int × (Int × (Int × (Int × (Int × (Int × (Int × (Int × Int)))))))))) : Option (Int × ((List (Int × (List (Int × (Int × (Int × Int)))))) × ((List (Int × ((List (Int × (Int × Int))) × ((List (Int × Int)) × ((List (Int × (List (Int × (Int × (Int × Int)))))) × ((List (Int × Int)) × (List Int))))))) × ((List (List (Int × (Int × (Int × ((Int × Int) × (List (Int × Int)))))))) × ((List (Int × ((List (Int × (Int × (Int × (Int × ((List Int) × (List (Int × Int)))))))) × (List (Int × (Int × (Int × (Int × Int)))))))) × (List (Int × (Int × (Int × (Int × (Int × (Int × (Int × (Int × Int)))))))))))))) :=
((m_spec_l1In (x.2.1, (1 : Int), (6 : Int))).bind fun r1 =>
(cond (!r1)
 (some ((5 : Int), x.1))
 ((m_spec_l11Ends (x.1, x.2)).bind fun r2 =>
 (cond (!r2.1)
  (some ((3 : Int), r2.2))
  ((m_spec_l11Find (r2.2, x.2.2.2.2.1)).bind fun r3 =>
  (cond (decide (r3.1 < (0 : Int)))
   (some ((4 : Int), r3.2))
   (Option.bind (α := Int)
    (Option.bind (α := Bool)
     (cond (x.2.1 == (1 : Int))
      (some true)
      (some (x.2.1 == (6 : Int)))) fun j5 =>
    (cond j5
     (some x.2.2.1)
     (some x.2.2.2.2.2.1))) fun j6 =>
   ((m_spec_l11Has (r3.2, x.2.2.2.2.1, j6)).bind fun r7 =>
   (cond (!r7.1)
    (some ((3 : Int), r7.2))
    (Option.bind (α := Bool)
     (cond (decide (x.2.1 ≥ (2 : Int)))
      (cond (decide (x.2.1 ≤ (5 : Int)))
       ((m_spec_l8Ballot x.2.2.2.2.2.2.1).bind fun r9 =>
       some (!r9))
       (some false))
      (some false)) fun j10 =>
    (cond j10
     (some ((3 : Int), r7.2))
     (Option.bind (α := Bool)
      (cond (x.2.1 == (2 : Int))
       ((m_spec_l8Value x.2.2.2.2.2.2.2.1).bind fun r14 =>
       some (!r14))
       (cond (x.2.1 == (3 : Int))
        ((m_spec_l8Value x.2.2.2.2.2.2.2.1).bind fun r15 =>
        some (!r15))
        (cond (x.2.1 == (6 : Int))
         ((m_spec_l8Value x.2.2.2.2.2.2.2.1).bind fun r16 =>
         some (!r16))
         (some false)))) fun j17 =>
     (cond j17
      (some ((3 : Int), r7.2))
      (Option.bind (α := Bool)
       (cond (x.2.1 == (5 : Int))
        ((m_spec_l8None ()).bind fun r20 =>
        (cond (!((x.2.2.2.2.2.2.2.2.1 == r20.1) && ((x.2.2.2.2.2.2.2.2.2 == r20.2) && true)))
         ((m_spec_l11Right x.2.2.2.2.2.2.2.2).bind fun r21 =>
         some (!r21))
         (some false)))
        (some false)) fun j22 =>
      (cond j22
       (some ((3 : Int), r7.2))
       ((m_spec_l11Bare x.2).bind fun r23 =>
       (cond (!((x.2.1 == r23.1) && ((x.2.2.1 == r23.2.1) && ((x.2.2.2.1 == r23.2.2.1) && ((x.2.2.2.2.1 == r23.2.2.2.1) && ((x.2.2.2.2.2.1 == r23.2.2.2.2.1) && ((x.2.2.2.2.2.2.1 == r23.2.2.2.2.2.1) && ((x.2.2.2.2.2.2.2.1 == r23.2.2.2.2.2.2.1) && ((x.2.2.2.2.2.2.2.2.1 == r23.2.2.2.2.2.2.2.1) && ((x.2.2.2.2.2.2.2.2.2 == r23.2.2.2.2.2.2.2.2) && true))))))))))
        (some ((1 : Int), r7.2))
        (some ((0 : Int), r7.2)))))))))))))))))))
def m_spec_l11Message (x : (((List (Int × (List (Int × (Int × (Int × Int)))))) × ((List (Int × ((List (Int × (Int × Int))) × ((List (Int × Int)) × ((List (Int × (List (Int × (Int × (Int × Int)))))) × ((List (Int × Int)) × (List Int))))))) × ((List (List (Int × (Int × (Int × ((Int × Int) × (List (Int × Int)))))))) × ((List (Int × ((List (Int × (Int × (Int × (Int × ((List Int) × (List (Int × Int)))))))) × (List (Int × (Int × (Int × (Int × Int)))))))) × (List (Int × (Int × (Int × (Int × (Int × (Int × (Int × (Int × Int))))))))))))) × (Int × (Int × (Int × (Int × (Int × (Int × (Int × (Int × Int)))))))))) : Option (Int × ((List (Int × (List (Int × (Int × (Int × Int)))))) × ((List (Int × ((List (Int × (Int × Int))) × ((List (Int × Int)) × ((List (Int × (List (Int × (Int × (Int × Int)))))) × ((List (Int × Int)) × (List Int))))))) × ((List (List (Int × (Int × (Int × ((Int × Int) × (List (Int × Int)))))))) × ((List (Int × ((List (Int × (Int × (Int × (Int × ((List Int) × (List (Int × Int)))))))) × (List (Int × (Int × (Int × (Int × Int)))))))) × (List (Int × (Int × (Int × (Int × (Int × (Int × (Int × (Int × Int)))))))))))))) := p_spec_l11Message FU x
def a_spec_l11Message : Ann := (.node .leaf (.node .leaf (.node .leaf (.node .leaf (.node .leaf (.join [.slot 5 (.int .i64)] [21, 22, 23, 24, 25, 26, 27, 28, 29, 30] (.join [.slot 28 .bool] [21, 22, 23, 24, 25, 26, 27] .leaf .leaf) (.node .leaf (.node (.join [.slot 50 .bool] [37, 38, 39, 40, 41, 42, 43, 44, 45, 46, 47, 48, 49] .leaf .leaf) (.node (.join [.slot 69 .bool] [51, 52, 53, 54, 55, 56, 57, 58, 59, 60, 61, 62, 63, 64, 65, 66, 67, 68] .leaf .leaf) (.node (.join [.slot 84 .bool] [70, 71, 72, 73, 74, 75, 76, 77, 78, 79, 80, 81, 82, 83] .leaf .leaf) .leaf))))))))))
def S_spec_l11Message : FSpec := ⟨[.box (.pair (.sl none (.pair (.int .i64) (.sl none (.pair (.int .i64) (.pair (.int .i64) (.pair (.int .i64) (.int .i64))))))) (.pair (.sl none (.pair (.int .i64) (.pair (.sl none (.pair (.int .i64) (.pair (.int .i64) (.int .i64)))) (.pair (.sl none (.pair (.int .i64) (.int .i64))) (.pair (.sl none (.pair (.int .i64) (.sl none (.pair (.int .i64) (.pair (.int .i64) (.pair (.int .i64) (.int .i64))))))) (.pair (.sl none (.pair (.int .i64) (.int .i64))) (.sl none (.int .i64)))))))) (.pair (.sl none (.one (.sl none (.pair (.int .i64) (.pair (.int .i64) (.pair (.int .i64) (.pair (.pair (.int .i64) (.int .i64)) (.sl none (.pair (.int .i64) (.int .i64)))))))))) (.pair (.sl none (.pair (.int .i64) (.pair (.sl none (.pair (.int .i64) (.pair (.int .i64) (.pair (.int .i64) (.pair (.int .i64) (.pair (.sl none (.int .i64)) (.sl none (.pair (.int .i64) (.int .i64))))))))) (.sl none (.pair (.int .i64) (.pair (.int .i64) (.pair (.int .i64) (.pair (.int .i64) (.int .i64))))))))) (.sl none (.pair (.int .i64) (.pair (.int .i64) (.pair (.int .i64) (.pair (.int .i64) (.pair (.int .i64) (.pair (.int .i64) (.pair (.int .i64) (.pair (.int .i64) (.int .i64)))))))))))))), .val (.pair (.int .i64) (.pair (.int .i64) (.pair (.int .i64) (.pair (.int .i64) (.pair (.int .i64) (.pair (.int .i64) (.pair (.int .i64) (.pair (.int .i64) (.int .i64)))))))))], [(.int .i64)], m_spec_l11Message⟩

/-! spec.MessageFault -/
def p_spec_MessageFault (n : Nat) (x : (((List (Int × (List (Int × (Int × (Int × Int)))))) × ((List (Int × ((List (Int × (Int × Int))) × ((List (Int × Int)) × ((List (Int × (List (Int × (Int × (Int × Int)))))) × ((List (Int × Int)) × (List Int))))))) × ((List (List (Int × (Int × (Int × ((Int × Int) × (List (Int × Int)))))))) × ((List (Int × ((List (Int × (Int × (Int × (Int × ((List Int) × (List (Int × Int)))))))) × (List (Int × (Int × (Int × (Int × Int)))))))) × (List (Int × (Int × (Int × (Int × (Int × (Int × (Int × (Int × Int))))))))))))) × (Int × (Int × (Int × (Int × (Int × (Int × (Int × (Int × Int)))))))))) : Option Int :=
((m_spec_l11Message (x.1, x.2)).bind fun r1 =>
some r1.1)
def m_spec_MessageFault (x : (((List (Int × (List (Int × (Int × (Int × Int)))))) × ((List (Int × ((List (Int × (Int × Int))) × ((List (Int × Int)) × ((List (Int × (List (Int × (Int × (Int × Int)))))) × ((List (Int × Int)) × (List Int))))))) × ((List (List (Int × (Int × (Int × ((Int × Int) × (List (Int × Int)))))))) × ((List (Int × ((List (Int × (Int × (Int × (Int × ((List Int) × (List (Int × Int)))))))) × (List (Int × (Int × (Int × (Int × Int)))))))) × (List (Int × (Int × (Int × (Int × (Int × (Int × (Int × (Int × Int))))))))))))) × (Int × (Int × (Int × (Int × (Int × (Int × (Int × (Int × Int)))))))))) : Option Int := p_spec_MessageFault FU x
def a_spec_MessageFault : Ann := .leaf
def S_spec_MessageFault : FSpec := ⟨[.val (.pair (.sl none (.pair (.int .i64) (.sl none (.pair (.int .i64) (.pair (.int .i64) (.pair (.int .i64) (.int .i64))))))) (.pair (.sl none (.pair (.int .i64) (.pair (.sl none (.pair (.int .i64) (.pair (.int .i64) (.int .i64)))) (.pair (.sl none (.pair (.int .i64) (.int .i64))) (.pair (.sl none (.pair (.int .i64) (.sl none (.pair (.int .i64) (.pair (.int .i64) (.pair (.int .i64) (.int .i64))))))) (.pair (.sl none (.pair (.int .i64) (.int .i64))) (.sl none (.int .i64)))))))) (.pair (.sl none (.one (.sl none (.pair (.int .i64) (.pair (.int .i64) (.pair (.int .i64) (.pair (.pair (.int .i64) (.int .i64)) (.sl none (.pair (.int .i64) (.int .i64)))))))))) (.pair (.sl none (.pair (.int .i64) (.pair (.sl none (.pair (.int .i64) (.pair (.int .i64) (.pair (.int .i64) (.pair (.int .i64) (.pair (.sl none (.int .i64)) (.sl none (.pair (.int .i64) (.int .i64))))))))) (.sl none (.pair (.int .i64) (.pair (.int .i64) (.pair (.int .i64) (.pair (.int .i64) (.int .i64))))))))) (.sl none (.pair (.int .i64) (.pair (.int .i64) (.pair (.int .i64) (.pair (.int .i64) (.pair (.int .i64) (.pair (.int .i64) (.pair (.int .i64) (.pair (.int .i64) (.int .i64)))))))))))))), .val (.pair (.int .i64) (.pair (.int .i64) (.pair (.int .i64) (.pair (.int .i64) (.pair (.int .i64) (.pair (.int .i64) (.pair (.int .i64) (.pair (.int .i64) (.int .i64)))))))))], [(.int .i64)], m_spec_MessageFault⟩

/-! impl.within -/
def p_impl_within (n : Nat) (x : (Int × (Int × Int))) : Option Bool :=
(cond (decide (x.1 ≥ x.2.1))
 (some (decide (x.1 ≤ x.2.2)))
 (some false))
def m_impl_within (x : (Int × (Int × Int))) : Option Bool := p_impl_within FU x
def a_impl_within : Ann := .leaf
def S_impl_within : FSpec := ⟨[.val (.int .i64), .val (.int .i64), .val (.int .i64)], [.bool], m_impl_within⟩

/-! impl.Shard] -/
def p_impl_size_impl_Shard (n : Nat) (x : (List (Int × ((List (Int × (Int × Int))) × ((List (Int × Int)) × ((List (Int × (List (Int × (Int × (Int × Int)))))) × ((List (Int × Int)) × (List Int)))))))) : Option Int :=
some (lenI x)
def m_impl_size_impl_Shard (x : (List (Int × ((List (Int × (Int × Int))) × ((List (Int × Int)) × ((List (Int × (List (Int × (Int × (Int × Int)))))) × ((List (Int × Int)) × (List Int)))))))) : Option Int := p_impl_size_impl_Shard FU x
def a_impl_size_impl_Shard : Ann := .leaf
def S_impl_size_impl_Shard : FSpec := ⟨[.val (.sl none (.pair (.int .i64) (.pair (.sl none (.pair (.int .i64) (.pair (.int .i64) (.int .i64)))) (.pair (.sl none (.pair (.int .i64) (.int .i64))) (.pair (.sl none (.pair (.int .i64) (.sl none (.pair (.int .i64) (.pair (.int .i64) (.pair (.int .i64) (.int .i64))))))) (.pair (.sl none (.pair (.int .i64) (.int .i64))) (.sl none (.int .i64))))))))], [(.int .i64)], m_impl_size_impl_Shard⟩

/-! impl.Shard] -/
def p_impl_isPlaceOf_impl_Shard (n : Nat) (x : (Int × (List (Int × ((List (Int × (Int × Int))) × ((List (Int × Int)) × ((List (Int × (List (Int × (Int × (Int × Int)))))) × ((List (Int × Int)) × (List Int))))))))) : Option Bool :=
((m_impl_size_impl_Shard x.2).bind fun r1 =>
((m_impl_within (x.1, (0 : Int), IntKind.wrap .i64 (r1 - (1 : Int)))).bind fun r2 =>
some r2))
def m_impl_isPlaceOf_impl_Shard (x : (Int × (List (Int × ((List (Int × (Int × Int))) × ((List (Int × Int)) × ((List (Int × (List (Int × (Int × (Int × Int)))))) × ((List (Int × Int)) × (List Int))))))))) : Option Bool := p_impl_isPlaceOf_impl_Shard FU x
def a_impl_isPlaceOf_impl_Shard : Ann := .leaf
def S_impl_isPlaceOf_impl_Shard : FSpec := ⟨[.val (.int .i64), .val (.sl none (.pair (.int .i64) (.pair (.sl none (.pair (.int .i64) (.pair (.int .i64) (.int .i64)))) (.pair (.sl none (.pair (.int .i64) (.int .i64))) (.pair (.sl none (.pair (.int .i64) (.sl none (.pair (.int .i64) (.pair (.int .i64) (.pair (.int .i64) (.int .i64))))))) (.pair (.sl none (.pair (.int .i64) (.int .i64))) (.sl none (.int .i64))))))))], [.bool], m_impl_isPlaceOf_impl_Shard⟩

/-! impl.Acceptor] -/
def p_impl_size_impl_Acceptor (n : Nat) (x : (List (List (Int × (Int × (Int × ((Int × Int) × (List (Int × Int))))))))) : Option Int :=
some (lenI x)
def m_impl_size_impl_Acceptor (x : (List (List (Int × (Int × (Int × ((Int × Int) × (List (Int × Int))))))))) : Option Int := p_impl_size_impl_Acceptor FU x
def a_impl_size_impl_Acceptor : Ann := .leaf
def S_impl_size_impl_Acceptor : FSpec := ⟨[.val (.sl none (.one (.sl none (.pair (.int .i64) (.pair (.int .i64) (.pair (.int .i64) (.pair (.pair (.int .i64) (.int .i64)) (.sl none (.pair (.int .i64) (.int .i64))))))))))], [(.int .i64)], m_impl_size_impl_Acceptor⟩

/-! impl.Acceptor] -/
def p_impl_isPlaceOf_impl_Acceptor (n : Nat) (x : (Int × (List (List (Int × (Int × (Int × ((Int × Int) × (List (Int × Int)))))))))) : Option Bool :=
((m_impl_size_impl_Acceptor x.2).bind fun r1 =>
((m_impl_within (x.1, (0 : Int), IntKind.wrap .i64 (r1 - (1 : Int)))).bind fun r2 =>
some r2))
def m_impl_isPlaceOf_impl_Acceptor (x : (Int × (List (List (Int × (Int × (Int × ((Int × Int) × (List (Int × Int)))))))))) : Option Bool := p_impl_isPlaceOf_impl_Acceptor FU x
def a_impl_isPlaceOf_impl_Acceptor : Ann := .leaf
def S_impl_isPlaceOf_impl_Acceptor : FSpec := ⟨[.val (.int .i64), .val (.sl none (.one (.sl none (.pair (.int .i64) (.pair (.int .i64) (.pair (.int .i64) (.pair (.pair (.int .i64) (.int .i64)) (.sl none (.pair (.int .i64) (.int .i64))))))))))], [.bool], m_impl_isPlaceOf_impl_Acceptor⟩

/-! impl.Leader] -/
def p_impl_size_impl_Leader (n : Nat) (x : (List (Int × ((List (Int × (Int × (Int × (Int × ((List Int) × (List (Int × Int)))))))) × (List (Int × (Int × (Int × (Int × Int))))))))) : Option Int :=
some (lenI x)
def m_impl_size_impl_Leader (x : (List (Int × ((List (Int × (Int × (Int × (Int × ((List Int) × (List (Int × Int)))))))) × (List (Int × (Int × (Int × (Int × Int))))))))) : Option Int := p_impl_size_impl_Leader FU x
def a_impl_size_impl_Leader : Ann := .leaf
def S_impl_size_impl_Leader : FSpec := ⟨[.val (.sl none (.pair (.int .i64) (.pair (.sl none (.pair (.int .i64) (.pair (.int .i64) (.pair (.int .i64) (.pair (.int .i64) (.pair (.sl none (.int .i64)) (.sl none (.pair (.int .i64) (.int .i64))))))))) (.sl none (.pair (.int .i64) (.pair (.int .i64) (.pair (.int .i64) (.pair (.int .i64) (.int .i64)))))))))], [(.int .i64)], m_impl_size_impl_Leader⟩

/-! impl.Leader] -/
def p_impl_isPlaceOf_impl_Leader (n : Nat) (x : (Int × (List (Int × ((List (Int × (Int × (Int × (Int × ((List Int) × (List (Int × Int)))))))) × (List (Int × (Int × (Int × (Int × Int)))))))))) : Option Bool :=
((m_impl_size_impl_Leader x.2).bind fun r1 =>
((m_impl_within (x.1, (0 : Int), IntKind.wrap .i64 (r1 - (1 : Int)))).bind fun r2 =>
some r2))
def m_impl_isPlaceOf_impl_Leader (x : (Int × (List (Int × ((List (Int × (Int × (Int × (Int × ((List Int) × (List (Int × Int)))))))) × (List (Int × (Int × (Int × (Int × Int)))))))))) : Option Bool := p_impl_isPlaceOf_impl_Leader FU x
def a_impl_isPlaceOf_impl_Leader : Ann := .leaf
def S_impl_isPlaceOf_impl_Leader : FSpec := ⟨[.val (.int .i64), .val (.sl none (.pair (.int .i64) (.pair (.sl none (.pair (.int .i64) (.pair (.int .i64) (.pair (.int .i64) (.pair (.int .i64) (.pair (.sl none (.int .i64)) (.sl none (.pair (.int .i64) (.int .i64))))))))) (.sl none (.pair (.int .i64) (.pair (.int .i64) (.pair (.int .i64) (.pair (.int .i64) (.int .i64)))))))))], [.bool], m_impl_isPlaceOf_impl_Leader⟩

/-! impl.Cluster).isTo -/
def p_impl_Cluster_isTo (n : Nat) (x : (((List (Int × (List (Int × (Int × (Int × Int)))))) × ((List (Int × ((List (Int × (Int × Int))) × ((List (Int × Int)) × ((List (Int × (List (Int × (Int × (Int × Int)))))) × ((List (Int × Int)) × (List Int))))))) × ((List (List (Int × (Int × (Int × ((Int × Int) × (List (Int × Int)))))))) × ((List (Int × ((List (Int × (Int × (Int × (Int × ((List Int) × (List (Int × Int)))))))) × (List (Int × (Int × (Int × (Int × Int)))))))) × (List (Int × (Int × (Int × (Int × (Int × (Int × (Int × (Int × Int))))))))))))) × (Int × (Int × (Int × (Int × (Int × (Int × (Int × (Int × Int)))))))))) : Option (Bool × ((List (Int × (List (Int × (Int × (Int × Int)))))) × ((List (Int × ((List (Int × (Int × Int))) × ((List (Int × Int)) × ((List (Int × (List (Int × (Int × (Int × Int)))))) × ((List (Int × Int)) × (List Int))))))) × ((List (List (Int × (Int × (Int × ((Int × Int) × (List (Int × Int)))))))) × ((List (Int × ((List (Int × (Int × (Int × (Int × ((List Int) × (List (Int × Int)))))))) × (List (Int × (Int × (Int × (Int × Int)))))))) × (List (Int × (Int × (Int × (Int × (Int × (Int × (Int × (Int × Int)))))))))))))) :=
(Option.bind (α := Bool)
 (cond (x.2.1 == (1 : Int))
  (some (x.2.1 == (1 : Int)))
  (some (x.2.1 == (6 : Int)))) fun j1 =>
(cond j1
 ((m_impl_isPlaceOf_impl_Shard (x.2.2.1, x.1.2.1)).bind fun r2 =>
 some (r2, x.1))
 (Option.bind (α := Bool)
  (cond (x.2.1 == (2 : Int))
   (some (x.2.1 == (2 : Int)))
   (some (x.2.1 == (4 : Int)))) fun j3 =>
 (cond j3
  ((m_impl_isPlaceOf_impl_Acceptor (x.2.2.1, x.1.2.2.1)).bind fun r4 =>
  some (r4, x.1))
  ((m_impl_isPlaceOf_impl_Leader (x.2.2.1, x.1.2.2.2.1)).bind fun r5 =>
  some (r5, x.1))))))
def m_impl_Cluster_isTo (x : (((List (Int × (List (Int × (Int × (Int × Int)))))) × ((List (Int × ((List (Int × (Int × Int))) × ((List (Int × Int)) × ((List (Int × (List (Int × (Int × (Int × Int)))))) × ((List (Int × Int)) × (List Int))))))) × ((List (List (Int × (Int × (Int × ((Int × Int) × (List (Int × Int)))))))) × ((List (Int × ((List (Int × (Int × (Int × (Int × ((List Int) × (List (Int × Int)))))))) × (List (Int × (Int × (Int × (Int × Int)))))))) × (List (Int × (Int × (Int × (Int × (Int × (Int × (Int × (Int × Int))))))))))))) × (Int × (Int × (Int × (Int × (Int × (Int × (Int × (Int × Int)))))))))) : Option (Bool × ((List (Int × (List (Int × (Int × (Int × Int)))))) × ((List (Int × ((List (Int × (Int × Int))) × ((List (Int × Int)) × ((List (Int × (List (Int × (Int × (Int × Int)))))) × ((List (Int × Int)) × (List Int))))))) × ((List (List (Int × (Int × (Int × ((Int × Int) × (List (Int × Int)))))))) × ((List (Int × ((List (Int × (Int × (Int × (Int × ((List Int) × (List (Int × Int)))))))) × (List (Int × (Int × (Int × (Int × Int)))))))) × (List (Int × (Int × (Int × (Int × (Int × (Int × (Int × (Int × Int)))))))))))))) := p_impl_Cluster_isTo FU x
def a_impl_Cluster_isTo : Ann := (.node .leaf (.node (.node .leaf (.join [.slot 7 .bool] [8, 9] .leaf (.node .leaf (.join [.slot 17 .bool] [18, 19] .leaf .leaf)))) .leaf))
def S_impl_Cluster_isTo : FSpec := ⟨[.box (.pair (.sl none (.pair (.int .i64) (.sl none (.pair (.int .i64) (.pair (.int .i64) (.pair (.int .i64) (.int .i64))))))) (.pair (.sl none (.pair (.int .i64) (.pair (.sl none (.pair (.int .i64) (.pair (.int .i64) (.int .i64)))) (.pair (.sl none (.pair (.int .i64) (.int .i64))) (.pair (.sl none (.pair (.int .i64) (.sl none (.pair (.int .i64) (.pair (.int .i64) (.pair (.int .i64) (.int .i64))))))) (.pair (.sl none (.pair (.int .i64) (.int .i64))) (.sl none (.int .i64)))))))) (.pair (.sl none (.one (.sl none (.pair (.int .i64) (.pair (.int .i64) (.pair (.int .i64) (.pair (.pair (.int .i64) (.int .i64)) (.sl none (.pair (.int .i64) (.int .i64)))))))))) (.pair (.sl none (.pair (.int .i64) (.pair (.sl none (.pair (.int .i64) (.pair (.int .i64) (.pair (.int .i64) (.pair (.int .i64) (.pair (.sl none (.int .i64)) (.sl none (.pair (.int .i64) (.int .i64))))))))) (.sl none (.pair (.int .i64) (.pair (.int .i64) (.pair (.int .i64) (.pair (.int .i64) (.int .i64))))))))) (.sl none (.pair (.int .i64) (.pair (.int .i64) (.pair (.int .i64) (.pair (.int .i64) (.pair (.int .i64) (.pair (.int .i64) (.pair (.int .i64) (.pair (.int .i64) (.int .i64)))))))))))))), .val (.pair (.int .i64) (.pair (.int .i64) (.pair (.int .i64) (.pair (.int .i64) (.pair (.int .i64) (.pair (.int .i64) (.pair (.int .i64) (.pair (.int .i64) (.int .i64)))))))))], [.bool], m_impl_Cluster_isTo⟩

/-! impl.Cluster).isFrom -/
def p_impl_Cluster_isFrom (n : Nat) (x : (((List (Int × (List (Int × (Int × (Int × Int)))))) × ((List (Int × ((List (Int × (Int × Int))) × ((List (Int × Int)) × ((List (Int × (List (Int × (Int × (Int × Int)))))) × ((List (Int × Int)) × (List Int))))))) × ((List (List (Int × (Int × (Int × ((Int × Int) × (List (Int × Int)))))))) × ((List (Int × ((List (Int × (Int × (Int × (Int × ((List Int) × (List (Int × Int)))))))) × (List (Int × (Int × (Int × (Int × Int)))))))) × (List (Int × (Int × (Int × (Int × (Int × (Int × (Int × (Int × Int))))))))))))) × (Int × (Int × (Int × (Int × (Int × (Int × (Int × (Int × Int)))))))))) : Option (Bool × ((List (Int × (List (Int × (Int × (Int × Int)))))) × ((List (Int × ((List (Int × (Int × Int))) × ((List (Int × Int)) × ((List (Int × (List (Int × (Int × (Int × Int)))))) × ((List (Int × Int)) × (List Int))))))) × ((List (List (Int × (Int × (Int × ((Int × Int) × (List (Int × Int)))))))) × ((List (Int × ((List (Int × (Int × (Int × (Int × ((List Int) × (List (Int × Int)))))))) × (List (Int × (Int × (Int × (Int × Int)))))))) × (List (Int × (Int × (Int × (Int × (Int × (Int × (Int × (Int × Int)))))))))))))) :=
(cond (x.2.1 == (4 : Int))
 ((m_impl_isPlaceOf_impl_Leader (x.2.2.2.1, x.1.2.2.2.1)).bind fun r1 =>
 some (r1, x.1))
 (Option.bind (α := Bool)
  (cond (x.2.1 == (3 : Int))
   (some (x.2.1 == (3 : Int)))
   (some (x.2.1 == (5 : Int)))) fun j2 =>
 (cond j2
  ((m_impl_isPlaceOf_impl_Acceptor (x.2.2.2.1, x.1.2.2.1)).bind fun r3 =>
  some (r3, x.1))
  (some (true, x.1)))))
def m_impl_Cluster_isFrom (x : (((List (Int × (List (Int × (Int × (Int × Int)))))) × ((List (Int × ((List (Int × (Int × Int))) × ((List (Int × Int)) × ((List (Int × (List (Int × (Int × (Int × Int)))))) × ((List (Int × Int)) × (List Int))))))) × ((List (List (Int × (Int × (Int × ((Int × Int) × (List (Int × Int)))))))) × ((List (Int × ((List (Int × (Int × (Int × (Int × ((List Int) × (List (Int × Int)))))))) × (List (Int × (Int × (Int × (Int × Int)))))))) × (List (Int × (Int × (Int × (Int × (Int × (Int × (Int × (Int × Int))))))))))))) × (Int × (Int × (Int × (Int × (Int × (Int × (Int × (Int × Int)))))))))) : Option (Bool × ((List (Int × (List (Int × (Int × (Int × Int)))))) × ((List (Int × ((List (Int × (Int × Int))) × ((List (Int × Int)) × ((List (Int × (List (Int × (Int × (Int × Int)))))) × ((List (Int × Int)) × (List Int))))))) × ((List (List (Int × (Int × (Int × ((Int × Int) × (List (Int × Int)))))))) × ((List (Int × ((List (Int × (Int × (Int × (Int × ((List Int) × (List (Int × Int)))))))) × (List (Int × (Int × (Int × (Int × Int)))))))) × (List (Int × (Int × (Int × (Int × (Int × (Int × (Int × (Int × Int)))))))))))))) := p_impl_Cluster_isFrom FU x
def a_impl_Cluster_isFrom : Ann := (.node .leaf (.node (.node .leaf (.node .leaf (.node .leaf (.join [.slot 16 .bool] [17, 18] .leaf .leaf)))) .leaf))
def S_impl_Cluster_isFrom : FSpec := ⟨[.box (.pair (.sl none (.pair (.int .i64) (.sl none (.pair (.int .i64) (.pair (.int .i64) (.pair (.int .i64) (.int .i64))))))) (.pair (.sl none (.pair (.int .i64) (.pair (.sl none (.pair (.int .i64) (.pair (.int .i64) (.int .i64)))) (.pair (.sl none (.pair (.int .i64) (.int .i64))) (.pair (.sl none (.pair (.int .i64) (.sl none (.pair (.int .i64) (.pair (.int .i64) (.pair (.int .i64) (.int .i64))))))) (.pair (.sl none (.pair (.int .i64) (.int .i64))) (.sl none (.int .i64)))))))) (.pair (.sl none (.one (.sl none (.pair (.int .i64) (.pair (.int .i64) (.pair (.int .i64) (.pair (.pair (.int .i64) (.int .i64)) (.sl none (.pair (.int .i64) (.int .i64)))))))))) (.pair (.sl none (.pair (.int .i64) (.pair (.sl none (.pair (.int .i64) (.pair (.int .i64) (.pair (.int .i64) (.pair (.int .i64) (.pair (.sl none (.int .i64)) (.sl none (.pair (.int .i64) (.int .i64))))))))) (.sl none (.pair (.int .i64) (.pair (.int .i64) (.pair (.int .i64) (.pair (.int .i64) (.int .i64))))))))) (.sl none (.pair (.int .i64) (.pair (.int .i64) (.pair (.int .i64) (.pair (.int .i64) (.pair (.int .i64) (.pair (.int .i64) (.pair (.int .i64) (.pair (.int .i64) (.int .i64)))))))))))))), .val (.pair (.int .i64) (.pair (.int .i64) (.pair (.int .i64) (.pair (.int .i64) (.pair (.int .i64) (.pair (.int .i64) (.pair (.int .i64) (.pair (.int .i64) (.int .i64)))))))))], [.bool], m_impl_Cluster_isFrom⟩

/-! impl.Cluster).contract -/
def l_impl_Cluster_contract_1 (n : Nat) (x_2 : Int) (x_1_1 : (List (Int × (List (Int × (Int × (Int × Int))))))) (z0 : Int) : Option Int :=
(lp (fun rec10 (z9 : Int) =>
 (cond (decide (z9 < (lenI x_1_1)))
  ((geti x_1_1 z9).bind fun y11 =>
  (cond (y11.1 == x_2)
   (some z9)
   (rec10 (IntKind.wrap .i64 (z9 + (1 : Int))))))
  (some (-1 : Int)))) n z0)
def p_impl_Cluster_contract (n : Nat) (x : (((List (Int × (List (Int × (Int × (Int × Int)))))) × ((List (Int × ((List (Int × (Int × Int))) × ((List (Int × Int)) × ((List (Int × (List (Int × (Int × (Int × Int)))))) × ((List (Int × Int)) × (List Int))))))) × ((List (List (Int × (Int × (Int × ((Int × Int) × (List (Int × Int)))))))) × ((List (Int × ((List (Int × (Int × (Int × (Int × ((List Int) × (List (Int × Int)))))))) × (List (Int × (Int × (Int × (Int × Int)))))))) × (List (Int × (Int × (Int × (Int × (Int × (Int × (Int × (Int × Int))))))))))))) × Int)) : Option ((Int × (List (Int × (Int × (Int × Int))))) × (Bool × ((List (Int × (List (Int × (Int × (Int × Int)))))) × ((List (Int × ((List (Int × (Int × Int))) × ((List (Int × Int)) × ((List (Int × (List (Int × (Int × (Int × Int)))))) × ((List (Int × Int)) × (List Int))))))) × ((List (List (Int × (Int × (Int × ((Int × Int) × (List (Int × Int)))))))) × ((List (Int × ((List (Int × (Int × (Int × (Int × ((List Int) × (List (Int × Int)))))))) × (List (Int × (Int × (Int × (Int × Int)))))))) × (List (Int × (Int × (Int × (Int × (Int × (Int × (Int × (Int × Int))))))))))))))) :=
(Option.bind (α := Int)
 (l_impl_Cluster_contract_1 n x.2 x.1.1 (0 : Int)) fun j13 =>
(cond (decide (j13 < (0 : Int)))
 (some (((0 : Int), []), false, x.1))
 ((geti x.1.1 j13).bind fun y14 =>
 some (y14, true, x.1))))
def m_impl_Cluster_contract (x : (((List (Int × (List (Int × (Int × (Int × Int)))))) × ((List (Int × ((List (Int × (Int × Int))) × ((List (Int × Int)) × ((List (Int × (List (Int × (Int × (Int × Int)))))) × ((List (Int × Int)) × (List Int))))))) × ((List (List (Int × (Int × (Int × ((Int × Int) × (List (Int × Int)))))))) × ((List (Int × ((List (Int × (Int × (Int × (Int × ((List Int) × (List (Int × Int)))))))) × (List (Int × (Int × (Int × (Int × Int)))))))) × (List (Int × (Int × (Int × (Int × (Int × (Int × (Int × (Int × Int))))))))))))) × Int)) : Option ((Int × (List (Int × (Int × (Int × Int))))) × (Bool × ((List (Int × (List (Int × (Int × (Int × Int)))))) × ((List (Int × ((List (Int × (Int × Int))) × ((List (Int × Int)) × ((List (Int × (List (Int × (Int × (Int × Int)))))) × ((List (Int × Int)) × (List Int))))))) × ((List (List (Int × (Int × (Int × ((Int × Int) × (List (Int × Int)))))))) × ((List (Int × ((List (Int × (Int × (Int × (Int × ((List Int) × (List (Int × Int)))))))) × (List (Int × (Int × (Int × (Int × Int)))))))) × (List (Int × (Int × (Int × (Int × (Int × (Int × (Int × (Int × Int))))))))))))))) := p_impl_Cluster_contract FU x
def a_impl_Cluster_contract : Ann := (.node .leaf (.node (.regj 12 [.slot 12 (.int .i64)] [] (.node .leaf (.node (.node .leaf (.loop [.slot 8 (.int .i64)] [4, 5, 9, 10, 11, 12, 13, 14, 15, 16, 17, 18] .leaf)) .leaf)) .leaf) .leaf))
def S_impl_Cluster_contract : FSpec := ⟨[.box (.pair (.sl none (.pair (.int .i64) (.sl none (.pair (.int .i64) (.pair (.int .i64) (.pair (.int .i64) (.int .i64))))))) (.pair (.sl none (.pair (.int .i64) (.pair (.sl none (.pair (.int .i64) (.pair (.int .i64) (.int .i64)))) (.pair (.sl none (.pair (.int .i64) (.int .i64))) (.pair (.sl none (.pair (.int .i64) (.sl none (.pair (.int .i64) (.pair (.int .i64) (.pair (.int .i64) (.int .i64))))))) (.pair (.sl none (.pair (.int .i64) (.int .i64))) (.sl none (.int .i64)))))))) (.pair (.sl none (.one (.sl none (.pair (.int .i64) (.pair (.int .i64) (.pair (.int .i64) (.pair (.pair (.int .i64) (.int .i64)) (.sl none (.pair (.int .i64) (.int .i64)))))))))) (.pair (.sl none (.pair (.int .i64) (.pair (.sl none (.pair (.int .i64) (.pair (.int .i64) (.pair (.int .i64) (.pair (.int .i64) (.pair (.sl none (.int .i64)) (.sl none (.pair (.int .i64) (.int .i64))))))))) (.sl none (.pair (.int .i64) (.pair (.int .i64) (.pair (.int .i64) (.pair (.int .i64) (.int .i64))))))))) (.sl none (.pair (.int .i64) (.pair (.int .i64) (.pair (.int .i64) (.pair (.int .i64) (.pair (.int .i64) (.pair (.int .i64) (.pair (.int .i64) (.pair (.int .i64) (.int .i64)))))))))))))), .val (.int .i64)], [(.pair (.int .i64) (.sl none (.pair (.int .i64) (.pair (.int .i64) (.pair (.int .i64) (.int .i64)))))), .bool], m_impl_Cluster_contract⟩

/-! impl.legsAt -/
def l_impl_legsAt_1 (n : Nat) (x_2 : Int) (x_1_2 : (List (Int × (Int × (Int × Int))))) (z0 : ((List (Int × (Int × (Int × Int)))) × Int)) : Option (List (Int × (Int × (Int × Int)))) :=
(lp (fun rec4 (z3 : ((List (Int × (Int × (Int × Int)))) × Int)) =>
 (cond (decide (z3.2 < (lenI x_1_2)))
  ((geti x_1_2 z3.2).bind fun y5 =>
  (cond (y5.1 == x_2)
   (chk (Nat.ble ((z3.1.length + [y5].length) * 32) maxBytes)
   (rec4 ((z3.1 ++ [y5]), IntKind.wrap .i64 (z3.2 + (1 : Int)))))
   (rec4 (z3.1, IntKind.wrap .i64 (z3.2 + (1 : Int))))))
  (some z3.1))) n z0)
def p_impl_legsAt (n : Nat) (x : ((Int × (List (Int × (Int × (Int × Int))))) × Int)) : Option (List (Int × (Int × (Int × Int)))) :=
(l_impl_legsAt_1 n x.2 x.1.2 (([] : List (Int × (Int × (Int × Int)))), (0 : Int)))
def m_impl_legsAt (x : ((Int × (List (Int × (Int × (Int × Int))))) × Int)) : Option (List (Int × (Int × (Int × Int)))) := p_impl_legsAt FU x
def a_impl_legsAt : Ann := (.node .leaf (.node .leaf (.node (.node .leaf (.loop [.slot 5 (.sl (some 194) (.pair (.int .i64) (.pair (.int .i64) (.pair (.int .i64) (.int .i64))))), .slot 12 (.int .i64)] [7, 13, 14, 15, 16, 17, 18, 19, 20, 21, 22, 23, 24] .leaf)) .leaf)))
def S_impl_legsAt : FSpec := ⟨[.val (.pair (.int .i64) (.sl none (.pair (.int .i64) (.pair (.int .i64) (.pair (.int .i64) (.int .i64)))))), .val (.int .i64)], [(.sl (some 194) (.pair (.int .i64) (.pair (.int .i64) (.pair (.int .i64) (.int .i64)))))], m_impl_legsAt⟩

/-! impl.Cluster).has -/
def p_impl_Cluster_has (n : Nat) (x : (((List (Int × (List (Int × (Int × (Int × Int)))))) × ((List (Int × ((List (Int × (Int × Int))) × ((List (Int × Int)) × ((List (Int × (List (Int × (Int × (Int × Int)))))) × ((List (Int × Int)) × (List Int))))))) × ((List (List (Int × (Int × (Int × ((Int × Int) × (List (Int × Int)))))))) × ((List (Int × ((List (Int × (Int × (Int × (Int × ((List Int) × (List (Int × Int)))))))) × (List (Int × (Int × (Int × (Int × Int)))))))) × (List (Int × (Int × (Int × (Int × (Int × (Int × (Int × (Int × Int))))))))))))) × (Int × Int))) : Option (Bool × ((List (Int × (List (Int × (Int × (Int × Int)))))) × ((List (Int × ((List (Int × (Int × Int))) × ((List (Int × Int)) × ((List (Int × (List (Int × (Int × (Int × Int)))))) × ((List (Int × Int)) × (List Int))))))) × ((List (List (Int × (Int × (Int × ((Int × Int) × (List (Int × Int)))))))) × ((List (Int × ((List (Int × (Int × (Int × (Int × ((List Int) × (List (Int × Int)))))))) × (List (Int × (Int × (Int × (Int × Int)))))))) × (List (Int × (Int × (Int × (Int × (Int × (Int × (Int × (Int × Int)))))))))))))) :=
((m_impl_Cluster_contract (x.1, x.2.1)).bind fun r1 =>
(cond r1.2.1
 ((m_impl_legsAt (r1.1, x.2.2)).bind fun r2 =>
 some ((decide ((lenI r2) > (0 : Int))), r1.2.2))
 (some (false, r1.2.2))))
def m_impl_Cluster_has (x : (((List (Int × (List (Int × (Int × (Int × Int)))))) × ((List (Int × ((List (Int × (Int × Int))) × ((List (Int × Int)) × ((List (Int × (List (Int × (Int × (Int × Int)))))) × ((List (Int × Int)) × (List Int))))))) × ((List (List (Int × (Int × (Int × ((Int × Int) × (List (Int × Int)))))))) × ((List (Int × ((List (Int × (Int × (Int × (Int × ((List Int) × (List (Int × Int)))))))) × (List (Int × (Int × (Int × (Int × Int)))))))) × (List (Int × (Int × (Int × (Int × (Int × (Int × (Int × (Int × Int))))))))))))) × (Int × Int))) : Option (Bool × ((List (Int × (List (Int × (Int × (Int × Int)))))) × ((List (Int × ((List (Int × (Int × Int))) × ((List (Int × Int)) × ((List (Int × (List (Int × (Int × (Int × Int)))))) × ((List (Int × Int)) × (List Int))))))) × ((List (List (Int × (Int × (Int × ((Int × Int) × (List (Int × Int)))))))) × ((List (Int × ((List (Int × (Int × (Int × (Int × ((List Int) × (List (Int × Int)))))))) × (List (Int × (Int × (Int × (Int × Int)))))))) × (List (Int × (Int × (Int × (Int × (Int × (Int × (Int × (Int × Int)))))))))))))) := p_impl_Cluster_has FU x
def a_impl_Cluster_has : Ann := .leaf
def S_impl_Cluster_has : FSpec := ⟨[.box (.pair (.sl none (.pair (.int .i64) (.sl none (.pair (.int .i64) (.pair (.int .i64) (.pair (.int .i64) (.int .i64))))))) (.pair (.sl none (.pair (.int .i64) (.pair (.sl none (.pair (.int .i64) (.pair (.int .i64) (.int .i64)))) (.pair (.sl none (.pair (.int .i64) (.int .i64))) (.pair (.sl none (.pair (.int .i64) (.sl none (.pair (.int .i64) (.pair (.int .i64) (.pair (.int .i64) (.int .i64))))))) (.pair (.sl none (.pair (.int .i64) (.int .i64))) (.sl none (.int .i64)))))))) (.pair (.sl none (.one (.sl none (.pair (.int .i64) (.pair (.int .i64) (.pair (.int .i64) (.pair (.pair (.int .i64) (.int .i64)) (.sl none (.pair (.int .i64) (.int .i64)))))))))) (.pair (.sl none (.pair (.int .i64) (.pair (.sl none (.pair (.int .i64) (.pair (.int .i64) (.pair (.int .i64) (.pair (.int .i64) (.pair (.sl none (.int .i64)) (.sl none (.pair (.int .i64) (.int .i64))))))))) (.sl none (.pair (.int .i64) (.pair (.int .i64) (.pair (.int .i64) (.pair (.int .i64) (.int .i64))))))))) (.sl none (.pair (.int .i64) (.pair (.int .i64) (.pair (.int .i64) (.pair (.int .i64) (.pair (.int .i64) (.pair (.int .i64) (.pair (.int .i64) (.pair (.int .i64) (.int .i64)))))))))))))), .val (.int .i64), .val (.int .i64)], [.bool], m_impl_Cluster_has⟩

/-! impl.isOutcome -/
def p_impl_isOutcome (n : Nat) (x : Int) : Option Bool :=
(cond (x == (1 : Int))
 (some true)
 (some (x == (2 : Int))))
def m_impl_isOutcome (x : Int) : Option Bool := p_impl_isOutcome FU x
def a_impl_isOutcome : Ann := .leaf
def S_impl_isOutcome : FSpec := ⟨[.val (.int .i64)], [.bool], m_impl_isOutcome⟩

/-! impl.isBallot -/
def p_impl_isBallot (n : Nat) (x : Int) : Option Bool :=
((m_impl_within (x, (0 : Int), (1000 : Int))).bind fun r1 =>
some r1)
def m_impl_isBallot (x : Int) : Option Bool := p_impl_isBallot FU x
def a_impl_isBallot : Ann := .leaf
def S_impl_isBallot : FSpec := ⟨[.val (.int .i64)], [.bool], m_impl_isBallot⟩

/-! impl.isValue -/
def p_impl_isValue (n : Nat) (x : Int) : Option Bool :=
(cond (x == (1 : Int))
 (some true)
 (some (x == (2 : Int))))
def m_impl_isValue (x : Int) : Option Bool := p_impl_isValue FU x
def a_impl_isValue : Ann := .leaf
def S_impl_isValue : FSpec := ⟨[.val (.int .i64)], [.bool], m_impl_isValue⟩

/-! impl.noVote -/
def p_impl_noVote (n : Nat) (x : Unit) : Option (Int × Int) :=
some ((-1 : Int), (0 : Int))
def m_impl_noVote (x : Unit) : Option (Int × Int) := p_impl_noVote FU x
def a_impl_noVote : Ann := .leaf
def S_impl_noVote : FSpec := ⟨[], [(.pair (.int .i64) (.int .i64))], m_impl_noVote⟩

/-! impl.isVote -/
def p_impl_isVote (n : Nat) (x : (Int × Int)) : Option Bool :=
((m_impl_isBallot x.1).bind fun r1 =>
(cond r1
 ((m_impl_isValue x.2).bind fun r2 =>
 some r2)
 (some false)))
def m_impl_isVote (x : (Int × Int)) : Option Bool := p_impl_isVote FU x
def a_impl_isVote : Ann := .leaf
def S_impl_isVote : FSpec := ⟨[.val (.pair (.int .i64) (.int .i64))], [.bool], m_impl_isVote⟩

/-! impl.Cluster).rangesOk -/
def p_impl_Cluster_rangesOk (n : Nat) (x : (((List (Int × (List (Int × (Int × (Int × Int)))))) × ((List (Int × ((List (Int × (Int × Int))) × ((List (Int × Int)) × ((List (Int × (List (Int × (Int × (Int × Int)))))) × ((List (Int × Int)) × (List Int))))))) × ((List (List (Int × (Int × (Int × ((Int × Int) × (List (Int × Int)))))))) × ((List (Int × ((List (Int × (Int × (Int × (Int × ((List Int) × (List (Int × Int)))))))) × (List (Int × (Int × (Int × (Int × Int)))))))) × (List (Int × (Int × (Int × (Int × (Int × (Int × (Int × (Int × Int))))))))))))) × (Int × (Int × (Int × (Int × (Int × (Int × (Int × (Int × Int)))))))))) : Option (Bool × ((List (Int × (List (Int × (Int × (Int × Int)))))) × ((List (Int × ((List (Int × (Int × Int))) × ((List (Int × Int)) × ((List (Int × (List (Int × (Int × (Int × Int)))))) × ((List (Int × Int)) × (List Int))))))) × ((List (List (Int × (Int × (Int × ((Int × Int) × (List (Int × Int)))))))) × ((List (Int × ((List (Int × (Int × (Int × (Int × ((List Int) × (List (Int × Int)))))))) × (List (Int × (Int × (Int × (Int × Int)))))))) × (List (Int × (Int × (Int × (Int × (Int × (Int × (Int × (Int × Int)))))))))))))) :=
(cond (x.2.1 == (1 : Int))
 ((m_impl_Cluster_has (x.1, x.2.2.2.2.1, x.2.2.1)).bind fun r1 =>
 some (r1.1, r1.2))
 (cond (x.2.1 == (6 : Int))
  ((m_impl_Cluster_has (x.1, x.2.2.2.2.1, x.2.2.1)).bind fun r2 =>
  (cond r2.1
   ((m_impl_isOutcome x.2.2.2.2.2.2.2.1).bind fun r3 =>
   some (r3, r2.2))
   (some (false, r2.2))))
  (Option.bind (α := (Bool × ((List (Int × (List (Int × (Int × (Int × Int)))))) × ((List (Int × ((List (Int × (Int × Int))) × ((List (Int × Int)) × ((List (Int × (List (Int × (Int × (Int × Int)))))) × ((List (Int × Int)) × (List Int))))))) × ((List (List (Int × (Int × (Int × ((Int × Int) × (List (Int × Int)))))))) × ((List (Int × ((List (Int × (Int × (Int × (Int × ((List Int) × (List (Int × Int)))))))) × (List (Int × (Int × (Int × (Int × Int)))))))) × (List (Int × (Int × (Int × (Int × (Int × (Int × (Int × (Int × Int)))))))))))))))
   ((m_impl_Cluster_has (x.1, x.2.2.2.2.1, x.2.2.2.2.2.1)).bind fun r6 =>
   (cond (!r6.1)
    (some (true, r6.2))
    ((m_impl_isBallot x.2.2.2.2.2.2.1).bind fun r7 =>
    some ((!r7), r6.2)))) fun j8 =>
  (cond j8.1
   (some (false, j8.2))
   (Option.bind (α := Bool)
    (cond (x.2.1 == (2 : Int))
     (some (x.2.1 == (2 : Int)))
     (some (x.2.1 == (3 : Int)))) fun j9 =>
   (cond j9
    ((m_impl_isValue x.2.2.2.2.2.2.2.1).bind fun r10 =>
    some (r10, j8.2))
    (cond (x.2.1 == (5 : Int))
     ((m_impl_noVote ()).bind fun r11 =>
     (cond ((x.2.2.2.2.2.2.2.2.1 == r11.1) && ((x.2.2.2.2.2.2.2.2.2 == r11.2) && true))
      (some (true, j8.2))
      ((m_impl_isVote x.2.2.2.2.2.2.2.2).bind fun r12 =>
      some (r12, j8.2))))
     (some (true, j8.2)))))))))
def m_impl_Cluster_rangesOk (x : (((List (Int × (List (Int × (Int × (Int × Int)))))) × ((List (Int × ((List (Int × (Int × Int))) × ((List (Int × Int)) × ((List (Int × (List (Int × (Int × (Int × Int)))))) × ((List (Int × Int)) × (List Int))))))) × ((List (List (Int × (Int × (Int × ((Int × Int) × (List (Int × Int)))))))) × ((List (Int × ((List (Int × (Int × (Int × (Int × ((List Int) × (List (Int × Int)))))))) × (List (Int × (Int × (Int × (Int × Int)))))))) × (List (Int × (Int × (Int × (Int × (Int × (Int × (Int × (Int × Int))))))))))))) × (Int × (Int × (Int × (Int × (Int × (Int × (Int × (Int × Int)))))))))) : Option (Bool × ((List (Int × (List (Int × (Int × (Int × Int)))))) × ((List (Int × ((List (Int × (Int × Int))) × ((List (Int × Int)) × ((List (Int × (List (Int × (Int × (Int × Int)))))) × ((List (Int × Int)) × (List Int))))))) × ((List (List (Int × (Int × (Int × ((Int × Int) × (List (Int × Int)))))))) × ((List (Int × ((List (Int × (Int × (Int × (Int × ((List Int) × (List (Int × Int)))))))) × (List (Int × (Int × (Int × (Int × Int)))))))) × (List (Int × (Int × (Int × (Int × (Int × (Int × (Int × (Int × Int)))))))))))))) := p_impl_Cluster_rangesOk FU x
def a_impl_Cluster_rangesOk : Ann := (.node .leaf (.node .leaf (.node (.join [.slot 40 .bool, .box 0 (.pair (.sl none (.pair (.int .i64) (.sl none (.pair (.int .i64) (.pair (.int .i64) (.pair (.int .i64) (.int .i64))))))) (.pair (.sl none (.pair (.int .i64) (.pair (.sl none (.pair (.int .i64) (.pair (.int .i64) (.int .i64)))) (.pair (.sl none (.pair (.int .i64) (.int .i64))) (.pair (.sl none (.pair (.int .i64) (.sl none (.pair (.int .i64) (.pair (.int .i64) (.pair (.int .i64) (.int .i64))))))) (.pair (.sl none (.pair (.int .i64) (.int .i64))) (.sl none (.int .i64)))))))) (.pair (.sl none (.one (.sl none (.pair (.int .i64) (.pair (.int .i64) (.pair (.int .i64) (.pair (.pair (.int .i64) (.int .i64)) (.sl none (.pair (.int .i64) (.int .i64)))))))))) (.pair (.sl none (.pair (.int .i64) (.pair (.sl none (.pair (.int .i64) (.pair (.int .i64) (.pair (.int .i64) (.pair (.int .i64) (.pair (.sl none (.int .i64)) (.sl none (.pair (.int .i64) (.int .i64))))))))) (.sl none (.pair (.int .i64) (.pair (.int .i64) (.pair (.int .i64) (.pair (.int .i64) (.int .i64))))))))) (.sl none (.pair (.int .i64) (.pair (.int .i64) (.pair (.int .i64) (.pair (.int .i64) (.pair (.int .i64) (.pair (.int .i64) (.pair (.int .i64) (.pair (.int .i64) (.int .i64))))))))))))))] [28, 29, 30, 31, 32, 33, 34, 35, 36, 37, 38, 39] .leaf .leaf) (.node (.node .leaf (.join [.slot 43 .bool] [44, 45] .leaf .leaf)) .leaf))))
def S_impl_Cluster_rangesOk : FSpec := ⟨[.box (.pair (.sl none (.pair (.int .i64) (.sl none (.pair (.int .i64) (.pair (.int .i64) (.pair (.int .i64) (.int .i64))))))) (.pair (.sl none (.pair (.int .i64) (.pair (.sl none (.pair (.int .i64) (.pair (.int .i64) (.int .i64)))) (.pair (.sl none (.pair (.int .i64) (.int .i64))) (.pair (.sl none (.pair (.int .i64) (.sl none (.pair (.int .i64) (.pair (.int .i64) (.pair (.int .i64) (.int .i64))))))) (.pair (.sl none (.pair (.int .i64) (.int .i64))) (.sl none (.int .i64)))))))) (.pair (.sl none (.one (.sl none (.pair (.int .i64) (.pair (.int .i64) (.pair (.int .i64) (.pair (.pair (.int .i64) (.int .i64)) (.sl none (.pair (.int .i64) (.int .i64)))))))))) (.pair (.sl none (.pair (.int .i64) (.pair (.sl none (.pair (.int .i64) (.pair (.int .i64) (.pair (.int .i64) (.pair (.int .i64) (.pair (.sl none (.int .i64)) (.sl none (.pair (.int .i64) (.int .i64))))))))) (.sl none (.pair (.int .i64) (.pair (.int .i64) (.pair (.int .i64) (.pair (.int .i64) (.int .i64))))))))) (.sl none (.pair (.int .i64) (.pair (.int .i64) (.pair (.int .i64) (.pair (.int .i64) (.pair (.int .i64) (.pair (.int .i64) (.pair (.int .i64) (.pair (.int .i64) (.int .i64)))))))))))))), .val (.pair (.int .i64) (.pair (.int .i64) (.pair (.int .i64) (.pair (.int .i64) (.pair (.int .i64) (.pair (.int .i64) (.pair (.int .i64) (.pair (.int .i64) (.int .i64)))))))))], [.bool], m_impl_Cluster_rangesOk⟩

/-! impl.Message).plain -/
def p_impl_Message_plain (n : Nat) (x : (Int × (Int × (Int × (Int × (Int × (Int × (Int × (Int × Int))))))))) : Option (Int × (Int × (Int × (Int × (Int × (Int × (Int × (Int × Int)))))))) :=
(Option.bind (α := (Int × (Int × (Int × (Int × (Int × (Int × (Int × (Int × Int)))))))))
 (Option.bind (α := Bool)
  (cond (!(x.1 == (1 : Int)))
   (some (!(x.1 == (6 : Int))))
   (some false)) fun j2 =>
 (cond j2
  (some (x.1, (x.2.1, ((0 : Int), (x.2.2.2.1, (x.2.2.2.2.1, (x.2.2.2.2.2.1, ((0 : Int), ((0 : Int), (0 : Int))))))))))
  (some (x.1, (x.2.1, ((0 : Int), (x.2.2.2.1, ((0 : Int), ((0 : Int), ((0 : Int), ((0 : Int), (0 : Int)))))))))))) fun j3 =>
(Option.bind (α := Bool)
 (cond (x.1 == (2 : Int))
  (some (x.1 == (2 : Int)))
  (some (x.1 == (6 : Int)))) fun j4 =>
(cond j4
 (some (j3.1, (j3.2.1, (j3.2.2.1, (j3.2.2.2.1, (j3.2.2.2.2.1, (j3.2.2.2.2.2.1, (x.2.2.2.2.2.2.1, j3.2.2.2.2.2.2.2))))))))
 (cond (x.1 == (3 : Int))
  (some (j3.1, (j3.2.1, (x.2.2.1, (j3.2.2.2.1, (j3.2.2.2.2.1, (j3.2.2.2.2.2.1, (x.2.2.2.2.2.2.1, j3.2.2.2.2.2.2.2))))))))
  (cond (x.1 == (4 : Int))
   (some (j3.1, (j3.2.1, (x.2.2.1, j3.2.2.2))))
   (cond (x.1 == (5 : Int))
    (some (j3.1, (j3.2.1, (x.2.2.1, (j3.2.2.2.1, (j3.2.2.2.2.1, (j3.2.2.2.2.2.1, (j3.2.2.2.2.2.2.1, x.2.2.2.2.2.2.2))))))))
    (some j3)))))))
def m_impl_Message_plain (x : (Int × (Int × (Int × (Int × (Int × (Int × (Int × (Int × Int))))))))) : Option (Int × (Int × (Int × (Int × (Int × (Int × (Int × (Int × Int)))))))) := p_impl_Message_plain FU x
def a_impl_Message_plain : Ann := (.node .leaf (.node .leaf (.join [.box 2 (.pair (.int .i64) (.pair (.int .i64) (.pair (.int .i64) (.pair (.int .i64) (.pair (.int .i64) (.pair (.int .i64) (.pair (.int .i64) (.pair (.int .i64) (.int .i64)))))))))] [11, 12, 13, 14, 15, 16, 17, 18, 19, 20, 21, 22, 23, 24] (.join [.slot 18 .bool] [11, 12, 13, 14, 15, 16, 17] .leaf .leaf) (.node (.node .leaf (.join [.slot 27 .bool] [28, 29] .leaf .leaf)) .leaf))))
def S_impl_Message_plain : FSpec := ⟨[.val (.pair (.int .i64) (.pair (.int .i64) (.pair (.int .i64) (.pair (.int .i64) (.pair (.int .i64) (.pair (.int .i64) (.pair (.int .i64) (.pair (.int .i64) (.int .i64)))))))))], [(.pair (.int .i64) (.pair (.int .i64) (.pair (.int .i64) (.pair (.int .i64) (.pair (.int .i64) (.pair (.int .i64) (.pair (.int .i64) (.pair (.int .i64) (.int .i64)))))))))], m_impl_Message_plain⟩

/-! impl.MessageFault -/
def p_impl_MessageFault (n : Nat) (x : (((List (Int × (List (Int × (Int × (Int × Int)))))) × ((List (Int × ((List (Int × (Int × Int))) × ((List (Int × Int)) × ((List (Int × (List (Int × (Int × (Int × Int)))))) × ((List (Int × Int)) × (List Int))))))) × ((List (List (Int × (Int × (Int × ((Int × Int) × (List (Int × Int)))))))) × ((List (Int × ((List (Int × (Int × (Int × (Int × ((List Int) × (List (Int × Int)))))))) × (List (Int × (Int × (Int × (Int × Int)))))))) × (List (Int × (Int × (Int × (Int × (Int × (Int × (Int × (Int × Int))))))))))))) × (Int × (Int × (Int × (Int × (Int × (Int × (Int × (Int × Int)))))))))) : Option Int :=
((m_impl_within (x.2.1, (1 : Int), (6 : Int))).bind fun r1 =>
(cond (!r1)
 (some (5 : Int))
 (Option.bind (α := (Bool × ((List (Int × (List (Int × (Int × (Int × Int)))))) × ((List (Int × ((List (Int × (Int × Int))) × ((List (Int × Int)) × ((List (Int × (List (Int × (Int × (Int × Int)))))) × ((List (Int × Int)) × (List Int))))))) × ((List (List (Int × (Int × (Int × ((Int × Int) × (List (Int × Int)))))))) × ((List (Int × ((List (Int × (Int × (Int × (Int × ((List Int) × (List (Int × Int)))))))) × (List (Int × (Int × (Int × (Int × Int)))))))) × (List (Int × (Int × (Int × (Int × (Int × (Int × (Int × (Int × Int)))))))))))))))
  ((m_impl_Cluster_isTo (x.1, x.2)).bind fun r4 =>
  (cond (!r4.1)
   (some (true, r4.2))
   ((m_impl_Cluster_isFrom (r4.2, x.2)).bind fun r5 =>
   some ((!r5.1), r5.2)))) fun j6 =>
 (cond j6.1
  (some (3 : Int))
  ((m_impl_Cluster_contract (j6.2, x.2.2.2.2.1)).bind fun r7 =>
  (cond (!r7.2.1)
   (some (4 : Int))
   ((m_impl_Cluster_rangesOk (r7.2.2, x.2)).bind fun r8 =>
   (cond (!r8.1)
    (some (3 : Int))
    ((m_impl_Message_plain x.2).bind fun r9 =>
    (cond (!((x.2.1 == r9.1) && ((x.2.2.1 == r9.2.1) && ((x.2.2.2.1 == r9.2.2.1) && ((x.2.2.2.2.1 == r9.2.2.2.1) && ((x.2.2.2.2.2.1 == r9.2.2.2.2.1) && ((x.2.2.2.2.2.2.1 == r9.2.2.2.2.2.1) && ((x.2.2.2.2.2.2.2.1 == r9.2.2.2.2.2.2.1) && ((x.2.2.2.2.2.2.2.2.1 == r9.2.2.2.2.2.2.2.1) && ((x.2.2.2.2.2.2.2.2.2 == r9.2.2.2.2.2.2.2.2) && true))))))))))
     (some (1 : Int))
     (some (0 : Int))))))))))))
def m_impl_MessageFault (x : (((List (Int × (List (Int × (Int × (Int × Int)))))) × ((List (Int × ((List (Int × (Int × Int))) × ((List (Int × Int)) × ((List (Int × (List (Int × (Int × (Int × Int)))))) × ((List (Int × Int)) × (List Int))))))) × ((List (List (Int × (Int × (Int × ((Int × Int) × (List (Int × Int)))))))) × ((List (Int × ((List (Int × (Int × (Int × (Int × ((List Int) × (List (Int × Int)))))))) × (List (Int × (Int × (Int × (Int × Int)))))))) × (List (Int × (Int × (Int × (Int × (Int × (Int × (Int × (Int × Int))))))))))))) × (Int × (Int × (Int × (Int × (Int × (Int × (Int × (Int × Int)))))))))) : Option Int := p_impl_MessageFault FU x
def a_impl_MessageFault : Ann := (.node .leaf (.node .leaf (.node (.join [.slot 18 .bool, .box 0 (.pair (.sl none (.pair (.int .i64) (.sl none (.pair (.int .i64) (.pair (.int .i64) (.pair (.int .i64) (.int .i64))))))) (.pair (.sl none (.pair (.int .i64) (.pair (.sl none (.pair (.int .i64) (.pair (.int .i64) (.int .i64)))) (.pair (.sl none (.pair (.int .i64) (.int .i64))) (.pair (.sl none (.pair (.int .i64) (.sl none (.pair (.int .i64) (.pair (.int .i64) (.pair (.int .i64) (.int .i64))))))) (.pair (.sl none (.pair (.int .i64) (.int .i64))) (.sl none (.int .i64)))))))) (.pair (.sl none (.one (.sl none (.pair (.int .i64) (.pair (.int .i64) (.pair (.int .i64) (.pair (.pair (.int .i64) (.int .i64)) (.sl none (.pair (.int .i64) (.int .i64)))))))))) (.pair (.sl none (.pair (.int .i64) (.pair (.sl none (.pair (.int .i64) (.pair (.int .i64) (.pair (.int .i64) (.pair (.int .i64) (.pair (.sl none (.int .i64)) (.sl none (.pair (.int .i64) (.int .i64))))))))) (.sl none (.pair (.int .i64) (.pair (.int .i64) (.pair (.int .i64) (.pair (.int .i64) (.int .i64))))))))) (.sl none (.pair (.int .i64) (.pair (.int .i64) (.pair (.int .i64) (.pair (.int .i64) (.pair (.int .i64) (.pair (.int .i64) (.pair (.int .i64) (.pair (.int .i64) (.int .i64))))))))))))))] [11, 12, 13, 14, 15, 16, 17] .leaf .leaf) .leaf)))
def S_impl_MessageFault : FSpec := ⟨[.val (.pair (.sl none (.pair (.int .i64) (.sl none (.pair (.int .i64) (.pair (.int .i64) (.pair (.int .i64) (.int .i64))))))) (.pair (.sl none (.pair (.int .i64) (.pair (.sl none (.pair (.int .i64) (.pair (.int .i64) (.int .i64)))) (.pair (.sl none (.pair (.int .i64) (.int .i64))) (.pair (.sl none (.pair (.int .i64) (.sl none (.pair (.int .i64) (.pair (.int .i64) (.pair (.int .i64) (.int .i64))))))) (.pair (.sl none (.pair (.int .i64) (.int .i64))) (.sl none (.int .i64)))))))) (.pair (.sl none (.one (.sl none (.pair (.int .i64) (.pair (.int .i64) (.pair (.int .i64) (.pair (.pair (.int .i64) (.int .i64)) (.sl none (.pair (.int .i64) (.int .i64)))))))))) (.pair (.sl none (.pair (.int .i64) (.pair (.sl none (.pair (.int .i64) (.pair (.int .i64) (.pair (.int .i64) (.pair (.int .i64) (.pair (.sl none (.int .i64)) (.sl none (.pair (.int .i64) (.int .i64))))))))) (.sl none (.pair (.int .i64) (.pair (.int .i64) (.pair (.int .i64) (.pair (.int .i64) (.int .i64))))))))) (.sl none (.pair (.int .i64) (.pair (.int .i64) (.pair (.int .i64) (.pair (.int .i64) (.pair (.int .i64) (.pair (.int .i64) (.pair (.int .i64) (.pair (.int .i64) (.int .i64)))))))))))))), .val (.pair (.int .i64) (.pair (.int .i64) (.pair (.int .i64) (.pair (.int .i64) (.pair (.int .i64) (.pair (.int .i64) (.pair (.int .i64) (.pair (.int .i64) (.int .i64)))))))))], [(.int .i64)], m_impl_MessageFault⟩

/-! laws.eqLeg -/
def p_laws_eqLeg (n : Nat) (x : ((Int × (Int × (Int × Int))) × (Int × (Int × (Int × Int))))) : Option Bool :=
(cond (!(x.1.1 == x.2.1))
 (some false)
 (cond (!(x.1.2.1 == x.2.2.1))
  (some false)
  (cond (!(x.1.2.2.1 == x.2.2.2.1))
   (some false)
   (cond (!(x.1.2.2.2 == x.2.2.2.2))
    (some false)
    (some true)))))
def m_laws_eqLeg (x : ((Int × (Int × (Int × Int))) × (Int × (Int × (Int × Int))))) : Option Bool := p_laws_eqLeg FU x
def a_laws_eqLeg : Ann := .leaf
def S_laws_eqLeg : FSpec := ⟨[.val (.pair (.int .i64) (.pair (.int .i64) (.pair (.int .i64) (.int .i64)))), .val (.pair (.int .i64) (.pair (.int .i64) (.pair (.int .i64) (.int .i64))))], [.bool], m_laws_eqLeg⟩

/-! laws.eqLegS -/
def l_laws_eqLegS_1 (n : Nat) (x_1 : (List (Int × (Int × (Int × Int))))) (x_2 : (List (Int × (Int × (Int × Int))))) (z0 : Int) : Option Bool :=
(lp (fun rec6 (z5 : Int) =>
 (cond (decide (z5 < (lenI x_1)))
  ((geti x_1 z5).bind fun y7 =>
  ((geti x_2 z5).bind fun y8 =>
  ((m_laws_eqLeg (y7, y8)).bind fun r9 =>
  (cond (!r9)
   (some false)
   (rec6 (IntKind.wrap .i64 (z5 + (1 : Int))))))))
  (some true))) n z0)
def p_laws_eqLegS (n : Nat) (x : ((List (Int × (Int × (Int × Int)))) × (List (Int × (Int × (Int × Int)))))) : Option Bool :=
(cond (!((lenI x.1) == (lenI x.2)))
 (some false)
 (l_laws_eqLegS_1 n x.1 x.2 (0 : Int)))
def m_laws_eqLegS (x : ((List (Int × (Int × (Int × Int)))) × (List (Int × (Int × (Int × Int)))))) : Option Bool := p_laws_eqLegS FU x
def a_laws_eqLegS : Ann := (.node .leaf (.node .leaf (.node (.node .leaf (.loop [.slot 5 (.int .i64)] [4, 11, 12, 13, 14, 15, 16, 17, 18, 19, 20, 21, 22, 23, 24, 25, 26] .leaf)) .leaf)))
def S_laws_eqLegS : FSpec := ⟨[.val (.sl none (.pair (.int .i64) (.pair (.int .i64) (.pair (.int .i64) (.int .i64))))), .val (.sl none (.pair (.int .i64) (.pair (.int .i64) (.pair (.int .i64) (.int .i64)))))], [.bool], m_laws_eqLegS⟩

/-! laws.eqContract -/
def p_laws_eqContract (n : Nat) (x : ((Int × (List (Int × (Int × (Int × Int))))) × (Int × (List (Int × (Int × (Int × Int))))))) : Option Bool :=
(cond (!(x.1.1 == x.2.1))
 (some false)
 ((m_laws_eqLegS (x.1.2, x.2.2)).bind fun r1 =>
 (cond (!r1)
  (some false)
  (some true))))
def m_laws_eqContract (x : ((Int × (List (Int × (Int × (Int × Int))))) × (Int × (List (Int × (Int × (Int × Int))))))) : Option Bool := p_laws_eqContract FU x
def a_laws_eqContract : Ann := .leaf
def S_laws_eqContract : FSpec := ⟨[.val (.pair (.int .i64) (.sl none (.pair (.int .i64) (.pair (.int .i64) (.pair (.int .i64) (.int .i64)))))), .val (.pair (.int .i64) (.sl none (.pair (.int .i64) (.pair (.int .i64) (.pair (.int .i64) (.int .i64))))))], [.bool], m_laws_eqContract⟩

/-! laws.eqContractS -/
def l_laws_eqContractS_1 (n : Nat) (x_1 : (List (Int × (List (Int × (Int × (Int × Int))))))) (x_2 : (List (Int × (List (Int × (Int × (Int × Int))))))) (z0 : Int) : Option Bool :=
(lp (fun rec6 (z5 : Int) =>
 (cond (decide (z5 < (lenI x_1)))
  ((geti x_1 z5).bind fun y7 =>
  ((geti x_2 z5).bind fun y8 =>
  ((m_laws_eqContract (y7, y8)).bind fun r9 =>
  (cond (!r9)
   (some false)
   (rec6 (IntKind.wrap .i64 (z5 + (1 : Int))))))))
  (some true))) n z0)
def p_laws_eqContractS (n : Nat) (x : ((List (Int × (List (Int × (Int × (Int × Int)))))) × (List (Int × (List (Int × (Int × (Int × Int)))))))) : Option Bool :=
(cond (!((lenI x.1) == (lenI x.2)))
 (some false)
 (l_laws_eqContractS_1 n x.1 x.2 (0 : Int)))
def m_laws_eqContractS (x : ((List (Int × (List (Int × (Int × (Int × Int)))))) × (List (Int × (List (Int × (Int × (Int × Int)))))))) : Option Bool := p_laws_eqContractS FU x
def a_laws_eqContractS : Ann := (.node .leaf (.node .leaf (.node (.node .leaf (.loop [.slot 5 (.int .i64)] [4, 11, 12, 13, 14, 15, 16, 17, 18, 19, 20, 21, 22, 23, 24, 25, 26] .leaf)) .leaf)))
def S_laws_eqContractS : FSpec := ⟨[.val (.sl none (.pair (.int .i64) (.sl none (.pair (.int .i64) (.pair (.int .i64) (.pair (.int .i64) (.int .i64))))))), .val (.sl none (.pair (.int .i64) (.sl none (.pair (.int .i64) (.pair (.int .i64) (.pair (.int .i64) (.int .i64)))))))], [.bool], m_laws_eqContractS⟩

/-! laws.eqBalance -/
def p_laws_eqBalance (n : Nat) (x : ((Int × (Int × Int)) × (Int × (Int × Int)))) : Option Bool :=
(cond (!(x.1.1 == x.2.1))
 (some false)
 (cond (!(x.1.2.1 == x.2.2.1))
  (some false)
  (cond (!(x.1.2.2 == x.2.2.2))
   (some false)
   (some true))))
def m_laws_eqBalance (x : ((Int × (Int × Int)) × (Int × (Int × Int)))) : Option Bool := p_laws_eqBalance FU x
def a_laws_eqBalance : Ann := .leaf
def S_laws_eqBalance : FSpec := ⟨[.val (.pair (.int .i64) (.pair (.int .i64) (.int .i64))), .val (.pair (.int .i64) (.pair (.int .i64) (.int .i64)))], [.bool], m_laws_eqBalance⟩

/-! laws.eqBalanceS -/
def l_laws_eqBalanceS_1 (n : Nat) (x_1 : (List (Int × (Int × Int)))) (x_2 : (List (Int × (Int × Int)))) (z0 : Int) : Option Bool :=
(lp (fun rec6 (z5 : Int) =>
 (cond (decide (z5 < (lenI x_1)))
  ((geti x_1 z5).bind fun y7 =>
  ((geti x_2 z5).bind fun y8 =>
  ((m_laws_eqBalance (y7, y8)).bind fun r9 =>
  (cond (!r9)
   (some false)
   (rec6 (IntKind.wrap .i64 (z5 + (1 : Int))))))))
  (some true))) n z0)
def p_laws_eqBalanceS (n : Nat) (x : ((List (Int × (Int × Int))) × (List (Int × (Int × Int))))) : Option Bool :=
(cond (!((lenI x.1) == (lenI x.2)))
 (some false)
 (l_laws_eqBalanceS_1 n x.1 x.2 (0 : Int)))
def m_laws_eqBalanceS (x : ((List (Int × (Int × Int))) × (List (Int × (Int × Int))))) : Option Bool := p_laws_eqBalanceS FU x
def a_laws_eqBalanceS : Ann := (.node .leaf (.node .leaf (.node (.node .leaf (.loop [.slot 5 (.int .i64)] [4, 11, 12, 13, 14, 15, 16, 17, 18, 19, 20, 21, 22, 23, 24, 25, 26] .leaf)) .leaf)))
def S_laws_eqBalanceS : FSpec := ⟨[.val (.sl none (.pair (.int .i64) (.pair (.int .i64) (.int .i64)))), .val (.sl none (.pair (.int .i64) (.pair (.int .i64) (.int .i64))))], [.bool], m_laws_eqBalanceS⟩

/-! laws.eqMark -/
def p_laws_eqMark (n : Nat) (x : ((Int × Int) × (Int × Int))) : Option Bool :=
(cond (!(x.1.1 == x.2.1))
 (some false)
 (cond (!(x.1.2 == x.2.2))
  (some false)
  (some true)))
def m_laws_eqMark (x : ((Int × Int) × (Int × Int))) : Option Bool := p_laws_eqMark FU x
def a_laws_eqMark : Ann := .leaf
def S_laws_eqMark : FSpec := ⟨[.val (.pair (.int .i64) (.int .i64)), .val (.pair (.int .i64) (.int .i64))], [.bool], m_laws_eqMark⟩

/-! laws.eqMarkS -/
def l_laws_eqMarkS_1 (n : Nat) (x_1 : (List (Int × Int))) (x_2 : (List (Int × Int))) (z0 : Int) : Option Bool :=
(lp (fun rec6 (z5 : Int) =>
 (cond (decide (z5 < (lenI x_1)))
  ((geti x_1 z5).bind fun y7 =>
  ((geti x_2 z5).bind fun y8 =>
  ((m_laws_eqMark (y7, y8)).bind fun r9 =>
  (cond (!r9)
   (some false)
   (rec6 (IntKind.wrap .i64 (z5 + (1 : Int))))))))
  (some true))) n z0)
def p_laws_eqMarkS (n : Nat) (x : ((List (Int × Int)) × (List (Int × Int)))) : Option Bool :=
(cond (!((lenI x.1) == (lenI x.2)))
 (some false)
 (l_laws_eqMarkS_1 n x.1 x.2 (0 : Int)))
def m_laws_eqMarkS (x : ((List (Int × Int)) × (List (Int × Int)))) : Option Bool := p_laws_eqMarkS FU x
def a_laws_eqMarkS : Ann := (.node .leaf (.node .leaf (.node (.node .leaf (.loop [.slot 5 (.int .i64)] [4, 11, 12, 13, 14, 15, 16, 17, 18, 19, 20, 21, 22, 23, 24, 25, 26] .leaf)) .leaf)))
def S_laws_eqMarkS : FSpec := ⟨[.val (.sl none (.pair (.int .i64) (.int .i64))), .val (.sl none (.pair (.int .i64) (.int .i64)))], [.bool], m_laws_eqMarkS⟩

/-! laws.eqInt64S -/
def l_laws_eqInt64S_1 (n : Nat) (x_1 : (List Int)) (x_2 : (List Int)) (z0 : Int) : Option Bool :=
(lp (fun rec5 (z4 : Int) =>
 (cond (decide (z4 < (lenI x_1)))
  ((geti x_1 z4).bind fun y6 =>
  ((geti x_2 z4).bind fun y7 =>
  (cond (!(y6 == y7))
   (some false)
   (rec5 (IntKind.wrap .i64 (z4 + (1 : Int)))))))
  (some true))) n z0)
def p_laws_eqInt64S (n : Nat) (x : ((List Int) × (List Int))) : Option Bool :=
(cond (!((lenI x.1) == (lenI x.2)))
 (some false)
 (l_laws_eqInt64S_1 n x.1 x.2 (0 : Int)))
def m_laws_eqInt64S (x : ((List Int) × (List Int))) : Option Bool := p_laws_eqInt64S FU x
def a_laws_eqInt64S : Ann := (.node .leaf (.node .leaf (.node (.node .leaf (.loop [.slot 5 (.int .i64)] [4, 11, 12, 13, 14, 15, 16, 17, 18, 19, 20, 21, 22, 23, 24, 25] .leaf)) .leaf)))
def S_laws_eqInt64S : FSpec := ⟨[.val (.sl none (.int .i64)), .val (.sl none (.int .i64))], [.bool], m_laws_eqInt64S⟩

/-! laws.eqShard -/
def p_laws_eqShard (n : Nat) (x : ((Int × ((List (Int × (Int × Int))) × ((List (Int × Int)) × ((List (Int × (List (Int × (Int × (Int × Int)))))) × ((List (Int × Int)) × (List Int)))))) × (Int × ((List (Int × (Int × Int))) × ((List (Int × Int)) × ((List (Int × (List (Int × (Int × (Int × Int)))))) × ((List (Int × Int)) × (List Int)))))))) : Option Bool :=
(cond (!(x.1.1 == x.2.1))
 (some false)
 ((m_laws_eqBalanceS (x.1.2.1, x.2.2.1)).bind fun r1 =>
 (cond (!r1)
  (some false)
  ((m_laws_eqMarkS (x.1.2.2.1, x.2.2.2.1)).bind fun r2 =>
  (cond (!r2)
   (some false)
   ((m_laws_eqContractS (x.1.2.2.2.1, x.2.2.2.2.1)).bind fun r3 =>
   (cond (!r3)
    (some false)
    ((m_laws_eqMarkS (x.1.2.2.2.2.1, x.2.2.2.2.2.1)).bind fun r4 =>
    (cond (!r4)
     (some false)
     ((m_laws_eqInt64S (x.1.2.2.2.2.2, x.2.2.2.2.2.2)).bind fun r5 =>
     (cond (!r5)
      (some false)
      (some true))))))))))))
def m_laws_eqShard (x : ((Int × ((List (Int × (Int × Int))) × ((List (Int × Int)) × ((List (Int × (List (Int × (Int × (Int × Int)))))) × ((List (Int × Int)) × (List Int)))))) × (Int × ((List (Int × (Int × Int))) × ((List (Int × Int)) × ((List (Int × (List (Int × (Int × (Int × Int)))))) × ((List (Int × Int)) × (List Int)))))))) : Option Bool := p_laws_eqShard FU x
def a_laws_eqShard : Ann := .leaf
def S_laws_eqShard : FSpec := ⟨[.val (.pair (.int .i64) (.pair (.sl none (.pair (.int .i64) (.pair (.int .i64) (.int .i64)))) (.pair (.sl none (.pair (.int .i64) (.int .i64))) (.pair (.sl none (.pair (.int .i64) (.sl none (.pair (.int .i64) (.pair (.int .i64) (.pair (.int .i64) (.int .i64))))))) (.pair (.sl none (.pair (.int .i64) (.int .i64))) (.sl none (.int .i64))))))), .val (.pair (.int .i64) (.pair (.sl none (.pair (.int .i64) (.pair (.int .i64) (.int .i64)))) (.pair (.sl none (.pair (.int .i64) (.int .i64))) (.pair (.sl none (.pair (.int .i64) (.sl none (.pair (.int .i64) (.pair (.int .i64) (.pair (.int .i64) (.int .i64))))))) (.pair (.sl none (.pair (.int .i64) (.int .i64))) (.sl none (.int .i64)))))))], [.bool], m_laws_eqShard⟩

/-! laws.eqShardS -/
def l_laws_eqShardS_1 (n : Nat) (x_1 : (List (Int × ((List (Int × (Int × Int))) × ((List (Int × Int)) × ((List (Int × (List (Int × (Int × (Int × Int)))))) × ((List (Int × Int)) × (List Int)))))))) (x_2 : (List (Int × ((List (Int × (Int × Int))) × ((List (Int × Int)) × ((List (Int × (List (Int × (Int × (Int × Int)))))) × ((List (Int × Int)) × (List Int)))))))) (z0 : Int) : Option Bool :=
(lp (fun rec6 (z5 : Int) =>
 (cond (decide (z5 < (lenI x_1)))
  ((geti x_1 z5).bind fun y7 =>
  ((geti x_2 z5).bind fun y8 =>
  ((m_laws_eqShard (y7, y8)).bind fun r9 =>
  (cond (!r9)
   (some false)
   (rec6 (IntKind.wrap .i64 (z5 + (1 : Int))))))))
  (some true))) n z0)
def p_laws_eqShardS (n : Nat) (x : ((List (Int × ((List (Int × (Int × Int))) × ((List (Int × Int)) × ((List (Int × (List (Int × (Int × (Int × Int)))))) × ((List (Int × Int)) × (List Int))))))) × (List (Int × ((List (Int × (Int × Int))) × ((List (Int × Int)) × ((List (Int × (List (Int × (Int × (Int × Int)))))) × ((List (Int × Int)) × (List Int))))))))) : Option Bool :=
(cond (!((lenI x.1) == (lenI x.2)))
 (some false)
 (l_laws_eqShardS_1 n x.1 x.2 (0 : Int)))
def m_laws_eqShardS (x : ((List (Int × ((List (Int × (Int × Int))) × ((List (Int × Int)) × ((List (Int × (List (Int × (Int × (Int × Int)))))) × ((List (Int × Int)) × (List Int))))))) × (List (Int × ((List (Int × (Int × Int))) × ((List (Int × Int)) × ((List (Int × (List (Int × (Int × (Int × Int)))))) × ((List (Int × Int)) × (List Int))))))))) : Option Bool := p_laws_eqShardS FU x
def a_laws_eqShardS : Ann := (.node .leaf (.node .leaf (.node (.node .leaf (.loop [.slot 5 (.int .i64)] [4, 11, 12, 13, 14, 15, 16, 17, 18, 19, 20, 21, 22, 23, 24, 25, 26] .leaf)) .leaf)))
def S_laws_eqShardS : FSpec := ⟨[.val (.sl none (.pair (.int .i64) (.pair (.sl none (.pair (.int .i64) (.pair (.int .i64) (.int .i64)))) (.pair (.sl none (.pair (.int .i64) (.int .i64))) (.pair (.sl none (.pair (.int .i64) (.sl none (.pair (.int .i64) (.pair (.int .i64) (.pair (.int .i64) (.int .i64))))))) (.pair (.sl none (.pair (.int .i64) (.int .i64))) (.sl none (.int .i64)))))))), .val (.sl none (.pair (.int .i64) (.pair (.sl none (.pair (.int .i64) (.pair (.int .i64) (.int .i64)))) (.pair (.sl none (.pair (.int .i64) (.int .i64))) (.pair (.sl none (.pair (.int .i64) (.sl none (.pair (.int .i64) (.pair (.int .i64) (.pair (.int .i64) (.int .i64))))))) (.pair (.sl none (.pair (.int .i64) (.int .i64))) (.sl none (.int .i64))))))))], [.bool], m_laws_eqShardS⟩

/-! laws.eqVote -/
def p_laws_eqVote (n : Nat) (x : ((Int × Int) × (Int × Int))) : Option Bool :=
(cond (!(x.1.1 == x.2.1))
 (some false)
 (cond (!(x.1.2 == x.2.2))
  (some false)
  (some true)))
def m_laws_eqVote (x : ((Int × Int) × (Int × Int))) : Option Bool := p_laws_eqVote FU x
def a_laws_eqVote : Ann := .leaf
def S_laws_eqVote : FSpec := ⟨[.val (.pair (.int .i64) (.int .i64)), .val (.pair (.int .i64) (.int .i64))], [.bool], m_laws_eqVote⟩

/-! laws.eqVoteS -/
def l_laws_eqVoteS_1 (n : Nat) (x_1 : (List (Int × Int))) (x_2 : (List (Int × Int))) (z0 : Int) : Option Bool :=
(lp (fun rec6 (z5 : Int) =>
 (cond (decide (z5 < (lenI x_1)))
  ((geti x_1 z5).bind fun y7 =>
  ((geti x_2 z5).bind fun y8 =>
  ((m_laws_eqVote (y7, y8)).bind fun r9 =>
  (cond (!r9)
   (some false)
   (rec6 (IntKind.wrap .i64 (z5 + (1 : Int))))))))
  (some true))) n z0)
def p_laws_eqVoteS (n : Nat) (x : ((List (Int × Int)) × (List (Int × Int)))) : Option Bool :=
(cond (!((lenI x.1) == (lenI x.2)))
 (some false)
 (l_laws_eqVoteS_1 n x.1 x.2 (0 : Int)))
def m_laws_eqVoteS (x : ((List (Int × Int)) × (List (Int × Int)))) : Option Bool := p_laws_eqVoteS FU x
def a_laws_eqVoteS : Ann := (.node .leaf (.node .leaf (.node (.node .leaf (.loop [.slot 5 (.int .i64)] [4, 11, 12, 13, 14, 15, 16, 17, 18, 19, 20, 21, 22, 23, 24, 25, 26] .leaf)) .leaf)))
def S_laws_eqVoteS : FSpec := ⟨[.val (.sl none (.pair (.int .i64) (.int .i64))), .val (.sl none (.pair (.int .i64) (.int .i64)))], [.bool], m_laws_eqVoteS⟩

/-! laws.eqSlot -/
def p_laws_eqSlot (n : Nat) (x : ((Int × (Int × (Int × ((Int × Int) × (List (Int × Int)))))) × (Int × (Int × (Int × ((Int × Int) × (List (Int × Int)))))))) : Option Bool :=
(cond (!(x.1.1 == x.2.1))
 (some false)
 (cond (!(x.1.2.1 == x.2.2.1))
  (some false)
  (cond (!(x.1.2.2.1 == x.2.2.2.1))
   (some false)
   ((m_laws_eqVote (x.1.2.2.2.1, x.2.2.2.2.1)).bind fun r1 =>
   (cond (!r1)
    (some false)
    ((m_laws_eqVoteS (x.1.2.2.2.2, x.2.2.2.2.2)).bind fun r2 =>
    (cond (!r2)
     (some false)
     (some true))))))))
def m_laws_eqSlot (x : ((Int × (Int × (Int × ((Int × Int) × (List (Int × Int)))))) × (Int × (Int × (Int × ((Int × Int) × (List (Int × Int)))))))) : Option Bool := p_laws_eqSlot FU x
def a_laws_eqSlot : Ann := .leaf
def S_laws_eqSlot : FSpec := ⟨[.val (.pair (.int .i64) (.pair (.int .i64) (.pair (.int .i64) (.pair (.pair (.int .i64) (.int .i64)) (.sl none (.pair (.int .i64) (.int .i64))))))), .val (.pair (.int .i64) (.pair (.int .i64) (.pair (.int .i64) (.pair (.pair (.int .i64) (.int .i64)) (.sl none (.pair (.int .i64) (.int .i64)))))))], [.bool], m_laws_eqSlot⟩

/-! laws.eqSlotS -/
def l_laws_eqSlotS_1 (n : Nat) (x_1 : (List (Int × (Int × (Int × ((Int × Int) × (List (Int × Int)))))))) (x_2 : (List (Int × (Int × (Int × ((Int × Int) × (List (Int × Int)))))))) (z0 : Int) : Option Bool :=
(lp (fun rec6 (z5 : Int) =>
 (cond (decide (z5 < (lenI x_1)))
  ((geti x_1 z5).bind fun y7 =>
  ((geti x_2 z5).bind fun y8 =>
  ((m_laws_eqSlot (y7, y8)).bind fun r9 =>
  (cond (!r9)
   (some false)
   (rec6 (IntKind.wrap .i64 (z5 + (1 : Int))))))))
  (some true))) n z0)
def p_laws_eqSlotS (n : Nat) (x : ((List (Int × (Int × (Int × ((Int × Int) × (List (Int × Int))))))) × (List (Int × (Int × (Int × ((Int × Int) × (List (Int × Int))))))))) : Option Bool :=
(cond (!((lenI x.1) == (lenI x.2)))
 (some false)
 (l_laws_eqSlotS_1 n x.1 x.2 (0 : Int)))
def m_laws_eqSlotS (x : ((List (Int × (Int × (Int × ((Int × Int) × (List (Int × Int))))))) × (List (Int × (Int × (Int × ((Int × Int) × (List (Int × Int))))))))) : Option Bool := p_laws_eqSlotS FU x
def a_laws_eqSlotS : Ann := (.node .leaf (.node .leaf (.node (.node .leaf (.loop [.slot 5 (.int .i64)] [4, 11, 12, 13, 14, 15, 16, 17, 18, 19, 20, 21, 22, 23, 24, 25, 26] .leaf)) .leaf)))
def S_laws_eqSlotS : FSpec := ⟨[.val (.sl none (.pair (.int .i64) (.pair (.int .i64) (.pair (.int .i64) (.pair (.pair (.int .i64) (.int .i64)) (.sl none (.pair (.int .i64) (.int .i64)))))))), .val (.sl none (.pair (.int .i64) (.pair (.int .i64) (.pair (.int .i64) (.pair (.pair (.int .i64) (.int .i64)) (.sl none (.pair (.int .i64) (.int .i64))))))))], [.bool], m_laws_eqSlotS⟩

/-! laws.eqAcceptor -/
def p_laws_eqAcceptor (n : Nat) (x : ((List (Int × (Int × (Int × ((Int × Int) × (List (Int × Int))))))) × (List (Int × (Int × (Int × ((Int × Int) × (List (Int × Int))))))))) : Option Bool :=
((m_laws_eqSlotS (x.1, x.2)).bind fun r1 =>
(cond (!r1)
 (some false)
 (some true)))
def m_laws_eqAcceptor (x : ((List (Int × (Int × (Int × ((Int × Int) × (List (Int × Int))))))) × (List (Int × (Int × (Int × ((Int × Int) × (List (Int × Int))))))))) : Option Bool := p_laws_eqAcceptor FU x
def a_laws_eqAcceptor : Ann := .leaf
def S_laws_eqAcceptor : FSpec := ⟨[.val (.one (.sl none (.pair (.int .i64) (.pair (.int .i64) (.pair (.int .i64) (.pair (.pair (.int .i64) (.int .i64)) (.sl none (.pair (.int .i64) (.int .i64))))))))), .val (.one (.sl none (.pair (.int .i64) (.pair (.int .i64) (.pair (.int .i64) (.pair (.pair (.int .i64) (.int .i64)) (.sl none (.pair (.int .i64) (.int .i64)))))))))], [.bool], m_laws_eqAcceptor⟩

/-! laws.eqAcceptorS -/
def l_laws_eqAcceptorS_1 (n : Nat) (x_1 : (List (List (Int × (Int × (Int × ((Int × Int) × (List (Int × Int))))))))) (x_2 : (List (List (Int × (Int × (Int × ((Int × Int) × (List (Int × Int))))))))) (z0 : Int) : Option Bool :=
(lp (fun rec6 (z5 : Int) =>
 (cond (decide (z5 < (lenI x_1)))
  ((geti x_1 z5).bind fun y7 =>
  ((geti x_2 z5).bind fun y8 =>
  ((m_laws_eqAcceptor (y7, y8)).bind fun r9 =>
  (cond (!r9)
   (some false)
   (rec6 (IntKind.wrap .i64 (z5 + (1 : Int))))))))
  (some true))) n z0)
def p_laws_eqAcceptorS (n : Nat) (x : ((List (List (Int × (Int × (Int × ((Int × Int) × (List (Int × Int)))))))) × (List (List (Int × (Int × (Int × ((Int × Int) × (List (Int × Int)))))))))) : Option Bool :=
(cond (!((lenI x.1) == (lenI x.2)))
 (some false)
 (l_laws_eqAcceptorS_1 n x.1 x.2 (0 : Int)))
def m_laws_eqAcceptorS (x : ((List (List (Int × (Int × (Int × ((Int × Int) × (List (Int × Int)))))))) × (List (List (Int × (Int × (Int × ((Int × Int) × (List (Int × Int)))))))))) : Option Bool := p_laws_eqAcceptorS FU x
def a_laws_eqAcceptorS : Ann := (.node .leaf (.node .leaf (.node (.node .leaf (.loop [.slot 5 (.int .i64)] [4, 11, 12, 13, 14, 15, 16, 17, 18, 19, 20, 21, 22, 23, 24, 25, 26] .leaf)) .leaf)))
def S_laws_eqAcceptorS : FSpec := ⟨[.val (.sl none (.one (.sl none (.pair (.int .i64) (.pair (.int .i64) (.pair (.int .i64) (.pair (.pair (.int .i64) (.int .i64)) (.sl none (.pair (.int .i64) (.int .i64)))))))))), .val (.sl none (.one (.sl none (.pair (.int .i64) (.pair (.int .i64) (.pair (.int .i64) (.pair (.pair (.int .i64) (.int .i64)) (.sl none (.pair (.int .i64) (.int .i64))))))))))], [.bool], m_laws_eqAcceptorS⟩

/-! laws.eqTry -/
def p_laws_eqTry (n : Nat) (x : ((Int × (Int × (Int × (Int × ((List Int) × (List (Int × Int))))))) × (Int × (Int × (Int × (Int × ((List Int) × (List (Int × Int))))))))) : Option Bool :=
(cond (!(x.1.1 == x.2.1))
 (some false)
 (cond (!(x.1.2.1 == x.2.2.1))
  (some false)
  (cond (!(x.1.2.2.1 == x.2.2.2.1))
   (some false)
   (cond (!(x.1.2.2.2.1 == x.2.2.2.2.1))
    (some false)
    ((m_laws_eqInt64S (x.1.2.2.2.2.1, x.2.2.2.2.2.1)).bind fun r1 =>
    (cond (!r1)
     (some false)
     ((m_laws_eqVoteS (x.1.2.2.2.2.2, x.2.2.2.2.2.2)).bind fun r2 =>
     (cond (!r2)
      (some false)
      (some true)))))))))
def m_laws_eqTry (x : ((Int × (Int × (Int × (Int × ((List Int) × (List (Int × Int))))))) × (Int × (Int × (Int × (Int × ((List Int) × (List (Int × Int))))))))) : Option Bool := p_laws_eqTry FU x
def a_laws_eqTry : Ann := .leaf
def S_laws_eqTry : FSpec := ⟨[.val (.pair (.int .i64) (.pair (.int .i64) (.pair (.int .i64) (.pair (.int .i64) (.pair (.sl none (.int .i64)) (.sl none (.pair (.int .i64) (.int .i64)))))))), .val (.pair (.int .i64) (.pair (.int .i64) (.pair (.int .i64) (.pair (.int .i64) (.pair (.sl none (.int .i64)) (.sl none (.pair (.int .i64) (.int .i64))))))))], [.bool], m_laws_eqTry⟩

/-! laws.eqTryS -/
def l_laws_eqTryS_1 (n : Nat) (x_1 : (List (Int × (Int × (Int × (Int × ((List Int) × (List (Int × Int))))))))) (x_2 : (List (Int × (Int × (Int × (Int × ((List Int) × (List (Int × Int))))))))) (z0 : Int) : Option Bool :=
(lp (fun rec6 (z5 : Int) =>
 (cond (decide (z5 < (lenI x_1)))
  ((geti x_1 z5).bind fun y7 =>
  ((geti x_2 z5).bind fun y8 =>
  ((m_laws_eqTry (y7, y8)).bind fun r9 =>
  (cond (!r9)
   (some false)
   (rec6 (IntKind.wrap .i64 (z5 + (1 : Int))))))))
  (some true))) n z0)
def p_laws_eqTryS (n : Nat) (x : ((List (Int × (Int × (Int × (Int × ((List Int) × (List (Int × Int)))))))) × (List (Int × (Int × (Int × (Int × ((List Int) × (List (Int × Int)))))))))) : Option Bool :=
(cond (!((lenI x.1) == (lenI x.2)))
 (some false)
 (l_laws_eqTryS_1 n x.1 x.2 (0 : Int)))
def m_laws_eqTryS (x : ((List (Int × (Int × (Int × (Int × ((List Int) × (List (Int × Int)))))))) × (List (Int × (Int × (Int × (Int × ((List Int) × (List (Int × Int)))))))))) : Option Bool := p_laws_eqTryS FU x
def a_laws_eqTryS : Ann := (.node .leaf (.node .leaf (.node (.node .leaf (.loop [.slot 5 (.int .i64)] [4, 11, 12, 13, 14, 15, 16, 17, 18, 19, 20, 21, 22, 23, 24, 25, 26] .leaf)) .leaf)))
def S_laws_eqTryS : FSpec := ⟨[.val (.sl none (.pair (.int .i64) (.pair (.int .i64) (.pair (.int .i64) (.pair (.int .i64) (.pair (.sl none (.int .i64)) (.sl none (.pair (.int .i64) (.int .i64))))))))), .val (.sl none (.pair (.int .i64) (.pair (.int .i64) (.pair (.int .i64) (.pair (.int .i64) (.pair (.sl none (.int .i64)) (.sl none (.pair (.int .i64) (.int .i64)))))))))], [.bool], m_laws_eqTryS⟩

/-! laws.eqHeard -/
def p_laws_eqHeard (n : Nat) (x : ((Int × (Int × (Int × (Int × Int)))) × (Int × (Int × (Int × (Int × Int)))))) : Option Bool :=
(cond (!(x.1.1 == x.2.1))
 (some false)
 (cond (!(x.1.2.1 == x.2.2.1))
  (some false)
  (cond (!(x.1.2.2.1 == x.2.2.2.1))
   (some false)
   (cond (!(x.1.2.2.2.1 == x.2.2.2.2.1))
    (some false)
    (cond (!(x.1.2.2.2.2 == x.2.2.2.2.2))
     (some false)
     (some true))))))
def m_laws_eqHeard (x : ((Int × (Int × (Int × (Int × Int)))) × (Int × (Int × (Int × (Int × Int)))))) : Option Bool := p_laws_eqHeard FU x
def a_laws_eqHeard : Ann := .leaf
def S_laws_eqHeard : FSpec := ⟨[.val (.pair (.int .i64) (.pair (.int .i64) (.pair (.int .i64) (.pair (.int .i64) (.int .i64))))), .val (.pair (.int .i64) (.pair (.int .i64) (.pair (.int .i64) (.pair (.int .i64) (.int .i64)))))], [.bool], m_laws_eqHeard⟩

/-! laws.eqHeardS -/
def l_laws_eqHeardS_1 (n : Nat) (x_1 : (List (Int × (Int × (Int × (Int × Int)))))) (x_2 : (List (Int × (Int × (Int × (Int × Int)))))) (z0 : Int) : Option Bool :=
(lp (fun rec6 (z5 : Int) =>
 (cond (decide (z5 < (lenI x_1)))
  ((geti x_1 z5).bind fun y7 =>
  ((geti x_2 z5).bind fun y8 =>
  ((m_laws_eqHeard (y7, y8)).bind fun r9 =>
  (cond (!r9)
   (some false)
   (rec6 (IntKind.wrap .i64 (z5 + (1 : Int))))))))
  (some true))) n z0)
def p_laws_eqHeardS (n : Nat) (x : ((List (Int × (Int × (Int × (Int × Int))))) × (List (Int × (Int × (Int × (Int × Int))))))) : Option Bool :=
(cond (!((lenI x.1) == (lenI x.2)))
 (some false)
 (l_laws_eqHeardS_1 n x.1 x.2 (0 : Int)))
def m_laws_eqHeardS (x : ((List (Int × (Int × (Int × (Int × Int))))) × (List (Int × (Int × (Int × (Int × Int))))))) : Option Bool := p_laws_eqHeardS FU x
def a_laws_eqHeardS : Ann := (.node .leaf (.node .leaf (.node (.node .leaf (.loop [.slot 5 (.int .i64)] [4, 11, 12, 13, 14, 15, 16, 17, 18, 19, 20, 21, 22, 23, 24, 25, 26] .leaf)) .leaf)))
def S_laws_eqHeardS : FSpec := ⟨[.val (.sl none (.pair (.int .i64) (.pair (.int .i64) (.pair (.int .i64) (.pair (.int .i64) (.int .i64)))))), .val (.sl none (.pair (.int .i64) (.pair (.int .i64) (.pair (.int .i64) (.pair (.int .i64) (.int .i64))))))], [.bool], m_laws_eqHeardS⟩

/-! laws.eqLeader -/
def p_laws_eqLeader (n : Nat) (x : ((Int × ((List (Int × (Int × (Int × (Int × ((List Int) × (List (Int × Int)))))))) × (List (Int × (Int × (Int × (Int × Int))))))) × (Int × ((List (Int × (Int × (Int × (Int × ((List Int) × (List (Int × Int)))))))) × (List (Int × (Int × (Int × (Int × Int))))))))) : Option Bool :=
(cond (!(x.1.1 == x.2.1))
 (some false)
 ((m_laws_eqTryS (x.1.2.1, x.2.2.1)).bind fun r1 =>
 (cond (!r1)
  (some false)
  ((m_laws_eqHeardS (x.1.2.2, x.2.2.2)).bind fun r2 =>
  (cond (!r2)
   (some false)
   (some true))))))
def m_laws_eqLeader (x : ((Int × ((List (Int × (Int × (Int × (Int × ((List Int) × (List (Int × Int)))))))) × (List (Int × (Int × (Int × (Int × Int))))))) × (Int × ((List (Int × (Int × (Int × (Int × ((List Int) × (List (Int × Int)))))))) × (List (Int × (Int × (Int × (Int × Int))))))))) : Option Bool := p_laws_eqLeader FU x
def a_laws_eqLeader : Ann := .leaf
def S_laws_eqLeader : FSpec := ⟨[.val (.pair (.int .i64) (.pair (.sl none (.pair (.int .i64) (.pair (.int .i64) (.pair (.int .i64) (.pair (.int .i64) (.pair (.sl none (.int .i64)) (.sl none (.pair (.int .i64) (.int .i64))))))))) (.sl none (.pair (.int .i64) (.pair (.int .i64) (.pair (.int .i64) (.pair (.int .i64) (.int .i64)))))))), .val (.pair (.int .i64) (.pair (.sl none (.pair (.int .i64) (.pair (.int .i64) (.pair (.int .i64) (.pair (.int .i64) (.pair (.sl none (.int .i64)) (.sl none (.pair (.int .i64) (.int .i64))))))))) (.sl none (.pair (.int .i64) (.pair (.int .i64) (.pair (.int .i64) (.pair (.int .i64) (.int .i64))))))))], [.bool], m_laws_eqLeader⟩

/-! laws.eqLeaderS -/
def l_laws_eqLeaderS_1 (n : Nat) (x_1 : (List (Int × ((List (Int × (Int × (Int × (Int × ((List Int) × (List (Int × Int)))))))) × (List (Int × (Int × (Int × (Int × Int))))))))) (x_2 : (List (Int × ((List (Int × (Int × (Int × (Int × ((List Int) × (List (Int × Int)))))))) × (List (Int × (Int × (Int × (Int × Int))))))))) (z0 : Int) : Option Bool :=
(lp (fun rec6 (z5 : Int) =>
 (cond (decide (z5 < (lenI x_1)))
  ((geti x_1 z5).bind fun y7 =>
  ((geti x_2 z5).bind fun y8 =>
  ((m_laws_eqLeader (y7, y8)).bind fun r9 =>
  (cond (!r9)
   (some false)
   (rec6 (IntKind.wrap .i64 (z5 + (1 : Int))))))))
  (some true))) n z0)
def p_laws_eqLeaderS (n : Nat) (x : ((List (Int × ((List (Int × (Int × (Int × (Int × ((List Int) × (List (Int × Int)))))))) × (List (Int × (Int × (Int × (Int × Int)))))))) × (List (Int × ((List (Int × (Int × (Int × (Int × ((List Int) × (List (Int × Int)))))))) × (List (Int × (Int × (Int × (Int × Int)))))))))) : Option Bool :=
(cond (!((lenI x.1) == (lenI x.2)))
 (some false)
 (l_laws_eqLeaderS_1 n x.1 x.2 (0 : Int)))
def m_laws_eqLeaderS (x : ((List (Int × ((List (Int × (Int × (Int × (Int × ((List Int) × (List (Int × Int)))))))) × (List (Int × (Int × (Int × (Int × Int)))))))) × (List (Int × ((List (Int × (Int × (Int × (Int × ((List Int) × (List (Int × Int)))))))) × (List (Int × (Int × (Int × (Int × Int)))))))))) : Option Bool := p_laws_eqLeaderS FU x
def a_laws_eqLeaderS : Ann := (.node .leaf (.node .leaf (.node (.node .leaf (.loop [.slot 5 (.int .i64)] [4, 11, 12, 13, 14, 15, 16, 17, 18, 19, 20, 21, 22, 23, 24, 25, 26] .leaf)) .leaf)))
def S_laws_eqLeaderS : FSpec := ⟨[.val (.sl none (.pair (.int .i64) (.pair (.sl none (.pair (.int .i64) (.pair (.int .i64) (.pair (.int .i64) (.pair (.int .i64) (.pair (.sl none (.int .i64)) (.sl none (.pair (.int .i64) (.int .i64))))))))) (.sl none (.pair (.int .i64) (.pair (.int .i64) (.pair (.int .i64) (.pair (.int .i64) (.int .i64))))))))), .val (.sl none (.pair (.int .i64) (.pair (.sl none (.pair (.int .i64) (.pair (.int .i64) (.pair (.int .i64) (.pair (.int .i64) (.pair (.sl none (.int .i64)) (.sl none (.pair (.int .i64) (.int .i64))))))))) (.sl none (.pair (.int .i64) (.pair (.int .i64) (.pair (.int .i64) (.pair (.int .i64) (.int .i64)))))))))], [.bool], m_laws_eqLeaderS⟩

/-! laws.eqMessage -/
def p_laws_eqMessage (n : Nat) (x : ((Int × (Int × (Int × (Int × (Int × (Int × (Int × (Int × Int)))))))) × (Int × (Int × (Int × (Int × (Int × (Int × (Int × (Int × Int)))))))))) : Option Bool :=
(cond (!(x.1.1 == x.2.1))
 (some false)
 (cond (!(x.1.2.1 == x.2.2.1))
  (some false)
  (cond (!(x.1.2.2.1 == x.2.2.2.1))
   (some false)
   (cond (!(x.1.2.2.2.1 == x.2.2.2.2.1))
    (some false)
    (cond (!(x.1.2.2.2.2.1 == x.2.2.2.2.2.1))
     (some false)
     (cond (!(x.1.2.2.2.2.2.1 == x.2.2.2.2.2.2.1))
      (some false)
      (cond (!(x.1.2.2.2.2.2.2.1 == x.2.2.2.2.2.2.2.1))
       (some false)
       ((m_laws_eqVote (x.1.2.2.2.2.2.2.2, x.2.2.2.2.2.2.2.2)).bind fun r1 =>
       (cond (!r1)
        (some false)
        (some true))))))))))
def m_laws_eqMessage (x : ((Int × (Int × (Int × (Int × (Int × (Int × (Int × (Int × Int)))))))) × (Int × (Int × (Int × (Int × (Int × (Int × (Int × (Int × Int)))))))))) : Option Bool := p_laws_eqMessage FU x
def a_laws_eqMessage : Ann := .leaf
def S_laws_eqMessage : FSpec := ⟨[.val (.pair (.int .i64) (.pair (.int .i64) (.pair (.int .i64) (.pair (.int .i64) (.pair (.int .i64) (.pair (.int .i64) (.pair (.int .i64) (.pair (.int .i64) (.int .i64))))))))), .val (.pair (.int .i64) (.pair (.int .i64) (.pair (.int .i64) (.pair (.int .i64) (.pair (.int .i64) (.pair (.int .i64) (.pair (.int .i64) (.pair (.int .i64) (.int .i64)))))))))], [.bool], m_laws_eqMessage⟩

/-! laws.eqMessageS -/
def l_laws_eqMessageS_1 (n : Nat) (x_1 : (List (Int × (Int × (Int × (Int × (Int × (Int × (Int × (Int × Int)))))))))) (x_2 : (List (Int × (Int × (Int × (Int × (Int × (Int × (Int × (Int × Int)))))))))) (z0 : Int) : Option Bool :=
(lp (fun rec6 (z5 : Int) =>
 (cond (decide (z5 < (lenI x_1)))
  ((geti x_1 z5).bind fun y7 =>
  ((geti x_2 z5).bind fun y8 =>
  ((m_laws_eqMessage (y7, y8)).bind fun r9 =>
  (cond (!r9)
   (some false)
   (rec6 (IntKind.wrap .i64 (z5 + (1 : Int))))))))
  (some true))) n z0)
def p_laws_eqMessageS (n : Nat) (x : ((List (Int × (Int × (Int × (Int × (Int × (Int × (Int × (Int × Int))))))))) × (List (Int × (Int × (Int × (Int × (Int × (Int × (Int × (Int × Int))))))))))) : Option Bool :=
(cond (!((lenI x.1) == (lenI x.2)))
 (some false)
 (l_laws_eqMessageS_1 n x.1 x.2 (0 : Int)))
def m_laws_eqMessageS (x : ((List (Int × (Int × (Int × (Int × (Int × (Int × (Int × (Int × Int))))))))) × (List (Int × (Int × (Int × (Int × (Int × (Int × (Int × (Int × Int))))))))))) : Option Bool := p_laws_eqMessageS FU x
def a_laws_eqMessageS : Ann := (.node .leaf (.node .leaf (.node (.node .leaf (.loop [.slot 5 (.int .i64)] [4, 11, 12, 13, 14, 15, 16, 17, 18, 19, 20, 21, 22, 23, 24, 25, 26] .leaf)) .leaf)))
def S_laws_eqMessageS : FSpec := ⟨[.val (.sl none (.pair (.int .i64) (.pair (.int .i64) (.pair (.int .i64) (.pair (.int .i64) (.pair (.int .i64) (.pair (.int .i64) (.pair (.int .i64) (.pair (.int .i64) (.int .i64)))))))))), .val (.sl none (.pair (.int .i64) (.pair (.int .i64) (.pair (.int .i64) (.pair (.int .i64) (.pair (.int .i64) (.pair (.int .i64) (.pair (.int .i64) (.pair (.int .i64) (.int .i64))))))))))], [.bool], m_laws_eqMessageS⟩

/-! laws.eqCluster -/
def p_laws_eqCluster (n : Nat) (x : (((List (Int × (List (Int × (Int × (Int × Int)))))) × ((List (Int × ((List (Int × (Int × Int))) × ((List (Int × Int)) × ((List (Int × (List (Int × (Int × (Int × Int)))))) × ((List (Int × Int)) × (List Int))))))) × ((List (List (Int × (Int × (Int × ((Int × Int) × (List (Int × Int)))))))) × ((List (Int × ((List (Int × (Int × (Int × (Int × ((List Int) × (List (Int × Int)))))))) × (List (Int × (Int × (Int × (Int × Int)))))))) × (List (Int × (Int × (Int × (Int × (Int × (Int × (Int × (Int × Int))))))))))))) × ((List (Int × (List (Int × (Int × (Int × Int)))))) × ((List (Int × ((List (Int × (Int × Int))) × ((List (Int × Int)) × ((List (Int × (List (Int × (Int × (Int × Int)))))) × ((List (Int × Int)) × (List Int))))))) × ((List (List (Int × (Int × (Int × ((Int × Int) × (List (Int × Int)))))))) × ((List (Int × ((List (Int × (Int × (Int × (Int × ((List Int) × (List (Int × Int)))))))) × (List (Int × (Int × (Int × (Int × Int)))))))) × (List (Int × (Int × (Int × (Int × (Int × (Int × (Int × (Int × Int))))))))))))))) : Option Bool :=
((m_laws_eqContractS (x.1.1, x.2.1)).bind fun r1 =>
(cond (!r1)
 (some false)
 ((m_laws_eqShardS (x.1.2.1, x.2.2.1)).bind fun r2 =>
 (cond (!r2)
  (some false)
  ((m_laws_eqAcceptorS (x.1.2.2.1, x.2.2.2.1)).bind fun r3 =>
  (cond (!r3)
   (some false)
   ((m_laws_eqLeaderS (x.1.2.2.2.1, x.2.2.2.2.1)).bind fun r4 =>
   (cond (!r4)
    (some false)
    ((m_laws_eqMessageS (x.1.2.2.2.2, x.2.2.2.2.2)).bind fun r5 =>
    (cond (!r5)
     (some false)
     (some true)))))))))))
def m_laws_eqCluster (x : (((List (Int × (List (Int × (Int × (Int × Int)))))) × ((List (Int × ((List (Int × (Int × Int))) × ((List (Int × Int)) × ((List (Int × (List (Int × (Int × (Int × Int)))))) × ((List (Int × Int)) × (List Int))))))) × ((List (List (Int × (Int × (Int × ((Int × Int) × (List (Int × Int)))))))) × ((List (Int × ((List (Int × (Int × (Int × (Int × ((List Int) × (List (Int × Int)))))))) × (List (Int × (Int × (Int × (Int × Int)))))))) × (List (Int × (Int × (Int × (Int × (Int × (Int × (Int × (Int × Int))))))))))))) × ((List (Int × (List (Int × (Int × (Int × Int)))))) × ((List (Int × ((List (Int × (Int × Int))) × ((List (Int × Int)) × ((List (Int × (List (Int × (Int × (Int × Int)))))) × ((List (Int × Int)) × (List Int))))))) × ((List (List (Int × (Int × (Int × ((Int × Int) × (List (Int × Int)))))))) × ((List (Int × ((List (Int × (Int × (Int × (Int × ((List Int) × (List (Int × Int)))))))) × (List (Int × (Int × (Int × (Int × Int)))))))) × (List (Int × (Int × (Int × (Int × (Int × (Int × (Int × (Int × Int))))))))))))))) : Option Bool := p_laws_eqCluster FU x
def a_laws_eqCluster : Ann := .leaf
def S_laws_eqCluster : FSpec := ⟨[.val (.pair (.sl none (.pair (.int .i64) (.sl none (.pair (.int .i64) (.pair (.int .i64) (.pair (.int .i64) (.int .i64))))))) (.pair (.sl none (.pair (.int .i64) (.pair (.sl none (.pair (.int .i64) (.pair (.int .i64) (.int .i64)))) (.pair (.sl none (.pair (.int .i64) (.int .i64))) (.pair (.sl none (.pair (.int .i64) (.sl none (.pair (.int .i64) (.pair (.int .i64) (.pair (.int .i64) (.int .i64))))))) (.pair (.sl none (.pair (.int .i64) (.int .i64))) (.sl none (.int .i64)))))))) (.pair (.sl none (.one (.sl none (.pair (.int .i64) (.pair (.int .i64) (.pair (.int .i64) (.pair (.pair (.int .i64) (.int .i64)) (.sl none (.pair (.int .i64) (.int .i64)))))))))) (.pair (.sl none (.pair (.int .i64) (.pair (.sl none (.pair (.int .i64) (.pair (.int .i64) (.pair (.int .i64) (.pair (.int .i64) (.pair (.sl none (.int .i64)) (.sl none (.pair (.int .i64) (.int .i64))))))))) (.sl none (.pair (.int .i64) (.pair (.int .i64) (.pair (.int .i64) (.pair (.int .i64) (.int .i64))))))))) (.sl none (.pair (.int .i64) (.pair (.int .i64) (.pair (.int .i64) (.pair (.int .i64) (.pair (.int .i64) (.pair (.int .i64) (.pair (.int .i64) (.pair (.int .i64) (.int .i64)))))))))))))), .val (.pair (.sl none (.pair (.int .i64) (.sl none (.pair (.int .i64) (.pair (.int .i64) (.pair (.int .i64) (.int .i64))))))) (.pair (.sl none (.pair (.int .i64) (.pair (.sl none (.pair (.int .i64) (.pair (.int .i64) (.int .i64)))) (.pair (.sl none (.pair (.int .i64) (.int .i64))) (.pair (.sl none (.pair (.int .i64) (.sl none (.pair (.int .i64) (.pair (.int .i64) (.pair (.int .i64) (.int .i64))))))) (.pair (.sl none (.pair (.int .i64) (.int .i64))) (.sl none (.int .i64)))))))) (.pair (.sl none (.one (.sl none (.pair (.int .i64) (.pair (.int .i64) (.pair (.int .i64) (.pair (.pair (.int .i64) (.int .i64)) (.sl none (.pair (.int .i64) (.int .i64)))))))))) (.pair (.sl none (.pair (.int .i64) (.pair (.sl none (.pair (.int .i64) (.pair (.int .i64) (.pair (.int .i64) (.pair (.int .i64) (.pair (.sl none (.int .i64)) (.sl none (.pair (.int .i64) (.int .i64))))))))) (.sl none (.pair (.int .i64) (.pair (.int .i64) (.pair (.int .i64) (.pair (.int .i64) (.int .i64))))))))) (.sl none (.pair (.int .i64) (.pair (.int .i64) (.pair (.int .i64) (.pair (.int .i64) (.pair (.int .i64) (.pair (.int .i64) (.pair (.int .i64) (.pair (.int .i64) (.int .i64))))))))))))))], [.bool], m_laws_eqCluster⟩

/-! laws.FnExactMessageFault -/
def p_laws_FnExactMessageFault (n : Nat) (x : (((List (Int × (List (Int × (Int × (Int × Int)))))) × ((List (Int × ((List (Int × (Int × Int))) × ((List (Int × Int)) × ((List (Int × (List (Int × (Int × (Int × Int)))))) × ((List (Int × Int)) × (List Int))))))) × ((List (List (Int × (Int × (Int × ((Int × Int) × (List (Int × Int)))))))) × ((List (Int × ((List (Int × (Int × (Int × (Int × ((List Int) × (List (Int × Int)))))))) × (List (Int × (Int × (Int × (Int × Int)))))))) × (List (Int × (Int × (Int × (Int × (Int × (Int × (Int × (Int × Int))))))))))))) × (Int × (Int × (Int × (Int × (Int × (Int × (Int × (Int × Int)))))))))) : Option Bool :=
((m_laws_szCluster (x.1, (1048576 : Int))).bind fun r1 =>
(cond (decide (r1 < (0 : Int)))
 (some true)
 ((m_laws_toCluster x.1).bind fun r2 =>
 ((m_laws_toMessage x.2).bind fun r3 =>
 ((m_spec_MessageFault (r2, r3)).bind fun r4 =>
 ((m_laws_toCluster x.1).bind fun r5 =>
 ((m_laws_toMessage x.2).bind fun r6 =>
 ((m_impl_MessageFault (r5, r6)).bind fun r7 =>
 (cond (!(r7 == r4))
  (some false)
  ((m_laws_toCluster x.1).bind fun r8 =>
  ((m_laws_eqCluster (r5, r8)).bind fun r9 =>
  (cond (!r9)
   (some false)
   (some true)))))))))))))
def m_laws_FnExactMessageFault (x : (((List (Int × (List (Int × (Int × (Int × Int)))))) × ((List (Int × ((List (Int × (Int × Int))) × ((List (Int × Int)) × ((List (Int × (List (Int × (Int × (Int × Int)))))) × ((List (Int × Int)) × (List Int))))))) × ((List (List (Int × (Int × (Int × ((Int × Int) × (List (Int × Int)))))))) × ((List (Int × ((List (Int × (Int × (Int × (Int × ((List Int) × (List (Int × Int)))))))) × (List (Int × (Int × (Int × (Int × Int)))))))) × (List (Int × (Int × (Int × (Int × (Int × (Int × (Int × (Int × Int))))))))))))) × (Int × (Int × (Int × (Int × (Int × (Int × (Int × (Int × Int)))))))))) : Option Bool := p_laws_FnExactMessageFault FU x
def a_laws_FnExactMessageFault : Ann := .leaf
def S_laws_FnExactMessageFault : FSpec := ⟨[.val (.pair (.sl none (.pair (.int .i64) (.sl none (.pair (.int .i64) (.pair (.int .i64) (.pair (.int .i64) (.int .i64))))))) (.pair (.sl none (.pair (.int .i64) (.pair (.sl none (.pair (.int .i64) (.pair (.int .i64) (.int .i64)))) (.pair (.sl none (.pair (.int .i64) (.int .i64))) (.pair (.sl none (.pair (.int .i64) (.sl none (.pair (.int .i64) (.pair (.int .i64) (.pair (.int .i64) (.int .i64))))))) (.pair (.sl none (.pair (.int .i64) (.int .i64))) (.sl none (.int .i64)))))))) (.pair (.sl none (.one (.sl none (.pair (.int .i64) (.pair (.int .i64) (.pair (.int .i64) (.pair (.pair (.int .i64) (.int .i64)) (.sl none (.pair (.int .i64) (.int .i64)))))))))) (.pair (.sl none (.pair (.int .i64) (.pair (.sl none (.pair (.int .i64) (.pair (.int .i64) (.pair (.int .i64) (.pair (.int .i64) (.pair (.sl none (.int .i64)) (.sl none (.pair (.int .i64) (.int .i64))))))))) (.sl none (.pair (.int .i64) (.pair (.int .i64) (.pair (.int .i64) (.pair (.int .i64) (.int .i64))))))))) (.sl none (.pair (.int .i64) (.pair (.int .i64) (.pair (.int .i64) (.pair (.int .i64) (.pair (.int .i64) (.pair (.int .i64) (.pair (.int .i64) (.pair (.int .i64) (.int .i64)))))))))))))), .val (.pair (.int .i64) (.pair (.int .i64) (.pair (.int .i64) (.pair (.int .i64) (.pair (.int .i64) (.pair (.int .i64) (.pair (.int .i64) (.pair (.int .i64) (.int .i64)))))))))], [.bool], m_laws_FnExactMessageFault⟩

def T : Tab := [
  (2, ⟨false, 1, 8, [], 0, [.int .i64 0], some (.int .i64), [0]⟩),
  (3, ⟨false, 1, 8, [], 0, [.int .i64 0], some (.int .i64), [0]⟩),
  (22, ⟨false, 1, 24, [], 114, [.nil], some (.sl none (.one (.sl none (.pair (.int .i64) (.pair (.int .i64) (.pair (.int .i64) (.pair (.pair (.int .i64) (.int .i64)) (.sl none (.pair (.int .i64) (.int .i64)))))))))), []⟩),
  (23, ⟨false, 1, 24, [], 2, [.nil], some (.sl none (.int .i64)), []⟩),
  (25, ⟨false, 1, 24, [], 124, [.nil], some (.sl none (.one (.sl none (.pair (.int .i64) (.pair (.int .i64) (.pair (.int .i64) (.pair (.pair (.int .i64) (.int .i64)) (.sl none (.pair (.int .i64) (.int .i64)))))))))), []⟩),
  (38, ⟨false, 1, 24, [], 224, [.nil], some (.sl none (.pair (.int .i64) (.pair (.int .i64) (.pair (.int .i64) (.int .i64))))), []⟩),
  (40, ⟨true, 2, 32, [(0, 1, 2), (1, 1, 38)], 0, [.int .i64 0, .nil], some (.pair (.int .i64) (.sl none (.pair (.int .i64) (.pair (.int .i64) (.pair (.int .i64) (.int .i64)))))), []⟩),
  (45, ⟨false, 1, 24, [], 194, [.nil], some (.sl none (.pair (.int .i64) (.pair (.int .i64) (.pair (.int .i64) (.int .i64))))), []⟩),
  (47, ⟨true, 2, 32, [(0, 1, 2), (1, 1, 45)], 0, [.int .i64 0, .nil], some (.pair (.int .i64) (.sl none (.pair (.int .i64) (.pair (.int .i64) (.pair (.int .i64) (.int .i64)))))), []⟩),
  (60, ⟨false, 1, 24, [], 40, [.nil], some (.sl none (.pair (.int .i64) (.sl none (.pair (.int .i64) (.pair (.int .i64) (.pair (.int .i64) (.int .i64))))))), []⟩),
  (61, ⟨false, 1, 24, [], 88, [.nil], some (.sl none (.pair (.int .i64) (.pair (.sl none (.pair (.int .i64) (.pair (.int .i64) (.int .i64)))) (.pair (.sl none (.pair (.int .i64) (.int .i64))) (.pair (.sl none (.pair (.int .i64) (.sl none (.pair (.int .i64) (.pair (.int .i64) (.pair (.int .i64) (.int .i64))))))) (.pair (.sl none (.pair (.int .i64) (.int .i64))) (.sl none (.int .i64)))))))), []⟩),
  (62, ⟨false, 1, 24, [], 241, [.nil], some (.sl none (.pair (.int .i64) (.pair (.sl none (.pair (.int .i64) (.pair (.int .i64) (.pair (.int .i64) (.pair (.int .i64) (.pair (.sl none (.int .i64)) (.sl none (.pair (.int .i64) (.int .i64))))))))) (.sl none (.pair (.int .i64) (.pair (.int .i64) (.pair (.int .i64) (.pair (.int .i64) (.int .i64))))))))), []⟩),
  (63, ⟨false, 1, 24, [], 69, [.nil], some (.sl none (.pair (.int .i64) (.pair (.int .i64) (.pair (.int .i64) (.pair (.int .i64) (.pair (.int .i64) (.pair (.int .i64) (.pair (.int .i64) (.pair (.int .i64) (.int .i64)))))))))), []⟩),
  (65, ⟨true, 5, 120, [(0, 1, 60), (1, 1, 61), (2, 1, 22), (3, 1, 62), (4, 1, 63)], 0, [.nil, .nil, .nil, .nil, .nil], some (.pair (.sl none (.pair (.int .i64) (.sl none (.pair (.int .i64) (.pair (.int .i64) (.pair (.int .i64) (.int .i64))))))) (.pair (.sl none (.pair (.int .i64) (.pair (.sl none (.pair (.int .i64) (.pair (.int .i64) (.int .i64)))) (.pair (.sl none (.pair (.int .i64) (.int .i64))) (.pair (.sl none (.pair (.int .i64) (.sl none (.pair (.int .i64) (.pair (.int .i64) (.pair (.int .i64) (.int .i64))))))) (.pair (.sl none (.pair (.int .i64) (.int .i64))) (.sl none (.int .i64)))))))) (.pair (.sl none (.one (.sl none (.pair (.int .i64) (.pair (.int .i64) (.pair (.int .i64) (.pair (.pair (.int .i64) (.int .i64)) (.sl none (.pair (.int .i64) (.int .i64)))))))))) (.pair (.sl none (.pair (.int .i64) (.pair (.sl none (.pair (.int .i64) (.pair (.int .i64) (.pair (.int .i64) (.pair (.int .i64) (.pair (.sl none (.int .i64)) (.sl none (.pair (.int .i64) (.int .i64))))))))) (.sl none (.pair (.int .i64) (.pair (.int .i64) (.pair (.int .i64) (.pair (.int .i64) (.int .i64))))))))) (.sl none (.pair (.int .i64) (.pair (.int .i64) (.pair (.int .i64) (.pair (.int .i64) (.pair (.int .i64) (.pair (.int .i64) (.pair (.int .i64) (.pair (.int .i64) (.int .i64)))))))))))))), []⟩),
  (67, ⟨true, 2, 16, [(0, 1, 2), (1, 1, 2)], 0, [.int .i64 0, .int .i64 0], some (.pair (.int .i64) (.int .i64)), [0, 0]⟩),
  (69, ⟨true, 9, 72, [(0, 1, 2), (1, 1, 2), (2, 1, 2), (3, 1, 2), (4, 1, 2), (5, 1, 2), (6, 1, 2), (7, 2, 67)], 0, [.int .i64 0, .int .i64 0, .int .i64 0, .int .i64 0, .int .i64 0, .int .i64 0, .int .i64 0, .int .i64 0, .int .i64 0], some (.pair (.int .i64) (.pair (.int .i64) (.pair (.int .i64) (.pair (.int .i64) (.pair (.int .i64) (.pair (.int .i64) (.pair (.int .i64) (.pair (.int .i64) (.int .i64))))))))), [0, 0, 0, 0, 0, 0, 0, 0, 0]⟩),
  (72, ⟨false, 1, 24, [], 47, [.nil], some (.sl none (.pair (.int .i64) (.sl none (.pair (.int .i64) (.pair (.int .i64) (.pair (.int .i64) (.int .i64))))))), []⟩),
  (73, ⟨false, 1, 24, [], 94, [.nil], some (.sl none (.pair (.int .i64) (.pair (.sl none (.pair (.int .i64) (.pair (.int .i64) (.int .i64)))) (.pair (.sl none (.pair (.int .i64) (.int .i64))) (.pair (.sl none (.pair (.int .i64) (.sl none (.pair (.int .i64) (.pair (.int .i64) (.pair (.int .i64) (.int .i64))))))) (.pair (.sl none (.pair (.int .i64) (.int .i64))) (.sl none (.int .i64)))))))), []⟩),
  (74, ⟨false, 1, 24, [], 249, [.nil], some (.sl none (.pair (.int .i64) (.pair (.sl none (.pair (.int .i64) (.pair (.int .i64) (.pair (.int .i64) (.pair (.int .i64) (.pair (.sl none (.int .i64)) (.sl none (.pair (.int .i64) (.int .i64))))))))) (.sl none (.pair (.int .i64) (.pair (.int .i64) (.pair (.int .i64) (.pair (.int .i64) (.int .i64))))))))), []⟩),
  (75, ⟨false, 1, 24, [], 81, [.nil], some (.sl none (.pair (.int .i64) (.pair (.int .i64) (.pair (.int .i64) (.pair (.int .i64) (.pair (.int .i64) (.pair (.int .i64) (.pair (.int .i64) (.pair (.int .i64) (.int .i64)))))))))), []⟩),
  (77, ⟨true, 5, 120, [(0, 1, 72), (1, 1, 73), (2, 1, 25), (3, 1, 74), (4, 1, 75)], 0, [.nil, .nil, .nil, .nil, .nil], some (.pair (.sl none (.pair (.int .i64) (.sl none (.pair (.int .i64) (.pair (.int .i64) (.pair (.int .i64) (.int .i64))))))) (.pair (.sl none (.pair (.int .i64) (.pair (.sl none (.pair (.int .i64) (.pair (.int .i64) (.int .i64)))) (.pair (.sl none (.pair (.int .i64) (.int .i64))) (.pair (.sl none (.pair (.int .i64) (.sl none (.pair (.int .i64) (.pair (.int .i64) (.pair (.int .i64) (.int .i64))))))) (.pair (.sl none (.pair (.int .i64) (.int .i64))) (.sl none (.int .i64)))))))) (.pair (.sl none (.one (.sl none (.pair (.int .i64) (.pair (.int .i64) (.pair (.int .i64) (.pair (.pair (.int .i64) (.int .i64)) (.sl none (.pair (.int .i64) (.int .i64)))))))))) (.pair (.sl none (.pair (.int .i64) (.pair (.sl none (.pair (.int .i64) (.pair (.int .i64) (.pair (.int .i64) (.pair (.int .i64) (.pair (.sl none (.int .i64)) (.sl none (.pair (.int .i64) (.int .i64))))))))) (.sl none (.pair (.int .i64) (.pair (.int .i64) (.pair (.int .i64) (.pair (.int .i64) (.int .i64))))))))) (.sl none (.pair (.int .i64) (.pair (.int .i64) (.pair (.int .i64) (.pair (.int .i64) (.pair (.int .i64) (.pair (.int .i64) (.pair (.int .i64) (.pair (.int .i64) (.int .i64)))))))))))))), []⟩),
  (79, ⟨true, 2, 16, [(0, 1, 2), (1, 1, 2)], 0, [.int .i64 0, .int .i64 0], some (.pair (.int .i64) (.int .i64)), [0, 0]⟩),
  (81, ⟨true, 9, 72, [(0, 1, 2), (1, 1, 2), (2, 1, 2), (3, 1, 2), (4, 1, 2), (5, 1, 2), (6, 1, 2), (7, 2, 79)], 0, [.int .i64 0, .int .i64 0, .int .i64 0, .int .i64 0, .int .i64 0, .int .i64 0, .int .i64 0, .int .i64 0, .int .i64 0], some (.pair (.int .i64) (.pair (.int .i64) (.pair (.int .i64) (.pair (.int .i64) (.pair (.int .i64) (.pair (.int .i64) (.pair (.int .i64) (.pair (.int .i64) (.int .i64))))))))), [0, 0, 0, 0, 0, 0, 0, 0, 0]⟩),
  (85, ⟨false, 1, 24, [], 265, [.nil], some (.sl none (.pair (.int .i64) (.pair (.int .i64) (.int .i64)))), []⟩),
  (86, ⟨false, 1, 24, [], 267, [.nil], some (.sl none (.pair (.int .i64) (.int .i64))), []⟩),
  (88, ⟨true, 6, 128, [(0, 1, 2), (1, 1, 85), (2, 1, 86), (3, 1, 60), (4, 1, 86), (5, 1, 23)], 0, [.int .i64 0, .nil, .nil, .nil, .nil, .nil], some (.pair (.int .i64) (.pair (.sl none (.pair (.int .i64) (.pair (.int .i64) (.int .i64)))) (.pair (.sl none (.pair (.int .i64) (.int .i64))) (.pair (.sl none (.pair (.int .i64) (.sl none (.pair (.int .i64) (.pair (.int .i64) (.pair (.int .i64) (.int .i64))))))) (.pair (.sl none (.pair (.int .i64) (.int .i64))) (.sl none (.int .i64))))))), []⟩),
  (91, ⟨false, 1, 24, [], 263, [.nil], some (.sl none (.pair (.int .i64) (.pair (.int .i64) (.int .i64)))), []⟩),
  (92, ⟨false, 1, 24, [], 185, [.nil], some (.sl none (.pair (.int .i64) (.int .i64))), []⟩),
  (94, ⟨true, 6, 128, [(0, 1, 2), (1, 1, 91), (2, 1, 92), (3, 1, 72), (4, 1, 92), (5, 1, 23)], 0, [.int .i64 0, .nil, .nil, .nil, .nil, .nil], some (.pair (.int .i64) (.pair (.sl none (.pair (.int .i64) (.pair (.int .i64) (.int .i64)))) (.pair (.sl none (.pair (.int .i64) (.int .i64))) (.pair (.sl none (.pair (.int .i64) (.sl none (.pair (.int .i64) (.pair (.int .i64) (.pair (.int .i64) (.int .i64))))))) (.pair (.sl none (.pair (.int .i64) (.int .i64))) (.sl none (.int .i64))))))), []⟩),
  (112, ⟨false, 1, 24, [], 289, [.nil], some (.sl none (.pair (.int .i64) (.pair (.int .i64) (.pair (.int .i64) (.pair (.pair (.int .i64) (.int .i64)) (.sl none (.pair (.int .i64) (.int .i64)))))))), []⟩),
  (114, ⟨true, 1, 24, [(0, 1, 112)], 0, [.nil], some (.one (.sl none (.pair (.int .i64) (.pair (.int .i64) (.pair (.int .i64) (.pair (.pair (.int .i64) (.int .i64)) (.sl none (.pair (.int .i64) (.int .i64))))))))), []⟩),
  (115, ⟨false, 1, 24, [], 135, [.nil], some (.sl none (.pair (.int .i64) (.pair (.int .i64) (.pair (.int .i64) (.pair (.pair (.int .i64) (.int .i64)) (.sl none (.pair (.int .i64) (.int .i64)))))))), []⟩),
  (122, ⟨false, 1, 24, [], 79, [.nil], some (.sl none (.pair (.int .i64) (.int .i64))), []⟩),
  (124, ⟨true, 1, 24, [(0, 1, 115)], 0, [.nil], some (.one (.sl none (.pair (.int .i64) (.pair (.int .i64) (.pair (.int .i64) (.pair (.pair (.int .i64) (.int .i64)) (.sl none (.pair (.int .i64) (.int .i64))))))))), []⟩),
  (135, ⟨true, 6, 64, [(0, 1, 2), (1, 1, 2), (2, 1, 2), (3, 2, 79), (5, 1, 122)], 0, [.int .i64 0, .int .i64 0, .int .i64 0, .int .i64 0, .int .i64 0, .nil], some (.pair (.int .i64) (.pair (.int .i64) (.pair (.int .i64) (.pair (.pair (.int .i64) (.int .i64)) (.sl none (.pair (.int .i64) (.int .i64))))))), []⟩),
  (185, ⟨true, 2, 16, [(0, 1, 2), (1, 1, 2)], 0, [.int .i64 0, .int .i64 0], some (.pair (.int .i64) (.int .i64)), [0, 0]⟩),
  (194, ⟨true, 4, 32, [(0, 1, 2), (1, 1, 2), (2, 1, 2), (3, 1, 2)], 0, [.int .i64 0, .int .i64 0, .int .i64 0, .int .i64 0], some (.pair (.int .i64) (.pair (.int .i64) (.pair (.int .i64) (.int .i64)))), [0, 0, 0, 0]⟩),
  (224, ⟨true, 4, 32, [(0, 1, 2), (1, 1, 2), (2, 1, 2), (3, 1, 2)], 0, [.int .i64 0, .int .i64 0, .int .i64 0, .int .i64 0], some (.pair (.int .i64) (.pair (.int .i64) (.pair (.int .i64) (.int .i64)))), [0, 0, 0, 0]⟩),
  (238, ⟨false, 1, 24, [], 360, [.nil], some (.sl none (.pair (.int .i64) (.pair (.int .i64) (.pair (.int .i64) (.pair (.int .i64) (.pair (.sl none (.int .i64)) (.sl none (.pair (.int .i64) (.int .i64))))))))), []⟩),
  (239, ⟨false, 1, 24, [], 367, [.nil], some (.sl none (.pair (.int .i64) (.pair (.int .i64) (.pair (.int .i64) (.pair (.int .i64) (.int .i64)))))), []⟩),
  (241, ⟨true, 3, 56, [(0, 1, 2), (1, 1, 238), (2, 1, 239)], 0, [.int .i64 0, .nil, .nil], some (.pair (.int .i64) (.pair (.sl none (.pair (.int .i64) (.pair (.int .i64) (.pair (.int .i64) (.pair (.int .i64) (.pair (.sl none (.int .i64)) (.sl none (.pair (.int .i64) (.int .i64))))))))) (.sl none (.pair (.int .i64) (.pair (.int .i64) (.pair (.int .i64) (.pair (.int .i64) (.int .i64)))))))), []⟩),
  (246, ⟨false, 1, 24, [], 362, [.nil], some (.sl none (.pair (.int .i64) (.pair (.int .i64) (.pair (.int .i64) (.pair (.int .i64) (.pair (.sl none (.int .i64)) (.sl none (.pair (.int .i64) (.int .i64))))))))), []⟩),
  (247, ⟨false, 1, 24, [], 365, [.nil], some (.sl none (.pair (.int .i64) (.pair (.int .i64) (.pair (.int .i64) (.pair (.int .i64) (.int .i64)))))), []⟩),
  (249, ⟨true, 3, 56, [(0, 1, 2), (1, 1, 246), (2, 1, 247)], 0, [.int .i64 0, .nil, .nil], some (.pair (.int .i64) (.pair (.sl none (.pair (.int .i64) (.pair (.int .i64) (.pair (.int .i64) (.pair (.int .i64) (.pair (.sl none (.int .i64)) (.sl none (.pair (.int .i64) (.int .i64))))))))) (.sl none (.pair (.int .i64) (.pair (.int .i64) (.pair (.int .i64) (.pair (.int .i64) (.int .i64)))))))), []⟩),
  (263, ⟨true, 3, 24, [(0, 1, 2), (1, 1, 2), (2, 1, 2)], 0, [.int .i64 0, .int .i64 0, .int .i64 0], some (.pair (.int .i64) (.pair (.int .i64) (.int .i64))), [0, 0, 0]⟩),
  (265, ⟨true, 3, 24, [(0, 1, 2), (1, 1, 2), (2, 1, 2)], 0, [.int .i64 0, .int .i64 0, .int .i64 0], some (.pair (.int .i64) (.pair (.int .i64) (.int .i64))), [0, 0, 0]⟩),
  (267, ⟨true, 2, 16, [(0, 1, 2), (1, 1, 2)], 0, [.int .i64 0, .int .i64 0], some (.pair (.int .i64) (.int .i64)), [0, 0]⟩),
  (287, ⟨false, 1, 24, [], 67, [.nil], some (.sl none (.pair (.int .i64) (.int .i64))), []⟩),
  (289, ⟨true, 6, 64, [(0, 1, 2), (1, 1, 2), (2, 1, 2), (3, 2, 67), (5, 1, 287)], 0, [.int .i64 0, .int .i64 0, .int .i64 0, .int .i64 0, .int .i64 0, .nil], some (.pair (.int .i64) (.pair (.int .i64) (.pair (.int .i64) (.pair (.pair (.int .i64) (.int .i64)) (.sl none (.pair (.int .i64) (.int .i64))))))), []⟩),
  (360, ⟨true, 6, 80, [(0, 1, 2), (1, 1, 2), (2, 1, 2), (3, 1, 2), (4, 1, 23), (5, 1, 287)], 0, [.int .i64 0, .int .i64 0, .int .i64 0, .int .i64 0, .nil, .nil], some (.pair (.int .i64) (.pair (.int .i64) (.pair (.int .i64) (.pair (.int .i64) (.pair (.sl none (.int .i64)) (.sl none (.pair (.int .i64) (.int .i64)))))))), []⟩),
  (362, ⟨true, 6, 80, [(0, 1, 2), (1, 1, 2), (2, 1, 2), (3, 1, 2), (4, 1, 23), (5, 1, 122)], 0, [.int .i64 0, .int .i64 0, .int .i64 0, .int .i64 0, .nil, .nil], some (.pair (.int .i64) (.pair (.int .i64) (.pair (.int .i64) (.pair (.int .i64) (.pair (.sl none (.int .i64)) (.sl none (.pair (.int .i64) (.int .i64)))))))), []⟩),
  (365, ⟨true, 5, 40, [(0, 1, 2), (1, 1, 2), (2, 1, 2), (3, 1, 2), (4, 1, 2)], 0, [.int .i64 0, .int .i64 0, .int .i64 0, .int .i64 0, .int .i64 0], some (.pair (.int .i64) (.pair (.int .i64) (.pair (.int .i64) (.pair (.int .i64) (.int .i64))))), [0, 0, 0, 0, 0]⟩),
  (367, ⟨true, 5, 40, [(0, 1, 2), (1, 1, 2), (2, 1, 2), (3, 1, 2), (4, 1, 2)], 0, [.int .i64 0, .int .i64 0, .int .i64 0, .int .i64 0, .int .i64 0], some (.pair (.int .i64) (.pair (.int .i64) (.pair (.int .i64) (.pair (.int .i64) (.int .i64))))), [0, 0, 0, 0, 0]⟩)]
def G_laws_szLegS : Env := (85, S_laws_szLegS) :: []
def G_laws_szContract : Env := (23, S_laws_szContract) :: G_laws_szLegS
def G_laws_szContractS : Env := (96, S_laws_szContractS) :: G_laws_szContract
def G_laws_szBalanceS : Env := (116, S_laws_szBalanceS) :: G_laws_szContractS
def G_laws_szMarkS : Env := (117, S_laws_szMarkS) :: G_laws_szBalanceS
def G_laws_szInt64S : Env := (118, S_laws_szInt64S) :: G_laws_szMarkS
def G_laws_szShard : Env := (40, S_laws_szShard) :: G_laws_szInt64S
def G_laws_szShardS : Env := (97, S_laws_szShardS) :: G_laws_szShard
def G_laws_szVoteS : Env := (301, S_laws_szVoteS) :: G_laws_szShardS
def G_laws_szSlot : Env := (247, S_laws_szSlot) :: G_laws_szVoteS
def G_laws_szSlotS : Env := (151, S_laws_szSlotS) :: G_laws_szSlot
def G_laws_szAcceptor : Env := (59, S_laws_szAcceptor) :: G_laws_szSlotS
def G_laws_szAcceptorS : Env := (11, S_laws_szAcceptorS) :: G_laws_szAcceptor
def G_laws_szTry : Env := (329, S_laws_szTry) :: G_laws_szAcceptorS
def G_laws_szTryS : Env := (271, S_laws_szTryS) :: G_laws_szTry
def G_laws_szHeardS : Env := (272, S_laws_szHeardS) :: G_laws_szTryS
def G_laws_szLeader : Env := (197, S_laws_szLeader) :: G_laws_szHeardS
def G_laws_szLeaderS : Env := (98, S_laws_szLeaderS) :: G_laws_szLeader
def G_laws_szMessageS : Env := (99, S_laws_szMessageS) :: G_laws_szLeaderS
def G_laws_szCluster : Env := (34, S_laws_szCluster) :: G_laws_szMessageS
def G_laws_toLeg : Env := (185, S_laws_toLeg) :: G_laws_szCluster
def G_laws_toLegS : Env := (89, S_laws_toLegS) :: G_laws_toLeg
def G_laws_toContract : Env := (25, S_laws_toContract) :: G_laws_toLegS
def G_laws_toContractS : Env := (101, S_laws_toContractS) :: G_laws_toContract
def G_laws_toBalance : Env := (218, S_laws_toBalance) :: G_laws_toContractS
def G_laws_toBalanceS : Env := (122, S_laws_toBalanceS) :: G_laws_toBalance
def G_laws_toMark : Env := (219, S_laws_toMark) :: G_laws_toBalanceS
def G_laws_toMarkS : Env := (123, S_laws_toMarkS) :: G_laws_toMark
def G_laws_toInt64S : Env := (14, S_laws_toInt64S) :: G_laws_toMarkS
def G_laws_toShard : Env := (42, S_laws_toShard) :: G_laws_toInt64S
def G_laws_toShardS : Env := (102, S_laws_toShardS) :: G_laws_toShard
def G_laws_toVote : Env := (105, S_laws_toVote) :: G_laws_toShardS
def G_laws_toVoteS : Env := (303, S_laws_toVoteS) :: G_laws_toVote
def G_laws_toSlot : Env := (252, S_laws_toSlot) :: G_laws_toVoteS
def G_laws_toSlotS : Env := (161, S_laws_toSlotS) :: G_laws_toSlot
def G_laws_toAcceptor : Env := (69, S_laws_toAcceptor) :: G_laws_toSlotS
def G_laws_toAcceptorS : Env := (13, S_laws_toAcceptorS) :: G_laws_toAcceptor
def G_laws_toTry : Env := (330, S_laws_toTry) :: G_laws_toAcceptorS
def G_laws_toTryS : Env := (274, S_laws_toTryS) :: G_laws_toTry
def G_laws_toHeard : Env := (331, S_laws_toHeard) :: G_laws_toTryS
def G_laws_toHeardS : Env := (275, S_laws_toHeardS) :: G_laws_toHeard
def G_laws_toLeader : Env := (203, S_laws_toLeader) :: G_laws_toHeardS
def G_laws_toLeaderS : Env := (103, S_laws_toLeaderS) :: G_laws_toLeader
def G_laws_toMessage : Env := (37, S_laws_toMessage) :: G_laws_toLeaderS
def G_laws_toMessageS : Env := (104, S_laws_toMessageS) :: G_laws_toMessage
def G_laws_toCluster : Env := (36, S_laws_toCluster) :: G_laws_toMessageS
def G_spec_l1In : Env := (63, S_spec_l1In) :: G_laws_toCluster
def G_spec_l11Ends : Env := (198, S_spec_l11Ends) :: G_spec_l1In
def G_spec_l11Find : Env := (199, S_spec_l11Find) :: G_spec_l11Ends
def G_spec_l1Put : Env := (264, S_spec_l1Put) :: G_spec_l11Find
def G_spec_l1Shards : Env := (183, S_spec_l1Shards) :: G_spec_l1Put
def G_spec_l1Has : Env := (273, S_spec_l1Has) :: G_spec_l1Shards
def G_spec_l11Has : Env := (200, S_spec_l11Has) :: G_spec_l1Has
def G_spec_l8Ballot : Env := (61, S_spec_l8Ballot) :: G_spec_l11Has
def G_spec_l8Value : Env := (62, S_spec_l8Value) :: G_spec_l8Ballot
def G_spec_l8None : Env := (159, S_spec_l8None) :: G_spec_l8Value
def G_spec_l11Right : Env := (201, S_spec_l11Right) :: G_spec_l8None
def G_spec_l11Bare : Env := (202, S_spec_l11Bare) :: G_spec_l11Right
def G_spec_l11Message : Env := (100, S_spec_l11Message) :: G_spec_l11Bare
def G_spec_MessageFault : Env := (35, S_spec_MessageFault) :: G_spec_l11Message
def G_impl_within : Env := (106, S_impl_within) :: G_spec_MessageFault
def G_impl_size_impl_Shard : Env := (276, S_impl_size_impl_Shard) :: G_impl_within
def G_impl_isPlaceOf_impl_Shard : Env := (204, S_impl_isPlaceOf_impl_Shard) :: G_impl_size_impl_Shard
def G_impl_size_impl_Acceptor : Env := (76, S_impl_size_impl_Acceptor) :: G_impl_isPlaceOf_impl_Shard
def G_impl_isPlaceOf_impl_Acceptor : Env := (205, S_impl_isPlaceOf_impl_Acceptor) :: G_impl_size_impl_Acceptor
def G_impl_size_impl_Leader : Env := (277, S_impl_size_impl_Leader) :: G_impl_isPlaceOf_impl_Acceptor
def G_impl_isPlaceOf_impl_Leader : Env := (206, S_impl_isPlaceOf_impl_Leader) :: G_impl_size_impl_Leader
def G_impl_Cluster_isTo : Env := (107, S_impl_Cluster_isTo) :: G_impl_isPlaceOf_impl_Leader
def G_impl_Cluster_isFrom : Env := (108, S_impl_Cluster_isFrom) :: G_impl_Cluster_isTo
def G_impl_Cluster_contract : Env := (109, S_impl_Cluster_contract) :: G_impl_Cluster_isFrom
def G_impl_legsAt : Env := (141, S_impl_legsAt) :: G_impl_Cluster_contract
def G_impl_Cluster_has : Env := (209, S_impl_Cluster_has) :: G_impl_legsAt
def G_impl_isOutcome : Env := (127, S_impl_isOutcome) :: G_impl_Cluster_has
def G_impl_isBallot : Env := (73, S_impl_isBallot) :: G_impl_isOutcome
def G_impl_isValue : Env := (74, S_impl_isValue) :: G_impl_isBallot
def G_impl_noVote : Env := (173, S_impl_noVote) :: G_impl_isValue
def G_impl_isVote : Env := (174, S_impl_isVote) :: G_impl_noVote
def G_impl_Cluster_rangesOk : Env := (110, S_impl_Cluster_rangesOk) :: G_impl_isVote
def G_impl_Message_plain : Env := (111, S_impl_Message_plain) :: G_impl_Cluster_rangesOk
def G_impl_MessageFault : Env := (38, S_impl_MessageFault) :: G_impl_Message_plain
def G_laws_eqLeg : Env := (193, S_laws_eqLeg) :: G_impl_MessageFault
def G_laws_eqLegS : Env := (92, S_laws_eqLegS) :: G_laws_eqLeg
def G_laws_eqContract : Env := (28, S_laws_eqContract) :: G_laws_eqLegS
def G_laws_eqContractS : Env := (112, S_laws_eqContractS) :: G_laws_eqContract
def G_laws_eqBalance : Env := (231, S_laws_eqBalance) :: G_laws_eqContractS
def G_laws_eqBalanceS : Env := (133, S_laws_eqBalanceS) :: G_laws_eqBalance
def G_laws_eqMark : Env := (232, S_laws_eqMark) :: G_laws_eqBalanceS
def G_laws_eqMarkS : Env := (134, S_laws_eqMarkS) :: G_laws_eqMark
def G_laws_eqInt64S : Env := (18, S_laws_eqInt64S) :: G_laws_eqMarkS
def G_laws_eqShard : Env := (44, S_laws_eqShard) :: G_laws_eqInt64S
def G_laws_eqShardS : Env := (113, S_laws_eqShardS) :: G_laws_eqShard
def G_laws_eqVote : Env := (280, S_laws_eqVote) :: G_laws_eqShardS
def G_laws_eqVoteS : Env := (310, S_laws_eqVoteS) :: G_laws_eqVote
def G_laws_eqSlot : Env := (261, S_laws_eqSlot) :: G_laws_eqVoteS
def G_laws_eqSlotS : Env := (177, S_laws_eqSlotS) :: G_laws_eqSlot
def G_laws_eqAcceptor : Env := (82, S_laws_eqAcceptor) :: G_laws_eqSlotS
def G_laws_eqAcceptorS : Env := (17, S_laws_eqAcceptorS) :: G_laws_eqAcceptor
def G_laws_eqTry : Env := (332, S_laws_eqTry) :: G_laws_eqAcceptorS
def G_laws_eqTryS : Env := (278, S_laws_eqTryS) :: G_laws_eqTry
def G_laws_eqHeard : Env := (333, S_laws_eqHeard) :: G_laws_eqTryS
def G_laws_eqHeardS : Env := (279, S_laws_eqHeardS) :: G_laws_eqHeard
def G_laws_eqLeader : Env := (210, S_laws_eqLeader) :: G_laws_eqHeardS
def G_laws_eqLeaderS : Env := (114, S_laws_eqLeaderS) :: G_laws_eqLeader
def G_laws_eqMessage : Env := (211, S_laws_eqMessage) :: G_laws_eqLeaderS
def G_laws_eqMessageS : Env := (115, S_laws_eqMessageS) :: G_laws_eqMessage
def G_laws_eqCluster : Env := (39, S_laws_eqCluster) :: G_laws_eqMessageS
def G_laws_FnExactMessageFault : Env := (6, S_laws_FnExactMessageFault) :: G_laws_eqCluster
end
end Go.RvP
