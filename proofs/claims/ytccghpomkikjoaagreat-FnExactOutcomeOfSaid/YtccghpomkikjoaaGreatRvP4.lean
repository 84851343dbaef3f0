/- The plain functions that the evaluator comes to, for FnExactOutcomeOf. No condition. -/
import Derived.Test.YtccghpomkikjoaaGreatRvL
import Derived.Test.YtccghpomkikjoaaGreatRvS
import Derived.Test.YtccghpomkikjoaaGreatRvT
namespace Go.RvP
open Go Go.Rv
noncomputable section
/-! laws.szVoteS -/
def p_laws_szVoteS (n : Nat) (x : ((List (Int × Int)) × Int)) : Option Int :=
(cond (decide ((IntKind.wrap .i64 (x.2 - (lenI x.1))) < (0 : Int)))
 (some (-1 : Int))
 (some (IntKind.wrap .i64 (x.2 - (lenI x.1)))))
def m_laws_szVoteS (x : ((List (Int × Int)) × Int)) : Option Int := p_laws_szVoteS FU x
def a_laws_szVoteS : Ann := .leaf
def S_laws_szVoteS : FSpec := ⟨[.val (.sl none (.pair (.int .i64) (.int .i64))), .val (.int .i64)], [(.int .i64)], m_laws_szVoteS⟩

/-! laws.szSlot -/
def p_laws_szSlot (n : Nat) (x : ((Int × (Int × (Int × ((Int × Int) × (List (Int × Int)))))) × Int)) : Option Int :=
((m_laws_szVoteS (x.1.2.2.2.2, x.2)).bind fun r1 =>
(cond (decide (r1 < (0 : Int)))
 (some (-1 : Int))
 (some r1)))
def m_laws_szSlot (x : ((Int × (Int × (Int × ((Int × Int) × (List (Int × Int)))))) × Int)) : Option Int := p_laws_szSlot FU x
def a_laws_szSlot : Ann := .leaf
def S_laws_szSlot : FSpec := ⟨[.val (.pair (.int .i64) (.pair (.int .i64) (.pair (.int .i64) (.pair (.pair (.int .i64) (.int .i64)) (.sl none (.pair (.int .i64) (.int .i64))))))), .val (.int .i64)], [(.int .i64)], m_laws_szSlot⟩

/-! laws.szSlotS -/
def l_laws_szSlotS_1 (n : Nat) (x_1 : (List (Int × (Int × (Int × ((Int × Int) × (List (Int × Int)))))))) (z0 : (Int × Int)) : Option Int :=
(lp (fun rec5 (z4 : (Int × Int)) =>
 (cond (decide (z4.2 < (lenI x_1)))
  ((geti x_1 z4.2).bind fun y6 =>
  ((m_laws_szSlot (y6, z4.1)).bind fun r7 =>
  (cond (decide (r7 < (0 : Int)))
   (some (-1 : Int))
   (rec5 (r7, IntKind.wrap .i64 (z4.2 + (1 : Int)))))))
  (some z4.1))) n z0)
def p_laws_szSlotS (n : Nat) (x : ((List (Int × (Int × (Int × ((Int × Int) × (List (Int × Int))))))) × Int)) : Option Int :=
(cond (decide ((IntKind.wrap .i64 (x.2 - (lenI x.1))) < (0 : Int)))
 (some (-1 : Int))
 (l_laws_szSlotS_1 n x.1 (IntKind.wrap .i64 (x.2 - (lenI x.1)), (0 : Int))))
def m_laws_szSlotS (x : ((List (Int × (Int × (Int × ((Int × Int) × (List (Int × Int))))))) × Int)) : Option Int := p_laws_szSlotS FU x
def a_laws_szSlotS : Ann := (.node .leaf (.node .leaf (.node .leaf (.node (.node .leaf (.loop [.slot 1 (.int .i64), .slot 5 (.int .i64)] [4, 12, 13, 14, 15, 16, 17, 18, 19, 20, 21, 22, 23, 24, 25] .leaf)) .leaf))))
def S_laws_szSlotS : FSpec := ⟨[.val (.sl none (.pair (.int .i64) (.pair (.int .i64) (.pair (.int .i64) (.pair (.pair (.int .i64) (.int .i64)) (.sl none (.pair (.int .i64) (.int .i64)))))))), .val (.int .i64)], [(.int .i64)], m_laws_szSlotS⟩

/-! laws.szAcceptor -/
def p_laws_szAcceptor (n : Nat) (x : ((List (Int × (Int × (Int × ((Int × Int) × (List (Int × Int))))))) × Int)) : Option Int :=
((m_laws_szSlotS (x.1, x.2)).bind fun r1 =>
(cond (decide (r1 < (0 : Int)))
 (some (-1 : Int))
 (some r1)))
def m_laws_szAcceptor (x : ((List (Int × (Int × (Int × ((Int × Int) × (List (Int × Int))))))) × Int)) : Option Int := p_laws_szAcceptor FU x
def a_laws_szAcceptor : Ann := .leaf
def S_laws_szAcceptor : FSpec := ⟨[.val (.one (.sl none (.pair (.int .i64) (.pair (.int .i64) (.pair (.int .i64) (.pair (.pair (.int .i64) (.int .i64)) (.sl none (.pair (.int .i64) (.int .i64))))))))), .val (.int .i64)], [(.int .i64)], m_laws_szAcceptor⟩

/-! laws.szAcceptorS -/
def l_laws_szAcceptorS_1 (n : Nat) (x_1 : (List (List (Int × (Int × (Int × ((Int × Int) × (List (Int × Int))))))))) (z0 : (Int × Int)) : Option Int :=
(lp (fun rec5 (z4 : (Int × Int)) =>
 (cond (decide (z4.2 < (lenI x_1)))
  ((geti x_1 z4.2).bind fun y6 =>
  ((m_laws_szAcceptor (y6, z4.1)).bind fun r7 =>
  (cond (decide (r7 < (0 : Int)))
   (some (-1 : Int))
   (rec5 (r7, IntKind.wrap .i64 (z4.2 + (1 : Int)))))))
  (some z4.1))) n z0)
def p_laws_szAcceptorS (n : Nat) (x : ((List (List (Int × (Int × (Int × ((Int × Int) × (List (Int × Int)))))))) × Int)) : Option Int :=
(cond (decide ((IntKind.wrap .i64 (x.2 - (lenI x.1))) < (0 : Int)))
 (some (-1 : Int))
 (l_laws_szAcceptorS_1 n x.1 (IntKind.wrap .i64 (x.2 - (lenI x.1)), (0 : Int))))
def m_laws_szAcceptorS (x : ((List (List (Int × (Int × (Int × ((Int × Int) × (List (Int × Int)))))))) × Int)) : Option Int := p_laws_szAcceptorS FU x
def a_laws_szAcceptorS : Ann := (.node .leaf (.node .leaf (.node .leaf (.node (.node .leaf (.loop [.slot 1 (.int .i64), .slot 5 (.int .i64)] [4, 12, 13, 14, 15, 16, 17, 18, 19, 20, 21, 22, 23, 24, 25] .leaf)) .leaf))))
def S_laws_szAcceptorS : FSpec := ⟨[.val (.sl none (.one (.sl none (.pair (.int .i64) (.pair (.int .i64) (.pair (.int .i64) (.pair (.pair (.int .i64) (.int .i64)) (.sl none (.pair (.int .i64) (.int .i64)))))))))), .val (.int .i64)], [(.int .i64)], m_laws_szAcceptorS⟩

/-! laws.szLegS -/
def p_laws_szLegS (n : Nat) (x : ((List (Int × (Int × (Int × Int)))) × Int)) : Option Int :=
(cond (decide ((IntKind.wrap .i64 (x.2 - (lenI x.1))) < (0 : Int)))
 (some (-1 : Int))
 (some (IntKind.wrap .i64 (x.2 - (lenI x.1)))))
def m_laws_szLegS (x : ((List (Int × (Int × (Int × Int)))) × Int)) : Option Int := p_laws_szLegS FU x
def a_laws_szLegS : Ann := .leaf
def S_laws_szLegS : FSpec := ⟨[.val (.sl none (.pair (.int .i64) (.pair (.int .i64) (.pair (.int .i64) (.int .i64))))), .val (.int .i64)], [(.int .i64)], m_laws_szLegS⟩

/-! laws.szContract -/
def p_laws_szContract (n : Nat) (x : ((Int × (List (Int × (Int × (Int × Int))))) × Int)) : Option Int :=
((m_laws_szLegS (x.1.2, x.2)).bind fun r1 =>
(cond (decide (r1 < (0 : Int)))
 (some (-1 : Int))
 (some r1)))
def m_laws_szContract (x : ((Int × (List (Int × (Int × (Int × Int))))) × Int)) : Option Int := p_laws_szContract FU x
def a_laws_szContract : Ann := .leaf
def S_laws_szContract : FSpec := ⟨[.val (.pair (.int .i64) (.sl none (.pair (.int .i64) (.pair (.int .i64) (.pair (.int .i64) (.int .i64)))))), .val (.int .i64)], [(.int .i64)], m_laws_szContract⟩

/-! laws.toVote -/
def p_laws_toVote (n : Nat) (x : (Int × Int)) : Option (Int × Int) :=
some x
def m_laws_toVote (x : (Int × Int)) : Option (Int × Int) := p_laws_toVote FU x
def a_laws_toVote : Ann := .leaf
def S_laws_toVote : FSpec := ⟨[.val (.pair (.int .i64) (.int .i64))], [(.pair (.int .i64) (.int .i64))], m_laws_toVote⟩

/-! laws.toVoteS -/
def l_laws_toVoteS_1 (n : Nat) (x : (List (Int × Int))) (z0 : (Int × (List (Int × Int)))) : Option (List (Int × Int)) :=
(lp (fun rec10 (z9 : (Int × (List (Int × Int)))) =>
 (cond (decide (z9.1 < (lenI x)))
  ((geti x z9.1).bind fun y11 =>
  ((m_laws_toVote y11).bind fun r12 =>
  ((geti z9.2 z9.1).bind fun _ =>
  ((z9.2[z9.1.toNat]?).bind fun y13 =>
  rec10 (IntKind.wrap .i64 (z9.1 + (1 : Int)), (z9.2.set z9.1.toNat r12))))))
  (some z9.2))) n z0)
def p_laws_toVoteS (n : Nat) (x : (List (Int × Int))) : Option (List (Int × Int)) :=
(if (lenI x) = (lenI x) then (if 0 ≤ (lenI x) then chk (Nat.ble (16 * (lenI x).toNat) maxBytes)
(l_laws_toVoteS_1 n x ((0 : Int), (List.replicate (lenI x).toNat ((0 : Int), (0 : Int))))) else none) else none)
def m_laws_toVoteS (x : (List (Int × Int))) : Option (List (Int × Int)) := p_laws_toVoteS FU x
def a_laws_toVoteS : Ann := (.node .leaf (.node .leaf (.node (.node .leaf (.loop [.slot 4 (.int .i64), .row 0 79 (.pair (.int .i64) (.int .i64))] [8, 9, 10, 11, 12, 13, 14, 15, 16, 17, 18, 19, 20, 21] .leaf)) .leaf)))
def S_laws_toVoteS : FSpec := ⟨[.val (.sl none (.pair (.int .i64) (.int .i64)))], [(.sl (some 79) (.pair (.int .i64) (.int .i64)))], m_laws_toVoteS⟩

/-! laws.toSlot -/
def p_laws_toSlot (n : Nat) (x : (Int × (Int × (Int × ((Int × Int) × (List (Int × Int))))))) : Option (Int × (Int × (Int × ((Int × Int) × (List (Int × Int)))))) :=
((m_laws_toVote x.2.2.2.1).bind fun r1 =>
((m_laws_toVoteS x.2.2.2.2).bind fun r2 =>
some (x.1, (x.2.1, (x.2.2.1, (r1, r2))))))
def m_laws_toSlot (x : (Int × (Int × (Int × ((Int × Int) × (List (Int × Int))))))) : Option (Int × (Int × (Int × ((Int × Int) × (List (Int × Int)))))) := p_laws_toSlot FU x
def a_laws_toSlot : Ann := .leaf
def S_laws_toSlot : FSpec := ⟨[.val (.pair (.int .i64) (.pair (.int .i64) (.pair (.int .i64) (.pair (.pair (.int .i64) (.int .i64)) (.sl none (.pair (.int .i64) (.int .i64)))))))], [(.pair (.int .i64) (.pair (.int .i64) (.pair (.int .i64) (.pair (.pair (.int .i64) (.int .i64)) (.sl (some 79) (.pair (.int .i64) (.int .i64)))))))], m_laws_toSlot⟩

/-! laws.toSlotS -/
def l_laws_toSlotS_1 (n : Nat) (x : (List (Int × (Int × (Int × ((Int × Int) × (List (Int × Int)))))))) (z0 : (Int × (List (Int × (Int × (Int × ((Int × Int) × (List (Int × Int))))))))) : Option (List (Int × (Int × (Int × ((Int × Int) × (List (Int × Int))))))) :=
(lp (fun rec8 (z7 : (Int × (List (Int × (Int × (Int × ((Int × Int) × (List (Int × Int))))))))) =>
 (cond (decide (z7.1 < (lenI x)))
  ((geti x z7.1).bind fun y9 =>
  ((m_laws_toSlot y9).bind fun r10 =>
  ((geti z7.2 z7.1).bind fun _ =>
  ((z7.2[z7.1.toNat]?).bind fun _ =>
  rec8 (IntKind.wrap .i64 (z7.1 + (1 : Int)), (z7.2.set z7.1.toNat r10))))))
  (some z7.2))) n z0)
def p_laws_toSlotS (n : Nat) (x : (List (Int × (Int × (Int × ((Int × Int) × (List (Int × Int)))))))) : Option (List (Int × (Int × (Int × ((Int × Int) × (List (Int × Int))))))) :=
(if (lenI x) = (lenI x) then (if 0 ≤ (lenI x) then chk (Nat.ble (64 * (lenI x).toNat) maxBytes)
(l_laws_toSlotS_1 n x ((0 : Int), (List.replicate (lenI x).toNat ((0 : Int), ((0 : Int), ((0 : Int), (((0 : Int), (0 : Int)), []))))))) else none) else none)
def m_laws_toSlotS (x : (List (Int × (Int × (Int × ((Int × Int) × (List (Int × Int)))))))) : Option (List (Int × (Int × (Int × ((Int × Int) × (List (Int × Int))))))) := p_laws_toSlotS FU x
def a_laws_toSlotS : Ann := (.node .leaf (.node (.own 7 (.pair (.int .i64) (.pair (.int .i64) (.pair (.int .i64) (.pair (.pair (.int .i64) (.int .i64)) (.sl (some 79) (.pair (.int .i64) (.int .i64))))))) .leaf) (.node (.node .leaf (.loop [.slot 4 (.int .i64), .row 0 135 (.pair (.int .i64) (.pair (.int .i64) (.pair (.int .i64) (.pair (.pair (.int .i64) (.int .i64)) (.sl (some 79) (.pair (.int .i64) (.int .i64)))))))] [8, 9, 10, 11, 12, 13, 14, 15, 16, 17, 18, 19, 20, 21] .leaf)) .leaf)))
def S_laws_toSlotS : FSpec := ⟨[.val (.sl none (.pair (.int .i64) (.pair (.int .i64) (.pair (.int .i64) (.pair (.pair (.int .i64) (.int .i64)) (.sl none (.pair (.int .i64) (.int .i64))))))))], [(.sl (some 135) (.pair (.int .i64) (.pair (.int .i64) (.pair (.int .i64) (.pair (.pair (.int .i64) (.int .i64)) (.sl (some 79) (.pair (.int .i64) (.int .i64))))))))], m_laws_toSlotS⟩

/-! laws.toAcceptor -/
def p_laws_toAcceptor (n : Nat) (x : (List (Int × (Int × (Int × ((Int × Int) × (List (Int × Int)))))))) : Option (List (Int × (Int × (Int × ((Int × Int) × (List (Int × Int))))))) :=
((m_laws_toSlotS x).bind fun r1 =>
some r1)
def m_laws_toAcceptor (x : (List (Int × (Int × (Int × ((Int × Int) × (List (Int × Int)))))))) : Option (List (Int × (Int × (Int × ((Int × Int) × (List (Int × Int))))))) := p_laws_toAcceptor FU x
def a_laws_toAcceptor : Ann := .leaf
def S_laws_toAcceptor : FSpec := ⟨[.val (.one (.sl none (.pair (.int .i64) (.pair (.int .i64) (.pair (.int .i64) (.pair (.pair (.int .i64) (.int .i64)) (.sl none (.pair (.int .i64) (.int .i64)))))))))], [(.one (.sl (some 135) (.pair (.int .i64) (.pair (.int .i64) (.pair (.int .i64) (.pair (.pair (.int .i64) (.int .i64)) (.sl (some 79) (.pair (.int .i64) (.int .i64)))))))))], m_laws_toAcceptor⟩

/-! laws.toAcceptorS -/
def l_laws_toAcceptorS_1 (n : Nat) (x : (List (List (Int × (Int × (Int × ((Int × Int) × (List (Int × Int))))))))) (z0 : (Int × (List (List (Int × (Int × (Int × ((Int × Int) × (List (Int × Int)))))))))) : Option (List (List (Int × (Int × (Int × ((Int × Int) × (List (Int × Int)))))))) :=
(lp (fun rec8 (z7 : (Int × (List (List (Int × (Int × (Int × ((Int × Int) × (List (Int × Int)))))))))) =>
 (cond (decide (z7.1 < (lenI x)))
  ((geti x z7.1).bind fun y9 =>
  ((m_laws_toAcceptor y9).bind fun r10 =>
  ((geti z7.2 z7.1).bind fun _ =>
  ((z7.2[z7.1.toNat]?).bind fun _ =>
  rec8 (IntKind.wrap .i64 (z7.1 + (1 : Int)), (z7.2.set z7.1.toNat r10))))))
  (some z7.2))) n z0)
def p_laws_toAcceptorS (n : Nat) (x : (List (List (Int × (Int × (Int × ((Int × Int) × (List (Int × Int))))))))) : Option (List (List (Int × (Int × (Int × ((Int × Int) × (List (Int × Int)))))))) :=
(if (lenI x) = (lenI x) then (if 0 ≤ (lenI x) then chk (Nat.ble (24 * (lenI x).toNat) maxBytes)
(l_laws_toAcceptorS_1 n x ((0 : Int), (List.replicate (lenI x).toNat []))) else none) else none)
def m_laws_toAcceptorS (x : (List (List (Int × (Int × (Int × ((Int × Int) × (List (Int × Int))))))))) : Option (List (List (Int × (Int × (Int × ((Int × Int) × (List (Int × Int)))))))) := p_laws_toAcceptorS FU x
def a_laws_toAcceptorS : Ann := (.node .leaf (.node (.own 7 (.one (.sl (some 135) (.pair (.int .i64) (.pair (.int .i64) (.pair (.int .i64) (.pair (.pair (.int .i64) (.int .i64)) (.sl (some 79) (.pair (.int .i64) (.int .i64))))))))) .leaf) (.node (.node .leaf (.loop [.slot 4 (.int .i64), .row 0 124 (.one (.sl (some 135) (.pair (.int .i64) (.pair (.int .i64) (.pair (.int .i64) (.pair (.pair (.int .i64) (.int .i64)) (.sl (some 79) (.pair (.int .i64) (.int .i64)))))))))] [8, 9, 10, 11, 12, 13, 14, 15, 16, 17, 18, 19, 20, 21] .leaf)) .leaf)))
def S_laws_toAcceptorS : FSpec := ⟨[.val (.sl none (.one (.sl none (.pair (.int .i64) (.pair (.int .i64) (.pair (.int .i64) (.pair (.pair (.int .i64) (.int .i64)) (.sl none (.pair (.int .i64) (.int .i64))))))))))], [(.sl (some 124) (.one (.sl (some 135) (.pair (.int .i64) (.pair (.int .i64) (.pair (.int .i64) (.pair (.pair (.int .i64) (.int .i64)) (.sl (some 79) (.pair (.int .i64) (.int .i64))))))))))], m_laws_toAcceptorS⟩

/-! laws.toLeg -/
def p_laws_toLeg (n : Nat) (x : (Int × (Int × (Int × Int)))) : Option (Int × (Int × (Int × Int))) :=
some x
def m_laws_toLeg (x : (Int × (Int × (Int × Int)))) : Option (Int × (Int × (Int × Int))) := p_laws_toLeg FU x
def a_laws_toLeg : Ann := .leaf
def S_laws_toLeg : FSpec := ⟨[.val (.pair (.int .i64) (.pair (.int .i64) (.pair (.int .i64) (.int .i64))))], [(.pair (.int .i64) (.pair (.int .i64) (.pair (.int .i64) (.int .i64))))], m_laws_toLeg⟩

/-! laws.toLegS -/
def l_laws_toLegS_1 (n : Nat) (x : (List (Int × (Int × (Int × Int))))) (z0 : (Int × (List (Int × (Int × (Int × Int)))))) : Option (List (Int × (Int × (Int × Int)))) :=
(lp (fun rec10 (z9 : (Int × (List (Int × (Int × (Int × Int)))))) =>
 (cond (decide (z9.1 < (lenI x)))
  ((geti x z9.1).bind fun y11 =>
  ((m_laws_toLeg y11).bind fun r12 =>
  ((geti z9.2 z9.1).bind fun _ =>
  ((z9.2[z9.1.toNat]?).bind fun y13 =>
  rec10 (IntKind.wrap .i64 (z9.1 + (1 : Int)), (z9.2.set z9.1.toNat r12))))))
  (some z9.2))) n z0)
def p_laws_toLegS (n : Nat) (x : (List (Int × (Int × (Int × Int))))) : Option (List (Int × (Int × (Int × Int)))) :=
(if (lenI x) = (lenI x) then (if 0 ≤ (lenI x) then chk (Nat.ble (32 * (lenI x).toNat) maxBytes)
(l_laws_toLegS_1 n x ((0 : Int), (List.replicate (lenI x).toNat ((0 : Int), ((0 : Int), ((0 : Int), (0 : Int))))))) else none) else none)
def m_laws_toLegS (x : (List (Int × (Int × (Int × Int))))) : Option (List (Int × (Int × (Int × Int)))) := p_laws_toLegS FU x
def a_laws_toLegS : Ann := (.node .leaf (.node .leaf (.node (.node .leaf (.loop [.slot 4 (.int .i64), .row 0 194 (.pair (.int .i64) (.pair (.int .i64) (.pair (.int .i64) (.int .i64))))] [8, 9, 10, 11, 12, 13, 14, 15, 16, 17, 18, 19, 20, 21] .leaf)) .leaf)))
def S_laws_toLegS : FSpec := ⟨[.val (.sl none (.pair (.int .i64) (.pair (.int .i64) (.pair (.int .i64) (.int .i64)))))], [(.sl (some 194) (.pair (.int .i64) (.pair (.int .i64) (.pair (.int .i64) (.int .i64)))))], m_laws_toLegS⟩

/-! laws.toContract -/
def p_laws_toContract (n : Nat) (x : (Int × (List (Int × (Int × (Int × Int)))))) : Option (Int × (List (Int × (Int × (Int × Int))))) :=
((m_laws_toLegS x.2).bind fun r1 =>
some (x.1, r1))
def m_laws_toContract (x : (Int × (List (Int × (Int × (Int × Int)))))) : Option (Int × (List (Int × (Int × (Int × Int))))) := p_laws_toContract FU x
def a_laws_toContract : Ann := .leaf
def S_laws_toContract : FSpec := ⟨[.val (.pair (.int .i64) (.sl none (.pair (.int .i64) (.pair (.int .i64) (.pair (.int .i64) (.int .i64))))))], [(.pair (.int .i64) (.sl (some 194) (.pair (.int .i64) (.pair (.int .i64) (.pair (.int .i64) (.int .i64))))))], m_laws_toContract⟩

/-! spec.l1In -/
def p_spec_l1In (n : Nat) (x : (Int × (Int × Int))) : Option Bool :=
(cond (decide (x.1 ≥ x.2.1))
 (some (decide (x.1 ≤ x.2.2)))
 (some false))
def m_spec_l1In (x : (Int × (Int × Int))) : Option Bool := p_spec_l1In FU x
def a_spec_l1In : Ann := .leaf
def S_spec_l1In : FSpec := ⟨[.val (.int .i64), .val (.int .i64), .val (.int .i64)], [.bool], m_spec_l1In⟩

/-! spec.l1Id -/
def p_spec_l1Id (n : Nat) (x : Int) : Option Bool :=
((m_spec_l1In (x, (1 : Int), (1000000000 : Int))).bind fun r1 =>
some r1)
def m_spec_l1Id (x : Int) : Option Bool := p_spec_l1Id FU x
def a_spec_l1Id : Ann := .leaf
def S_spec_l1Id : FSpec := ⟨[.val (.int .i64)], [.bool], m_spec_l1Id⟩

/-! spec.l8Ballot -/
def p_spec_l8Ballot (n : Nat) (x : Int) : Option Bool :=
((m_spec_l1In (x, (0 : Int), (1000 : Int))).bind fun r1 =>
some r1)
def m_spec_l8Ballot (x : Int) : Option Bool := p_spec_l8Ballot FU x
def a_spec_l8Ballot : Ann := .leaf
def S_spec_l8Ballot : FSpec := ⟨[.val (.int .i64)], [.bool], m_spec_l8Ballot⟩

/-! spec.l8Value -/
def p_spec_l8Value (n : Nat) (x : Int) : Option Bool :=
(cond (x == (1 : Int))
 (some true)
 (some (x == (2 : Int))))
def m_spec_l8Value (x : Int) : Option Bool := p_spec_l8Value FU x
def a_spec_l8Value : Ann := .leaf
def S_spec_l8Value : FSpec := ⟨[.val (.int .i64)], [.bool], m_spec_l8Value⟩

/-! spec.l8None -/
def p_spec_l8None (n : Nat) (x : Unit) : Option (Int × Int) :=
some ((-1 : Int), (0 : Int))
def m_spec_l8None (x : Unit) : Option (Int × Int) := p_spec_l8None FU x
def a_spec_l8None : Ann := .leaf
def S_spec_l8None : FSpec := ⟨[], [(.pair (.int .i64) (.int .i64))], m_spec_l8None⟩

/-! spec.l8Last -/
def p_spec_l8Last (n : Nat) (x : (Int × (Int × (Int × ((Int × Int) × (List (Int × Int))))))) : Option (Int × Int) :=
(cond ((lenI x.2.2.2.2) == (0 : Int))
 ((m_spec_l8None ()).bind fun r1 =>
 some r1)
 ((geti x.2.2.2.2 (IntKind.wrap .i64 ((lenI x.2.2.2.2) - (1 : Int)))).bind fun y2 =>
 some y2))
def m_spec_l8Last (x : (Int × (Int × (Int × ((Int × Int) × (List (Int × Int))))))) : Option (Int × Int) := p_spec_l8Last FU x
def a_spec_l8Last : Ann := .leaf
def S_spec_l8Last : FSpec := ⟨[.val (.pair (.int .i64) (.pair (.int .i64) (.pair (.int .i64) (.pair (.pair (.int .i64) (.int .i64)) (.sl none (.pair (.int .i64) (.int .i64)))))))], [(.pair (.int .i64) (.int .i64))], m_spec_l8Last⟩

/-! spec.SlotFault -/
def l_spec_SlotFault_1 (n : Nat) (x_2_2_2_2 : (List (Int × Int))) (z0 : Int) : Option (Unit ⊕ Int) :=
(lp (fun rec53 (z52 : Int) =>
 (cond (decide (z52 < (lenI x_2_2_2_2)))
  ((geti x_2_2_2_2 z52).bind fun y54 =>
  (Option.bind (α := Bool)
   ((m_spec_l8Ballot y54.1).bind fun r57 =>
   (cond (!r57)
    (some true)
    ((m_spec_l8Value y54.2).bind fun r58 =>
    some (!r58)))) fun j59 =>
  (cond j59
   (some (Sum.inr (3 : Int)))
   (Option.bind (α := Bool)
    (cond (decide (z52 > (0 : Int)))
     ((geti x_2_2_2_2 (IntKind.wrap .i64 (z52 - (1 : Int)))).bind fun y63 =>
     (cond (decide (y54.1 < y63.1))
      (some true)
      ((geti x_2_2_2_2 (IntKind.wrap .i64 (z52 - (1 : Int)))).bind fun y64 =>
      (cond (y54.1 == y64.1)
       ((geti x_2_2_2_2 (IntKind.wrap .i64 (z52 - (1 : Int)))).bind fun y65 =>
       some (!(y54.2 == y65.2)))
       (some false)))))
     (some false)) fun j66 =>
   (cond j66
    (some (Sum.inr (1 : Int)))
    (rec53 (IntKind.wrap .i64 (z52 + (1 : Int)))))))))
  (some (Sum.inl ())))) n z0)
def p_spec_SlotFault (n : Nat) (x : (Int × (Int × (Int × ((Int × Int) × (List (Int × Int))))))) : Option Int :=
(Option.bind (α := Bool)
 ((m_spec_l1Id x.1).bind fun r4 =>
 (cond (!r4)
  (some true)
  ((m_spec_l1In (x.2.1, (0 : Int), (2 : Int))).bind fun r5 =>
  (cond (!r5)
   (some true)
   ((m_spec_l1In (x.2.2.1, (-1 : Int), (1000 : Int))).bind fun r6 =>
   some (!r6)))))) fun j7 =>
(cond j7
 (some (3 : Int))
 (cond (decide ((lenI x.2.2.2.2) > (60 : Int)))
  (some (2 : Int))
  (Option.bind (α := (Unit ⊕ Int))
   (l_spec_SlotFault_1 n x.2.2.2.2 (0 : Int))
   (Sum.elim (fun j68 =>
  (Option.bind (α := Bool)
   ((m_spec_l8Last x).bind fun r70 =>
   (cond (!((x.2.2.2.1.1 == r70.1) && ((x.2.2.2.1.2 == r70.2) && true)))
    (some true)
    (some (decide (x.2.2.2.1.1 > x.2.2.1))))) fun j71 =>
  (cond j71
   (some (1 : Int))
   (some (0 : Int))))) some)))))
def m_spec_SlotFault (x : (Int × (Int × (Int × ((Int × Int) × (List (Int × Int))))))) : Option Int := p_spec_SlotFault FU x
def a_spec_SlotFault : Ann := (.node .leaf (.node (.join [.slot 20 .bool] [5, 6, 7, 8, 9, 10, 11, 12, 13, 14, 15, 16, 17, 18, 19] .leaf .leaf) (.node .leaf (.joinx [] [2, 3, 4, 25, 26, 27, 28, 29, 30, 31, 32, 33, 34, 35, 36, 37, 38, 39, 40, 41, 42, 43, 44, 45, 46, 47, 48, 49, 50, 51, 52, 53, 54, 55, 56, 57, 58, 59, 60, 61, 62, 63, 64, 65, 66, 67, 68, 69, 70, 71, 72, 73, 74, 75, 76, 77, 78, 79, 80, 81, 82, 83, 84] (.node .leaf (.loop [.slot 3 (.int .i64)] [2, 4, 25, 26, 27, 28, 29, 30, 31, 32, 33, 34, 35, 36, 37, 38, 39, 40, 41, 42, 43, 44, 45, 46, 47, 48, 49, 50, 51, 52, 53, 54, 55, 56, 57, 58, 59, 60, 61, 62, 63, 64, 65, 66, 67, 68, 69, 70, 71, 72, 73, 74, 75, 76, 77, 78, 79, 80, 81, 82, 83, 84] (.node .leaf (.node (.node .leaf (.node (.join [.slot 46 .bool] [37, 38, 39, 40, 41, 42, 43, 44, 45] .leaf .leaf) (.join [.slot 84 .bool] [47, 48, 49, 50, 51, 52, 53, 54, 55, 56, 57, 58, 59, 60, 61, 62, 63, 64, 65, 66, 67, 68, 69, 70, 71, 72, 73, 74, 75, 76, 77, 78, 79, 80, 81, 82, 83] .leaf .leaf))) .leaf)))) (.node (.join [.slot 97 .bool] [85, 86, 87, 88, 89, 90, 91, 92, 93, 94, 95, 96] .leaf .leaf) .leaf)))))
def S_spec_SlotFault : FSpec := ⟨[.val (.pair (.int .i64) (.pair (.int .i64) (.pair (.int .i64) (.pair (.pair (.int .i64) (.int .i64)) (.sl none (.pair (.int .i64) (.int .i64)))))))], [(.int .i64)], m_spec_SlotFault⟩

/-! spec.l9Ahead -/
def p_spec_l9Ahead (n : Nat) (x : ((Int × (Int × (Int × ((Int × Int) × (List (Int × Int)))))) × (Int × (Int × (Int × ((Int × Int) × (List (Int × Int)))))))) : Option Bool :=
(cond (!(x.1.1 == x.2.1))
 (some (decide (x.1.1 < x.2.1)))
 (some (decide (x.1.2.1 < x.2.2.1))))
def m_spec_l9Ahead (x : ((Int × (Int × (Int × ((Int × Int) × (List (Int × Int)))))) × (Int × (Int × (Int × ((Int × Int) × (List (Int × Int)))))))) : Option Bool := p_spec_l9Ahead FU x
def a_spec_l9Ahead : Ann := .leaf
def S_spec_l9Ahead : FSpec := ⟨[.val (.pair (.int .i64) (.pair (.int .i64) (.pair (.int .i64) (.pair (.pair (.int .i64) (.int .i64)) (.sl none (.pair (.int .i64) (.int .i64))))))), .val (.pair (.int .i64) (.pair (.int .i64) (.pair (.int .i64) (.pair (.pair (.int .i64) (.int .i64)) (.sl none (.pair (.int .i64) (.int .i64)))))))], [.bool], m_spec_l9Ahead⟩

/-! spec.AcceptorFault -/
def l_spec_AcceptorFault_1 (n : Nat) (x : (List (Int × (Int × (Int × ((Int × Int) × (List (Int × Int)))))))) (z0 : Int) : Option Int :=
(lp (fun rec12 (z11 : Int) =>
 (cond (decide (z11 < (lenI x)))
  ((geti x z11).bind fun y13 =>
  ((m_spec_SlotFault y13).bind fun r14 =>
  (cond (!(r14 == (0 : Int)))
   (some r14)
   (Option.bind (α := Bool)
    (cond (decide (z11 > (0 : Int)))
     ((geti x (IntKind.wrap .i64 (z11 - (1 : Int)))).bind fun y18 =>
     ((geti x z11).bind fun y19 =>
     ((m_spec_l9Ahead (y18, y19)).bind fun r20 =>
     some (!r20))))
     (some false)) fun j21 =>
   (cond j21
    (some (1 : Int))
    (rec12 (IntKind.wrap .i64 (z11 + (1 : Int)))))))))
  (some (0 : Int)))) n z0)
def p_spec_AcceptorFault (n : Nat) (x : (List (Int × (Int × (Int × ((Int × Int) × (List (Int × Int)))))))) : Option Int :=
(cond (decide ((lenI x) > (60 : Int)))
 (some (2 : Int))
 (l_spec_AcceptorFault_1 n x (0 : Int)))
def m_spec_AcceptorFault (x : (List (Int × (Int × (Int × ((Int × Int) × (List (Int × Int)))))))) : Option Int := p_spec_AcceptorFault FU x
def a_spec_AcceptorFault : Ann := (.node .leaf (.node .leaf (.node (.node .leaf (.loop [.slot 3 (.int .i64)] [2, 4, 9, 10, 11, 12, 13, 14, 15, 16, 17, 18, 19, 20, 21, 22, 23, 24, 25, 26, 27, 28, 29, 30, 31, 32, 33, 34, 35, 36, 37, 38, 39, 40, 41] (.node .leaf (.node (.node .leaf (.join [.slot 41 .bool] [25, 26, 27, 28, 29, 30, 31, 32, 33, 34, 35, 36, 37, 38, 39, 40] .leaf .leaf)) .leaf)))) .leaf)))
def S_spec_AcceptorFault : FSpec := ⟨[.val (.one (.sl none (.pair (.int .i64) (.pair (.int .i64) (.pair (.int .i64) (.pair (.pair (.int .i64) (.int .i64)) (.sl none (.pair (.int .i64) (.int .i64)))))))))], [(.int .i64)], m_spec_AcceptorFault⟩

/-! spec.l9List -/
def l_spec_l9List_1 (n : Nat) (x : (List (List (Int × (Int × (Int × ((Int × Int) × (List (Int × Int))))))))) (z0 : Int) : Option Int :=
(lp (fun rec6 (z5 : Int) =>
 (cond (decide (z5 < (lenI x)))
  ((geti x z5).bind fun y7 =>
  ((m_spec_AcceptorFault y7).bind fun r8 =>
  (cond (!(r8 == (0 : Int)))
   (some r8)
   (rec6 (IntKind.wrap .i64 (z5 + (1 : Int)))))))
  (some (0 : Int)))) n z0)
def p_spec_l9List (n : Nat) (x : (List (List (Int × (Int × (Int × ((Int × Int) × (List (Int × Int))))))))) : Option Int :=
(Option.bind (α := Bool)
 (cond (decide ((lenI x) < (1 : Int)))
  (some true)
  (some (decide ((lenI x) > (5 : Int))))) fun j1 =>
(cond j1
 (some (2 : Int))
 (l_spec_l9List_1 n x (0 : Int))))
def m_spec_l9List (x : (List (List (Int × (Int × (Int × ((Int × Int) × (List (Int × Int))))))))) : Option Int := p_spec_l9List FU x
def a_spec_l9List : Ann := (.node .leaf (.node (.join [.slot 12 .bool] [5, 6, 7, 8, 9, 10, 11] .leaf .leaf) (.node (.node .leaf (.loop [.slot 3 (.int .i64)] [2, 4, 13, 14, 15, 16, 17, 18, 19, 20, 21, 22, 23, 24, 25, 26] .leaf)) .leaf)))
def S_spec_l9List : FSpec := ⟨[.val (.sl none (.one (.sl none (.pair (.int .i64) (.pair (.int .i64) (.pair (.int .i64) (.pair (.pair (.int .i64) (.int .i64)) (.sl none (.pair (.int .i64) (.int .i64))))))))))], [(.int .i64)], m_spec_l9List⟩

/-! spec.LegFault -/
def p_spec_LegFault (n : Nat) (x : (Int × (Int × (Int × Int)))) : Option Int :=
(Option.bind (α := Bool)
 ((m_spec_l1In (x.1, (0 : Int), (2 : Int))).bind fun r5 =>
 (cond (!r5)
  (some true)
  ((m_spec_l1In (x.2.1, (0 : Int), (5 : Int))).bind fun r6 =>
  (cond (!r6)
   (some true)
   ((m_spec_l1In (x.2.2.1, (0 : Int), (2 : Int))).bind fun r7 =>
   (cond (!r7)
    (some true)
    ((m_spec_l1In (x.2.2.2, (-1000000000000 : Int), (1000000000000 : Int))).bind fun r8 =>
    some (!r8)))))))) fun j9 =>
(cond j9
 (some (3 : Int))
 (cond (x.2.2.2 == (0 : Int))
  (some (1 : Int))
  (some (0 : Int)))))
def m_spec_LegFault (x : (Int × (Int × (Int × Int)))) : Option Int := p_spec_LegFault FU x
def a_spec_LegFault : Ann := (.node .leaf (.node (.join [.slot 24 .bool] [3, 4, 5, 6, 7, 8, 9, 10, 11, 12, 13, 14, 15, 16, 17, 18, 19, 20, 21, 22, 23] .leaf .leaf) .leaf))
def S_spec_LegFault : FSpec := ⟨[.val (.pair (.int .i64) (.pair (.int .i64) (.pair (.int .i64) (.int .i64))))], [(.int .i64)], m_spec_LegFault⟩

/-! spec.ContractFault -/
def l_spec_ContractFault_1 (n : Nat) (z225_1 : Int) (x_2 : (List (Int × (Int × (Int × Int))))) (y248_1 : Int) (y248_2_1 : Int) (y248_2_2_1 : Int) (z0 : Int) : Option (Unit ⊕ ((List Int) ⊕ ((List Int) ⊕ Int))) :=
(lp (fun rec262 (z261 : Int) =>
 (cond (decide (z261 < z225_1))
  ((geti x_2 z261).bind fun y263 =>
  (Option.bind (α := Bool)
   (cond (y263.1 == y248_1)
    (cond (y263.2.1 == y248_2_1)
     (some (y263.2.2.1 == y248_2_2_1))
     (some false))
    (some false)) fun j264 =>
  (cond j264
   (some (Sum.inr (Sum.inr (Sum.inr (7 : Int)))))
   (rec262 (IntKind.wrap .i64 (z261 + (1 : Int)))))))
  (some (Sum.inl ())))) n z0)
def l_spec_ContractFault_2 (n : Nat) (x_2 : (List (Int × (Int × (Int × Int))))) (z0 : (Int × (List Int))) : Option ((List Int) ⊕ Int) :=
(lp (fun rec226 (z225 : (Int × (List Int))) =>
 (cond (decide (z225.1 < (lenI x_2)))
  (Option.bind (α := ((List Int) ⊕ ((List Int) ⊕ Int)))
   ((geti x_2 z225.1).bind fun y248 =>
   ((m_spec_LegFault y248).bind fun r249 =>
   (cond (!(r249 == (0 : Int)))
    (some (Sum.inr (Sum.inr r249)))
    (Option.bind (α := (Unit ⊕ ((List Int) ⊕ ((List Int) ⊕ Int))))
     (l_spec_ContractFault_1 n z225.1 x_2 y248.1 y248.2.1 y248.2.2.1 (0 : Int))
     (Sum.elim (fun j266 =>
    ((geti z225.2 y248.2.2.1).bind fun _ =>
    ((z225.2[y248.2.2.1.toNat]?).bind fun y267 =>
    ((geti z225.2 y248.2.2.1).bind fun _ =>
    ((z225.2[y248.2.2.1.toNat]?).bind fun y268 =>
    some (Sum.inl (z225.2.set y248.2.2.1.toNat (IntKind.wrap .i64 (y267 + y248.2.2.2))))))))) some)))))
   (Sum.elim (fun j269 =>
  rec226 (IntKind.wrap .i64 (z225.1 + (1 : Int)), j269)) some))
  (some (Sum.inl z225.2)))) n z0)
def l_spec_ContractFault_3 (n : Nat) (j271 : (List Int)) (z0 : Int) : Option Int :=
(lp (fun rec275 (z274 : Int) =>
 (cond (decide (z274 < (lenI j271)))
  ((geti j271 z274).bind fun _ =>
  ((j271[z274.toNat]?).bind fun y276 =>
  (cond (!(y276 == (0 : Int)))
   (some (1 : Int))
   (rec275 (IntKind.wrap .i64 (z274 + (1 : Int)))))))
  (some (0 : Int)))) n z0)
def p_spec_ContractFault (n : Nat) (x : (Int × (List (Int × (Int × (Int × Int)))))) : Option Int :=
((m_spec_l1Id x.1).bind fun r1 =>
(cond (!r1)
 (some (3 : Int))
 (Option.bind (α := Bool)
  (cond (decide ((lenI x.2) < (2 : Int)))
   (some true)
   (some (decide ((lenI x.2) > (8 : Int))))) fun j2 =>
 (cond j2
  (some (2 : Int))
  (if (3 : Int) = (3 : Int) then (if 0 ≤ (3 : Int) then chk (Nat.ble (8 * (3 : Int).toNat) maxBytes)
  (Option.bind (α := ((List Int) ⊕ Int))
   (l_spec_ContractFault_2 n x.2 ((0 : Int), (List.replicate (3 : Int).toNat (0 : Int))))
   (Sum.elim (fun j271 =>
  (l_spec_ContractFault_3 n j271 (0 : Int))) some)) else none) else none)))))
def m_spec_ContractFault (x : (Int × (List (Int × (Int × (Int × Int)))))) : Option Int := p_spec_ContractFault FU x
def a_spec_ContractFault : Ann := (.node .leaf (.node .leaf (.node (.join [.slot 23 .bool] [14, 15, 16, 17, 18, 19, 20, 21, 22] .leaf .leaf) (.node .leaf (.joinx [.row 1 2 (.int .i64)] [2, 4, 5, 6, 7, 8, 25, 26, 27, 28, 29, 30, 31, 32, 33, 34, 35, 36, 37, 38, 39, 40, 41, 42, 43, 44, 45, 46, 47, 48, 49, 50, 51, 52, 53, 54, 55, 56, 57, 58, 59, 60, 61, 62, 63, 64, 65, 66, 67, 68, 69, 70, 71, 72, 73, 74, 75, 76, 77, 78, 79, 80, 81, 82] (.node .leaf (.loop [.slot 4 (.int .i64), .row 1 2 (.int .i64)] [2, 5, 6, 7, 8, 25, 26, 27, 28, 29, 30, 31, 32, 33, 34, 35, 36, 37, 38, 39, 40, 41, 42, 43, 44, 45, 46, 47, 48, 49, 50, 51, 52, 53, 54, 55, 56, 57, 58, 59, 60, 61, 62, 63, 64, 65, 66, 67, 68, 69, 70, 71, 72, 73, 74, 75, 76, 77, 78, 79, 80, 81, 82] (.node .leaf (.joinx [.row 1 2 (.int .i64)] [2, 5, 6, 7, 8, 32, 33, 34, 35, 36, 37, 38, 39, 40, 42, 43, 44, 45, 46, 47, 48, 49, 50, 51, 52, 53, 54, 55, 56, 57, 58, 59, 60, 61, 62, 63, 64, 65, 66, 67, 68, 69, 70, 71, 72, 73, 74, 75, 76, 77, 78, 79, 80, 81, 82] (.node .leaf (.node .leaf (.joinx [] [2, 7, 8, 42, 43, 44, 45, 46, 47, 48, 49, 50, 51, 52, 53, 54, 55, 56, 57, 58, 59, 60, 61, 62, 63, 64, 65, 66, 67, 68, 69, 70] (.node .leaf (.loop [.slot 7 (.int .i64)] [2, 8, 42, 43, 44, 45, 46, 47, 48, 49, 50, 51, 52, 53, 54, 55, 56, 57, 58, 59, 60, 61, 62, 63, 64, 65, 66, 67, 68, 69, 70] (.node .leaf (.node (.node .leaf (.join [.slot 70 .bool] [52, 53, 54, 55, 56, 57, 58, 59, 60, 61, 62, 63, 64, 65, 66, 67, 68, 69] .leaf .leaf)) .leaf)))) .leaf))) .leaf)))) (.node (.node .leaf (.loop [.slot 9 (.int .i64)] [2, 83, 84, 85, 86, 87, 88, 89, 90, 91, 92, 93] .leaf)) .leaf))))))
def S_spec_ContractFault : FSpec := ⟨[.val (.pair (.int .i64) (.sl none (.pair (.int .i64) (.pair (.int .i64) (.pair (.int .i64) (.int .i64))))))], [(.int .i64)], m_spec_ContractFault⟩

/-! spec.l1Put -/
def l_spec_l1Put_1 (n : Nat) (x_1 : (List Int)) (x_2 : Int) (z0 : Int) : Option Int :=
(lp (fun rec16 (z15 : Int) =>
 (Option.bind (α := Bool)
  (cond (decide (z15 < (lenI x_1)))
   ((geti x_1 z15).bind fun y18 =>
   some (decide (y18 < x_2)))
   (some false)) fun j19 =>
 (cond j19
  (rec16 (IntKind.wrap .i64 (z15 + (1 : Int))))
  (some z15)))) n z0)
def p_spec_l1Put (n : Nat) (x : ((List Int) × Int)) : Option (List Int) :=
(Option.bind (α := Int)
 (l_spec_l1Put_1 n x.1 x.2 (0 : Int)) fun j21 =>
(Option.bind (α := Bool)
 (cond (decide (j21 < (lenI x.1)))
  ((geti x.1 j21).bind fun y23 =>
  some (y23 == x.2))
  (some false)) fun j24 =>
(cond j24
 (some x.1)
 (chk (bndB none (some j21) none x.1.length)
  (chk (bndB (some j21) none none x.1.length)
   (chk (Nat.ble ((cutL none (some j21) x.1).length * 8) maxBytes)
   (chk (Nat.ble (((cutL none (some j21) x.1).length + [x.2].length) * 8) maxBytes)
   (chk (Nat.ble ((((cutL none (some j21) x.1) ++ [x.2]).length + (cutL (some j21) none x.1).length) * 8) maxBytes)
   (some (((cutL none (some j21) x.1) ++ [x.2]) ++ (cutL (some j21) none x.1)))))))))))
def m_spec_l1Put (x : ((List Int) × Int)) : Option (List Int) := p_spec_l1Put FU x
def a_spec_l1Put : Ann := (.node .leaf (.node .leaf (.join [.slot 5 (.int .i64)] [6, 7, 8, 9, 10, 11, 12, 13, 14, 15, 16, 17, 18, 19] (.loop [.slot 5 (.int .i64)] [6, 7, 8, 9, 10, 11, 12, 13, 14, 15, 16, 17, 18, 19] (.node (.join [.slot 17 .bool] [6, 7, 8, 9, 10, 11, 12, 13, 14, 15, 16] .leaf .leaf) .leaf)) (.node (.join [.slot 31 .bool] [20, 21, 22, 23, 24, 25, 26, 27, 28, 29, 30] .leaf .leaf) (.node (.lazy 39 (.lazy 33 .leaf)) .leaf)))))
def S_spec_l1Put : FSpec := ⟨[.val (.sl none (.int .i64)), .val (.int .i64)], [(.sl none (.int .i64))], m_spec_l1Put⟩

/-! spec.l1Shards -/
def l_spec_l1Shards_1 (n : Nat) (x_2 : (List (Int × (Int × (Int × Int))))) (z0 : ((List Int) × Int)) : Option (List Int) :=
(lp (fun rec8 (z7 : ((List Int) × Int)) =>
 (cond (decide (z7.2 < (lenI x_2)))
  ((geti x_2 z7.2).bind fun y9 =>
  ((m_spec_l1Put (z7.1, y9.1)).bind fun r10 =>
  rec8 (r10, IntKind.wrap .i64 (z7.2 + (1 : Int)))))
  (some z7.1))) n z0)
def p_spec_l1Shards (n : Nat) (x : (Int × (List (Int × (Int × (Int × Int)))))) : Option (List Int) :=
(l_spec_l1Shards_1 n x.2 (([] : List Int), (0 : Int)))
def m_spec_l1Shards (x : (Int × (List (Int × (Int × (Int × Int)))))) : Option (List Int) := p_spec_l1Shards FU x
def a_spec_l1Shards : Ann := (.node .leaf (.node .leaf (.node (.node .leaf (.loop [.slot 3 (.sl none (.int .i64)), .slot 4 (.int .i64)] [6, 7, 8, 9, 10, 11, 12, 13, 14, 15, 16, 17, 18, 19, 20] .leaf)) .leaf)))
def S_spec_l1Shards : FSpec := ⟨[.val (.pair (.int .i64) (.sl none (.pair (.int .i64) (.pair (.int .i64) (.pair (.int .i64) (.int .i64))))))], [(.sl none (.int .i64))], m_spec_l1Shards⟩

/-! spec.l8Copy -/
def p_spec_l8Copy (n : Nat) (x : (Int × (Int × (Int × ((Int × Int) × (List (Int × Int))))))) : Option (Int × (Int × (Int × ((Int × Int) × (List (Int × Int)))))) :=
(chk (Nat.ble ((([] : List (Int × Int)).length + x.2.2.2.2.length) * 16) maxBytes)
(some (x.1, (x.2.1, (x.2.2.1, (x.2.2.2.1, (([] : List (Int × Int)) ++ x.2.2.2.2)))))))
def m_spec_l8Copy (x : (Int × (Int × (Int × ((Int × Int) × (List (Int × Int))))))) : Option (Int × (Int × (Int × ((Int × Int) × (List (Int × Int)))))) := p_spec_l8Copy FU x
def a_spec_l8Copy : Ann := .leaf
def S_spec_l8Copy : FSpec := ⟨[.val (.pair (.int .i64) (.pair (.int .i64) (.pair (.int .i64) (.pair (.pair (.int .i64) (.int .i64)) (.sl none (.pair (.int .i64) (.int .i64)))))))], [(.pair (.int .i64) (.pair (.int .i64) (.pair (.int .i64) (.pair (.pair (.int .i64) (.int .i64)) (.sl (some 79) (.pair (.int .i64) (.int .i64)))))))], m_spec_l8Copy⟩

/-! spec.NewSlot -/
def p_spec_NewSlot (n : Nat) (x : (Int × Int)) : Option (Int × ((Int × Int) × (Int × (Int × (Int × ((Int × Int) × (List (Int × Int)))))))) :=
(Option.bind (α := Bool)
 ((m_spec_l1Id x.1).bind fun r3 =>
 (cond (!r3)
  (some true)
  ((m_spec_l1In (x.2, (0 : Int), (2 : Int))).bind fun r4 =>
  some (!r4)))) fun j5 =>
(cond j5
 (some ((3 : Int), (((0 : Int), (0 : Int)), ((0 : Int), ((0 : Int), ((0 : Int), (((0 : Int), (0 : Int)), [])))))))
 ((m_spec_l8None ()).bind fun r6 =>
 some ((0 : Int), (((0 : Int), (0 : Int)), (x.1, (x.2, ((-1 : Int), (r6, [])))))))))
def m_spec_NewSlot (x : (Int × Int)) : Option (Int × ((Int × Int) × (Int × (Int × (Int × ((Int × Int) × (List (Int × Int)))))))) := p_spec_NewSlot FU x
def a_spec_NewSlot : Ann := (.node .leaf (.node (.join [.slot 12 .bool] [5, 6, 7, 8, 9, 10, 11] .leaf .leaf) .leaf))
def S_spec_NewSlot : FSpec := ⟨[.val (.int .i64), .val (.int .i64)], [(.pair (.int .i64) (.pair (.pair (.int .i64) (.int .i64)) (.pair (.int .i64) (.pair (.int .i64) (.pair (.int .i64) (.pair (.pair (.int .i64) (.int .i64)) (.sl (some 79) (.pair (.int .i64) (.int .i64)))))))))], m_spec_NewSlot⟩

/-! spec.l9Slot -/
def l_spec_l9Slot_1 (n : Nat) (x_1 : (List (Int × (Int × (Int × ((Int × Int) × (List (Int × Int)))))))) (x_2_1 : Int) (x_2_2 : Int) (z0 : Int) : Option (Unit ⊕ (Int × (Int × (Int × ((Int × Int) × (List (Int × Int))))))) :=
(lp (fun rec28 (z27 : Int) =>
 (cond (decide (z27 < (lenI x_1)))
  (Option.bind (α := Bool)
   ((geti x_1 z27).bind fun y31 =>
   (cond (y31.1 == x_2_1)
    ((geti x_1 z27).bind fun y32 =>
    some (y32.2.1 == x_2_2))
    (some false))) fun j33 =>
  (cond j33
   ((geti x_1 z27).bind fun y34 =>
   ((m_spec_l8Copy y34).bind fun r35 =>
   some (Sum.inr r35)))
   (rec28 (IntKind.wrap .i64 (z27 + (1 : Int))))))
  (some (Sum.inl ())))) n z0)
def p_spec_l9Slot (n : Nat) (x : ((List (Int × (Int × (Int × ((Int × Int) × (List (Int × Int))))))) × (Int × Int))) : Option (Int × (Int × (Int × ((Int × Int) × (List (Int × Int)))))) :=
(Option.bind (α := (Unit ⊕ (Int × (Int × (Int × ((Int × Int) × (List (Int × Int))))))))
 (l_spec_l9Slot_1 n x.1 x.2.1 x.2.2 (0 : Int))
 (Sum.elim (fun j37 =>
((m_spec_NewSlot (x.2.1, x.2.2)).bind fun r38 =>
some r38.2.2)) some))
def m_spec_l9Slot (x : ((List (Int × (Int × (Int × ((Int × Int) × (List (Int × Int))))))) × (Int × Int))) : Option (Int × (Int × (Int × ((Int × Int) × (List (Int × Int)))))) := p_spec_l9Slot FU x
def a_spec_l9Slot : Ann := (.node .leaf (.joinx [] [7, 8, 9, 10, 11, 12, 13, 14, 15, 16, 17, 18, 19, 20, 21, 22, 23, 24, 25, 26, 27, 28, 29, 30, 31, 32, 33, 34, 35, 36, 37, 38] (.node .leaf (.loop [.slot 7 (.int .i64)] [8, 9, 10, 11, 12, 13, 14, 15, 16, 17, 18, 19, 20, 21, 22, 23, 24, 25, 26, 27, 28, 29, 30, 31, 32, 33, 34, 35, 36, 37, 38] (.node .leaf (.node (.join [.slot 32 .bool] [15, 16, 17, 18, 19, 20, 21, 22, 23, 24, 25, 26, 27, 28, 29, 30, 31] .leaf .leaf) .leaf)))) .leaf))
def S_spec_l9Slot : FSpec := ⟨[.val (.one (.sl none (.pair (.int .i64) (.pair (.int .i64) (.pair (.int .i64) (.pair (.pair (.int .i64) (.int .i64)) (.sl none (.pair (.int .i64) (.int .i64))))))))), .val (.int .i64), .val (.int .i64)], [(.pair (.int .i64) (.pair (.int .i64) (.pair (.int .i64) (.pair (.pair (.int .i64) (.int .i64)) (.sl (some 79) (.pair (.int .i64) (.int .i64)))))))], m_spec_l9Slot⟩

/-! spec.l9Slots -/
def l_spec_l9Slots_1 (n : Nat) (x_1 : (List (List (Int × (Int × (Int × ((Int × Int) × (List (Int × Int))))))))) (x_2_1 : Int) (x_2_2 : Int) (z0 : ((List (Int × (Int × (Int × ((Int × Int) × (List (Int × Int))))))) × Int)) : Option (List (Int × (Int × (Int × ((Int × Int) × (List (Int × Int))))))) :=
(lp (fun rec5 (z4 : ((List (Int × (Int × (Int × ((Int × Int) × (List (Int × Int))))))) × Int)) =>
 (cond (decide (z4.2 < (lenI x_1)))
  ((geti x_1 z4.2).bind fun y6 =>
  ((m_spec_l9Slot (y6, x_2_1, x_2_2)).bind fun r7 =>
  (chk (Nat.ble ((z4.1.length + [r7].length) * 64) maxBytes)
  (rec5 ((z4.1 ++ [r7]), IntKind.wrap .i64 (z4.2 + (1 : Int)))))))
  (some z4.1))) n z0)
def p_spec_l9Slots (n : Nat) (x : ((List (List (Int × (Int × (Int × ((Int × Int) × (List (Int × Int)))))))) × (Int × Int))) : Option (List (Int × (Int × (Int × ((Int × Int) × (List (Int × Int))))))) :=
(l_spec_l9Slots_1 n x.1 x.2.1 x.2.2 (([] : List (Int × (Int × (Int × ((Int × Int) × (List (Int × Int))))))), (0 : Int)))
def m_spec_l9Slots (x : ((List (List (Int × (Int × (Int × ((Int × Int) × (List (Int × Int)))))))) × (Int × Int))) : Option (List (Int × (Int × (Int × ((Int × Int) × (List (Int × Int))))))) := p_spec_l9Slots FU x
def a_spec_l9Slots : Ann := (.node .leaf (.node .leaf (.node (.node .leaf (.loop [.slot 7 (.sl (some 135) (.pair (.int .i64) (.pair (.int .i64) (.pair (.int .i64) (.pair (.pair (.int .i64) (.int .i64)) (.sl none (.pair (.int .i64) (.int .i64)))))))), .slot 8 (.int .i64)] [10, 11, 12, 13, 14, 15, 16, 17, 18, 19, 20, 21, 22, 23, 24, 25] .leaf)) .leaf)))
def S_spec_l9Slots : FSpec := ⟨[.val (.sl none (.one (.sl none (.pair (.int .i64) (.pair (.int .i64) (.pair (.int .i64) (.pair (.pair (.int .i64) (.int .i64)) (.sl none (.pair (.int .i64) (.int .i64)))))))))), .val (.int .i64), .val (.int .i64)], [(.sl (some 135) (.pair (.int .i64) (.pair (.int .i64) (.pair (.int .i64) (.pair (.pair (.int .i64) (.int .i64)) (.sl none (.pair (.int .i64) (.int .i64))))))))], m_spec_l9Slots⟩

/-! spec.l8Cast -/
def l_spec_l8Cast_1 (n : Nat) (x_2_1 : Int) (x_2_2 : Int) (x_1_2_2_2_2 : (List (Int × Int))) (z0 : Int) : Option Bool :=
(lp (fun rec4 (z3 : Int) =>
 (cond (decide (z3 < (lenI x_1_2_2_2_2)))
  ((geti x_1_2_2_2_2 z3).bind fun y5 =>
  (cond ((y5.1 == x_2_1) && ((y5.2 == x_2_2) && true))
   (some true)
   (rec4 (IntKind.wrap .i64 (z3 + (1 : Int))))))
  (some false))) n z0)
def p_spec_l8Cast (n : Nat) (x : ((Int × (Int × (Int × ((Int × Int) × (List (Int × Int)))))) × (Int × Int))) : Option Bool :=
(l_spec_l8Cast_1 n x.2.1 x.2.2 x.1.2.2.2.2 (0 : Int))
def m_spec_l8Cast (x : ((Int × (Int × (Int × ((Int × Int) × (List (Int × Int)))))) × (Int × Int))) : Option Bool := p_spec_l8Cast FU x
def a_spec_l8Cast : Ann := (.node .leaf (.node (.node .leaf (.loop [.slot 5 (.int .i64)] [4, 6, 7, 8, 9, 10, 11, 12, 13, 14, 15, 16, 17, 18, 19] .leaf)) .leaf))
def S_spec_l8Cast : FSpec := ⟨[.val (.pair (.int .i64) (.pair (.int .i64) (.pair (.int .i64) (.pair (.pair (.int .i64) (.int .i64)) (.sl none (.pair (.int .i64) (.int .i64))))))), .val (.pair (.int .i64) (.int .i64))], [.bool], m_spec_l8Cast⟩

/-! spec.l8Quorum -/
def p_spec_l8Quorum (n : Nat) (x : Int) : Option Int :=
(cond ((2 : Int) == 0) none
 (some (IntKind.wrap .i64 ((IntKind.wrap .i64 (Int.tdiv x (2 : Int))) + (1 : Int)))))
def m_spec_l8Quorum (x : Int) : Option Int := p_spec_l8Quorum FU x
def a_spec_l8Quorum : Ann := .leaf
def S_spec_l8Quorum : FSpec := ⟨[.val (.int .i64)], [(.int .i64)], m_spec_l8Quorum⟩

/-! spec.l8Chosen -/
def l_spec_l8Chosen_1 (n : Nat) (x : (List (Int × (Int × (Int × ((Int × Int) × (List (Int × Int)))))))) (y711 : (Int × Int)) (z0 : (Int × Int)) : Option Int :=
(lp (fun rec724 (z723 : (Int × Int)) =>
 (cond (decide (z723.2 < (lenI x)))
  ((geti x z723.2).bind fun y725 =>
  ((m_spec_l8Cast (y725, y711)).bind fun r726 =>
  (cond r726
   (rec724 (IntKind.wrap .i64 (z723.1 + (1 : Int)), IntKind.wrap .i64 (z723.2 + (1 : Int))))
   (rec724 (z723.1, IntKind.wrap .i64 (z723.2 + (1 : Int)))))))
  (some z723.1))) n z0)
def l_spec_l8Chosen_2 (n : Nat) (z662_1 : (List (Int × Int))) (y711_1 : Int) (z0 : Int) : Option Int :=
(lp (fun rec744 (z743 : Int) =>
 (Option.bind (α := Bool)
  (cond (decide (z743 < (lenI z662_1)))
   ((geti z662_1 z743).bind fun _ =>
   ((z662_1[z743.toNat]?).bind fun y746 =>
   some (decide (y746.1 < y711_1))))
   (some false)) fun j747 =>
 (cond j747
  (rec744 (IntKind.wrap .i64 (z743 + (1 : Int))))
  (some z743)))) n z0)
def l_spec_l8Chosen_3 (n : Nat) (x : (List (Int × (Int × (Int × ((Int × Int) × (List (Int × Int)))))))) (z379_2 : Int) (z0 : ((List (Int × Int)) × Int)) : Option (List (Int × Int)) :=
(lp (fun rec663 (z662 : ((List (Int × Int)) × Int)) =>
 ((geti x z379_2).bind fun y664 =>
 (cond (decide (z662.2 < (lenI y664.2.2.2.2)))
  (Option.bind (α := (List (Int × Int)))
   ((geti x z379_2).bind fun y710 =>
   ((geti y710.2.2.2.2 z662.2).bind fun y711 =>
   (Option.bind (α := Int)
    (l_spec_l8Chosen_1 n x y711 ((0 : Int), (0 : Int))) fun j728 =>
   (Option.bind (α := Int)
    (l_spec_l8Chosen_2 n z662.1 y711.1 (0 : Int)) fun j749 =>
   (Option.bind (α := Bool)
    ((m_spec_l8Quorum (lenI x)).bind fun r752 =>
    (cond (decide (j728 ≥ r752))
     (cond (j749 == (lenI z662.1))
      (some true)
      ((geti z662.1 j749).bind fun _ =>
      ((z662.1[j749.toNat]?).bind fun y753 =>
      some (!((y753.1 == y711.1) && ((y753.2 == y711.2) && true))))))
     (some false))) fun j754 =>
   (cond j754
    (chk (bndB none (some j749) none z662.1.length)
     (chk (bndB (some j749) none none z662.1.length)
      (chk (Nat.ble (((z662.1.drop 0).take j749.toNat).length * 16) maxBytes)
      (chk (Nat.ble ((((z662.1.drop 0).take j749.toNat).length + [y711].length) * 16) maxBytes)
      (chk (Nat.ble (((((z662.1.drop 0).take j749.toNat) ++ [y711]).length + ((z662.1.drop j749.toNat).take (z662.1.length - j749.toNat)).length) * 16) maxBytes)
      (some ((((z662.1.drop 0).take j749.toNat) ++ [y711]) ++ ((z662.1.drop j749.toNat).take (z662.1.length - j749.toNat)))))))))
    (some z662.1))))))) fun j755 =>
  rec663 (j755, IntKind.wrap .i64 (z662.2 + (1 : Int))))
  (some z662.1)))) n z0)
def l_spec_l8Chosen_4 (n : Nat) (x : (List (Int × (Int × (Int × ((Int × Int) × (List (Int × Int)))))))) (z0 : ((List (Int × Int)) × Int)) : Option (List (Int × Int)) :=
(lp (fun rec380 (z379 : ((List (Int × Int)) × Int)) =>
 (cond (decide (z379.2 < (lenI x)))
  (Option.bind (α := (List (Int × Int)))
   (l_spec_l8Chosen_3 n x z379.2 (z379.1, (0 : Int))) fun j757 =>
  rec380 (j757, IntKind.wrap .i64 (z379.2 + (1 : Int))))
  (some z379.1))) n z0)
def p_spec_l8Chosen (n : Nat) (x : (List (Int × (Int × (Int × ((Int × Int) × (List (Int × Int)))))))) : Option (List (Int × Int)) :=
(l_spec_l8Chosen_4 n x (([] : List (Int × Int)), (0 : Int)))
def m_spec_l8Chosen (x : (List (Int × (Int × (Int × ((Int × Int) × (List (Int × Int)))))))) : Option (List (Int × Int)) := p_spec_l8Chosen FU x
def a_spec_l8Chosen : Ann := (.node .leaf (.node .leaf (.node (.node .leaf (.loop [.slot 3 (.sl (some 79) (.pair (.int .i64) (.int .i64))), .slot 4 (.int .i64)] [5, 6, 7, 8, 9, 11, 12, 13, 14, 15, 16, 17, 18, 19, 20, 21, 22, 23, 24, 25, 26, 27, 28, 29, 30, 31, 32, 33, 34, 35, 36, 37, 38, 39, 40, 41, 42, 43, 44, 45, 46, 47, 48, 49, 50, 51, 52, 53, 54, 55, 56, 57, 58, 59, 60, 61, 62, 63, 64, 65, 66, 67, 68, 69, 70, 71, 72, 73, 74, 75, 76, 77, 78, 79, 80, 81, 82, 83, 84, 85, 86, 87, 88, 89, 90, 91, 92, 93, 94, 95] (.node .leaf (.join [.slot 3 (.sl (some 79) (.pair (.int .i64) (.int .i64)))] [5, 6, 7, 8, 9, 17, 18, 19, 20, 21, 22, 23, 24, 25, 26, 27, 28, 29, 30, 31, 32, 33, 34, 35, 36, 37, 38, 39, 40, 41, 42, 43, 44, 45, 46, 47, 48, 49, 50, 51, 52, 53, 54, 55, 56, 57, 58, 59, 60, 61, 62, 63, 64, 65, 66, 67, 68, 69, 70, 71, 72, 73, 74, 75, 76, 77, 78, 79, 80, 81, 82, 83, 84, 85, 86, 87, 88, 89, 90, 91, 92, 93, 94, 95] (.node .leaf (.loop [.slot 3 (.sl (some 79) (.pair (.int .i64) (.int .i64))), .slot 5 (.int .i64)] [6, 7, 8, 9, 17, 18, 19, 20, 21, 22, 23, 24, 25, 26, 27, 28, 29, 30, 31, 32, 33, 34, 35, 36, 37, 38, 39, 40, 41, 42, 43, 44, 45, 46, 47, 48, 49, 50, 51, 52, 53, 54, 55, 56, 57, 58, 59, 60, 61, 62, 63, 64, 65, 66, 67, 68, 69, 70, 71, 72, 73, 74, 75, 76, 77, 78, 79, 80, 81, 82, 83, 84, 85, 86, 87, 88, 89, 90, 91, 92, 93, 94, 95] (.node .leaf (.join [.slot 3 (.sl (some 79) (.pair (.int .i64) (.int .i64)))] [6, 7, 8, 9, 27, 28, 29, 30, 31, 32, 33, 34, 35, 36, 37, 38, 39, 40, 41, 42, 43, 44, 45, 46, 47, 48, 49, 50, 51, 52, 53, 54, 55, 56, 57, 58, 59, 60, 61, 62, 63, 64, 65, 66, 67, 68, 69, 70, 71, 72, 73, 74, 75, 76, 77, 78, 79, 80, 81, 82, 83, 84, 85, 86, 87, 88, 89, 90, 91, 92, 93, 94, 95] (.node .leaf (.node .leaf (.join [.slot 7 (.int .i64)] [8, 35, 36, 37, 38, 39, 40, 41, 42, 43, 44, 45, 46, 47, 48] (.node .leaf (.loop [.slot 7 (.int .i64), .slot 8 (.int .i64)] [35, 36, 37, 38, 39, 40, 41, 42, 43, 44, 45, 46, 47, 48] .leaf)) (.node .leaf (.join [.slot 9 (.int .i64)] [49, 50, 51, 52, 53, 54, 55, 56, 57, 58, 59, 60, 61, 62, 63, 64] (.loop [.slot 9 (.int .i64)] [49, 50, 51, 52, 53, 54, 55, 56, 57, 58, 59, 60, 61, 62, 63, 64] (.node (.join [.slot 62 .bool] [49, 50, 51, 52, 53, 54, 55, 56, 57, 58, 59, 60, 61] .leaf .leaf) .leaf)) (.join [.slot 83 .bool] [65, 66, 67, 68, 69, 70, 71, 72, 73, 74, 75, 76, 77, 78, 79, 80, 81, 82] .leaf (.node (.lazy 90 (.lazy 84 .leaf)) .leaf))))))) .leaf)))) .leaf)))) .leaf)))
def S_spec_l8Chosen : FSpec := ⟨[.val (.sl none (.pair (.int .i64) (.pair (.int .i64) (.pair (.int .i64) (.pair (.pair (.int .i64) (.int .i64)) (.sl none (.pair (.int .i64) (.int .i64))))))))], [(.sl (some 79) (.pair (.int .i64) (.int .i64)))], m_spec_l8Chosen⟩

/-! spec.l9Chosen -/
def p_spec_l9Chosen (n : Nat) (x : ((List (List (Int × (Int × (Int × ((Int × Int) × (List (Int × Int)))))))) × (Int × Int))) : Option Int :=
((m_spec_l9Slots (x.1, x.2.1, x.2.2)).bind fun r1 =>
((m_spec_l8Chosen r1).bind fun r2 =>
(cond ((lenI r2) == (0 : Int))
 (some (0 : Int))
 ((geti r2 (0 : Int)).bind fun _ =>
 ((r2[(0 : Int).toNat]?).bind fun y3 =>
 some y3.2)))))
def m_spec_l9Chosen (x : ((List (List (Int × (Int × (Int × ((Int × Int) × (List (Int × Int)))))))) × (Int × Int))) : Option Int := p_spec_l9Chosen FU x
def a_spec_l9Chosen : Ann := .leaf
def S_spec_l9Chosen : FSpec := ⟨[.val (.sl none (.one (.sl none (.pair (.int .i64) (.pair (.int .i64) (.pair (.int .i64) (.pair (.pair (.int .i64) (.int .i64)) (.sl none (.pair (.int .i64) (.int .i64)))))))))), .val (.int .i64), .val (.int .i64)], [(.int .i64)], m_spec_l9Chosen⟩

/-! spec.l9Outcome -/
def l_spec_l9Outcome_1 (n : Nat) (r1 : (List Int)) (x_1 : (List (List (Int × (Int × (Int × ((Int × Int) × (List (Int × Int))))))))) (x_2_1 : Int) (z0 : (Int × Int)) : Option Int :=
(lp (fun rec6 (z5 : (Int × Int)) =>
 (cond (decide (z5.2 < (lenI r1)))
  ((geti r1 z5.2).bind fun y7 =>
  ((m_spec_l9Chosen (x_1, x_2_1, y7)).bind fun r8 =>
  (cond (r8 == (2 : Int))
   (some (2 : Int))
   (cond (r8 == (0 : Int))
    (rec6 ((0 : Int), IntKind.wrap .i64 (z5.2 + (1 : Int))))
    (rec6 (z5.1, IntKind.wrap .i64 (z5.2 + (1 : Int))))))))
  (some z5.1))) n z0)
def p_spec_l9Outcome (n : Nat) (x : ((List (List (Int × (Int × (Int × ((Int × Int) × (List (Int × Int)))))))) × (Int × (List (Int × (Int × (Int × Int))))))) : Option Int :=
((m_spec_l1Shards x.2).bind fun r1 =>
(l_spec_l9Outcome_1 n r1 x.1 x.2.1 ((1 : Int), (0 : Int))))
def m_spec_l9Outcome (x : ((List (List (Int × (Int × (Int × ((Int × Int) × (List (Int × Int)))))))) × (Int × (List (Int × (Int × (Int × Int))))))) : Option Int := p_spec_l9Outcome FU x
def a_spec_l9Outcome : Ann := (.node .leaf (.node .leaf (.node .leaf (.node (.node .leaf (.loop [.slot 6 (.int .i64), .slot 7 (.int .i64)] [4, 10, 11, 12, 13, 14, 15, 16, 17, 18, 19, 20, 21, 22, 23, 24, 25, 26, 27] .leaf)) .leaf))))
def S_spec_l9Outcome : FSpec := ⟨[.val (.sl none (.one (.sl none (.pair (.int .i64) (.pair (.int .i64) (.pair (.int .i64) (.pair (.pair (.int .i64) (.int .i64)) (.sl none (.pair (.int .i64) (.int .i64)))))))))), .val (.pair (.int .i64) (.sl none (.pair (.int .i64) (.pair (.int .i64) (.pair (.int .i64) (.int .i64))))))], [(.int .i64)], m_spec_l9Outcome⟩

/-! spec.OutcomeOf -/
def p_spec_OutcomeOf (n : Nat) (x : ((List (List (Int × (Int × (Int × ((Int × Int) × (List (Int × Int)))))))) × (Int × (List (Int × (Int × (Int × Int))))))) : Option (Int × Int) :=
((m_spec_l9List x.1).bind fun r1 =>
(cond (!(r1 == (0 : Int)))
 (some (r1, (0 : Int)))
 ((m_spec_ContractFault x.2).bind fun r2 =>
 (cond (!(r2 == (0 : Int)))
  (some (r2, (0 : Int)))
  ((m_spec_l9Outcome (x.1, x.2)).bind fun r3 =>
  some ((0 : Int), r3))))))
def m_spec_OutcomeOf (x : ((List (List (Int × (Int × (Int × ((Int × Int) × (List (Int × Int)))))))) × (Int × (List (Int × (Int × (Int × Int))))))) : Option (Int × Int) := p_spec_OutcomeOf FU x
def a_spec_OutcomeOf : Ann := .leaf
def S_spec_OutcomeOf : FSpec := ⟨[.val (.sl none (.one (.sl none (.pair (.int .i64) (.pair (.int .i64) (.pair (.int .i64) (.pair (.pair (.int .i64) (.int .i64)) (.sl none (.pair (.int .i64) (.int .i64)))))))))), .val (.pair (.int .i64) (.sl none (.pair (.int .i64) (.pair (.int .i64) (.pair (.int .i64) (.int .i64))))))], [(.pair (.int .i64) (.int .i64))], m_spec_OutcomeOf⟩

/-! impl.Acceptor] -/
def p_impl_size_impl_Acceptor (n : Nat) (x : (List (List (Int × (Int × (Int × ((Int × Int) × (List (Int × Int))))))))) : Option Int :=
some (lenI x)
def m_impl_size_impl_Acceptor (x : (List (List (Int × (Int × (Int × ((Int × Int) × (List (Int × Int))))))))) : Option Int := p_impl_size_impl_Acceptor FU x
def a_impl_size_impl_Acceptor : Ann := .leaf
def S_impl_size_impl_Acceptor : FSpec := ⟨[.val (.sl none (.one (.sl none (.pair (.int .i64) (.pair (.int .i64) (.pair (.int .i64) (.pair (.pair (.int .i64) (.int .i64)) (.sl none (.pair (.int .i64) (.int .i64))))))))))], [(.int .i64)], m_impl_size_impl_Acceptor⟩

/-! impl.within -/
def p_impl_within (n : Nat) (x : (Int × (Int × Int))) : Option Bool :=
(cond (decide (x.1 ≥ x.2.1))
 (some (decide (x.1 ≤ x.2.2)))
 (some false))
def m_impl_within (x : (Int × (Int × Int))) : Option Bool := p_impl_within FU x
def a_impl_within : Ann := .leaf
def S_impl_within : FSpec := ⟨[.val (.int .i64), .val (.int .i64), .val (.int .i64)], [.bool], m_impl_within⟩

/-! impl.isId -/
def p_impl_isId (n : Nat) (x : Int) : Option Bool :=
((m_impl_within (x, (1 : Int), (1000000000 : Int))).bind fun r1 =>
some r1)
def m_impl_isId (x : Int) : Option Bool := p_impl_isId FU x
def a_impl_isId : Ann := .leaf
def S_impl_isId : FSpec := ⟨[.val (.int .i64)], [.bool], m_impl_isId⟩

/-! impl.isShard -/
def p_impl_isShard (n : Nat) (x : Int) : Option Bool :=
((m_impl_within (x, (0 : Int), (2 : Int))).bind fun r1 =>
some r1)
def m_impl_isShard (x : Int) : Option Bool := p_impl_isShard FU x
def a_impl_isShard : Ann := .leaf
def S_impl_isShard : FSpec := ⟨[.val (.int .i64)], [.bool], m_impl_isShard⟩

/-! impl.isBallot -/
def p_impl_isBallot (n : Nat) (x : Int) : Option Bool :=
((m_impl_within (x, (0 : Int), (1000 : Int))).bind fun r1 =>
some r1)
def m_impl_isBallot (x : Int) : Option Bool := p_impl_isBallot FU x
def a_impl_isBallot : Ann := .leaf
def S_impl_isBallot : FSpec := ⟨[.val (.int .i64)], [.bool], m_impl_isBallot⟩

/-! impl.isValue -/
def p_impl_isValue (n : Nat) (x : Int) : Option Bool :=
(cond (x == (1 : Int))
 (some true)
 (some (x == (2 : Int))))
def m_impl_isValue (x : Int) : Option Bool := p_impl_isValue FU x
def a_impl_isValue : Ann := .leaf
def S_impl_isValue : FSpec := ⟨[.val (.int .i64)], [.bool], m_impl_isValue⟩

/-! impl.isVote -/
def p_impl_isVote (n : Nat) (x : (Int × Int)) : Option Bool :=
((m_impl_isBallot x.1).bind fun r1 =>
(cond r1
 ((m_impl_isValue x.2).bind fun r2 =>
 some r2)
 (some false)))
def m_impl_isVote (x : (Int × Int)) : Option Bool := p_impl_isVote FU x
def a_impl_isVote : Ann := .leaf
def S_impl_isVote : FSpec := ⟨[.val (.pair (.int .i64) (.int .i64))], [.bool], m_impl_isVote⟩

/-! impl.castFault -/
def l_impl_castFault_1 (n : Nat) (x : (List (Int × Int))) (z0 : Int) : Option Int :=
(lp (fun rec12 (z11 : Int) =>
 (cond (decide (z11 < (lenI x)))
  ((geti x z11).bind fun y13 =>
  ((m_impl_isVote y13).bind fun r14 =>
  (cond (!r14)
   (some (3 : Int))
   (Option.bind (α := Bool)
    (cond (decide (z11 > (0 : Int)))
     ((geti x (IntKind.wrap .i64 (z11 - (1 : Int)))).bind fun y18 =>
     (cond (decide (y13.1 < y18.1))
      (some true)
      ((geti x (IntKind.wrap .i64 (z11 - (1 : Int)))).bind fun y19 =>
      (cond (y13.1 == y19.1)
       ((geti x (IntKind.wrap .i64 (z11 - (1 : Int)))).bind fun y20 =>
       some (!(y13.2 == y20.2)))
       (some false)))))
     (some false)) fun j21 =>
   (cond j21
    (some (1 : Int))
    (rec12 (IntKind.wrap .i64 (z11 + (1 : Int)))))))))
  (some (0 : Int)))) n z0)
def p_impl_castFault (n : Nat) (x : (List (Int × Int))) : Option Int :=
(l_impl_castFault_1 n x (0 : Int))
def m_impl_castFault (x : (List (Int × Int))) : Option Int := p_impl_castFault FU x
def a_impl_castFault : Ann := (.node .leaf (.node (.node .leaf (.loop [.slot 7 (.int .i64)] [2, 3, 4, 8, 9, 10, 11, 12, 13, 14, 15, 16, 17, 18, 19, 20, 21, 22, 23, 24, 25, 26, 27, 28, 29, 30, 31, 32, 33, 34, 35, 36, 37, 38, 39, 40, 41, 42, 43, 44, 45, 46, 47, 48, 49, 50, 51, 52] (.node .leaf (.node .leaf (.node (.node .leaf (.node .leaf (.node .leaf (.join [.slot 16 .bool] [17, 18, 19, 20, 21, 22, 23, 24, 25, 26, 27, 28, 29, 30, 31, 32, 33, 34, 35, 36, 37, 38, 39, 40, 41, 42, 43, 44, 45, 46, 47, 48, 49, 50, 51] .leaf .leaf)))) .leaf))))) .leaf))
def S_impl_castFault : FSpec := ⟨[.val (.sl none (.pair (.int .i64) (.int .i64)))], [(.int .i64)], m_impl_castFault⟩

/-! impl.noVote -/
def p_impl_noVote (n : Nat) (x : Unit) : Option (Int × Int) :=
some ((-1 : Int), (0 : Int))
def m_impl_noVote (x : Unit) : Option (Int × Int) := p_impl_noVote FU x
def a_impl_noVote : Ann := .leaf
def S_impl_noVote : FSpec := ⟨[], [(.pair (.int .i64) (.int .i64))], m_impl_noVote⟩

/-! impl.lastCast -/
def p_impl_lastCast (n : Nat) (x : (List (Int × Int))) : Option (Int × Int) :=
(cond ((lenI x) == (0 : Int))
 ((m_impl_noVote ()).bind fun r1 =>
 some r1)
 ((geti x (IntKind.wrap .i64 ((lenI x) - (1 : Int)))).bind fun y2 =>
 some y2))
def m_impl_lastCast (x : (List (Int × Int))) : Option (Int × Int) := p_impl_lastCast FU x
def a_impl_lastCast : Ann := .leaf
def S_impl_lastCast : FSpec := ⟨[.val (.sl none (.pair (.int .i64) (.int .i64)))], [(.pair (.int .i64) (.int .i64))], m_impl_lastCast⟩

/-! impl.SlotFault -/
def p_impl_SlotFault (n : Nat) (x : (Int × (Int × (Int × ((Int × Int) × (List (Int × Int))))))) : Option Int :=
(Option.bind (α := Bool)
 ((m_impl_isId x.1).bind fun r4 =>
 (cond (!r4)
  (some true)
  ((m_impl_isShard x.2.1).bind fun r5 =>
  (cond (!r5)
   (some true)
   ((m_impl_within (x.2.2.1, (-1 : Int), (1000 : Int))).bind fun r6 =>
   some (!r6)))))) fun j7 =>
(cond j7
 (some (3 : Int))
 (cond (decide ((lenI x.2.2.2.2) > (60 : Int)))
  (some (2 : Int))
  ((m_impl_castFault x.2.2.2.2).bind fun r8 =>
  (cond (!(r8 == (0 : Int)))
   (some r8)
   (Option.bind (α := Bool)
    ((m_impl_lastCast x.2.2.2.2).bind fun r10 =>
    (cond (!((x.2.2.2.1.1 == r10.1) && ((x.2.2.2.1.2 == r10.2) && true)))
     (some true)
     (some (decide (x.2.2.2.1.1 > x.2.2.1))))) fun j11 =>
   (cond j11
    (some (1 : Int))
    (some (0 : Int)))))))))
def m_impl_SlotFault (x : (Int × (Int × (Int × ((Int × Int) × (List (Int × Int))))))) : Option Int := p_impl_SlotFault FU x
def a_impl_SlotFault : Ann := (.node .leaf (.node (.join [.slot 4 .bool] [5, 6, 7, 8, 9, 10, 11, 12, 13, 14, 15, 16, 17, 18, 19, 20] .leaf .leaf) (.node .leaf (.node (.join [.slot 45 .bool] [32, 33, 34, 35, 36, 37, 38, 39, 40, 41, 42, 43, 44] .leaf .leaf) .leaf))))
def S_impl_SlotFault : FSpec := ⟨[.val (.pair (.int .i64) (.pair (.int .i64) (.pair (.int .i64) (.pair (.pair (.int .i64) (.int .i64)) (.sl none (.pair (.int .i64) (.int .i64)))))))], [(.int .i64)], m_impl_SlotFault⟩

/-! cmp.isNaN[int64] -/
def p_cmp_isNaN_int64 (n : Nat) (x : Int) : Option Bool :=
some (!(x == x))
def m_cmp_isNaN_int64 (x : Int) : Option Bool := p_cmp_isNaN_int64 FU x
def a_cmp_isNaN_int64 : Ann := .leaf
def S_cmp_isNaN_int64 : FSpec := ⟨[.val (.int .i64)], [.bool], m_cmp_isNaN_int64⟩

/-! cmp.Compare[int64] -/
def p_cmp_Compare_int64 (n : Nat) (x : (Int × Int)) : Option Int :=
((m_cmp_isNaN_int64 x.1).bind fun r1 =>
((m_cmp_isNaN_int64 x.2).bind fun r2 =>
(cond r1
 (cond r2
  (some (0 : Int))
  (some (-1 : Int)))
 (cond r2
  (some (1 : Int))
  (cond (decide (x.1 < x.2))
   (some (-1 : Int))
   (cond (decide (x.1 > x.2))
    (some (1 : Int))
    (some (0 : Int))))))))
def m_cmp_Compare_int64 (x : (Int × Int)) : Option Int := p_cmp_Compare_int64 FU x
def a_cmp_Compare_int64 : Ann := .leaf
def S_cmp_Compare_int64 : FSpec := ⟨[.val (.int .i64), .val (.int .i64)], [(.int .i64)], m_cmp_Compare_int64⟩

/-! cmp.Or[int] -/
def l_cmp_Or_int_1 (n : Nat) (x : (List Int)) (z0 : Int) : Option Int :=
(lp (fun rec4 (z3 : Int) =>
 (cond (decide (z3 < (lenI x)))
  ((geti x z3).bind fun y5 =>
  (cond (!(y5 == (0 : Int)))
   (some y5)
   (rec4 (IntKind.wrap .i64 (z3 + (1 : Int))))))
  (some (0 : Int)))) n z0)
def p_cmp_Or_int (n : Nat) (x : (List Int)) : Option Int :=
(l_cmp_Or_int_1 n x (0 : Int))
def m_cmp_Or_int (x : (List Int)) : Option Int := p_cmp_Or_int FU x
def a_cmp_Or_int : Ann := (.node .leaf (.node .leaf (.node (.node .leaf (.loop [.slot 8 (.int .i64)] [2, 5, 9, 10, 11, 12, 13, 14, 15, 16] .leaf)) .leaf)))
def S_cmp_Or_int : FSpec := ⟨[.val (.sl none (.int .i64))], [(.int .i64)], m_cmp_Or_int⟩

/-! impl.compareSlots -/
def p_impl_compareSlots (n : Nat) (x : ((Int × (Int × (Int × ((Int × Int) × (List (Int × Int)))))) × (Int × (Int × (Int × ((Int × Int) × (List (Int × Int)))))))) : Option Int :=
((m_cmp_Compare_int64 (x.1.1, x.2.1)).bind fun r1 =>
((m_cmp_Compare_int64 (x.1.2.1, x.2.2.1)).bind fun r2 =>
((m_cmp_Or_int [r1, r2]).bind fun r3 =>
some r3)))
def m_impl_compareSlots (x : ((Int × (Int × (Int × ((Int × Int) × (List (Int × Int)))))) × (Int × (Int × (Int × ((Int × Int) × (List (Int × Int)))))))) : Option Int := p_impl_compareSlots FU x
def a_impl_compareSlots : Ann := (.node .leaf (.node (.lazy 15 .leaf) .leaf))
def S_impl_compareSlots : FSpec := ⟨[.val (.pair (.int .i64) (.pair (.int .i64) (.pair (.int .i64) (.pair (.pair (.int .i64) (.int .i64)) (.sl none (.pair (.int .i64) (.int .i64))))))), .val (.pair (.int .i64) (.pair (.int .i64) (.pair (.int .i64) (.pair (.pair (.int .i64) (.int .i64)) (.sl none (.pair (.int .i64) (.int .i64)))))))], [(.int .i64)], m_impl_compareSlots⟩

/-! impl.AcceptorFault -/
def l_impl_AcceptorFault_1 (n : Nat) (x : (List (Int × (Int × (Int × ((Int × Int) × (List (Int × Int)))))))) (z0 : Int) : Option Int :=
(lp (fun rec10 (z9 : Int) =>
 (cond (decide (z9 < (lenI x)))
  ((geti x z9).bind fun y11 =>
  ((m_impl_SlotFault y11).bind fun r12 =>
  (cond (!(r12 == (0 : Int)))
   (some r12)
   (Option.bind (α := Bool)
    (cond (decide (z9 > (0 : Int)))
     ((geti x (IntKind.wrap .i64 (z9 - (1 : Int)))).bind fun y15 =>
     ((m_impl_compareSlots (y15, y11)).bind fun r16 =>
     some (decide (r16 ≥ (0 : Int)))))
     (some false)) fun j17 =>
   (cond j17
    (some (1 : Int))
    (rec10 (IntKind.wrap .i64 (z9 + (1 : Int)))))))))
  (some (0 : Int)))) n z0)
def p_impl_AcceptorFault (n : Nat) (x : (List (Int × (Int × (Int × ((Int × Int) × (List (Int × Int)))))))) : Option Int :=
(cond (decide ((lenI x) > (60 : Int)))
 (some (2 : Int))
 (l_impl_AcceptorFault_1 n x (0 : Int)))
def m_impl_AcceptorFault (x : (List (Int × (Int × (Int × ((Int × Int) × (List (Int × Int)))))))) : Option Int := p_impl_AcceptorFault FU x
def a_impl_AcceptorFault : Ann := (.node .leaf (.node .leaf (.node (.node .leaf (.loop [.slot 13 (.int .i64)] [2, 3, 4, 5, 14, 15, 16, 17, 18, 19, 20, 21, 22, 23, 24, 25, 26, 27, 28, 29, 30, 31, 32, 33, 34, 35, 36] (.node .leaf (.node .leaf (.node (.node .leaf (.node .leaf (.join [.slot 35 .bool] [23, 24, 25, 26, 27, 28, 29, 30, 31, 32, 33, 34] .leaf .leaf))) .leaf))))) .leaf)))
def S_impl_AcceptorFault : FSpec := ⟨[.val (.one (.sl none (.pair (.int .i64) (.pair (.int .i64) (.pair (.int .i64) (.pair (.pair (.int .i64) (.int .i64)) (.sl none (.pair (.int .i64) (.int .i64)))))))))], [(.int .i64)], m_impl_AcceptorFault⟩

/-! impl.listFault -/
def l_impl_listFault_1 (n : Nat) (x : (List (List (Int × (Int × (Int × ((Int × Int) × (List (Int × Int))))))))) (z0 : Int) : Option Int :=
(lp (fun rec7 (z6 : Int) =>
 (cond (decide (z6 < (lenI x)))
  ((geti x z6).bind fun y8 =>
  ((m_impl_AcceptorFault y8).bind fun r9 =>
  (cond (!(r9 == (0 : Int)))
   (some r9)
   (rec7 (IntKind.wrap .i64 (z6 + (1 : Int)))))))
  (some (0 : Int)))) n z0)
def p_impl_listFault (n : Nat) (x : (List (List (Int × (Int × (Int × ((Int × Int) × (List (Int × Int))))))))) : Option Int :=
((m_impl_size_impl_Acceptor x).bind fun r1 =>
((m_impl_within (r1, (1 : Int), (5 : Int))).bind fun r2 =>
(cond (!r2)
 (some (2 : Int))
 (l_impl_listFault_1 n x (0 : Int)))))
def m_impl_listFault (x : (List (List (Int × (Int × (Int × ((Int × Int) × (List (Int × Int))))))))) : Option Int := p_impl_listFault FU x
def a_impl_listFault : Ann := (.node .leaf (.node .leaf (.node (.node .leaf (.loop [.slot 12 (.int .i64)] [2, 4, 5, 13, 14, 15, 16, 17, 18, 19, 20, 21] .leaf)) .leaf)))
def S_impl_listFault : FSpec := ⟨[.val (.sl none (.one (.sl none (.pair (.int .i64) (.pair (.int .i64) (.pair (.int .i64) (.pair (.pair (.int .i64) (.int .i64)) (.sl none (.pair (.int .i64) (.int .i64))))))))))], [(.int .i64)], m_impl_listFault⟩

/-! impl.Leg] -/
def p_impl_size_impl_Leg (n : Nat) (x : (List (Int × (Int × (Int × Int))))) : Option Int :=
some (lenI x)
def m_impl_size_impl_Leg (x : (List (Int × (Int × (Int × Int))))) : Option Int := p_impl_size_impl_Leg FU x
def a_impl_size_impl_Leg : Ann := .leaf
def S_impl_size_impl_Leg : FSpec := ⟨[.val (.sl none (.pair (.int .i64) (.pair (.int .i64) (.pair (.int .i64) (.int .i64)))))], [(.int .i64)], m_impl_size_impl_Leg⟩

/-! impl.isAsset -/
def p_impl_isAsset (n : Nat) (x : Int) : Option Bool :=
((m_impl_within (x, (0 : Int), (2 : Int))).bind fun r1 =>
some r1)
def m_impl_isAsset (x : Int) : Option Bool := p_impl_isAsset FU x
def a_impl_isAsset : Ann := .leaf
def S_impl_isAsset : FSpec := ⟨[.val (.int .i64)], [.bool], m_impl_isAsset⟩

/-! impl.isPlace -/
def p_impl_isPlace (n : Nat) (x : (Int × Int)) : Option Bool :=
((m_impl_within (x.1, (0 : Int), (5 : Int))).bind fun r1 =>
(cond r1
 ((m_impl_isAsset x.2).bind fun r2 =>
 some r2)
 (some false)))
def m_impl_isPlace (x : (Int × Int)) : Option Bool := p_impl_isPlace FU x
def a_impl_isPlace : Ann := .leaf
def S_impl_isPlace : FSpec := ⟨[.val (.int .i64), .val (.int .i64)], [.bool], m_impl_isPlace⟩

/-! impl.LegFault -/
def p_impl_LegFault (n : Nat) (x : (Int × (Int × (Int × Int)))) : Option Int :=
(Option.bind (α := Bool)
 ((m_impl_isShard x.1).bind fun r4 =>
 (cond (!r4)
  (some true)
  ((m_impl_isPlace (x.2.1, x.2.2.1)).bind fun r5 =>
  (cond (!r5)
   (some true)
   ((m_impl_within (x.2.2.2, (-1000000000000 : Int), (1000000000000 : Int))).bind fun r6 =>
   some (!r6)))))) fun j7 =>
(cond j7
 (some (3 : Int))
 (cond (x.2.2.2 == (0 : Int))
  (some (1 : Int))
  (some (0 : Int)))))
def m_impl_LegFault (x : (Int × (Int × (Int × Int)))) : Option Int := p_impl_LegFault FU x
def a_impl_LegFault : Ann := (.node .leaf (.node (.join [.slot 3 .bool] [4, 5, 6, 7, 8, 9, 10, 11, 12, 13, 14, 15, 16, 17, 18, 19, 20, 21] .leaf .leaf) .leaf))
def S_impl_LegFault : FSpec := ⟨[.val (.pair (.int .i64) (.pair (.int .i64) (.pair (.int .i64) (.int .i64))))], [(.int .i64)], m_impl_LegFault⟩

/-! impl.samePlace -/
def p_impl_samePlace (n : Nat) (x : ((Int × (Int × (Int × Int))) × (Int × (Int × (Int × Int))))) : Option Bool :=
(cond (x.1.1 == x.2.1)
 (cond (x.1.2.1 == x.2.2.1)
  (some (x.1.2.2.1 == x.2.2.2.1))
  (some false))
 (some false))
def m_impl_samePlace (x : ((Int × (Int × (Int × Int))) × (Int × (Int × (Int × Int))))) : Option Bool := p_impl_samePlace FU x
def a_impl_samePlace : Ann := .leaf
def S_impl_samePlace : FSpec := ⟨[.val (.pair (.int .i64) (.pair (.int .i64) (.pair (.int .i64) (.int .i64)))), .val (.pair (.int .i64) (.pair (.int .i64) (.pair (.int .i64) (.int .i64))))], [.bool], m_impl_samePlace⟩

/-! impl.ContractFault -/
def l_impl_ContractFault_1 (n : Nat) (z106_1 : Int) (x_2 : (List (Int × (Int × (Int × Int))))) (y108 : (Int × (Int × (Int × Int)))) (z0 : Int) : Option Int :=
(lp (fun rec122 (z121 : Int) =>
 (cond (decide (z121 < (lenI (cutL none (some z106_1) x_2))))
  ((geti (cutL none (some z106_1) x_2) z121).bind fun y123 =>
  ((m_impl_samePlace (y123, y108)).bind fun r124 =>
  (cond r124
   (some z121)
   (rec122 (IntKind.wrap .i64 (z121 + (1 : Int)))))))
  (some (-1 : Int)))) n z0)
def l_impl_ContractFault_2 (n : Nat) (x_2 : (List (Int × (Int × (Int × Int))))) (z0 : (Int × (List (Int × Int)))) : Option ((List (Int × Int)) ⊕ Int) :=
(lp (fun rec107 (z106 : (Int × (List (Int × Int)))) =>
 (cond (decide (z106.1 < (lenI x_2)))
  ((geti x_2 z106.1).bind fun y108 =>
  ((m_impl_LegFault y108).bind fun r109 =>
  (cond (!(r109 == (0 : Int)))
   (some (Sum.inr r109))
   (chk (bndB none (some z106.1) none x_2.length)
    (Option.bind (α := Int)
     (l_impl_ContractFault_1 n z106.1 x_2 y108 (0 : Int)) fun j126 =>
    (cond (decide (j126 ≥ (0 : Int)))
     (some (Sum.inr (7 : Int)))
     (rec107 (IntKind.wrap .i64 (z106.1 + (1 : Int)), (mupd (.int .i64) z106.2 y108.2.2.1 (IntKind.wrap .i64 ((mlook (.int .i64) z106.2 y108.2.2.1) + y108.2.2.2)))))))))))
  (some (Sum.inl z106.2)))) n z0)
def l_impl_ContractFault_3 (n : Nat) (j128 : (List (Int × Int))) (z0 : (Int × (List Int))) : Option Int :=
(lp (fun rec140 (z139 : (Int × (List Int))) =>
 (chk (z139.1 == lenI j128)
 (drawM (leftM z139.1 z139.2) (fun y141 =>
 ((geti j128 y141).bind fun y142 =>
 (chk (z139.1 == lenI j128)
 (((z139.2 ++ [y141]).getLast?).bind fun y143 =>
 ((geti j128 y143).bind fun y144 =>
 (cond (!(y144.2 == (0 : Int)))
  (some (1 : Int))
  (rec140 (z139.1, (z139.2 ++ [y141])))))))))
  (some (0 : Int))))) n z0)
def p_impl_ContractFault (n : Nat) (x : (Int × (List (Int × (Int × (Int × Int)))))) : Option Int :=
((m_impl_isId x.1).bind fun r1 =>
(cond (!r1)
 (some (3 : Int))
 ((m_impl_size_impl_Leg x.2).bind fun r2 =>
 ((m_impl_within (r2, (2 : Int), (8 : Int))).bind fun r3 =>
 (cond (!r3)
  (some (2 : Int))
  (Option.bind (α := ((List (Int × Int)) ⊕ Int))
   (l_impl_ContractFault_2 n x.2 ((0 : Int), ([] : List (Int × Int))))
   (Sum.elim (fun j128 =>
  (l_impl_ContractFault_3 n j128 ((lenI j128), ([] : List Int)))) some)))))))
def m_impl_ContractFault (x : (Int × (List (Int × (Int × (Int × Int)))))) : Option Int := p_impl_ContractFault FU x
def a_impl_ContractFault : Ann := (.node .leaf (.node .leaf (.node .leaf (.joinx [.map 1 (.int .i64) .i64] [2, 4, 5, 6, 21, 22, 23, 24, 25, 26, 27, 28, 29, 30, 31, 32, 33, 34, 35, 36, 37, 38, 39, 40, 41, 42, 43, 44, 45, 46, 47] (.node .leaf (.loop [.slot 24 (.int .i64), .map 1 (.int .i64) .i64] [2, 4, 5, 6, 25, 26, 27, 28, 29, 30, 31, 32, 33, 34, 35, 36, 37, 38, 39, 40, 41, 42, 43, 44, 45, 46, 47] (.node .leaf (.node .leaf (.node (.node .leaf (.node .leaf (.node (.node (.reg 39 (.node .leaf (.node (.regj 7 [.slot 7 (.int .i64)] [] (.node .leaf (.node (.node .leaf (.loop [.slot 8 (.int .i64)] [4, 5, 9, 10, 11, 12, 13, 14, 15, 16, 17, 18] .leaf)) .leaf)) .leaf) .leaf)) .leaf) .leaf) .leaf))) .leaf))))) (.node (.node .leaf (.loop [.iter 2 1] [2, 8, 50, 51, 52, 53, 54, 55] .leaf)) .leaf)))))
def S_impl_ContractFault : FSpec := ⟨[.val (.pair (.int .i64) (.sl none (.pair (.int .i64) (.pair (.int .i64) (.pair (.int .i64) (.int .i64))))))], [(.int .i64)], m_impl_ContractFault⟩

/-! impl.firstOf -/
def l_impl_firstOf_1 (n : Nat) (x : (List Int)) (z0 : Int) : Option Int :=
(lp (fun rec4 (z3 : Int) =>
 (cond (decide (z3 < (lenI x)))
  ((geti x z3).bind fun y5 =>
  (cond (!(y5 == (0 : Int)))
   (some y5)
   (rec4 (IntKind.wrap .i64 (z3 + (1 : Int))))))
  (some (0 : Int)))) n z0)
def p_impl_firstOf (n : Nat) (x : (List Int)) : Option Int :=
(l_impl_firstOf_1 n x (0 : Int))
def m_impl_firstOf (x : (List Int)) : Option Int := p_impl_firstOf FU x
def a_impl_firstOf : Ann := (.node .leaf (.node (.node .leaf (.loop [.slot 7 (.int .i64)] [2, 4, 8, 9, 10, 11, 12, 13, 14] .leaf)) .leaf))
def S_impl_firstOf : FSpec := ⟨[.val (.sl none (.int .i64))], [(.int .i64)], m_impl_firstOf⟩

/-! slices.Sort[[]int64,int64] -/
def p_slices_Sort_int64_int64 (n : Nat) (x : (List Int)) : Option (List Int) :=
sortIRun x
def m_slices_Sort_int64_int64 (x : (List Int)) : Option (List Int) := p_slices_Sort_int64_int64 FU x
def a_slices_Sort_int64_int64 : Ann := .leaf
def S_slices_Sort_int64_int64 : FSpec := ⟨[.row 2 (.int .i64)], [], m_slices_Sort_int64_int64⟩

/-! slices.Compact[[]int64,int64] -/
def l_slices_Compact_int64_int64_1 (n : Nat) (x : (List Int)) (z77 : Int) (z0 : (Int × (Int × (List Int)))) : Option (Int × (List Int)) :=
(lp (fun rec146 (z145 : (Int × (Int × (List Int)))) =>
 (cond (decide (z145.2.1 < (((x.length - z77.toNat) : Nat) : Int)))
  ((geti ((z145.2.2.drop z77.toNat).take (x.length - z77.toNat)) z145.2.1).bind fun _ =>
  ((z145.2.2[(z77.toNat + z145.2.1.toNat)]?).bind fun y147 =>
  ((geti ((z145.2.2.drop z77.toNat).take (x.length - z77.toNat)) (IntKind.wrap .i64 (z145.2.1 - (1 : Int)))).bind fun _ =>
  ((z145.2.2[(z77.toNat + (IntKind.wrap .i64 (z145.2.1 - (1 : Int))).toNat)]?).bind fun y148 =>
  (cond (!(y147 == y148))
   ((geti ((z145.2.2.drop z77.toNat).take (x.length - z77.toNat)) z145.2.1).bind fun _ =>
   ((z145.2.2[(z77.toNat + z145.2.1.toNat)]?).bind fun y149 =>
   ((geti z145.2.2 z145.1).bind fun _ =>
   ((z145.2.2[z145.1.toNat]?).bind fun y150 =>
   rec146 (IntKind.wrap .i64 (z145.1 + (1 : Int)), IntKind.wrap .i64 (z145.2.1 + (1 : Int)), (z145.2.2.set z145.1.toNat y149))))))
   (rec146 (z145.1, IntKind.wrap .i64 (z145.2.1 + (1 : Int)), z145.2.2)))))))
  (some (z145.1, z145.2.2)))) n z0)
def l_slices_Compact_int64_int64_2 (n : Nat) (x : (List Int)) (z0 : Int) : Option ((List Int) × Bool) :=
(lp (fun rec78 (z77 : Int) =>
 (cond (decide (z77 < (lenI x)))
  (Option.bind (α := (Unit ⊕ ((List Int) × Bool)))
   ((geti x z77).bind fun _ =>
   ((x[z77.toNat]?).bind fun y116 =>
   ((geti x (IntKind.wrap .i64 (z77 - (1 : Int)))).bind fun _ =>
   ((x[(IntKind.wrap .i64 (z77 - (1 : Int))).toNat]?).bind fun y117 =>
   (cond (y116 == y117)
    (chk (bndB (some z77) none none x.length)
     (Option.bind (α := (Int × (List Int)))
      (l_slices_Compact_int64_int64_1 n x z77 (z77, (1 : Int), x)) fun j152 =>
     (chk (bndB (some j152.1) none none j152.2.length)
      (chk (bndB none (some j152.1) none (j152.2.take j152.1.toNat ++ List.replicate (j152.2.length - j152.1.toNat) (0 : Int) ++ j152.2.drop (j152.1.toNat + (j152.2.length - j152.1.toNat))).length)
       (some (Sum.inr (((j152.2.take j152.1.toNat ++ List.replicate (j152.2.length - j152.1.toNat) (0 : Int) ++ j152.2.drop (j152.1.toNat + (j152.2.length - j152.1.toNat))).take j152.1.toNat), true)))))))
    (some (Sum.inl ())))))))
   (Sum.elim (fun j153 =>
  rec78 (IntKind.wrap .i64 (z77 + (1 : Int)))) some))
  (some (x, true)))) n z0)
def p_slices_Compact_int64_int64 (n : Nat) (x : (List Int)) : Option ((List Int) × Bool) :=
(cond (decide ((lenI x) < (2 : Int)))
 (some (x, true))
 (l_slices_Compact_int64_int64_2 n x (1 : Int)))
def m_slices_Compact_int64_int64 (x : (List Int)) : Option ((List Int) × Bool) := p_slices_Compact_int64_int64 FU x
def a_slices_Compact_int64_int64 : Ann := (.node .leaf (.node .leaf (.node (.node .leaf (.loop [.slot 3 (.int .i64)] [2, 4, 5, 10, 11, 12, 13, 14, 15, 16, 17, 18, 19, 20, 21, 22, 23, 24, 25, 26, 27, 28, 29, 30, 31, 32, 33, 34, 35, 36, 37, 38, 39, 40, 41, 42, 43, 44, 45, 46, 47, 48, 49, 50, 51, 52, 53, 54, 55, 56, 57, 58, 59] (.node .leaf (.joinx [] [16, 17, 18, 19, 20, 21, 22, 23, 24, 25] (.node .leaf (.node (.node .leaf (.join [.slot 3 (.int .i64), .row 0 2 (.int .i64)] [5, 29, 30, 31, 32, 33, 34, 35, 36, 37, 38, 39, 40, 41, 42, 43, 44, 45, 46, 47, 48, 49, 50, 51, 52, 53] (.node .leaf (.loop [.slot 3 (.int .i64), .slot 5 (.int .i64), .row 0 2 (.int .i64)] [29, 30, 31, 32, 33, 34, 35, 36, 37, 38, 39, 40, 41, 42, 43, 44, 45, 46, 47, 48, 49, 50, 51, 52, 53] .leaf)) (.node .leaf (.node (.own 59 (.int .i64) .leaf) .leaf)))) .leaf)) .leaf)))) .leaf)))
def S_slices_Compact_int64_int64 : FSpec := ⟨[.own 2 (.int .i64)], [(.sl (some 2) (.int .i64))], m_slices_Compact_int64_int64⟩

/-! impl.shardsOf -/
def l_impl_shardsOf_1 (n : Nat) (x_2 : (List (Int × (Int × (Int × Int))))) (z0 : ((List Int) × Int)) : Option (List Int) :=
(lp (fun rec10 (z9 : ((List Int) × Int)) =>
 (cond (decide (z9.2 < (lenI x_2)))
  ((geti x_2 z9.2).bind fun y11 =>
  (chk (Nat.ble ((z9.1.length + [y11.1].length) * 8) maxBytes)
  (rec10 ((z9.1 ++ [y11.1]), IntKind.wrap .i64 (z9.2 + (1 : Int))))))
  (some z9.1))) n z0)
def p_impl_shardsOf (n : Nat) (x : (Int × (List (Int × (Int × (Int × Int)))))) : Option (List Int) :=
(Option.bind (α := (List Int))
 (l_impl_shardsOf_1 n x.2 (([] : List Int), (0 : Int))) fun j13 =>
((m_slices_Sort_int64_int64 j13).bind fun r14 =>
((m_slices_Compact_int64_int64 r14).bind fun r15 =>
some r15.1)))
def m_impl_shardsOf (x : (Int × (List (Int × (Int × (Int × Int)))))) : Option (List Int) := p_impl_shardsOf FU x
def a_impl_shardsOf : Ann := (.node .leaf (.node .leaf (.join [.slot 3 (.sl (some 2) (.int .i64))] [5, 7, 8, 9, 10, 11, 12, 13, 14, 15, 16, 17, 18, 19] (.node .leaf (.loop [.slot 3 (.sl (some 2) (.int .i64)), .slot 10 (.int .i64)] [5, 11, 12, 13, 14, 15, 16, 17, 18, 19] .leaf)) .leaf)))
def S_impl_shardsOf : FSpec := ⟨[.val (.pair (.int .i64) (.sl none (.pair (.int .i64) (.pair (.int .i64) (.pair (.int .i64) (.int .i64))))))], [(.sl (some 2) (.int .i64))], m_impl_shardsOf⟩

/-! impl.Acceptor).slotAt -/
def l_impl_Acceptor_slotAt_1 (n : Nat) (x_1 : (List (Int × (Int × (Int × ((Int × Int) × (List (Int × Int)))))))) (x_2_1 : Int) (x_2_2 : Int) (z0 : (Int × Int)) : Option Int :=
(lp (fun rec13 (z12 : (Int × Int)) =>
 (cond (decide (z12.1 < z12.2))
  (chk (decide (0 ≤ (1 : Int)))
   ((geti x_1 (IntKind.wrap .i64 (Int.fdiv (IntKind.wrap .u64 (IntKind.wrap .i64 (z12.1 + z12.2))) (2 ^ (min (1 : Int).toNat 64))))).bind fun y14 =>
   ((m_impl_compareSlots (y14, (x_2_1, (x_2_2, ((0 : Int), (((0 : Int), (0 : Int)), [])))))).bind fun r15 =>
   (cond (decide (r15 < (0 : Int)))
    (rec13 (IntKind.wrap .i64 ((IntKind.wrap .i64 (Int.fdiv (IntKind.wrap .u64 (IntKind.wrap .i64 (z12.1 + z12.2))) (2 ^ (min (1 : Int).toNat 64)))) + (1 : Int)), z12.2))
    (rec13 (z12.1, IntKind.wrap .i64 (Int.fdiv (IntKind.wrap .u64 (IntKind.wrap .i64 (z12.1 + z12.2))) (2 ^ (min (1 : Int).toNat 64)))))))))
  (some z12.1))) n z0)
def p_impl_Acceptor_slotAt (n : Nat) (x : ((List (Int × (Int × (Int × ((Int × Int) × (List (Int × Int))))))) × (Int × Int))) : Option (Int × Bool) :=
(Option.bind (α := Int)
 (l_impl_Acceptor_slotAt_1 n x.1 x.2.1 x.2.2 ((0 : Int), lenI x.1)) fun j17 =>
(cond (decide (j17 < (lenI x.1)))
 ((geti x.1 j17).bind fun y18 =>
 ((m_impl_compareSlots (y18, (x.2.1, (x.2.2, ((0 : Int), (((0 : Int), (0 : Int)), [])))))).bind fun r19 =>
 some (j17, (r19 == (0 : Int)))))
 (some (j17, false))))
def m_impl_Acceptor_slotAt (x : ((List (Int × (Int × (Int × ((Int × Int) × (List (Int × Int))))))) × (Int × Int))) : Option (Int × Bool) := p_impl_Acceptor_slotAt FU x
def a_impl_Acceptor_slotAt : Ann := (.node .leaf (.node (.reg 13 (.node .leaf (.node .leaf (.node .leaf (.join [.slot 9 (.int .i64)] [10, 11, 15, 16, 17, 18, 19, 20, 21, 22, 23, 24, 25, 26, 27, 28, 29, 30, 31, 32, 33, 34] (.loop [.slot 9 (.int .i64), .slot 10 (.int .i64)] [11, 15, 16, 17, 18, 19, 20, 21, 22, 23, 24, 25, 26, 27, 28, 29, 30, 31, 32, 33, 34] .leaf) .leaf)))) .leaf) .leaf))
def S_impl_Acceptor_slotAt : FSpec := ⟨[.val (.one (.sl none (.pair (.int .i64) (.pair (.int .i64) (.pair (.int .i64) (.pair (.pair (.int .i64) (.int .i64)) (.sl none (.pair (.int .i64) (.int .i64))))))))), .val (.int .i64), .val (.int .i64)], [(.int .i64), .bool], m_impl_Acceptor_slotAt⟩

/-! impl.newSlot -/
def p_impl_newSlot (n : Nat) (x : (Int × Int)) : Option (Int × (Int × (Int × ((Int × Int) × (List (Int × Int)))))) :=
((m_impl_noVote ()).bind fun r1 =>
some (x.1, (x.2, ((-1 : Int), (r1, [])))))
def m_impl_newSlot (x : (Int × Int)) : Option (Int × (Int × (Int × ((Int × Int) × (List (Int × Int)))))) := p_impl_newSlot FU x
def a_impl_newSlot : Ann := .leaf
def S_impl_newSlot : FSpec := ⟨[.val (.int .i64), .val (.int .i64)], [(.pair (.int .i64) (.pair (.int .i64) (.pair (.int .i64) (.pair (.pair (.int .i64) (.int .i64)) (.sl (some 79) (.pair (.int .i64) (.int .i64)))))))], m_impl_newSlot⟩

/-! impl.Vote] -/
def p_slices_Clone_impl_Vote_impl_Vote (n : Nat) (x : (List (Int × Int))) : Option (List (Int × Int)) :=
(cond (List.isEmpty x)
 (same
  (some [])
  (chk (Nat.ble ((([] : List (Int × Int)).length + x.length) * 16) maxBytes)
  (some (([] : List (Int × Int)) ++ x))))
 (chk (Nat.ble ((([] : List (Int × Int)).length + x.length) * 16) maxBytes)
 (some (([] : List (Int × Int)) ++ x))))
def m_slices_Clone_impl_Vote_impl_Vote (x : (List (Int × Int))) : Option (List (Int × Int)) := p_slices_Clone_impl_Vote_impl_Vote FU x
def a_slices_Clone_impl_Vote_impl_Vote : Ann := .leaf
def S_slices_Clone_impl_Vote_impl_Vote : FSpec := ⟨[.val (.sl none (.pair (.int .i64) (.int .i64)))], [(.sl (some 79) (.pair (.int .i64) (.int .i64)))], m_slices_Clone_impl_Vote_impl_Vote⟩

/-! impl.copySlot -/
def p_impl_copySlot (n : Nat) (x : (Int × (Int × (Int × ((Int × Int) × (List (Int × Int))))))) : Option (Int × (Int × (Int × ((Int × Int) × (List (Int × Int)))))) :=
((m_slices_Clone_impl_Vote_impl_Vote x.2.2.2.2).bind fun r1 =>
some (x.1, (x.2.1, (x.2.2.1, (x.2.2.2.1, r1)))))
def m_impl_copySlot (x : (Int × (Int × (Int × ((Int × Int) × (List (Int × Int))))))) : Option (Int × (Int × (Int × ((Int × Int) × (List (Int × Int)))))) := p_impl_copySlot FU x
def a_impl_copySlot : Ann := .leaf
def S_impl_copySlot : FSpec := ⟨[.val (.pair (.int .i64) (.pair (.int .i64) (.pair (.int .i64) (.pair (.pair (.int .i64) (.int .i64)) (.sl none (.pair (.int .i64) (.int .i64)))))))], [(.pair (.int .i64) (.pair (.int .i64) (.pair (.int .i64) (.pair (.pair (.int .i64) (.int .i64)) (.sl (some 79) (.pair (.int .i64) (.int .i64)))))))], m_impl_copySlot⟩

/-! impl.Acceptor).slot -/
def p_impl_Acceptor_slot (n : Nat) (x : ((List (Int × (Int × (Int × ((Int × Int) × (List (Int × Int))))))) × (Int × Int))) : Option (Int × (Int × (Int × ((Int × Int) × (List (Int × Int)))))) :=
((m_impl_Acceptor_slotAt (x.1, x.2.1, x.2.2)).bind fun r1 =>
(cond (!r1.2)
 ((m_impl_newSlot (x.2.1, x.2.2)).bind fun r2 =>
 some r2)
 ((geti x.1 r1.1).bind fun y3 =>
 ((m_impl_copySlot y3).bind fun r4 =>
 some r4))))
def m_impl_Acceptor_slot (x : ((List (Int × (Int × (Int × ((Int × Int) × (List (Int × Int))))))) × (Int × Int))) : Option (Int × (Int × (Int × ((Int × Int) × (List (Int × Int)))))) := p_impl_Acceptor_slot FU x
def a_impl_Acceptor_slot : Ann := .leaf
def S_impl_Acceptor_slot : FSpec := ⟨[.val (.one (.sl none (.pair (.int .i64) (.pair (.int .i64) (.pair (.int .i64) (.pair (.pair (.int .i64) (.int .i64)) (.sl none (.pair (.int .i64) (.int .i64))))))))), .val (.int .i64), .val (.int .i64)], [(.pair (.int .i64) (.pair (.int .i64) (.pair (.int .i64) (.pair (.pair (.int .i64) (.int .i64)) (.sl (some 79) (.pair (.int .i64) (.int .i64)))))))], m_impl_Acceptor_slot⟩

/-! impl.slotsFor -/
def l_impl_slotsFor_1 (n : Nat) (x_1 : (List (List (Int × (Int × (Int × ((Int × Int) × (List (Int × Int))))))))) (x_2_1 : Int) (x_2_2 : Int) (z0 : ((List (Int × (Int × (Int × ((Int × Int) × (List (Int × Int))))))) × Int)) : Option (List (Int × (Int × (Int × ((Int × Int) × (List (Int × Int))))))) :=
(lp (fun rec5 (z4 : ((List (Int × (Int × (Int × ((Int × Int) × (List (Int × Int))))))) × Int)) =>
 (cond (decide (z4.2 < (lenI x_1)))
  ((geti x_1 z4.2).bind fun y6 =>
  ((m_impl_Acceptor_slot (y6, x_2_1, x_2_2)).bind fun r7 =>
  (chk (Nat.ble ((z4.1.length + [r7].length) * 64) maxBytes)
  (rec5 ((z4.1 ++ [r7]), IntKind.wrap .i64 (z4.2 + (1 : Int)))))))
  (some z4.1))) n z0)
def p_impl_slotsFor (n : Nat) (x : ((List (List (Int × (Int × (Int × ((Int × Int) × (List (Int × Int)))))))) × (Int × Int))) : Option (List (Int × (Int × (Int × ((Int × Int) × (List (Int × Int))))))) :=
(l_impl_slotsFor_1 n x.1 x.2.1 x.2.2 (([] : List (Int × (Int × (Int × ((Int × Int) × (List (Int × Int))))))), (0 : Int)))
def m_impl_slotsFor (x : ((List (List (Int × (Int × (Int × ((Int × Int) × (List (Int × Int)))))))) × (Int × Int))) : Option (List (Int × (Int × (Int × ((Int × Int) × (List (Int × Int))))))) := p_impl_slotsFor FU x
def a_impl_slotsFor : Ann := (.node .leaf (.node (.own 10 (.pair (.int .i64) (.pair (.int .i64) (.pair (.int .i64) (.pair (.pair (.int .i64) (.int .i64)) (.sl (some 79) (.pair (.int .i64) (.int .i64))))))) .leaf) (.node (.node .leaf (.loop [.slot 7 (.sl (some 135) (.pair (.int .i64) (.pair (.int .i64) (.pair (.int .i64) (.pair (.pair (.int .i64) (.int .i64)) (.sl (some 79) (.pair (.int .i64) (.int .i64)))))))), .slot 13 (.int .i64)] [9, 14, 15, 16, 17, 18, 19, 20, 21, 22, 23, 24] (.node .leaf (.node .leaf (.node (.node .leaf (.own 22 (.pair (.int .i64) (.pair (.int .i64) (.pair (.int .i64) (.pair (.pair (.int .i64) (.int .i64)) (.sl (some 79) (.pair (.int .i64) (.int .i64))))))) .leaf)) .leaf))))) .leaf)))
def S_impl_slotsFor : FSpec := ⟨[.val (.sl none (.one (.sl none (.pair (.int .i64) (.pair (.int .i64) (.pair (.int .i64) (.pair (.pair (.int .i64) (.int .i64)) (.sl none (.pair (.int .i64) (.int .i64)))))))))), .val (.int .i64), .val (.int .i64)], [(.sl (some 135) (.pair (.int .i64) (.pair (.int .i64) (.pair (.int .i64) (.pair (.pair (.int .i64) (.int .i64)) (.sl (some 79) (.pair (.int .i64) (.int .i64))))))))], m_impl_slotsFor⟩

/-! impl.Slot] -/
def p_impl_size_impl_Slot (n : Nat) (x : (List (Int × (Int × (Int × ((Int × Int) × (List (Int × Int)))))))) : Option Int :=
some (lenI x)
def m_impl_size_impl_Slot (x : (List (Int × (Int × (Int × ((Int × Int) × (List (Int × Int)))))))) : Option Int := p_impl_size_impl_Slot FU x
def a_impl_size_impl_Slot : Ann := .leaf
def S_impl_size_impl_Slot : FSpec := ⟨[.val (.sl none (.pair (.int .i64) (.pair (.int .i64) (.pair (.int .i64) (.pair (.pair (.int .i64) (.int .i64)) (.sl none (.pair (.int .i64) (.int .i64))))))))], [(.int .i64)], m_impl_size_impl_Slot⟩

/-! impl.slotsFault -/
def l_impl_slotsFault_1 (n : Nat) (x : (List (Int × (Int × (Int × ((Int × Int) × (List (Int × Int)))))))) (z0 : Int) : Option (Unit ⊕ Int) :=
(lp (fun rec13 (z12 : Int) =>
 (cond (decide (z12 < (lenI x)))
  ((geti x z12).bind fun y14 =>
  ((m_impl_SlotFault y14).bind fun r15 =>
  (cond (!(r15 == (0 : Int)))
   (some (Sum.inr r15))
   (rec13 (IntKind.wrap .i64 (z12 + (1 : Int)))))))
  (some (Sum.inl ())))) n z0)
def l_impl_slotsFault_2 (n : Nat) (x : (List (Int × (Int × (Int × ((Int × Int) × (List (Int × Int)))))))) (z0 : Int) : Option Int :=
(lp (fun rec44 (z43 : Int) =>
 (cond (decide (z43 < (lenI x)))
  ((geti x z43).bind fun y45 =>
  (Option.bind (α := Bool)
   ((geti x (0 : Int)).bind fun y48 =>
   (cond (!(y45.1 == y48.1))
    (some true)
    ((geti x (0 : Int)).bind fun y49 =>
    some (!(y45.2.1 == y49.2.1))))) fun j50 =>
  (cond j50
   (some z43)
   (rec44 (IntKind.wrap .i64 (z43 + (1 : Int)))))))
  (some (-1 : Int)))) n z0)
def p_impl_slotsFault (n : Nat) (x : (List (Int × (Int × (Int × ((Int × Int) × (List (Int × Int)))))))) : Option Int :=
(Option.bind (α := (Unit ⊕ Int))
 (l_impl_slotsFault_1 n x (0 : Int))
 (Sum.elim (fun j17 =>
((m_impl_size_impl_Slot x).bind fun r18 =>
((m_impl_within (r18, (1 : Int), (9 : Int))).bind fun r19 =>
(cond (!r19)
 (some (2 : Int))
 (Option.bind (α := Int)
  (l_impl_slotsFault_2 n x (0 : Int)) fun j52 =>
 (cond (decide (j52 ≥ (0 : Int)))
  (some (1 : Int))
  (some (0 : Int)))))))) some))
def m_impl_slotsFault (x : (List (Int × (Int × (Int × ((Int × Int) × (List (Int × Int)))))))) : Option Int := p_impl_slotsFault FU x
def a_impl_slotsFault : Ann := (.node .leaf (.joinx [] [2, 4, 5, 6, 7, 8, 9, 10, 11, 12, 13, 14, 15, 16, 17] (.node .leaf (.loop [.slot 8 (.int .i64)] [2, 4, 5, 9, 10, 11, 12, 13, 14, 15, 16, 17] .leaf)) (.node .leaf (.node (.node (.reg 24 (.node .leaf (.node (.regj 7 [.slot 7 (.int .i64)] [] (.node .leaf (.node (.node .leaf (.loop [.slot 8 (.int .i64)] [4, 5, 9, 10, 11, 12, 13, 14, 15, 16, 17, 18] (.node .leaf (.node .leaf (.node (.node .leaf (.node (.regj 16 [.slot 16 .bool] [] .leaf .leaf) .leaf)) .leaf))))) .leaf)) .leaf) .leaf)) .leaf) .leaf) .leaf))))
def S_impl_slotsFault : FSpec := ⟨[.val (.sl none (.pair (.int .i64) (.pair (.int .i64) (.pair (.int .i64) (.pair (.pair (.int .i64) (.int .i64)) (.sl none (.pair (.int .i64) (.int .i64))))))))], [(.int .i64)], m_impl_slotsFault⟩

/-! impl.Vote] -/
def l_slices_Compact_impl_Vote_impl_Vote_1 (n : Nat) (x : (List (Int × Int))) (z77 : Int) (z0 : (Int × (Int × (List (Int × Int))))) : Option (Int × (List (Int × Int))) :=
(lp (fun rec146 (z145 : (Int × (Int × (List (Int × Int))))) =>
 (cond (decide (z145.2.1 < (((x.length - z77.toNat) : Nat) : Int)))
  ((geti ((z145.2.2.drop z77.toNat).take (x.length - z77.toNat)) z145.2.1).bind fun _ =>
  ((z145.2.2[(z77.toNat + z145.2.1.toNat)]?).bind fun y147 =>
  ((geti ((z145.2.2.drop z77.toNat).take (x.length - z77.toNat)) (IntKind.wrap .i64 (z145.2.1 - (1 : Int)))).bind fun _ =>
  ((z145.2.2[(z77.toNat + (IntKind.wrap .i64 (z145.2.1 - (1 : Int))).toNat)]?).bind fun y148 =>
  (cond (!((y147.1 == y148.1) && ((y147.2 == y148.2) && true)))
   ((geti ((z145.2.2.drop z77.toNat).take (x.length - z77.toNat)) z145.2.1).bind fun _ =>
   ((z145.2.2[(z77.toNat + z145.2.1.toNat)]?).bind fun y149 =>
   ((geti z145.2.2 z145.1).bind fun _ =>
   ((z145.2.2[z145.1.toNat]?).bind fun y150 =>
   rec146 (IntKind.wrap .i64 (z145.1 + (1 : Int)), IntKind.wrap .i64 (z145.2.1 + (1 : Int)), (z145.2.2.set z145.1.toNat y149))))))
   (rec146 (z145.1, IntKind.wrap .i64 (z145.2.1 + (1 : Int)), z145.2.2)))))))
  (some (z145.1, z145.2.2)))) n z0)
def l_slices_Compact_impl_Vote_impl_Vote_2 (n : Nat) (x : (List (Int × Int))) (z0 : Int) : Option ((List (Int × Int)) × Bool) :=
(lp (fun rec78 (z77 : Int) =>
 (cond (decide (z77 < (lenI x)))
  (Option.bind (α := (Unit ⊕ ((List (Int × Int)) × Bool)))
   ((geti x z77).bind fun _ =>
   ((x[z77.toNat]?).bind fun y116 =>
   ((geti x (IntKind.wrap .i64 (z77 - (1 : Int)))).bind fun _ =>
   ((x[(IntKind.wrap .i64 (z77 - (1 : Int))).toNat]?).bind fun y117 =>
   (cond ((y116.1 == y117.1) && ((y116.2 == y117.2) && true))
    (chk (bndB (some z77) none none x.length)
     (Option.bind (α := (Int × (List (Int × Int))))
      (l_slices_Compact_impl_Vote_impl_Vote_1 n x z77 (z77, (1 : Int), x)) fun j152 =>
     (chk (bndB (some j152.1) none none j152.2.length)
      (chk (bndB none (some j152.1) none (j152.2.take j152.1.toNat ++ List.replicate (j152.2.length - j152.1.toNat) ((0 : Int), (0 : Int)) ++ j152.2.drop (j152.1.toNat + (j152.2.length - j152.1.toNat))).length)
       (some (Sum.inr (((j152.2.take j152.1.toNat ++ List.replicate (j152.2.length - j152.1.toNat) ((0 : Int), (0 : Int)) ++ j152.2.drop (j152.1.toNat + (j152.2.length - j152.1.toNat))).take j152.1.toNat), true)))))))
    (some (Sum.inl ())))))))
   (Sum.elim (fun j153 =>
  rec78 (IntKind.wrap .i64 (z77 + (1 : Int)))) some))
  (some (x, true)))) n z0)
def p_slices_Compact_impl_Vote_impl_Vote (n : Nat) (x : (List (Int × Int))) : Option ((List (Int × Int)) × Bool) :=
(cond (decide ((lenI x) < (2 : Int)))
 (some (x, true))
 (l_slices_Compact_impl_Vote_impl_Vote_2 n x (1 : Int)))
def m_slices_Compact_impl_Vote_impl_Vote (x : (List (Int × Int))) : Option ((List (Int × Int)) × Bool) := p_slices_Compact_impl_Vote_impl_Vote FU x
def a_slices_Compact_impl_Vote_impl_Vote : Ann := (.node .leaf (.node .leaf (.node (.node .leaf (.loop [.slot 3 (.int .i64)] [2, 4, 5, 10, 11, 12, 13, 14, 15, 16, 17, 18, 19, 20, 21, 22, 23, 24, 25, 26, 27, 28, 29, 30, 31, 32, 33, 34, 35, 36, 37, 38, 39, 40, 41, 42, 43, 44, 45, 46, 47, 48, 49, 50, 51, 52, 53, 54, 55, 56, 57, 58, 59] (.node .leaf (.joinx [] [16, 17, 18, 19, 20, 21, 22, 23, 24, 25] (.node .leaf (.node (.node .leaf (.join [.slot 3 (.int .i64), .row 0 79 (.pair (.int .i64) (.int .i64))] [5, 29, 30, 31, 32, 33, 34, 35, 36, 37, 38, 39, 40, 41, 42, 43, 44, 45, 46, 47, 48, 49, 50, 51, 52, 53] (.node .leaf (.loop [.slot 3 (.int .i64), .slot 5 (.int .i64), .row 0 79 (.pair (.int .i64) (.int .i64))] [29, 30, 31, 32, 33, 34, 35, 36, 37, 38, 39, 40, 41, 42, 43, 44, 45, 46, 47, 48, 49, 50, 51, 52, 53] .leaf)) (.node .leaf (.node (.own 59 (.pair (.int .i64) (.int .i64)) .leaf) .leaf)))) .leaf)) .leaf)))) .leaf)))
def S_slices_Compact_impl_Vote_impl_Vote : FSpec := ⟨[.own 79 (.pair (.int .i64) (.int .i64))], [(.sl (some 79) (.pair (.int .i64) (.int .i64)))], m_slices_Compact_impl_Vote_impl_Vote⟩

/-! impl.quorum -/
def p_impl_quorum (n : Nat) (x : Int) : Option Int :=
(cond ((2 : Int) == 0) none
 (some (IntKind.wrap .i64 ((IntKind.wrap .i64 (Int.tdiv x (2 : Int))) + (1 : Int)))))
def m_impl_quorum (x : Int) : Option Int := p_impl_quorum FU x
def a_impl_quorum : Ann := .leaf
def S_impl_quorum : FSpec := ⟨[.val (.int .i64)], [(.int .i64)], m_impl_quorum⟩

/-! impl.Vote] -/
def p_slices_SortFunc_impl_Vote_impl_Vote (n : Nat) (x : ((List (Int × Int)) × Bool)) : Option (List (Int × Int)) :=
sortRun okVote ((0 : Int), (0 : Int)) rfl cfVote x.1
def m_slices_SortFunc_impl_Vote_impl_Vote (x : ((List (Int × Int)) × Bool)) : Option (List (Int × Int)) := p_slices_SortFunc_impl_Vote_impl_Vote FU x
def a_slices_SortFunc_impl_Vote_impl_Vote : Ann := .leaf
def S_slices_SortFunc_impl_Vote_impl_Vote : FSpec := ⟨[.row 79 (.pair (.int .i64) (.int .i64)), .fn 317], [], m_slices_SortFunc_impl_Vote_impl_Vote⟩

/-! impl.chosen -/
def l_impl_chosen_1 (n : Nat) (r171_1 : (List (Int × Int))) (x : (List (Int × (Int × (Int × ((Int × Int) × (List (Int × Int)))))))) (z0 : ((List (Int × Int)) × (Int × (List ((Int × Int) × Int))))) : Option ((List (Int × Int)) × (List ((Int × Int) × Int))) :=
(lp (fun rec179 (z178 : ((List (Int × Int)) × (Int × (List ((Int × Int) × Int))))) =>
 (cond (decide (z178.2.1 < (lenI r171_1)))
  ((geti r171_1 z178.2.1).bind fun _ =>
  ((r171_1[z178.2.1.toNat]?).bind fun y180 =>
  ((geti (mput (.pair (.int .i64) (.int .i64)) z178.2.2 y180) ((mfind (.pair (.int .i64) (.int .i64)) z178.2.2 y180 : Nat) : Int)).bind fun _ =>
  ((m_impl_quorum (lenI x)).bind fun r181 =>
  (cond ((mlook (.pair (.int .i64) (.int .i64)) (mset (.pair (.int .i64) (.int .i64)) (mput (.pair (.int .i64) (.int .i64)) z178.2.2 y180) ((mfind (.pair (.int .i64) (.int .i64)) z178.2.2 y180 : Nat) : Int).toNat (IntKind.wrap .i64 ((mlook (.pair (.int .i64) (.int .i64)) z178.2.2 y180) + (1 : Int)))) y180) == r181)
   (chk (Nat.ble ((z178.1.length + [y180].length) * 16) maxBytes)
   (rec179 ((z178.1 ++ [y180]), IntKind.wrap .i64 (z178.2.1 + (1 : Int)), (mset (.pair (.int .i64) (.int .i64)) (mput (.pair (.int .i64) (.int .i64)) z178.2.2 y180) ((mfind (.pair (.int .i64) (.int .i64)) z178.2.2 y180 : Nat) : Int).toNat (IntKind.wrap .i64 ((mlook (.pair (.int .i64) (.int .i64)) z178.2.2 y180) + (1 : Int)))))))
   (rec179 (z178.1, IntKind.wrap .i64 (z178.2.1 + (1 : Int)), (mset (.pair (.int .i64) (.int .i64)) (mput (.pair (.int .i64) (.int .i64)) z178.2.2 y180) ((mfind (.pair (.int .i64) (.int .i64)) z178.2.2 y180 : Nat) : Int).toNat (IntKind.wrap .i64 ((mlook (.pair (.int .i64) (.int .i64)) z178.2.2 y180) + (1 : Int)))))))))))
  (some (z178.1, z178.2.2)))) n z0)
def l_impl_chosen_2 (n : Nat) (x : (List (Int × (Int × (Int × ((Int × Int) × (List (Int × Int)))))))) (z0 : ((List (Int × Int)) × (Int × (List ((Int × Int) × Int))))) : Option ((List (Int × Int)) × (List ((Int × Int) × Int))) :=
(lp (fun rec154 (z153 : ((List (Int × Int)) × (Int × (List ((Int × Int) × Int))))) =>
 (cond (decide (z153.2.1 < (lenI x)))
  (Option.bind (α := ((List (Int × Int)) × (List ((Int × Int) × Int))))
   ((geti x z153.2.1).bind fun y169 =>
   ((m_slices_Clone_impl_Vote_impl_Vote y169.2.2.2.2).bind fun r170 =>
   ((m_slices_Compact_impl_Vote_impl_Vote r170).bind fun r171 =>
   (l_impl_chosen_1 n r171.1 x (z153.1, (0 : Int), z153.2.2))))) fun j183 =>
  rec154 (j183.1, IntKind.wrap .i64 (z153.2.1 + (1 : Int)), j183.2))
  (some (z153.1, z153.2.2)))) n z0)
def p_impl_chosen (n : Nat) (x : (List (Int × (Int × (Int × ((Int × Int) × (List (Int × Int)))))))) : Option (List (Int × Int)) :=
(Option.bind (α := ((List (Int × Int)) × (List ((Int × Int) × Int))))
 (l_impl_chosen_2 n x (([] : List (Int × Int)), (0 : Int), ([] : List ((Int × Int) × Int)))) fun j185 =>
((m_slices_SortFunc_impl_Vote_impl_Vote (j185.1, true)).bind fun r186 =>
some r186))
def m_impl_chosen (x : (List (Int × (Int × (Int × ((Int × Int) × (List (Int × Int)))))))) : Option (List (Int × Int)) := p_impl_chosen FU x
def a_impl_chosen : Ann := (.node .leaf (.node .leaf (.join [.slot 4 (.sl (some 79) (.pair (.int .i64) (.int .i64))), .map 0 (.pair (.int .i64) (.int .i64)) .i64] [6, 8, 11, 12, 13, 14, 15, 16, 17, 18, 19, 20, 21, 22, 23, 24, 25, 26, 27, 28, 29, 30, 31, 32, 33, 34, 35, 36, 37, 38, 39, 40, 41, 42, 43, 44] (.node .leaf (.loop [.slot 4 (.sl (some 79) (.pair (.int .i64) (.int .i64))), .slot 13 (.int .i64), .map 0 (.pair (.int .i64) (.int .i64)) .i64] [6, 8, 14, 15, 16, 17, 18, 19, 20, 21, 22, 23, 24, 25, 26, 27, 28, 29, 30, 31, 32, 33, 34, 35, 36, 37, 38, 39, 40, 41, 42, 43, 44] (.node .leaf (.node .leaf (.join [.slot 4 (.sl (some 79) (.pair (.int .i64) (.int .i64))), .map 0 (.pair (.int .i64) (.int .i64)) .i64] [6, 8, 15, 16, 17, 18, 19, 20, 21, 22, 23, 24, 25, 26, 27, 28, 29, 30, 31, 32, 33, 34, 35, 36, 37, 38, 39, 40, 41, 42, 43] (.node .leaf (.node .leaf (.loop [.slot 4 (.sl (some 79) (.pair (.int .i64) (.int .i64))), .slot 22 (.int .i64), .map 0 (.pair (.int .i64) (.int .i64)) .i64] [8, 23, 24, 25, 26, 27, 28, 29, 30, 31, 32, 33, 34, 35, 36, 37, 38, 39, 40, 41, 42, 43] .leaf))) .leaf))))) .leaf)))
def S_impl_chosen : FSpec := ⟨[.val (.sl none (.pair (.int .i64) (.pair (.int .i64) (.pair (.int .i64) (.pair (.pair (.int .i64) (.int .i64)) (.sl none (.pair (.int .i64) (.int .i64))))))))], [(.sl (some 79) (.pair (.int .i64) (.int .i64)))], m_impl_chosen⟩

/-! impl.ChosenIn -/
def p_impl_ChosenIn (n : Nat) (x : (List (Int × (Int × (Int × ((Int × Int) × (List (Int × Int)))))))) : Option (Int × (Int × Int)) :=
((m_impl_slotsFault x).bind fun r1 =>
(cond (!(r1 == (0 : Int)))
 (some (r1, ((0 : Int), (0 : Int))))
 ((m_impl_chosen x).bind fun r2 =>
 (cond ((lenI r2) == (0 : Int))
  (some ((4 : Int), ((0 : Int), (0 : Int))))
  ((geti r2 (0 : Int)).bind fun _ =>
  ((r2[(0 : Int).toNat]?).bind fun y3 =>
  some ((0 : Int), y3)))))))
def m_impl_ChosenIn (x : (List (Int × (Int × (Int × ((Int × Int) × (List (Int × Int)))))))) : Option (Int × (Int × Int)) := p_impl_ChosenIn FU x
def a_impl_ChosenIn : Ann := .leaf
def S_impl_ChosenIn : FSpec := ⟨[.val (.sl none (.pair (.int .i64) (.pair (.int .i64) (.pair (.int .i64) (.pair (.pair (.int .i64) (.int .i64)) (.sl none (.pair (.int .i64) (.int .i64))))))))], [(.pair (.int .i64) (.pair (.int .i64) (.int .i64)))], m_impl_ChosenIn⟩

/-! impl.outcomeOf -/
def l_impl_outcomeOf_1 (n : Nat) (r12 : (List Int)) (x_1 : (List (List (Int × (Int × (Int × ((Int × Int) × (List (Int × Int))))))))) (x_2_1 : Int) (z0 : (Bool × Int)) : Option (Bool ⊕ Int) :=
(lp (fun rec18 (z17 : (Bool × Int)) =>
 (cond (decide (z17.2 < (lenI r12)))
  ((geti r12 z17.2).bind fun _ =>
  ((r12[z17.2.toNat]?).bind fun y19 =>
  ((m_impl_slotsFor (x_1, x_2_1, y19)).bind fun r20 =>
  ((m_impl_ChosenIn r20).bind fun r21 =>
  (cond (r21.2.2 == (2 : Int))
   (some (Sum.inr (2 : Int)))
   (cond (r21.2.2 == (0 : Int))
    (rec18 (false, IntKind.wrap .i64 (z17.2 + (1 : Int))))
    (rec18 (z17.1, IntKind.wrap .i64 (z17.2 + (1 : Int))))))))))
  (some (Sum.inl z17.1)))) n z0)
def p_impl_outcomeOf (n : Nat) (x : ((List (List (Int × (Int × (Int × ((Int × Int) × (List (Int × Int)))))))) × (Int × (List (Int × (Int × (Int × Int))))))) : Option Int :=
(Option.bind (α := (Bool ⊕ Int))
 ((m_impl_shardsOf x.2).bind fun r12 =>
 (l_impl_outcomeOf_1 n r12 x.1 x.2.1 (true, (0 : Int))))
 (Sum.elim (fun j23 =>
(cond j23
 (some (1 : Int))
 (some (0 : Int)))) some))
def m_impl_outcomeOf (x : ((List (List (Int × (Int × (Int × ((Int × Int) × (List (Int × Int)))))))) × (Int × (List (Int × (Int × (Int × Int))))))) : Option Int := p_impl_outcomeOf FU x
def a_impl_outcomeOf : Ann := (.node .leaf (.node .leaf (.joinx [.slot 5 .bool] [4, 7, 8, 9, 10, 11, 12, 13, 14, 15, 16, 17, 18, 19, 20, 21, 22, 23, 24, 25, 26, 27] (.node .leaf (.loop [.slot 5 .bool, .slot 11 (.int .i64)] [4, 7, 12, 13, 14, 15, 16, 17, 18, 19, 20, 21, 22, 23, 24, 25, 26, 27] .leaf)) .leaf)))
def S_impl_outcomeOf : FSpec := ⟨[.val (.sl none (.one (.sl none (.pair (.int .i64) (.pair (.int .i64) (.pair (.int .i64) (.pair (.pair (.int .i64) (.int .i64)) (.sl none (.pair (.int .i64) (.int .i64)))))))))), .val (.pair (.int .i64) (.sl none (.pair (.int .i64) (.pair (.int .i64) (.pair (.int .i64) (.int .i64))))))], [(.int .i64)], m_impl_outcomeOf⟩

/-! impl.OutcomeOf -/
def p_impl_OutcomeOf (n : Nat) (x : ((List (List (Int × (Int × (Int × ((Int × Int) × (List (Int × Int)))))))) × (Int × (List (Int × (Int × (Int × Int))))))) : Option (Int × Int) :=
((m_impl_listFault x.1).bind fun r1 =>
((m_impl_ContractFault x.2).bind fun r2 =>
((m_impl_firstOf [r1, r2]).bind fun r3 =>
(cond (!(r3 == (0 : Int)))
 (some (r3, (0 : Int)))
 ((m_impl_outcomeOf (x.1, x.2)).bind fun r4 =>
 some ((0 : Int), r4))))))
def m_impl_OutcomeOf (x : ((List (List (Int × (Int × (Int × ((Int × Int) × (List (Int × Int)))))))) × (Int × (List (Int × (Int × (Int × Int))))))) : Option (Int × Int) := p_impl_OutcomeOf FU x
def a_impl_OutcomeOf : Ann := (.node .leaf (.node (.node (.lazy 10 .leaf) .leaf) .leaf))
def S_impl_OutcomeOf : FSpec := ⟨[.val (.sl none (.one (.sl none (.pair (.int .i64) (.pair (.int .i64) (.pair (.int .i64) (.pair (.pair (.int .i64) (.int .i64)) (.sl none (.pair (.int .i64) (.int .i64)))))))))), .val (.pair (.int .i64) (.sl none (.pair (.int .i64) (.pair (.int .i64) (.pair (.int .i64) (.int .i64))))))], [(.pair (.int .i64) (.int .i64))], m_impl_OutcomeOf⟩

/-! laws.eqIntResult -/
def p_laws_eqIntResult (n : Nat) (x : ((Int × Int) × (Int × Int))) : Option Bool :=
(cond (!(x.1.1 == x.2.1))
 (some false)
 (cond (!(x.1.2 == x.2.2))
  (some false)
  (some true)))
def m_laws_eqIntResult (x : ((Int × Int) × (Int × Int))) : Option Bool := p_laws_eqIntResult FU x
def a_laws_eqIntResult : Ann := .leaf
def S_laws_eqIntResult : FSpec := ⟨[.val (.pair (.int .i64) (.int .i64)), .val (.pair (.int .i64) (.int .i64))], [.bool], m_laws_eqIntResult⟩

/-! laws.eqVote -/
def p_laws_eqVote (n : Nat) (x : ((Int × Int) × (Int × Int))) : Option Bool :=
(cond (!(x.1.1 == x.2.1))
 (some false)
 (cond (!(x.1.2 == x.2.2))
  (some false)
  (some true)))
def m_laws_eqVote (x : ((Int × Int) × (Int × Int))) : Option Bool := p_laws_eqVote FU x
def a_laws_eqVote : Ann := .leaf
def S_laws_eqVote : FSpec := ⟨[.val (.pair (.int .i64) (.int .i64)), .val (.pair (.int .i64) (.int .i64))], [.bool], m_laws_eqVote⟩

/-! laws.eqVoteS -/
def l_laws_eqVoteS_1 (n : Nat) (x_1 : (List (Int × Int))) (x_2 : (List (Int × Int))) (z0 : Int) : Option Bool :=
(lp (fun rec6 (z5 : Int) =>
 (cond (decide (z5 < (lenI x_1)))
  ((geti x_1 z5).bind fun y7 =>
  ((geti x_2 z5).bind fun y8 =>
  ((m_laws_eqVote (y7, y8)).bind fun r9 =>
  (cond (!r9)
   (some false)
   (rec6 (IntKind.wrap .i64 (z5 + (1 : Int))))))))
  (some true))) n z0)
def p_laws_eqVoteS (n : Nat) (x : ((List (Int × Int)) × (List (Int × Int)))) : Option Bool :=
(cond (!((lenI x.1) == (lenI x.2)))
 (some false)
 (l_laws_eqVoteS_1 n x.1 x.2 (0 : Int)))
def m_laws_eqVoteS (x : ((List (Int × Int)) × (List (Int × Int)))) : Option Bool := p_laws_eqVoteS FU x
def a_laws_eqVoteS : Ann := (.node .leaf (.node .leaf (.node (.node .leaf (.loop [.slot 5 (.int .i64)] [4, 11, 12, 13, 14, 15, 16, 17, 18, 19, 20, 21, 22, 23, 24, 25, 26] .leaf)) .leaf)))
def S_laws_eqVoteS : FSpec := ⟨[.val (.sl none (.pair (.int .i64) (.int .i64))), .val (.sl none (.pair (.int .i64) (.int .i64)))], [.bool], m_laws_eqVoteS⟩

/-! laws.eqSlot -/
def p_laws_eqSlot (n : Nat) (x : ((Int × (Int × (Int × ((Int × Int) × (List (Int × Int)))))) × (Int × (Int × (Int × ((Int × Int) × (List (Int × Int)))))))) : Option Bool :=
(cond (!(x.1.1 == x.2.1))
 (some false)
 (cond (!(x.1.2.1 == x.2.2.1))
  (some false)
  (cond (!(x.1.2.2.1 == x.2.2.2.1))
   (some false)
   ((m_laws_eqVote (x.1.2.2.2.1, x.2.2.2.2.1)).bind fun r1 =>
   (cond (!r1)
    (some false)
    ((m_laws_eqVoteS (x.1.2.2.2.2, x.2.2.2.2.2)).bind fun r2 =>
    (cond (!r2)
     (some false)
     (some true))))))))
def m_laws_eqSlot (x : ((Int × (Int × (Int × ((Int × Int) × (List (Int × Int)))))) × (Int × (Int × (Int × ((Int × Int) × (List (Int × Int)))))))) : Option Bool := p_laws_eqSlot FU x
def a_laws_eqSlot : Ann := .leaf
def S_laws_eqSlot : FSpec := ⟨[.val (.pair (.int .i64) (.pair (.int .i64) (.pair (.int .i64) (.pair (.pair (.int .i64) (.int .i64)) (.sl none (.pair (.int .i64) (.int .i64))))))), .val (.pair (.int .i64) (.pair (.int .i64) (.pair (.int .i64) (.pair (.pair (.int .i64) (.int .i64)) (.sl none (.pair (.int .i64) (.int .i64)))))))], [.bool], m_laws_eqSlot⟩

/-! laws.eqSlotS -/
def l_laws_eqSlotS_1 (n : Nat) (x_1 : (List (Int × (Int × (Int × ((Int × Int) × (List (Int × Int)))))))) (x_2 : (List (Int × (Int × (Int × ((Int × Int) × (List (Int × Int)))))))) (z0 : Int) : Option Bool :=
(lp (fun rec6 (z5 : Int) =>
 (cond (decide (z5 < (lenI x_1)))
  ((geti x_1 z5).bind fun y7 =>
  ((geti x_2 z5).bind fun y8 =>
  ((m_laws_eqSlot (y7, y8)).bind fun r9 =>
  (cond (!r9)
   (some false)
   (rec6 (IntKind.wrap .i64 (z5 + (1 : Int))))))))
  (some true))) n z0)
def p_laws_eqSlotS (n : Nat) (x : ((List (Int × (Int × (Int × ((Int × Int) × (List (Int × Int))))))) × (List (Int × (Int × (Int × ((Int × Int) × (List (Int × Int))))))))) : Option Bool :=
(cond (!((lenI x.1) == (lenI x.2)))
 (some false)
 (l_laws_eqSlotS_1 n x.1 x.2 (0 : Int)))
def m_laws_eqSlotS (x : ((List (Int × (Int × (Int × ((Int × Int) × (List (Int × Int))))))) × (List (Int × (Int × (Int × ((Int × Int) × (List (Int × Int))))))))) : Option Bool := p_laws_eqSlotS FU x
def a_laws_eqSlotS : Ann := (.node .leaf (.node .leaf (.node (.node .leaf (.loop [.slot 5 (.int .i64)] [4, 11, 12, 13, 14, 15, 16, 17, 18, 19, 20, 21, 22, 23, 24, 25, 26] .leaf)) .leaf)))
def S_laws_eqSlotS : FSpec := ⟨[.val (.sl none (.pair (.int .i64) (.pair (.int .i64) (.pair (.int .i64) (.pair (.pair (.int .i64) (.int .i64)) (.sl none (.pair (.int .i64) (.int .i64)))))))), .val (.sl none (.pair (.int .i64) (.pair (.int .i64) (.pair (.int .i64) (.pair (.pair (.int .i64) (.int .i64)) (.sl none (.pair (.int .i64) (.int .i64))))))))], [.bool], m_laws_eqSlotS⟩

/-! laws.eqAcceptor -/
def p_laws_eqAcceptor (n : Nat) (x : ((List (Int × (Int × (Int × ((Int × Int) × (List (Int × Int))))))) × (List (Int × (Int × (Int × ((Int × Int) × (List (Int × Int))))))))) : Option Bool :=
((m_laws_eqSlotS (x.1, x.2)).bind fun r1 =>
(cond (!r1)
 (some false)
 (some true)))
def m_laws_eqAcceptor (x : ((List (Int × (Int × (Int × ((Int × Int) × (List (Int × Int))))))) × (List (Int × (Int × (Int × ((Int × Int) × (List (Int × Int))))))))) : Option Bool := p_laws_eqAcceptor FU x
def a_laws_eqAcceptor : Ann := .leaf
def S_laws_eqAcceptor : FSpec := ⟨[.val (.one (.sl none (.pair (.int .i64) (.pair (.int .i64) (.pair (.int .i64) (.pair (.pair (.int .i64) (.int .i64)) (.sl none (.pair (.int .i64) (.int .i64))))))))), .val (.one (.sl none (.pair (.int .i64) (.pair (.int .i64) (.pair (.int .i64) (.pair (.pair (.int .i64) (.int .i64)) (.sl none (.pair (.int .i64) (.int .i64)))))))))], [.bool], m_laws_eqAcceptor⟩

/-! laws.eqAcceptorS -/
def l_laws_eqAcceptorS_1 (n : Nat) (x_1 : (List (List (Int × (Int × (Int × ((Int × Int) × (List (Int × Int))))))))) (x_2 : (List (List (Int × (Int × (Int × ((Int × Int) × (List (Int × Int))))))))) (z0 : Int) : Option Bool :=
(lp (fun rec6 (z5 : Int) =>
 (cond (decide (z5 < (lenI x_1)))
  ((geti x_1 z5).bind fun y7 =>
  ((geti x_2 z5).bind fun y8 =>
  ((m_laws_eqAcceptor (y7, y8)).bind fun r9 =>
  (cond (!r9)
   (some false)
   (rec6 (IntKind.wrap .i64 (z5 + (1 : Int))))))))
  (some true))) n z0)
def p_laws_eqAcceptorS (n : Nat) (x : ((List (List (Int × (Int × (Int × ((Int × Int) × (List (Int × Int)))))))) × (List (List (Int × (Int × (Int × ((Int × Int) × (List (Int × Int)))))))))) : Option Bool :=
(cond (!((lenI x.1) == (lenI x.2)))
 (some false)
 (l_laws_eqAcceptorS_1 n x.1 x.2 (0 : Int)))
def m_laws_eqAcceptorS (x : ((List (List (Int × (Int × (Int × ((Int × Int) × (List (Int × Int)))))))) × (List (List (Int × (Int × (Int × ((Int × Int) × (List (Int × Int)))))))))) : Option Bool := p_laws_eqAcceptorS FU x
def a_laws_eqAcceptorS : Ann := (.node .leaf (.node .leaf (.node (.node .leaf (.loop [.slot 5 (.int .i64)] [4, 11, 12, 13, 14, 15, 16, 17, 18, 19, 20, 21, 22, 23, 24, 25, 26] .leaf)) .leaf)))
def S_laws_eqAcceptorS : FSpec := ⟨[.val (.sl none (.one (.sl none (.pair (.int .i64) (.pair (.int .i64) (.pair (.int .i64) (.pair (.pair (.int .i64) (.int .i64)) (.sl none (.pair (.int .i64) (.int .i64)))))))))), .val (.sl none (.one (.sl none (.pair (.int .i64) (.pair (.int .i64) (.pair (.int .i64) (.pair (.pair (.int .i64) (.int .i64)) (.sl none (.pair (.int .i64) (.int .i64))))))))))], [.bool], m_laws_eqAcceptorS⟩

/-! laws.eqLeg -/
def p_laws_eqLeg (n : Nat) (x : ((Int × (Int × (Int × Int))) × (Int × (Int × (Int × Int))))) : Option Bool :=
(cond (!(x.1.1 == x.2.1))
 (some false)
 (cond (!(x.1.2.1 == x.2.2.1))
  (some false)
  (cond (!(x.1.2.2.1 == x.2.2.2.1))
   (some false)
   (cond (!(x.1.2.2.2 == x.2.2.2.2))
    (some false)
    (some true)))))
def m_laws_eqLeg (x : ((Int × (Int × (Int × Int))) × (Int × (Int × (Int × Int))))) : Option Bool := p_laws_eqLeg FU x
def a_laws_eqLeg : Ann := .leaf
def S_laws_eqLeg : FSpec := ⟨[.val (.pair (.int .i64) (.pair (.int .i64) (.pair (.int .i64) (.int .i64)))), .val (.pair (.int .i64) (.pair (.int .i64) (.pair (.int .i64) (.int .i64))))], [.bool], m_laws_eqLeg⟩

/-! laws.eqLegS -/
def l_laws_eqLegS_1 (n : Nat) (x_1 : (List (Int × (Int × (Int × Int))))) (x_2 : (List (Int × (Int × (Int × Int))))) (z0 : Int) : Option Bool :=
(lp (fun rec6 (z5 : Int) =>
 (cond (decide (z5 < (lenI x_1)))
  ((geti x_1 z5).bind fun y7 =>
  ((geti x_2 z5).bind fun y8 =>
  ((m_laws_eqLeg (y7, y8)).bind fun r9 =>
  (cond (!r9)
   (some false)
   (rec6 (IntKind.wrap .i64 (z5 + (1 : Int))))))))
  (some true))) n z0)
def p_laws_eqLegS (n : Nat) (x : ((List (Int × (Int × (Int × Int)))) × (List (Int × (Int × (Int × Int)))))) : Option Bool :=
(cond (!((lenI x.1) == (lenI x.2)))
 (some false)
 (l_laws_eqLegS_1 n x.1 x.2 (0 : Int)))
def m_laws_eqLegS (x : ((List (Int × (Int × (Int × Int)))) × (List (Int × (Int × (Int × Int)))))) : Option Bool := p_laws_eqLegS FU x
def a_laws_eqLegS : Ann := (.node .leaf (.node .leaf (.node (.node .leaf (.loop [.slot 5 (.int .i64)] [4, 11, 12, 13, 14, 15, 16, 17, 18, 19, 20, 21, 22, 23, 24, 25, 26] .leaf)) .leaf)))
def S_laws_eqLegS : FSpec := ⟨[.val (.sl none (.pair (.int .i64) (.pair (.int .i64) (.pair (.int .i64) (.int .i64))))), .val (.sl none (.pair (.int .i64) (.pair (.int .i64) (.pair (.int .i64) (.int .i64)))))], [.bool], m_laws_eqLegS⟩

/-! laws.eqContract -/
def p_laws_eqContract (n : Nat) (x : ((Int × (List (Int × (Int × (Int × Int))))) × (Int × (List (Int × (Int × (Int × Int))))))) : Option Bool :=
(cond (!(x.1.1 == x.2.1))
 (some false)
 ((m_laws_eqLegS (x.1.2, x.2.2)).bind fun r1 =>
 (cond (!r1)
  (some false)
  (some true))))
def m_laws_eqContract (x : ((Int × (List (Int × (Int × (Int × Int))))) × (Int × (List (Int × (Int × (Int × Int))))))) : Option Bool := p_laws_eqContract FU x
def a_laws_eqContract : Ann := .leaf
def S_laws_eqContract : FSpec := ⟨[.val (.pair (.int .i64) (.sl none (.pair (.int .i64) (.pair (.int .i64) (.pair (.int .i64) (.int .i64)))))), .val (.pair (.int .i64) (.sl none (.pair (.int .i64) (.pair (.int .i64) (.pair (.int .i64) (.int .i64))))))], [.bool], m_laws_eqContract⟩

/-! laws.FnExactOutcomeOf -/
def p_laws_FnExactOutcomeOf (n : Nat) (x : ((List (List (Int × (Int × (Int × ((Int × Int) × (List (Int × Int)))))))) × (Int × (List (Int × (Int × (Int × Int))))))) : Option Bool :=
((m_laws_szAcceptorS (x.1, (1048576 : Int))).bind fun r1 =>
(cond (decide (r1 < (0 : Int)))
 (some true)
 ((m_laws_szContract (x.2, r1)).bind fun r2 =>
 (cond (decide (r2 < (0 : Int)))
  (some true)
  (same
   ((m_laws_toAcceptorS x.1).bind fun r3 =>
   (same
    ((m_laws_toContract x.2).bind fun r4 =>
    (dup 1
     ((m_spec_OutcomeOf (r3, r4)).bind fun r5 =>
     ((m_laws_toAcceptorS x.1).bind fun r6 =>
     ((m_laws_toContract x.2).bind fun r7 =>
     ((m_impl_OutcomeOf (r6, r7)).bind fun r8 =>
     ((m_laws_eqIntResult (r8, r5)).bind fun r9 =>
     (cond (!r9)
      (some false)
      ((m_laws_toAcceptorS x.1).bind fun r10 =>
      ((m_laws_eqAcceptorS (r6, r10)).bind fun r11 =>
      (cond (!r11)
       (some false)
       ((m_laws_toContract x.2).bind fun r12 =>
       ((m_laws_eqContract (r7, r12)).bind fun r13 =>
       (cond (!r13)
        (some false)
        (some true)))))))))))))))
    ((m_laws_toContract x.2).bind fun r4 =>
    ((m_spec_OutcomeOf (r3, r4)).bind fun r5 =>
    ((m_laws_toAcceptorS x.1).bind fun r6 =>
    ((m_laws_toContract x.2).bind fun r7 =>
    ((m_impl_OutcomeOf (r6, r7)).bind fun r8 =>
    ((m_laws_eqIntResult (r8, r5)).bind fun r9 =>
    (cond (!r9)
     (some false)
     ((m_laws_toAcceptorS x.1).bind fun r10 =>
     ((m_laws_eqAcceptorS (r6, r10)).bind fun r11 =>
     (cond (!r11)
      (some false)
      ((m_laws_toContract x.2).bind fun r12 =>
      ((m_laws_eqContract (r7, r12)).bind fun r13 =>
      (cond (!r13)
       (some false)
       (some true))))))))))))))))
   ((m_laws_toAcceptorS x.1).bind fun r3 =>
   ((m_laws_toContract x.2).bind fun r4 =>
   ((m_spec_OutcomeOf (r3, r4)).bind fun r5 =>
   ((m_laws_toAcceptorS x.1).bind fun r6 =>
   ((m_laws_toContract x.2).bind fun r7 =>
   ((m_impl_OutcomeOf (r6, r7)).bind fun r8 =>
   ((m_laws_eqIntResult (r8, r5)).bind fun r9 =>
   (cond (!r9)
    (some false)
    ((m_laws_toAcceptorS x.1).bind fun r10 =>
    ((m_laws_eqAcceptorS (r6, r10)).bind fun r11 =>
    (cond (!r11)
     (some false)
     ((m_laws_toContract x.2).bind fun r12 =>
     ((m_laws_eqContract (r7, r12)).bind fun r13 =>
     (cond (!r13)
      (some false)
      (some true))))))))))))))))))))
def m_laws_FnExactOutcomeOf (x : ((List (List (Int × (Int × (Int × ((Int × Int) × (List (Int × Int)))))))) × (Int × (List (Int × (Int × (Int × Int))))))) : Option Bool := p_laws_FnExactOutcomeOf FU x
def a_laws_FnExactOutcomeOf : Ann := .leaf
def S_laws_FnExactOutcomeOf : FSpec := ⟨[.val (.sl none (.one (.sl none (.pair (.int .i64) (.pair (.int .i64) (.pair (.int .i64) (.pair (.pair (.int .i64) (.int .i64)) (.sl none (.pair (.int .i64) (.int .i64)))))))))), .val (.pair (.int .i64) (.sl none (.pair (.int .i64) (.pair (.int .i64) (.pair (.int .i64) (.int .i64))))))], [.bool], m_laws_FnExactOutcomeOf⟩

def T : Tab := [
  (2, ⟨false, 1, 8, [], 0, [.int .i64 0], some (.int .i64), [0]⟩),
  (3, ⟨false, 1, 8, [], 0, [.int .i64 0], some (.int .i64), [0]⟩),
  (22, ⟨false, 1, 24, [], 114, [.nil], some (.sl none (.one (.sl none (.pair (.int .i64) (.pair (.int .i64) (.pair (.int .i64) (.pair (.pair (.int .i64) (.int .i64)) (.sl none (.pair (.int .i64) (.int .i64)))))))))), []⟩),
  (23, ⟨false, 1, 24, [], 2, [.nil], some (.sl none (.int .i64)), []⟩),
  (25, ⟨false, 1, 24, [], 124, [.nil], some (.sl none (.one (.sl none (.pair (.int .i64) (.pair (.int .i64) (.pair (.int .i64) (.pair (.pair (.int .i64) (.int .i64)) (.sl none (.pair (.int .i64) (.int .i64)))))))))), []⟩),
  (38, ⟨false, 1, 24, [], 224, [.nil], some (.sl none (.pair (.int .i64) (.pair (.int .i64) (.pair (.int .i64) (.int .i64))))), []⟩),
  (40, ⟨true, 2, 32, [(0, 1, 2), (1, 1, 38)], 0, [.int .i64 0, .nil], some (.pair (.int .i64) (.sl none (.pair (.int .i64) (.pair (.int .i64) (.pair (.int .i64) (.int .i64)))))), []⟩),
  (43, ⟨true, 2, 16, [(0, 1, 2), (1, 1, 2)], 0, [.int .i64 0, .int .i64 0], some (.pair (.int .i64) (.int .i64)), [0, 0]⟩),
  (45, ⟨false, 1, 24, [], 194, [.nil], some (.sl none (.pair (.int .i64) (.pair (.int .i64) (.pair (.int .i64) (.int .i64))))), []⟩),
  (47, ⟨true, 2, 32, [(0, 1, 2), (1, 1, 45)], 0, [.int .i64 0, .nil], some (.pair (.int .i64) (.sl none (.pair (.int .i64) (.pair (.int .i64) (.pair (.int .i64) (.int .i64)))))), []⟩),
  (67, ⟨true, 2, 16, [(0, 1, 2), (1, 1, 2)], 0, [.int .i64 0, .int .i64 0], some (.pair (.int .i64) (.int .i64)), [0, 0]⟩),
  (79, ⟨true, 2, 16, [(0, 1, 2), (1, 1, 2)], 0, [.int .i64 0, .int .i64 0], some (.pair (.int .i64) (.int .i64)), [0, 0]⟩),
  (112, ⟨false, 1, 24, [], 289, [.nil], some (.sl none (.pair (.int .i64) (.pair (.int .i64) (.pair (.int .i64) (.pair (.pair (.int .i64) (.int .i64)) (.sl none (.pair (.int .i64) (.int .i64)))))))), []⟩),
  (114, ⟨true, 1, 24, [(0, 1, 112)], 0, [.nil], some (.one (.sl none (.pair (.int .i64) (.pair (.int .i64) (.pair (.int .i64) (.pair (.pair (.int .i64) (.int .i64)) (.sl none (.pair (.int .i64) (.int .i64))))))))), []⟩),
  (115, ⟨false, 1, 24, [], 135, [.nil], some (.sl none (.pair (.int .i64) (.pair (.int .i64) (.pair (.int .i64) (.pair (.pair (.int .i64) (.int .i64)) (.sl none (.pair (.int .i64) (.int .i64)))))))), []⟩),
  (122, ⟨false, 1, 24, [], 79, [.nil], some (.sl none (.pair (.int .i64) (.int .i64))), []⟩),
  (124, ⟨true, 1, 24, [(0, 1, 115)], 0, [.nil], some (.one (.sl none (.pair (.int .i64) (.pair (.int .i64) (.pair (.int .i64) (.pair (.pair (.int .i64) (.int .i64)) (.sl none (.pair (.int .i64) (.int .i64))))))))), []⟩),
  (135, ⟨true, 6, 64, [(0, 1, 2), (1, 1, 2), (2, 1, 2), (3, 2, 79), (5, 1, 122)], 0, [.int .i64 0, .int .i64 0, .int .i64 0, .int .i64 0, .int .i64 0, .nil], some (.pair (.int .i64) (.pair (.int .i64) (.pair (.int .i64) (.pair (.pair (.int .i64) (.int .i64)) (.sl none (.pair (.int .i64) (.int .i64))))))), []⟩),
  (137, ⟨true, 9, 88, [(0, 1, 2), (1, 2, 79), (3, 6, 135)], 0, [.int .i64 0, .int .i64 0, .int .i64 0, .int .i64 0, .int .i64 0, .int .i64 0, .int .i64 0, .int .i64 0, .nil], some (.pair (.int .i64) (.pair (.pair (.int .i64) (.int .i64)) (.pair (.int .i64) (.pair (.int .i64) (.pair (.int .i64) (.pair (.pair (.int .i64) (.int .i64)) (.sl none (.pair (.int .i64) (.int .i64))))))))), []⟩),
  (194, ⟨true, 4, 32, [(0, 1, 2), (1, 1, 2), (2, 1, 2), (3, 1, 2)], 0, [.int .i64 0, .int .i64 0, .int .i64 0, .int .i64 0], some (.pair (.int .i64) (.pair (.int .i64) (.pair (.int .i64) (.int .i64)))), [0, 0, 0, 0]⟩),
  (224, ⟨true, 4, 32, [(0, 1, 2), (1, 1, 2), (2, 1, 2), (3, 1, 2)], 0, [.int .i64 0, .int .i64 0, .int .i64 0, .int .i64 0], some (.pair (.int .i64) (.pair (.int .i64) (.pair (.int .i64) (.int .i64)))), [0, 0, 0, 0]⟩),
  (226, ⟨false, 1, 8, [(2, 0, 2)], 0, [.undef], none, []⟩),
  (231, ⟨true, 3, 24, [(0, 1, 2), (1, 2, 79)], 0, [.int .i64 0, .int .i64 0, .int .i64 0], some (.pair (.int .i64) (.pair (.int .i64) (.int .i64))), [0, 0, 0]⟩),
  (287, ⟨false, 1, 24, [], 67, [.nil], some (.sl none (.pair (.int .i64) (.int .i64))), []⟩),
  (289, ⟨true, 6, 64, [(0, 1, 2), (1, 1, 2), (2, 1, 2), (3, 2, 67), (5, 1, 287)], 0, [.int .i64 0, .int .i64 0, .int .i64 0, .int .i64 0, .int .i64 0, .nil], some (.pair (.int .i64) (.pair (.int .i64) (.pair (.int .i64) (.pair (.pair (.int .i64) (.int .i64)) (.sl none (.pair (.int .i64) (.int .i64))))))), []⟩),
  (309, ⟨false, 1, 8, [], 0, [.int .u64 0], some (.int .u64), [0]⟩),
  (344, ⟨false, 1, 8, [(79, 0, 3)], 0, [.undef], none, []⟩),
  (370, ⟨false, 1, 24, [], 3, [.nil], some (.sl none (.int .i64)), []⟩)]
def G_laws_szVoteS : Env := (301, S_laws_szVoteS) :: []
def G_laws_szSlot : Env := (247, S_laws_szSlot) :: G_laws_szVoteS
def G_laws_szSlotS : Env := (151, S_laws_szSlotS) :: G_laws_szSlot
def G_laws_szAcceptor : Env := (59, S_laws_szAcceptor) :: G_laws_szSlotS
def G_laws_szAcceptorS : Env := (11, S_laws_szAcceptorS) :: G_laws_szAcceptor
def G_laws_szLegS : Env := (85, S_laws_szLegS) :: G_laws_szAcceptorS
def G_laws_szContract : Env := (23, S_laws_szContract) :: G_laws_szLegS
def G_laws_toVote : Env := (105, S_laws_toVote) :: G_laws_szContract
def G_laws_toVoteS : Env := (303, S_laws_toVoteS) :: G_laws_toVote
def G_laws_toSlot : Env := (252, S_laws_toSlot) :: G_laws_toVoteS
def G_laws_toSlotS : Env := (161, S_laws_toSlotS) :: G_laws_toSlot
def G_laws_toAcceptor : Env := (69, S_laws_toAcceptor) :: G_laws_toSlotS
def G_laws_toAcceptorS : Env := (13, S_laws_toAcceptorS) :: G_laws_toAcceptor
def G_laws_toLeg : Env := (185, S_laws_toLeg) :: G_laws_toAcceptorS
def G_laws_toLegS : Env := (89, S_laws_toLegS) :: G_laws_toLeg
def G_laws_toContract : Env := (25, S_laws_toContract) :: G_laws_toLegS
def G_spec_l1In : Env := (63, S_spec_l1In) :: G_laws_toContract
def G_spec_l1Id : Env := (181, S_spec_l1Id) :: G_spec_l1In
def G_spec_l8Ballot : Env := (61, S_spec_l8Ballot) :: G_spec_l1Id
def G_spec_l8Value : Env := (62, S_spec_l8Value) :: G_spec_l8Ballot
def G_spec_l8None : Env := (159, S_spec_l8None) :: G_spec_l8Value
def G_spec_l8Last : Env := (302, S_spec_l8Last) :: G_spec_l8None
def G_spec_SlotFault : Env := (250, S_spec_SlotFault) :: G_spec_l8Last
def G_spec_l9Ahead : Env := (263, S_spec_l9Ahead) :: G_spec_SlotFault
def G_spec_AcceptorFault : Env := (180, S_spec_AcceptorFault) :: G_spec_l9Ahead
def G_spec_l9List : Env := (86, S_spec_l9List) :: G_spec_AcceptorFault
def G_spec_LegFault : Env := (182, S_spec_LegFault) :: G_spec_l9List
def G_spec_ContractFault : Env := (87, S_spec_ContractFault) :: G_spec_LegFault
def G_spec_l1Put : Env := (264, S_spec_l1Put) :: G_spec_ContractFault
def G_spec_l1Shards : Env := (183, S_spec_l1Shards) :: G_spec_l1Put
def G_spec_l8Copy : Env := (248, S_spec_l8Copy) :: G_spec_l1Shards
def G_spec_NewSlot : Env := (152, S_spec_NewSlot) :: G_spec_l8Copy
def G_spec_l9Slot : Env := (158, S_spec_l9Slot) :: G_spec_NewSlot
def G_spec_l9Slots : Env := (153, S_spec_l9Slots) :: G_spec_l9Slot
def G_spec_l8Cast : Env := (311, S_spec_l8Cast) :: G_spec_l9Slots
def G_spec_l8Quorum : Env := (66, S_spec_l8Quorum) :: G_spec_l8Cast
def G_spec_l8Chosen : Env := (265, S_spec_l8Chosen) :: G_spec_l8Quorum
def G_spec_l9Chosen : Env := (184, S_spec_l9Chosen) :: G_spec_l8Chosen
def G_spec_l9Outcome : Env := (88, S_spec_l9Outcome) :: G_spec_l9Chosen
def G_spec_OutcomeOf : Env := (24, S_spec_OutcomeOf) :: G_spec_l9Outcome
def G_impl_size_impl_Acceptor : Env := (76, S_impl_size_impl_Acceptor) :: G_spec_OutcomeOf
def G_impl_within : Env := (106, S_impl_within) :: G_impl_size_impl_Acceptor
def G_impl_isId : Env := (163, S_impl_isId) :: G_impl_within
def G_impl_isShard : Env := (124, S_impl_isShard) :: G_impl_isId
def G_impl_isBallot : Env := (73, S_impl_isBallot) :: G_impl_isShard
def G_impl_isValue : Env := (74, S_impl_isValue) :: G_impl_isBallot
def G_impl_isVote : Env := (174, S_impl_isVote) :: G_impl_isValue
def G_impl_castFault : Env := (304, S_impl_castFault) :: G_impl_isVote
def G_impl_noVote : Env := (173, S_impl_noVote) :: G_impl_castFault
def G_impl_lastCast : Env := (305, S_impl_lastCast) :: G_impl_noVote
def G_impl_SlotFault : Env := (253, S_impl_SlotFault) :: G_impl_lastCast
def G_cmp_isNaN_int64 : Env := (334, S_cmp_isNaN_int64) :: G_impl_SlotFault
def G_cmp_Compare_int64 : Env := (282, S_cmp_Compare_int64) :: G_cmp_isNaN_int64
def G_cmp_Or_int : Env := (281, S_cmp_Or_int) :: G_cmp_Compare_int64
def G_impl_compareSlots : Env := (254, S_impl_compareSlots) :: G_cmp_Or_int
def G_impl_AcceptorFault : Env := (162, S_impl_AcceptorFault) :: G_impl_compareSlots
def G_impl_listFault : Env := (71, S_impl_listFault) :: G_impl_AcceptorFault
def G_impl_size_impl_Leg : Env := (186, S_impl_size_impl_Leg) :: G_impl_listFault
def G_impl_isAsset : Env := (233, S_impl_isAsset) :: G_impl_size_impl_Leg
def G_impl_isPlace : Env := (139, S_impl_isPlace) :: G_impl_isAsset
def G_impl_LegFault : Env := (187, S_impl_LegFault) :: G_impl_isPlace
def G_impl_samePlace : Env := (190, S_impl_samePlace) :: G_impl_LegFault
def G_impl_ContractFault : Env := (90, S_impl_ContractFault) :: G_impl_samePlace
def G_impl_firstOf : Env := (70, S_impl_firstOf) :: G_impl_ContractFault
def G_slices_Sort_int64_int64 : Env := (195, S_slices_Sort_int64_int64) :: G_impl_firstOf
def G_slices_Compact_int64_int64 : Env := (196, S_slices_Compact_int64_int64) :: G_slices_Sort_int64_int64
def G_impl_shardsOf : Env := (95, S_impl_shardsOf) :: G_slices_Compact_int64_int64
def G_impl_Acceptor_slotAt : Env := (258, S_impl_Acceptor_slotAt) :: G_impl_shardsOf
def G_impl_newSlot : Env := (164, S_impl_newSlot) :: G_impl_Acceptor_slotAt
def G_slices_Clone_impl_Vote_impl_Vote : Env := (306, S_slices_Clone_impl_Vote_impl_Vote) :: G_impl_newSlot
def G_impl_copySlot : Env := (256, S_impl_copySlot) :: G_slices_Clone_impl_Vote_impl_Vote
def G_impl_Acceptor_slot : Env := (257, S_impl_Acceptor_slot) :: G_impl_copySlot
def G_impl_slotsFor : Env := (192, S_impl_slotsFor) :: G_impl_Acceptor_slot
def G_impl_size_impl_Slot : Env := (312, S_impl_size_impl_Slot) :: G_impl_slotsFor
def G_impl_slotsFault : Env := (267, S_impl_slotsFault) :: G_impl_size_impl_Slot
def G_slices_Compact_impl_Vote_impl_Vote : Env := (315, S_slices_Compact_impl_Vote_impl_Vote) :: G_impl_slotsFault
def G_impl_quorum : Env := (79, S_impl_quorum) :: G_slices_Compact_impl_Vote_impl_Vote
def G_slices_SortFunc_impl_Vote_impl_Vote : Env := (316, S_slices_SortFunc_impl_Vote_impl_Vote) :: G_impl_quorum
def G_impl_chosen : Env := (268, S_impl_chosen) :: G_slices_SortFunc_impl_Vote_impl_Vote
def G_impl_ChosenIn : Env := (191, S_impl_ChosenIn) :: G_impl_chosen
def G_impl_outcomeOf : Env := (91, S_impl_outcomeOf) :: G_impl_ChosenIn
def G_impl_OutcomeOf : Env := (26, S_impl_OutcomeOf) :: G_impl_outcomeOf
def G_laws_eqIntResult : Env := (27, S_laws_eqIntResult) :: G_impl_OutcomeOf
def G_laws_eqVote : Env := (280, S_laws_eqVote) :: G_laws_eqIntResult
def G_laws_eqVoteS : Env := (310, S_laws_eqVoteS) :: G_laws_eqVote
def G_laws_eqSlot : Env := (261, S_laws_eqSlot) :: G_laws_eqVoteS
def G_laws_eqSlotS : Env := (177, S_laws_eqSlotS) :: G_laws_eqSlot
def G_laws_eqAcceptor : Env := (82, S_laws_eqAcceptor) :: G_laws_eqSlotS
def G_laws_eqAcceptorS : Env := (17, S_laws_eqAcceptorS) :: G_laws_eqAcceptor
def G_laws_eqLeg : Env := (193, S_laws_eqLeg) :: G_laws_eqAcceptorS
def G_laws_eqLegS : Env := (92, S_laws_eqLegS) :: G_laws_eqLeg
def G_laws_eqContract : Env := (28, S_laws_eqContract) :: G_laws_eqLegS
def G_laws_FnExactOutcomeOf : Env := (4, S_laws_FnExactOutcomeOf) :: G_laws_eqContract
end
end Go.RvP
