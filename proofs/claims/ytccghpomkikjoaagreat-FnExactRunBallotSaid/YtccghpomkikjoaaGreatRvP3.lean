/- The plain functions that the evaluator comes to, for FnExactRunBallot. No condition. -/
import Derived.Test.YtccghpomkikjoaaGreatRvL
import Derived.Test.YtccghpomkikjoaaGreatRvY
namespace Go.RvP
open Go Go.Rv
noncomputable section
/-! laws.szVoteS -/
def p_laws_szVoteS (n : Nat) (x : ((List (Int × Int)) × Int)) : Option Int :=
(cond (decide ((IntKind.wrap .i64 (x.2 - (lenI x.1))) < (0 : Int)))
 (some (-1 : Int))
 (some (IntKind.wrap .i64 (x.2 - (lenI x.1)))))
def m_laws_szVoteS (x : ((List (Int × Int)) × Int)) : Option Int := p_laws_szVoteS FU x
def a_laws_szVoteS : Ann := .leaf
def S_laws_szVoteS : FSpec := ⟨[.val (.sl none (.pair (.int .i64) (.int .i64))), .val (.int .i64)], [(.int .i64)], m_laws_szVoteS⟩

/-! laws.szSlot -/
def p_laws_szSlot (n : Nat) (x : ((Int × (Int × (Int × ((Int × Int) × (List (Int × Int)))))) × Int)) : Option Int :=
((m_laws_szVoteS (x.1.2.2.2.2, x.2)).bind fun r1 =>
(cond (decide (r1 < (0 : Int)))
 (some (-1 : Int))
 (some r1)))
def m_laws_szSlot (x : ((Int × (Int × (Int × ((Int × Int) × (List (Int × Int)))))) × Int)) : Option Int := p_laws_szSlot FU x
def a_laws_szSlot : Ann := .leaf
def S_laws_szSlot : FSpec := ⟨[.val (.pair (.int .i64) (.pair (.int .i64) (.pair (.int .i64) (.pair (.pair (.int .i64) (.int .i64)) (.sl none (.pair (.int .i64) (.int .i64))))))), .val (.int .i64)], [(.int .i64)], m_laws_szSlot⟩

/-! laws.szSlotS -/
def l_laws_szSlotS_1 (n : Nat) (x_1 : (List (Int × (Int × (Int × ((Int × Int) × (List (Int × Int)))))))) (z0 : (Int × Int)) : Option Int :=
(lp (fun rec5 (z4 : (Int × Int)) =>
 (cond (decide (z4.2 < (lenI x_1)))
  ((geti x_1 z4.2).bind fun y6 =>
  ((m_laws_szSlot (y6, z4.1)).bind fun r7 =>
  (cond (decide (r7 < (0 : Int)))
   (some (-1 : Int))
   (rec5 (r7, IntKind.wrap .i64 (z4.2 + (1 : Int)))))))
  (some z4.1))) n z0)
def p_laws_szSlotS (n : Nat) (x : ((List (Int × (Int × (Int × ((Int × Int) × (List (Int × Int))))))) × Int)) : Option Int :=
(cond (decide ((IntKind.wrap .i64 (x.2 - (lenI x.1))) < (0 : Int)))
 (some (-1 : Int))
 (l_laws_szSlotS_1 n x.1 (IntKind.wrap .i64 (x.2 - (lenI x.1)), (0 : Int))))
def m_laws_szSlotS (x : ((List (Int × (Int × (Int × ((Int × Int) × (List (Int × Int))))))) × Int)) : Option Int := p_laws_szSlotS FU x
def a_laws_szSlotS : Ann := (.node .leaf (.node .leaf (.node .leaf (.node (.node .leaf (.loop [.slot 1 (.int .i64), .slot 5 (.int .i64)] [4, 12, 13, 14, 15, 16, 17, 18, 19, 20, 21, 22, 23, 24, 25] .leaf)) .leaf))))
def S_laws_szSlotS : FSpec := ⟨[.val (.sl none (.pair (.int .i64) (.pair (.int .i64) (.pair (.int .i64) (.pair (.pair (.int .i64) (.int .i64)) (.sl none (.pair (.int .i64) (.int .i64)))))))), .val (.int .i64)], [(.int .i64)], m_laws_szSlotS⟩

/-! laws.szAcceptor -/
def p_laws_szAcceptor (n : Nat) (x : ((List (Int × (Int × (Int × ((Int × Int) × (List (Int × Int))))))) × Int)) : Option Int :=
((m_laws_szSlotS (x.1, x.2)).bind fun r1 =>
(cond (decide (r1 < (0 : Int)))
 (some (-1 : Int))
 (some r1)))
def m_laws_szAcceptor (x : ((List (Int × (Int × (Int × ((Int × Int) × (List (Int × Int))))))) × Int)) : Option Int := p_laws_szAcceptor FU x
def a_laws_szAcceptor : Ann := .leaf
def S_laws_szAcceptor : FSpec := ⟨[.val (.one (.sl none (.pair (.int .i64) (.pair (.int .i64) (.pair (.int .i64) (.pair (.pair (.int .i64) (.int .i64)) (.sl none (.pair (.int .i64) (.int .i64))))))))), .val (.int .i64)], [(.int .i64)], m_laws_szAcceptor⟩

/-! laws.szAcceptorS -/
def l_laws_szAcceptorS_1 (n : Nat) (x_1 : (List (List (Int × (Int × (Int × ((Int × Int) × (List (Int × Int))))))))) (z0 : (Int × Int)) : Option Int :=
(lp (fun rec5 (z4 : (Int × Int)) =>
 (cond (decide (z4.2 < (lenI x_1)))
  ((geti x_1 z4.2).bind fun y6 =>
  ((m_laws_szAcceptor (y6, z4.1)).bind fun r7 =>
  (cond (decide (r7 < (0 : Int)))
   (some (-1 : Int))
   (rec5 (r7, IntKind.wrap .i64 (z4.2 + (1 : Int)))))))
  (some z4.1))) n z0)
def p_laws_szAcceptorS (n : Nat) (x : ((List (List (Int × (Int × (Int × ((Int × Int) × (List (Int × Int)))))))) × Int)) : Option Int :=
(cond (decide ((IntKind.wrap .i64 (x.2 - (lenI x.1))) < (0 : Int)))
 (some (-1 : Int))
 (l_laws_szAcceptorS_1 n x.1 (IntKind.wrap .i64 (x.2 - (lenI x.1)), (0 : Int))))
def m_laws_szAcceptorS (x : ((List (List (Int × (Int × (Int × ((Int × Int) × (List (Int × Int)))))))) × Int)) : Option Int := p_laws_szAcceptorS FU x
def a_laws_szAcceptorS : Ann := (.node .leaf (.node .leaf (.node .leaf (.node (.node .leaf (.loop [.slot 1 (.int .i64), .slot 5 (.int .i64)] [4, 12, 13, 14, 15, 16, 17, 18, 19, 20, 21, 22, 23, 24, 25] .leaf)) .leaf))))
def S_laws_szAcceptorS : FSpec := ⟨[.val (.sl none (.one (.sl none (.pair (.int .i64) (.pair (.int .i64) (.pair (.int .i64) (.pair (.pair (.int .i64) (.int .i64)) (.sl none (.pair (.int .i64) (.int .i64)))))))))), .val (.int .i64)], [(.int .i64)], m_laws_szAcceptorS⟩

/-! laws.toVote -/
def p_laws_toVote (n : Nat) (x : (Int × Int)) : Option (Int × Int) :=
some x
def m_laws_toVote (x : (Int × Int)) : Option (Int × Int) := p_laws_toVote FU x
def a_laws_toVote : Ann := .leaf
def S_laws_toVote : FSpec := ⟨[.val (.pair (.int .i64) (.int .i64))], [(.pair (.int .i64) (.int .i64))], m_laws_toVote⟩

/-! laws.toVoteS -/
def l_laws_toVoteS_1 (n : Nat) (x : (List (Int × Int))) (z0 : (Int × (List (Int × Int)))) : Option (List (Int × Int)) :=
(lp (fun rec10 (z9 : (Int × (List (Int × Int)))) =>
 (cond (decide (z9.1 < (lenI x)))
  ((geti x z9.1).bind fun y11 =>
  ((m_laws_toVote y11).bind fun r12 =>
  ((geti z9.2 z9.1).bind fun _ =>
  ((z9.2[z9.1.toNat]?).bind fun y13 =>
  rec10 (IntKind.wrap .i64 (z9.1 + (1 : Int)), (z9.2.set z9.1.toNat r12))))))
  (some z9.2))) n z0)
def p_laws_toVoteS (n : Nat) (x : (List (Int × Int))) : Option (List (Int × Int)) :=
(if (lenI x) = (lenI x) then (if 0 ≤ (lenI x) then chk (Nat.ble (16 * (lenI x).toNat) maxBytes)
(l_laws_toVoteS_1 n x ((0 : Int), (List.replicate (lenI x).toNat ((0 : Int), (0 : Int))))) else none) else none)
def m_laws_toVoteS (x : (List (Int × Int))) : Option (List (Int × Int)) := p_laws_toVoteS FU x
def a_laws_toVoteS : Ann := (.node .leaf (.node .leaf (.node (.node .leaf (.loop [.slot 4 (.int .i64), .row 0 79 (.pair (.int .i64) (.int .i64))] [8, 9, 10, 11, 12, 13, 14, 15, 16, 17, 18, 19, 20, 21] .leaf)) .leaf)))
def S_laws_toVoteS : FSpec := ⟨[.val (.sl none (.pair (.int .i64) (.int .i64)))], [(.sl (some 79) (.pair (.int .i64) (.int .i64)))], m_laws_toVoteS⟩

/-! laws.toSlot -/
def p_laws_toSlot (n : Nat) (x : (Int × (Int × (Int × ((Int × Int) × (List (Int × Int))))))) : Option (Int × (Int × (Int × ((Int × Int) × (List (Int × Int)))))) :=
((m_laws_toVote x.2.2.2.1).bind fun r1 =>
((m_laws_toVoteS x.2.2.2.2).bind fun r2 =>
some (x.1, (x.2.1, (x.2.2.1, (r1, r2))))))
def m_laws_toSlot (x : (Int × (Int × (Int × ((Int × Int) × (List (Int × Int))))))) : Option (Int × (Int × (Int × ((Int × Int) × (List (Int × Int)))))) := p_laws_toSlot FU x
def a_laws_toSlot : Ann := .leaf
def S_laws_toSlot : FSpec := ⟨[.val (.pair (.int .i64) (.pair (.int .i64) (.pair (.int .i64) (.pair (.pair (.int .i64) (.int .i64)) (.sl none (.pair (.int .i64) (.int .i64)))))))], [(.pair (.int .i64) (.pair (.int .i64) (.pair (.int .i64) (.pair (.pair (.int .i64) (.int .i64)) (.sl (some 79) (.pair (.int .i64) (.int .i64)))))))], m_laws_toSlot⟩

/-! laws.toSlotS -/
def l_laws_toSlotS_1 (n : Nat) (x : (List (Int × (Int × (Int × ((Int × Int) × (List (Int × Int)))))))) (z0 : (Int × (List (Int × (Int × (Int × ((Int × Int) × (List (Int × Int))))))))) : Option (List (Int × (Int × (Int × ((Int × Int) × (List (Int × Int))))))) :=
(lp (fun rec8 (z7 : (Int × (List (Int × (Int × (Int × ((Int × Int) × (List (Int × Int))))))))) =>
 (cond (decide (z7.1 < (lenI x)))
  ((geti x z7.1).bind fun y9 =>
  ((m_laws_toSlot y9).bind fun r10 =>
  ((geti z7.2 z7.1).bind fun _ =>
  ((z7.2[z7.1.toNat]?).bind fun _ =>
  rec8 (IntKind.wrap .i64 (z7.1 + (1 : Int)), (z7.2.set z7.1.toNat r10))))))
  (some z7.2))) n z0)
def p_laws_toSlotS (n : Nat) (x : (List (Int × (Int × (Int × ((Int × Int) × (List (Int × Int)))))))) : Option (List (Int × (Int × (Int × ((Int × Int) × (List (Int × Int))))))) :=
(if (lenI x) = (lenI x) then (if 0 ≤ (lenI x) then chk (Nat.ble (64 * (lenI x).toNat) maxBytes)
(l_laws_toSlotS_1 n x ((0 : Int), (List.replicate (lenI x).toNat ((0 : Int), ((0 : Int), ((0 : Int), (((0 : Int), (0 : Int)), []))))))) else none) else none)
def m_laws_toSlotS (x : (List (Int × (Int × (Int × ((Int × Int) × (List (Int × Int)))))))) : Option (List (Int × (Int × (Int × ((Int × Int) × (List (Int × Int))))))) := p_laws_toSlotS FU x
def a_laws_toSlotS : Ann := (.node .leaf (.node (.own 7 (.pair (.int .i64) (.pair (.int .i64) (.pair (.int .i64) (.pair (.pair (.int .i64) (.int .i64)) (.sl (some 79) (.pair (.int .i64) (.int .i64))))))) .leaf) (.node (.node .leaf (.loop [.slot 4 (.int .i64), .row 0 135 (.pair (.int .i64) (.pair (.int .i64) (.pair (.int .i64) (.pair (.pair (.int .i64) (.int .i64)) (.sl (some 79) (.pair (.int .i64) (.int .i64)))))))] [8, 9, 10, 11, 12, 13, 14, 15, 16, 17, 18, 19, 20, 21] .leaf)) .leaf)))
def S_laws_toSlotS : FSpec := ⟨[.val (.sl none (.pair (.int .i64) (.pair (.int .i64) (.pair (.int .i64) (.pair (.pair (.int .i64) (.int .i64)) (.sl none (.pair (.int .i64) (.int .i64))))))))], [(.sl (some 135) (.pair (.int .i64) (.pair (.int .i64) (.pair (.int .i64) (.pair (.pair (.int .i64) (.int .i64)) (.sl (some 79) (.pair (.int .i64) (.int .i64))))))))], m_laws_toSlotS⟩

/-! laws.toAcceptor -/
def p_laws_toAcceptor (n : Nat) (x : (List (Int × (Int × (Int × ((Int × Int) × (List (Int × Int)))))))) : Option (List (Int × (Int × (Int × ((Int × Int) × (List (Int × Int))))))) :=
((m_laws_toSlotS x).bind fun r1 =>
some r1)
def m_laws_toAcceptor (x : (List (Int × (Int × (Int × ((Int × Int) × (List (Int × Int)))))))) : Option (List (Int × (Int × (Int × ((Int × Int) × (List (Int × Int))))))) := p_laws_toAcceptor FU x
def a_laws_toAcceptor : Ann := .leaf
def S_laws_toAcceptor : FSpec := ⟨[.val (.one (.sl none (.pair (.int .i64) (.pair (.int .i64) (.pair (.int .i64) (.pair (.pair (.int .i64) (.int .i64)) (.sl none (.pair (.int .i64) (.int .i64)))))))))], [(.one (.sl (some 135) (.pair (.int .i64) (.pair (.int .i64) (.pair (.int .i64) (.pair (.pair (.int .i64) (.int .i64)) (.sl (some 79) (.pair (.int .i64) (.int .i64)))))))))], m_laws_toAcceptor⟩

/-! laws.toAcceptorS -/
def l_laws_toAcceptorS_1 (n : Nat) (x : (List (List (Int × (Int × (Int × ((Int × Int) × (List (Int × Int))))))))) (z0 : (Int × (List (List (Int × (Int × (Int × ((Int × Int) × (List (Int × Int)))))))))) : Option (List (List (Int × (Int × (Int × ((Int × Int) × (List (Int × Int)))))))) :=
(lp (fun rec8 (z7 : (Int × (List (List (Int × (Int × (Int × ((Int × Int) × (List (Int × Int)))))))))) =>
 (cond (decide (z7.1 < (lenI x)))
  ((geti x z7.1).bind fun y9 =>
  ((m_laws_toAcceptor y9).bind fun r10 =>
  ((geti z7.2 z7.1).bind fun _ =>
  ((z7.2[z7.1.toNat]?).bind fun _ =>
  rec8 (IntKind.wrap .i64 (z7.1 + (1 : Int)), (z7.2.set z7.1.toNat r10))))))
  (some z7.2))) n z0)
def p_laws_toAcceptorS (n : Nat) (x : (List (List (Int × (Int × (Int × ((Int × Int) × (List (Int × Int))))))))) : Option (List (List (Int × (Int × (Int × ((Int × Int) × (List (Int × Int)))))))) :=
(if (lenI x) = (lenI x) then (if 0 ≤ (lenI x) then chk (Nat.ble (24 * (lenI x).toNat) maxBytes)
(l_laws_toAcceptorS_1 n x ((0 : Int), (List.replicate (lenI x).toNat []))) else none) else none)
def m_laws_toAcceptorS (x : (List (List (Int × (Int × (Int × ((Int × Int) × (List (Int × Int))))))))) : Option (List (List (Int × (Int × (Int × ((Int × Int) × (List (Int × Int)))))))) := p_laws_toAcceptorS FU x
def a_laws_toAcceptorS : Ann := (.node .leaf (.node (.own 7 (.one (.sl (some 135) (.pair (.int .i64) (.pair (.int .i64) (.pair (.int .i64) (.pair (.pair (.int .i64) (.int .i64)) (.sl (some 79) (.pair (.int .i64) (.int .i64))))))))) .leaf) (.node (.node .leaf (.loop [.slot 4 (.int .i64), .row 0 124 (.one (.sl (some 135) (.pair (.int .i64) (.pair (.int .i64) (.pair (.int .i64) (.pair (.pair (.int .i64) (.int .i64)) (.sl (some 79) (.pair (.int .i64) (.int .i64)))))))))] [8, 9, 10, 11, 12, 13, 14, 15, 16, 17, 18, 19, 20, 21] .leaf)) .leaf)))
def S_laws_toAcceptorS : FSpec := ⟨[.val (.sl none (.one (.sl none (.pair (.int .i64) (.pair (.int .i64) (.pair (.int .i64) (.pair (.pair (.int .i64) (.int .i64)) (.sl none (.pair (.int .i64) (.int .i64))))))))))], [(.sl (some 124) (.one (.sl (some 135) (.pair (.int .i64) (.pair (.int .i64) (.pair (.int .i64) (.pair (.pair (.int .i64) (.int .i64)) (.sl (some 79) (.pair (.int .i64) (.int .i64))))))))))], m_laws_toAcceptorS⟩

/-! laws.toInt64S -/
def l_laws_toInt64S_1 (n : Nat) (x : (List Int)) (z0 : (Int × (List Int))) : Option (List Int) :=
(lp (fun rec8 (z7 : (Int × (List Int))) =>
 (cond (decide (z7.1 < (lenI x)))
  ((geti x z7.1).bind fun y9 =>
  ((geti z7.2 z7.1).bind fun _ =>
  ((z7.2[z7.1.toNat]?).bind fun y10 =>
  rec8 (IntKind.wrap .i64 (z7.1 + (1 : Int)), (z7.2.set z7.1.toNat y9)))))
  (some z7.2))) n z0)
def p_laws_toInt64S (n : Nat) (x : (List Int)) : Option (List Int) :=
(if (lenI x) = (lenI x) then (if 0 ≤ (lenI x) then chk (Nat.ble (8 * (lenI x).toNat) maxBytes)
(l_laws_toInt64S_1 n x ((0 : Int), (List.replicate (lenI x).toNat (0 : Int)))) else none) else none)
def m_laws_toInt64S (x : (List Int)) : Option (List Int) := p_laws_toInt64S FU x
def a_laws_toInt64S : Ann := (.node .leaf (.node .leaf (.node (.node .leaf (.loop [.slot 4 (.int .i64), .row 0 2 (.int .i64)] [8, 9, 10, 11, 12, 13, 14, 15, 16, 17, 18, 19, 20] .leaf)) .leaf)))
def S_laws_toInt64S : FSpec := ⟨[.val (.sl none (.int .i64))], [(.sl (some 2) (.int .i64))], m_laws_toInt64S⟩

/-! spec.l1In -/
def p_spec_l1In (n : Nat) (x : (Int × (Int × Int))) : Option Bool :=
(cond (decide (x.1 ≥ x.2.1))
 (some (decide (x.1 ≤ x.2.2)))
 (some false))
def m_spec_l1In (x : (Int × (Int × Int))) : Option Bool := p_spec_l1In FU x
def a_spec_l1In : Ann := .leaf
def S_spec_l1In : FSpec := ⟨[.val (.int .i64), .val (.int .i64), .val (.int .i64)], [.bool], m_spec_l1In⟩

/-! spec.l1Id -/
def p_spec_l1Id (n : Nat) (x : Int) : Option Bool :=
((m_spec_l1In (x, (1 : Int), (1000000000 : Int))).bind fun r1 =>
some r1)
def m_spec_l1Id (x : Int) : Option Bool := p_spec_l1Id FU x
def a_spec_l1Id : Ann := .leaf
def S_spec_l1Id : FSpec := ⟨[.val (.int .i64)], [.bool], m_spec_l1Id⟩

/-! spec.l8Ballot -/
def p_spec_l8Ballot (n : Nat) (x : Int) : Option Bool :=
((m_spec_l1In (x, (0 : Int), (1000 : Int))).bind fun r1 =>
some r1)
def m_spec_l8Ballot (x : Int) : Option Bool := p_spec_l8Ballot FU x
def a_spec_l8Ballot : Ann := .leaf
def S_spec_l8Ballot : FSpec := ⟨[.val (.int .i64)], [.bool], m_spec_l8Ballot⟩

/-! spec.l8Value -/
def p_spec_l8Value (n : Nat) (x : Int) : Option Bool :=
(cond (x == (1 : Int))
 (some true)
 (some (x == (2 : Int))))
def m_spec_l8Value (x : Int) : Option Bool := p_spec_l8Value FU x
def a_spec_l8Value : Ann := .leaf
def S_spec_l8Value : FSpec := ⟨[.val (.int .i64)], [.bool], m_spec_l8Value⟩

/-! spec.l8None -/
def p_spec_l8None (n : Nat) (x : Unit) : Option (Int × Int) :=
some ((-1 : Int), (0 : Int))
def m_spec_l8None (x : Unit) : Option (Int × Int) := p_spec_l8None FU x
def a_spec_l8None : Ann := .leaf
def S_spec_l8None : FSpec := ⟨[], [(.pair (.int .i64) (.int .i64))], m_spec_l8None⟩

/-! spec.l8Last -/
def p_spec_l8Last (n : Nat) (x : (Int × (Int × (Int × ((Int × Int) × (List (Int × Int))))))) : Option (Int × Int) :=
(cond ((lenI x.2.2.2.2) == (0 : Int))
 ((m_spec_l8None ()).bind fun r1 =>
 some r1)
 ((geti x.2.2.2.2 (IntKind.wrap .i64 ((lenI x.2.2.2.2) - (1 : Int)))).bind fun y2 =>
 some y2))
def m_spec_l8Last (x : (Int × (Int × (Int × ((Int × Int) × (List (Int × Int))))))) : Option (Int × Int) := p_spec_l8Last FU x
def a_spec_l8Last : Ann := .leaf
def S_spec_l8Last : FSpec := ⟨[.val (.pair (.int .i64) (.pair (.int .i64) (.pair (.int .i64) (.pair (.pair (.int .i64) (.int .i64)) (.sl none (.pair (.int .i64) (.int .i64)))))))], [(.pair (.int .i64) (.int .i64))], m_spec_l8Last⟩

/-! spec.SlotFault -/
def l_spec_SlotFault_1 (n : Nat) (x_2_2_2_2 : (List (Int × Int))) (z0 : Int) : Option (Unit ⊕ Int) :=
(lp (fun rec53 (z52 : Int) =>
 (cond (decide (z52 < (lenI x_2_2_2_2)))
  ((geti x_2_2_2_2 z52).bind fun y54 =>
  (Option.bind (α := Bool)
   ((m_spec_l8Ballot y54.1).bind fun r57 =>
   (cond (!r57)
    (some true)
    ((m_spec_l8Value y54.2).bind fun r58 =>
    some (!r58)))) fun j59 =>
  (cond j59
   (some (Sum.inr (3 : Int)))
   (Option.bind (α := Bool)
    (cond (decide (z52 > (0 : Int)))
     ((geti x_2_2_2_2 (IntKind.wrap .i64 (z52 - (1 : Int)))).bind fun y63 =>
     (cond (decide (y54.1 < y63.1))
      (some true)
      ((geti x_2_2_2_2 (IntKind.wrap .i64 (z52 - (1 : Int)))).bind fun y64 =>
      (cond (y54.1 == y64.1)
       ((geti x_2_2_2_2 (IntKind.wrap .i64 (z52 - (1 : Int)))).bind fun y65 =>
       some (!(y54.2 == y65.2)))
       (some false)))))
     (some false)) fun j66 =>
   (cond j66
    (some (Sum.inr (1 : Int)))
    (rec53 (IntKind.wrap .i64 (z52 + (1 : Int)))))))))
  (some (Sum.inl ())))) n z0)
def p_spec_SlotFault (n : Nat) (x : (Int × (Int × (Int × ((Int × Int) × (List (Int × Int))))))) : Option Int :=
(Option.bind (α := Bool)
 ((m_spec_l1Id x.1).bind fun r4 =>
 (cond (!r4)
  (some true)
  ((m_spec_l1In (x.2.1, (0 : Int), (2 : Int))).bind fun r5 =>
  (cond (!r5)
   (some true)
   ((m_spec_l1In (x.2.2.1, (-1 : Int), (1000 : Int))).bind fun r6 =>
   some (!r6)))))) fun j7 =>
(cond j7
 (some (3 : Int))
 (cond (decide ((lenI x.2.2.2.2) > (60 : Int)))
  (some (2 : Int))
  (Option.bind (α := (Unit ⊕ Int))
   (l_spec_SlotFault_1 n x.2.2.2.2 (0 : Int))
   (Sum.elim (fun j68 =>
  (Option.bind (α := Bool)
   ((m_spec_l8Last x).bind fun r70 =>
   (cond (!((x.2.2.2.1.1 == r70.1) && ((x.2.2.2.1.2 == r70.2) && true)))
    (some true)
    (some (decide (x.2.2.2.1.1 > x.2.2.1))))) fun j71 =>
  (cond j71
   (some (1 : Int))
   (some (0 : Int))))) some)))))
def m_spec_SlotFault (x : (Int × (Int × (Int × ((Int × Int) × (List (Int × Int))))))) : Option Int := p_spec_SlotFault FU x
def a_spec_SlotFault : Ann := (.node .leaf (.node (.join [.slot 20 .bool] [5, 6, 7, 8, 9, 10, 11, 12, 13, 14, 15, 16, 17, 18, 19] .leaf .leaf) (.node .leaf (.joinx [] [2, 3, 4, 25, 26, 27, 28, 29, 30, 31, 32, 33, 34, 35, 36, 37, 38, 39, 40, 41, 42, 43, 44, 45, 46, 47, 48, 49, 50, 51, 52, 53, 54, 55, 56, 57, 58, 59, 60, 61, 62, 63, 64, 65, 66, 67, 68, 69, 70, 71, 72, 73, 74, 75, 76, 77, 78, 79, 80, 81, 82, 83, 84] (.node .leaf (.loop [.slot 3 (.int .i64)] [2, 4, 25, 26, 27, 28, 29, 30, 31, 32, 33, 34, 35, 36, 37, 38, 39, 40, 41, 42, 43, 44, 45, 46, 47, 48, 49, 50, 51, 52, 53, 54, 55, 56, 57, 58, 59, 60, 61, 62, 63, 64, 65, 66, 67, 68, 69, 70, 71, 72, 73, 74, 75, 76, 77, 78, 79, 80, 81, 82, 83, 84] (.node .leaf (.node (.node .leaf (.node (.join [.slot 46 .bool] [37, 38, 39, 40, 41, 42, 43, 44, 45] .leaf .leaf) (.join [.slot 84 .bool] [47, 48, 49, 50, 51, 52, 53, 54, 55, 56, 57, 58, 59, 60, 61, 62, 63, 64, 65, 66, 67, 68, 69, 70, 71, 72, 73, 74, 75, 76, 77, 78, 79, 80, 81, 82, 83] .leaf .leaf))) .leaf)))) (.node (.join [.slot 97 .bool] [85, 86, 87, 88, 89, 90, 91, 92, 93, 94, 95, 96] .leaf .leaf) .leaf)))))
def S_spec_SlotFault : FSpec := ⟨[.val (.pair (.int .i64) (.pair (.int .i64) (.pair (.int .i64) (.pair (.pair (.int .i64) (.int .i64)) (.sl none (.pair (.int .i64) (.int .i64)))))))], [(.int .i64)], m_spec_SlotFault⟩

/-! spec.l9Ahead -/
def p_spec_l9Ahead (n : Nat) (x : ((Int × (Int × (Int × ((Int × Int) × (List (Int × Int)))))) × (Int × (Int × (Int × ((Int × Int) × (List (Int × Int)))))))) : Option Bool :=
(cond (!(x.1.1 == x.2.1))
 (some (decide (x.1.1 < x.2.1)))
 (some (decide (x.1.2.1 < x.2.2.1))))
def m_spec_l9Ahead (x : ((Int × (Int × (Int × ((Int × Int) × (List (Int × Int)))))) × (Int × (Int × (Int × ((Int × Int) × (List (Int × Int)))))))) : Option Bool := p_spec_l9Ahead FU x
def a_spec_l9Ahead : Ann := .leaf
def S_spec_l9Ahead : FSpec := ⟨[.val (.pair (.int .i64) (.pair (.int .i64) (.pair (.int .i64) (.pair (.pair (.int .i64) (.int .i64)) (.sl none (.pair (.int .i64) (.int .i64))))))), .val (.pair (.int .i64) (.pair (.int .i64) (.pair (.int .i64) (.pair (.pair (.int .i64) (.int .i64)) (.sl none (.pair (.int .i64) (.int .i64)))))))], [.bool], m_spec_l9Ahead⟩

/-! spec.AcceptorFault -/
def l_spec_AcceptorFault_1 (n : Nat) (x : (List (Int × (Int × (Int × ((Int × Int) × (List (Int × Int)))))))) (z0 : Int) : Option Int :=
(lp (fun rec12 (z11 : Int) =>
 (cond (decide (z11 < (lenI x)))
  ((geti x z11).bind fun y13 =>
  ((m_spec_SlotFault y13).bind fun r14 =>
  (cond (!(r14 == (0 : Int)))
   (some r14)
   (Option.bind (α := Bool)
    (cond (decide (z11 > (0 : Int)))
     ((geti x (IntKind.wrap .i64 (z11 - (1 : Int)))).bind fun y18 =>
     ((geti x z11).bind fun y19 =>
     ((m_spec_l9Ahead (y18, y19)).bind fun r20 =>
     some (!r20))))
     (some false)) fun j21 =>
   (cond j21
    (some (1 : Int))
    (rec12 (IntKind.wrap .i64 (z11 + (1 : Int)))))))))
  (some (0 : Int)))) n z0)
def p_spec_AcceptorFault (n : Nat) (x : (List (Int × (Int × (Int × ((Int × Int) × (List (Int × Int)))))))) : Option Int :=
(cond (decide ((lenI x) > (60 : Int)))
 (some (2 : Int))
 (l_spec_AcceptorFault_1 n x (0 : Int)))
def m_spec_AcceptorFault (x : (List (Int × (Int × (Int × ((Int × Int) × (List (Int × Int)))))))) : Option Int := p_spec_AcceptorFault FU x
def a_spec_AcceptorFault : Ann := (.node .leaf (.node .leaf (.node (.node .leaf (.loop [.slot 3 (.int .i64)] [2, 4, 9, 10, 11, 12, 13, 14, 15, 16, 17, 18, 19, 20, 21, 22, 23, 24, 25, 26, 27, 28, 29, 30, 31, 32, 33, 34, 35, 36, 37, 38, 39, 40, 41] (.node .leaf (.node (.node .leaf (.join [.slot 41 .bool] [25, 26, 27, 28, 29, 30, 31, 32, 33, 34, 35, 36, 37, 38, 39, 40] .leaf .leaf)) .leaf)))) .leaf)))
def S_spec_AcceptorFault : FSpec := ⟨[.val (.one (.sl none (.pair (.int .i64) (.pair (.int .i64) (.pair (.int .i64) (.pair (.pair (.int .i64) (.int .i64)) (.sl none (.pair (.int .i64) (.int .i64)))))))))], [(.int .i64)], m_spec_AcceptorFault⟩

/-! spec.l9List -/
def l_spec_l9List_1 (n : Nat) (x : (List (List (Int × (Int × (Int × ((Int × Int) × (List (Int × Int))))))))) (z0 : Int) : Option Int :=
(lp (fun rec6 (z5 : Int) =>
 (cond (decide (z5 < (lenI x)))
  ((geti x z5).bind fun y7 =>
  ((m_spec_AcceptorFault y7).bind fun r8 =>
  (cond (!(r8 == (0 : Int)))
   (some r8)
   (rec6 (IntKind.wrap .i64 (z5 + (1 : Int)))))))
  (some (0 : Int)))) n z0)
def p_spec_l9List (n : Nat) (x : (List (List (Int × (Int × (Int × ((Int × Int) × (List (Int × Int))))))))) : Option Int :=
(Option.bind (α := Bool)
 (cond (decide ((lenI x) < (1 : Int)))
  (some true)
  (some (decide ((lenI x) > (5 : Int))))) fun j1 =>
(cond j1
 (some (2 : Int))
 (l_spec_l9List_1 n x (0 : Int))))
def m_spec_l9List (x : (List (List (Int × (Int × (Int × ((Int × Int) × (List (Int × Int))))))))) : Option Int := p_spec_l9List FU x
def a_spec_l9List : Ann := (.node .leaf (.node (.join [.slot 12 .bool] [5, 6, 7, 8, 9, 10, 11] .leaf .leaf) (.node (.node .leaf (.loop [.slot 3 (.int .i64)] [2, 4, 13, 14, 15, 16, 17, 18, 19, 20, 21, 22, 23, 24, 25, 26] .leaf)) .leaf)))
def S_spec_l9List : FSpec := ⟨[.val (.sl none (.one (.sl none (.pair (.int .i64) (.pair (.int .i64) (.pair (.int .i64) (.pair (.pair (.int .i64) (.int .i64)) (.sl none (.pair (.int .i64) (.int .i64))))))))))], [(.int .i64)], m_spec_l9List⟩

/-! spec.NewSlot -/
def p_spec_NewSlot (n : Nat) (x : (Int × Int)) : Option (Int × ((Int × Int) × (Int × (Int × (Int × ((Int × Int) × (List (Int × Int)))))))) :=
(Option.bind (α := Bool)
 ((m_spec_l1Id x.1).bind fun r3 =>
 (cond (!r3)
  (some true)
  ((m_spec_l1In (x.2, (0 : Int), (2 : Int))).bind fun r4 =>
  some (!r4)))) fun j5 =>
(cond j5
 (some ((3 : Int), (((0 : Int), (0 : Int)), ((0 : Int), ((0 : Int), ((0 : Int), (((0 : Int), (0 : Int)), [])))))))
 ((m_spec_l8None ()).bind fun r6 =>
 some ((0 : Int), (((0 : Int), (0 : Int)), (x.1, (x.2, ((-1 : Int), (r6, [])))))))))
def m_spec_NewSlot (x : (Int × Int)) : Option (Int × ((Int × Int) × (Int × (Int × (Int × ((Int × Int) × (List (Int × Int)))))))) := p_spec_NewSlot FU x
def a_spec_NewSlot : Ann := (.node .leaf (.node (.join [.slot 12 .bool] [5, 6, 7, 8, 9, 10, 11] .leaf .leaf) .leaf))
def S_spec_NewSlot : FSpec := ⟨[.val (.int .i64), .val (.int .i64)], [(.pair (.int .i64) (.pair (.pair (.int .i64) (.int .i64)) (.pair (.int .i64) (.pair (.int .i64) (.pair (.int .i64) (.pair (.pair (.int .i64) (.int .i64)) (.sl (some 79) (.pair (.int .i64) (.int .i64)))))))))], m_spec_NewSlot⟩

/-! spec.l8Copy -/
def p_spec_l8Copy (n : Nat) (x : (Int × (Int × (Int × ((Int × Int) × (List (Int × Int))))))) : Option (Int × (Int × (Int × ((Int × Int) × (List (Int × Int)))))) :=
(chk (Nat.ble ((([] : List (Int × Int)).length + x.2.2.2.2.length) * 16) maxBytes)
(some (x.1, (x.2.1, (x.2.2.1, (x.2.2.2.1, (([] : List (Int × Int)) ++ x.2.2.2.2)))))))
def m_spec_l8Copy (x : (Int × (Int × (Int × ((Int × Int) × (List (Int × Int))))))) : Option (Int × (Int × (Int × ((Int × Int) × (List (Int × Int)))))) := p_spec_l8Copy FU x
def a_spec_l8Copy : Ann := .leaf
def S_spec_l8Copy : FSpec := ⟨[.val (.pair (.int .i64) (.pair (.int .i64) (.pair (.int .i64) (.pair (.pair (.int .i64) (.int .i64)) (.sl none (.pair (.int .i64) (.int .i64)))))))], [(.pair (.int .i64) (.pair (.int .i64) (.pair (.int .i64) (.pair (.pair (.int .i64) (.int .i64)) (.sl (some 79) (.pair (.int .i64) (.int .i64)))))))], m_spec_l8Copy⟩

/-! spec.l9Slot -/
def l_spec_l9Slot_1 (n : Nat) (x_1 : (List (Int × (Int × (Int × ((Int × Int) × (List (Int × Int)))))))) (x_2_1 : Int) (x_2_2 : Int) (z0 : Int) : Option (Unit ⊕ (Int × (Int × (Int × ((Int × Int) × (List (Int × Int))))))) :=
(lp (fun rec28 (z27 : Int) =>
 (cond (decide (z27 < (lenI x_1)))
  (Option.bind (α := Bool)
   ((geti x_1 z27).bind fun y31 =>
   (cond (y31.1 == x_2_1)
    ((geti x_1 z27).bind fun y32 =>
    some (y32.2.1 == x_2_2))
    (some false))) fun j33 =>
  (cond j33
   ((geti x_1 z27).bind fun y34 =>
   ((m_spec_l8Copy y34).bind fun r35 =>
   some (Sum.inr r35)))
   (rec28 (IntKind.wrap .i64 (z27 + (1 : Int))))))
  (some (Sum.inl ())))) n z0)
def p_spec_l9Slot (n : Nat) (x : ((List (Int × (Int × (Int × ((Int × Int) × (List (Int × Int))))))) × (Int × Int))) : Option (Int × (Int × (Int × ((Int × Int) × (List (Int × Int)))))) :=
(Option.bind (α := (Unit ⊕ (Int × (Int × (Int × ((Int × Int) × (List (Int × Int))))))))
 (l_spec_l9Slot_1 n x.1 x.2.1 x.2.2 (0 : Int))
 (Sum.elim (fun j37 =>
((m_spec_NewSlot (x.2.1, x.2.2)).bind fun r38 =>
some r38.2.2)) some))
def m_spec_l9Slot (x : ((List (Int × (Int × (Int × ((Int × Int) × (List (Int × Int))))))) × (Int × Int))) : Option (Int × (Int × (Int × ((Int × Int) × (List (Int × Int)))))) := p_spec_l9Slot FU x
def a_spec_l9Slot : Ann := (.node .leaf (.joinx [] [7, 8, 9, 10, 11, 12, 13, 14, 15, 16, 17, 18, 19, 20, 21, 22, 23, 24, 25, 26, 27, 28, 29, 30, 31, 32, 33, 34, 35, 36, 37, 38] (.node .leaf (.loop [.slot 7 (.int .i64)] [8, 9, 10, 11, 12, 13, 14, 15, 16, 17, 18, 19, 20, 21, 22, 23, 24, 25, 26, 27, 28, 29, 30, 31, 32, 33, 34, 35, 36, 37, 38] (.node .leaf (.node (.join [.slot 32 .bool] [15, 16, 17, 18, 19, 20, 21, 22, 23, 24, 25, 26, 27, 28, 29, 30, 31] .leaf .leaf) .leaf)))) .leaf))
def S_spec_l9Slot : FSpec := ⟨[.val (.one (.sl none (.pair (.int .i64) (.pair (.int .i64) (.pair (.int .i64) (.pair (.pair (.int .i64) (.int .i64)) (.sl none (.pair (.int .i64) (.int .i64))))))))), .val (.int .i64), .val (.int .i64)], [(.pair (.int .i64) (.pair (.int .i64) (.pair (.int .i64) (.pair (.pair (.int .i64) (.int .i64)) (.sl (some 79) (.pair (.int .i64) (.int .i64)))))))], m_spec_l9Slot⟩

/-! spec.l9Slots -/
def l_spec_l9Slots_1 (n : Nat) (x_1 : (List (List (Int × (Int × (Int × ((Int × Int) × (List (Int × Int))))))))) (x_2_1 : Int) (x_2_2 : Int) (z0 : ((List (Int × (Int × (Int × ((Int × Int) × (List (Int × Int))))))) × Int)) : Option (List (Int × (Int × (Int × ((Int × Int) × (List (Int × Int))))))) :=
(lp (fun rec5 (z4 : ((List (Int × (Int × (Int × ((Int × Int) × (List (Int × Int))))))) × Int)) =>
 (cond (decide (z4.2 < (lenI x_1)))
  ((geti x_1 z4.2).bind fun y6 =>
  ((m_spec_l9Slot (y6, x_2_1, x_2_2)).bind fun r7 =>
  (chk (Nat.ble ((z4.1.length + [r7].length) * 64) maxBytes)
  (rec5 ((z4.1 ++ [r7]), IntKind.wrap .i64 (z4.2 + (1 : Int)))))))
  (some z4.1))) n z0)
def p_spec_l9Slots (n : Nat) (x : ((List (List (Int × (Int × (Int × ((Int × Int) × (List (Int × Int)))))))) × (Int × Int))) : Option (List (Int × (Int × (Int × ((Int × Int) × (List (Int × Int))))))) :=
(l_spec_l9Slots_1 n x.1 x.2.1 x.2.2 (([] : List (Int × (Int × (Int × ((Int × Int) × (List (Int × Int))))))), (0 : Int)))
def m_spec_l9Slots (x : ((List (List (Int × (Int × (Int × ((Int × Int) × (List (Int × Int)))))))) × (Int × Int))) : Option (List (Int × (Int × (Int × ((Int × Int) × (List (Int × Int))))))) := p_spec_l9Slots FU x
def a_spec_l9Slots : Ann := (.node .leaf (.node .leaf (.node (.node .leaf (.loop [.slot 7 (.sl (some 135) (.pair (.int .i64) (.pair (.int .i64) (.pair (.int .i64) (.pair (.pair (.int .i64) (.int .i64)) (.sl none (.pair (.int .i64) (.int .i64)))))))), .slot 8 (.int .i64)] [10, 11, 12, 13, 14, 15, 16, 17, 18, 19, 20, 21, 22, 23, 24, 25] .leaf)) .leaf)))
def S_spec_l9Slots : FSpec := ⟨[.val (.sl none (.one (.sl none (.pair (.int .i64) (.pair (.int .i64) (.pair (.int .i64) (.pair (.pair (.int .i64) (.int .i64)) (.sl none (.pair (.int .i64) (.int .i64)))))))))), .val (.int .i64), .val (.int .i64)], [(.sl (some 135) (.pair (.int .i64) (.pair (.int .i64) (.pair (.int .i64) (.pair (.pair (.int .i64) (.int .i64)) (.sl none (.pair (.int .i64) (.int .i64))))))))], m_spec_l9Slots⟩

/-! spec.SlotsFor -/
def p_spec_SlotsFor (n : Nat) (x : ((List (List (Int × (Int × (Int × ((Int × Int) × (List (Int × Int)))))))) × (Int × Int))) : Option (Int × (List (Int × (Int × (Int × ((Int × Int) × (List (Int × Int)))))))) :=
((m_spec_l9List x.1).bind fun r1 =>
(cond (!(r1 == (0 : Int)))
 (some (r1, []))
 ((m_spec_NewSlot (x.2.1, x.2.2)).bind fun r2 =>
 (cond (!(r2.1 == (0 : Int)))
  (some (r2.1, []))
  ((m_spec_l9Slots (x.1, x.2.1, x.2.2)).bind fun r3 =>
  some ((0 : Int), r3))))))
def m_spec_SlotsFor (x : ((List (List (Int × (Int × (Int × ((Int × Int) × (List (Int × Int)))))))) × (Int × Int))) : Option (Int × (List (Int × (Int × (Int × ((Int × Int) × (List (Int × Int)))))))) := p_spec_SlotsFor FU x
def a_spec_SlotsFor : Ann := .leaf
def S_spec_SlotsFor : FSpec := ⟨[.val (.sl none (.one (.sl none (.pair (.int .i64) (.pair (.int .i64) (.pair (.int .i64) (.pair (.pair (.int .i64) (.int .i64)) (.sl none (.pair (.int .i64) (.int .i64)))))))))), .val (.int .i64), .val (.int .i64)], [(.pair (.int .i64) (.sl (some 135) (.pair (.int .i64) (.pair (.int .i64) (.pair (.int .i64) (.pair (.pair (.int .i64) (.int .i64)) (.sl none (.pair (.int .i64) (.int .i64)))))))))], m_spec_SlotsFor⟩

/-! spec.l9Copy -/
def l_spec_l9Copy_1 (n : Nat) (x : (List (Int × (Int × (Int × ((Int × Int) × (List (Int × Int)))))))) (z0 : (Int × (List (Int × (Int × (Int × ((Int × Int) × (List (Int × Int))))))))) : Option (List (Int × (Int × (Int × ((Int × Int) × (List (Int × Int))))))) :=
(lp (fun rec8 (z7 : (Int × (List (Int × (Int × (Int × ((Int × Int) × (List (Int × Int))))))))) =>
 (cond (decide (z7.1 < (lenI x)))
  ((geti x z7.1).bind fun y9 =>
  ((m_spec_l8Copy y9).bind fun r10 =>
  (chk (Nat.ble ((z7.2.length + [r10].length) * 64) maxBytes)
  (rec8 (IntKind.wrap .i64 (z7.1 + (1 : Int)), (z7.2 ++ [r10]))))))
  (some z7.2))) n z0)
def p_spec_l9Copy (n : Nat) (x : (List (Int × (Int × (Int × ((Int × Int) × (List (Int × Int)))))))) : Option (List (Int × (Int × (Int × ((Int × Int) × (List (Int × Int))))))) :=
(l_spec_l9Copy_1 n x ((0 : Int), []))
def m_spec_l9Copy (x : (List (Int × (Int × (Int × ((Int × Int) × (List (Int × Int)))))))) : Option (List (Int × (Int × (Int × ((Int × Int) × (List (Int × Int))))))) := p_spec_l9Copy FU x
def a_spec_l9Copy : Ann := (.node .leaf (.node .leaf (.node (.node .leaf (.loop [.slot 4 (.int .i64), .box 2 (.one (.sl (some 135) (.pair (.int .i64) (.pair (.int .i64) (.pair (.int .i64) (.pair (.pair (.int .i64) (.int .i64)) (.sl none (.pair (.int .i64) (.int .i64)))))))))] [6, 7, 8, 9, 10, 11, 12, 13, 14, 15, 16, 17, 18, 19, 20, 21, 22, 23] .leaf)) .leaf)))
def S_spec_l9Copy : FSpec := ⟨[.val (.one (.sl none (.pair (.int .i64) (.pair (.int .i64) (.pair (.int .i64) (.pair (.pair (.int .i64) (.int .i64)) (.sl none (.pair (.int .i64) (.int .i64)))))))))], [(.one (.sl (some 135) (.pair (.int .i64) (.pair (.int .i64) (.pair (.int .i64) (.pair (.pair (.int .i64) (.int .i64)) (.sl none (.pair (.int .i64) (.int .i64)))))))))], m_spec_l9Copy⟩

/-! spec.l9All -/
def l_spec_l9All_1 (n : Nat) (x : (List (List (Int × (Int × (Int × ((Int × Int) × (List (Int × Int))))))))) (z0 : ((List (List (Int × (Int × (Int × ((Int × Int) × (List (Int × Int)))))))) × Int)) : Option (List (List (Int × (Int × (Int × ((Int × Int) × (List (Int × Int)))))))) :=
(lp (fun rec5 (z4 : ((List (List (Int × (Int × (Int × ((Int × Int) × (List (Int × Int)))))))) × Int)) =>
 (cond (decide (z4.2 < (lenI x)))
  ((geti x z4.2).bind fun y6 =>
  ((m_spec_l9Copy y6).bind fun r7 =>
  (chk (Nat.ble ((z4.1.length + [r7].length) * 24) maxBytes)
  (rec5 ((z4.1 ++ [r7]), IntKind.wrap .i64 (z4.2 + (1 : Int)))))))
  (some z4.1))) n z0)
def p_spec_l9All (n : Nat) (x : (List (List (Int × (Int × (Int × ((Int × Int) × (List (Int × Int))))))))) : Option (List (List (Int × (Int × (Int × ((Int × Int) × (List (Int × Int)))))))) :=
(l_spec_l9All_1 n x (([] : List (List (Int × (Int × (Int × ((Int × Int) × (List (Int × Int)))))))), (0 : Int)))
def m_spec_l9All (x : (List (List (Int × (Int × (Int × ((Int × Int) × (List (Int × Int))))))))) : Option (List (List (Int × (Int × (Int × ((Int × Int) × (List (Int × Int)))))))) := p_spec_l9All FU x
def a_spec_l9All : Ann := (.node .leaf (.node .leaf (.node (.node .leaf (.loop [.slot 3 (.sl (some 124) (.one (.sl none (.pair (.int .i64) (.pair (.int .i64) (.pair (.int .i64) (.pair (.pair (.int .i64) (.int .i64)) (.sl none (.pair (.int .i64) (.int .i64)))))))))), .slot 4 (.int .i64)] [6, 7, 8, 9, 10, 11, 12, 13, 14, 15, 16, 17, 18, 19] .leaf)) .leaf)))
def S_spec_l9All : FSpec := ⟨[.val (.sl none (.one (.sl none (.pair (.int .i64) (.pair (.int .i64) (.pair (.int .i64) (.pair (.pair (.int .i64) (.int .i64)) (.sl none (.pair (.int .i64) (.int .i64))))))))))], [(.sl (some 124) (.one (.sl none (.pair (.int .i64) (.pair (.int .i64) (.pair (.int .i64) (.pair (.pair (.int .i64) (.int .i64)) (.sl none (.pair (.int .i64) (.int .i64))))))))))], m_spec_l9All⟩

/-! spec.l9Asked -/
def p_spec_l9Asked (n : Nat) (x : ((List (Int × (Int × (Int × ((Int × Int) × (List (Int × Int))))))) × (Int × Int))) : Option Int :=
((m_spec_AcceptorFault x.1).bind fun r1 =>
(cond (!(r1 == (0 : Int)))
 (some r1)
 ((m_spec_NewSlot (x.2.1, x.2.2)).bind fun r2 =>
 some r2.1)))
def m_spec_l9Asked (x : ((List (Int × (Int × (Int × ((Int × Int) × (List (Int × Int))))))) × (Int × Int))) : Option Int := p_spec_l9Asked FU x
def a_spec_l9Asked : Ann := .leaf
def S_spec_l9Asked : FSpec := ⟨[.val (.one (.sl none (.pair (.int .i64) (.pair (.int .i64) (.pair (.int .i64) (.pair (.pair (.int .i64) (.int .i64)) (.sl none (.pair (.int .i64) (.int .i64))))))))), .val (.int .i64), .val (.int .i64)], [(.int .i64)], m_spec_l9Asked⟩

/-! spec.PromiseSlot -/
def p_spec_PromiseSlot (n : Nat) (x : ((Int × (Int × (Int × ((Int × Int) × (List (Int × Int)))))) × Int)) : Option (Int × ((Int × Int) × (Int × (Int × (Int × ((Int × Int) × (List (Int × Int)))))))) :=
((m_spec_SlotFault x.1).bind fun r1 =>
(cond (!(r1 == (0 : Int)))
 (some (r1, (((0 : Int), (0 : Int)), ((0 : Int), ((0 : Int), ((0 : Int), (((0 : Int), (0 : Int)), [])))))))
 ((m_spec_l8Ballot x.2).bind fun r2 =>
 (cond (!r2)
  (some ((3 : Int), (((0 : Int), (0 : Int)), ((0 : Int), ((0 : Int), ((0 : Int), (((0 : Int), (0 : Int)), [])))))))
  (cond (decide (x.2 < x.1.2.2.1))
   (some ((8 : Int), (((0 : Int), (0 : Int)), ((0 : Int), ((0 : Int), ((0 : Int), (((0 : Int), (0 : Int)), [])))))))
   ((m_spec_l8Copy x.1).bind fun r3 =>
   some ((0 : Int), (x.1.2.2.2.1, (r3.1, (r3.2.1, (x.2, r3.2.2.2)))))))))))
def m_spec_PromiseSlot (x : ((Int × (Int × (Int × ((Int × Int) × (List (Int × Int)))))) × Int)) : Option (Int × ((Int × Int) × (Int × (Int × (Int × ((Int × Int) × (List (Int × Int)))))))) := p_spec_PromiseSlot FU x
def a_spec_PromiseSlot : Ann := .leaf
def S_spec_PromiseSlot : FSpec := ⟨[.val (.pair (.int .i64) (.pair (.int .i64) (.pair (.int .i64) (.pair (.pair (.int .i64) (.int .i64)) (.sl none (.pair (.int .i64) (.int .i64))))))), .val (.int .i64)], [(.pair (.int .i64) (.pair (.pair (.int .i64) (.int .i64)) (.pair (.int .i64) (.pair (.int .i64) (.pair (.int .i64) (.pair (.pair (.int .i64) (.int .i64)) (.sl (some 79) (.pair (.int .i64) (.int .i64)))))))))], m_spec_PromiseSlot⟩

/-! spec.l9Set -/
def l_spec_l9Set_1 (n : Nat) (r1 : (List (Int × (Int × (Int × ((Int × Int) × (List (Int × Int)))))))) (x_2 : (Int × (Int × (Int × ((Int × Int) × (List (Int × Int))))))) (z0 : Int) : Option Int :=
(lp (fun rec23 (z22 : Int) =>
 (Option.bind (α := Bool)
  (cond (decide (z22 < (lenI r1)))
   ((geti r1 z22).bind fun _ =>
   ((r1[z22.toNat]?).bind fun y26 =>
   ((m_spec_l9Ahead (y26, x_2)).bind fun r27 =>
   some r27)))
   (some false)) fun j28 =>
 (cond j28
  (rec23 (IntKind.wrap .i64 (z22 + (1 : Int))))
  (some z22)))) n z0)
def p_spec_l9Set (n : Nat) (x : ((List (Int × (Int × (Int × ((Int × Int) × (List (Int × Int))))))) × (Int × (Int × (Int × ((Int × Int) × (List (Int × Int)))))))) : Option ((List (Int × (Int × (Int × ((Int × Int) × (List (Int × Int))))))) × Bool) :=
((m_spec_l9Copy x.1).bind fun r1 =>
(Option.bind (α := Int)
 (l_spec_l9Set_1 n r1 x.2 (0 : Int)) fun j30 =>
(Option.bind (α := Bool)
 (cond (decide (j30 < (lenI r1)))
  ((geti r1 j30).bind fun _ =>
  ((r1[j30.toNat]?).bind fun y33 =>
  ((m_spec_l9Ahead (x.2, y33)).bind fun r34 =>
  some (!r34))))
  (some false)) fun j35 =>
(cond j35
 ((geti r1 j30).bind fun _ =>
 ((r1[j30.toNat]?).bind fun y36 =>
 some ((r1.set j30.toNat x.2), true)))
 (cond (decide ((lenI r1) ≥ (60 : Int)))
  (some (x.1, false))
  (chk (bndB none (some j30) none r1.length)
   (chk (bndB (some j30) none none r1.length)
    (chk (Nat.ble (((r1.drop 0).take j30.toNat).length * 64) maxBytes)
    (chk (Nat.ble ((((r1.drop 0).take j30.toNat).length + [x.2].length) * 64) maxBytes)
    (chk (Nat.ble (((((r1.drop 0).take j30.toNat) ++ [x.2]).length + ((r1.drop j30.toNat).take (r1.length - j30.toNat)).length) * 64) maxBytes)
    (some (((((r1.drop 0).take j30.toNat) ++ [x.2]) ++ ((r1.drop j30.toNat).take (r1.length - j30.toNat))), true))))))))))))
def m_spec_l9Set (x : ((List (Int × (Int × (Int × ((Int × Int) × (List (Int × Int))))))) × (Int × (Int × (Int × ((Int × Int) × (List (Int × Int)))))))) : Option ((List (Int × (Int × (Int × ((Int × Int) × (List (Int × Int))))))) × Bool) := p_spec_l9Set FU x
def a_spec_l9Set : Ann := (.node .leaf (.node .leaf (.node .leaf (.join [.slot 7 (.int .i64)] [10, 11, 12, 13, 14, 15, 16, 17, 18, 19, 20, 21, 22, 23, 24, 25] (.loop [.slot 7 (.int .i64)] [10, 11, 12, 13, 14, 15, 16, 17, 18, 19, 20, 21, 22, 23, 24, 25] (.node (.join [.slot 23 .bool] [10, 11, 12, 13, 14, 15, 16, 17, 18, 19, 20, 21, 22] .leaf .leaf) .leaf)) (.node (.join [.slot 40 .bool] [26, 27, 28, 29, 30, 31, 32, 33, 34, 35, 36, 37, 38, 39] .leaf .leaf) (.node .leaf (.node (.lazy 59 (.lazy 52 .leaf)) .leaf)))))))
def S_spec_l9Set : FSpec := ⟨[.val (.one (.sl none (.pair (.int .i64) (.pair (.int .i64) (.pair (.int .i64) (.pair (.pair (.int .i64) (.int .i64)) (.sl none (.pair (.int .i64) (.int .i64))))))))), .val (.pair (.int .i64) (.pair (.int .i64) (.pair (.int .i64) (.pair (.pair (.int .i64) (.int .i64)) (.sl none (.pair (.int .i64) (.int .i64)))))))], [(.one (.sl none (.pair (.int .i64) (.pair (.int .i64) (.pair (.int .i64) (.pair (.pair (.int .i64) (.int .i64)) (.sl none (.pair (.int .i64) (.int .i64))))))))), .bool], m_spec_l9Set⟩

/-! spec.l9Told -/
def p_spec_l9Told (n : Nat) (x : ((List (Int × (Int × (Int × ((Int × Int) × (List (Int × Int))))))) × (Int × ((Int × Int) × (Int × (Int × (Int × ((Int × Int) × (List (Int × Int)))))))))) : Option (Int × ((Int × Int) × (List (Int × (Int × (Int × ((Int × Int) × (List (Int × Int))))))))) :=
(cond (!(x.2.1 == (0 : Int)))
 (some (x.2.1, (((0 : Int), (0 : Int)), [])))
 ((m_spec_l9Set (x.1, x.2.2.2)).bind fun r1 =>
 (cond (!r1.2)
  (some ((2 : Int), (((0 : Int), (0 : Int)), [])))
  (some ((0 : Int), (x.2.2.1, r1.1))))))
def m_spec_l9Told (x : ((List (Int × (Int × (Int × ((Int × Int) × (List (Int × Int))))))) × (Int × ((Int × Int) × (Int × (Int × (Int × ((Int × Int) × (List (Int × Int)))))))))) : Option (Int × ((Int × Int) × (List (Int × (Int × (Int × ((Int × Int) × (List (Int × Int))))))))) := p_spec_l9Told FU x
def a_spec_l9Told : Ann := .leaf
def S_spec_l9Told : FSpec := ⟨[.val (.one (.sl none (.pair (.int .i64) (.pair (.int .i64) (.pair (.int .i64) (.pair (.pair (.int .i64) (.int .i64)) (.sl none (.pair (.int .i64) (.int .i64))))))))), .val (.pair (.int .i64) (.pair (.pair (.int .i64) (.int .i64)) (.pair (.int .i64) (.pair (.int .i64) (.pair (.int .i64) (.pair (.pair (.int .i64) (.int .i64)) (.sl none (.pair (.int .i64) (.int .i64)))))))))], [(.pair (.int .i64) (.pair (.pair (.int .i64) (.int .i64)) (.one (.sl none (.pair (.int .i64) (.pair (.int .i64) (.pair (.int .i64) (.pair (.pair (.int .i64) (.int .i64)) (.sl none (.pair (.int .i64) (.int .i64)))))))))))], m_spec_l9Told⟩

/-! spec.PromiseAt -/
def p_spec_PromiseAt (n : Nat) (x : ((List (Int × (Int × (Int × ((Int × Int) × (List (Int × Int))))))) × (Int × (Int × Int)))) : Option (Int × ((Int × Int) × (List (Int × (Int × (Int × ((Int × Int) × (List (Int × Int))))))))) :=
((m_spec_l9Asked (x.1, x.2.1, x.2.2.1)).bind fun r1 =>
(cond (!(r1 == (0 : Int)))
 (some (r1, (((0 : Int), (0 : Int)), [])))
 ((m_spec_l9Slot (x.1, x.2.1, x.2.2.1)).bind fun r2 =>
 ((m_spec_PromiseSlot (r2, x.2.2.2)).bind fun r3 =>
 ((m_spec_l9Told (x.1, r3)).bind fun r4 =>
 some r4)))))
def m_spec_PromiseAt (x : ((List (Int × (Int × (Int × ((Int × Int) × (List (Int × Int))))))) × (Int × (Int × Int)))) : Option (Int × ((Int × Int) × (List (Int × (Int × (Int × ((Int × Int) × (List (Int × Int))))))))) := p_spec_PromiseAt FU x
def a_spec_PromiseAt : Ann := .leaf
def S_spec_PromiseAt : FSpec := ⟨[.val (.one (.sl none (.pair (.int .i64) (.pair (.int .i64) (.pair (.int .i64) (.pair (.pair (.int .i64) (.int .i64)) (.sl none (.pair (.int .i64) (.int .i64))))))))), .val (.int .i64), .val (.int .i64), .val (.int .i64)], [(.pair (.int .i64) (.pair (.pair (.int .i64) (.int .i64)) (.one (.sl none (.pair (.int .i64) (.pair (.int .i64) (.pair (.int .i64) (.pair (.pair (.int .i64) (.int .i64)) (.sl none (.pair (.int .i64) (.int .i64)))))))))))], m_spec_PromiseAt⟩

/-! spec.l8Quorum -/
def p_spec_l8Quorum (n : Nat) (x : Int) : Option Int :=
(cond ((2 : Int) == 0) none
 (some (IntKind.wrap .i64 ((IntKind.wrap .i64 (Int.tdiv x (2 : Int))) + (1 : Int)))))
def m_spec_l8Quorum (x : Int) : Option Int := p_spec_l8Quorum FU x
def a_spec_l8Quorum : Ann := .leaf
def S_spec_l8Quorum : FSpec := ⟨[.val (.int .i64)], [(.int .i64)], m_spec_l8Quorum⟩

/-! spec.l8Pick -/
def l_spec_l8Pick_1 (n : Nat) (x_1 : (List (Int × Int))) (z0 : (Int × (Int × Int))) : Option (Int × Int) :=
(lp (fun rec20 (z19 : (Int × (Int × Int))) =>
 (cond (decide (z19.1 < (lenI x_1)))
  ((geti x_1 z19.1).bind fun y21 =>
  (cond (decide (y21.1 > z19.2.1))
   ((geti x_1 z19.1).bind fun y22 =>
   rec20 (IntKind.wrap .i64 (z19.1 + (1 : Int)), y22))
   (rec20 (IntKind.wrap .i64 (z19.1 + (1 : Int)), z19.2))))
  (some z19.2))) n z0)
def p_spec_l8Pick (n : Nat) (x : ((List (Int × Int)) × Int)) : Option Int :=
((m_spec_l8None ()).bind fun r1 =>
(Option.bind (α := (Int × Int))
 (l_spec_l8Pick_1 n x.1 ((0 : Int), r1)) fun j24 =>
(cond (decide (j24.1 < (0 : Int)))
 (some x.2)
 (some j24.2))))
def m_spec_l8Pick (x : ((List (Int × Int)) × Int)) : Option Int := p_spec_l8Pick FU x
def a_spec_l8Pick : Ann := (.node .leaf (.node .leaf (.join [.box 0 (.pair (.int .i64) (.int .i64))] [6, 8, 9, 10, 11, 12, 13, 14, 15, 16, 17, 18, 19, 20, 21, 22, 23, 24, 25] (.node .leaf (.loop [.slot 6 (.int .i64), .box 0 (.pair (.int .i64) (.int .i64))] [8, 9, 10, 11, 12, 13, 14, 15, 16, 17, 18, 19, 20, 21, 22, 23, 24, 25] .leaf)) .leaf)))
def S_spec_l8Pick : FSpec := ⟨[.val (.sl none (.pair (.int .i64) (.int .i64))), .val (.int .i64)], [(.int .i64)], m_spec_l8Pick⟩

/-! spec.AcceptSlot -/
def p_spec_AcceptSlot (n : Nat) (x : ((Int × (Int × (Int × ((Int × Int) × (List (Int × Int)))))) × (Int × Int))) : Option (Int × ((Int × Int) × (Int × (Int × (Int × ((Int × Int) × (List (Int × Int)))))))) :=
((m_spec_SlotFault x.1).bind fun r1 =>
(cond (!(r1 == (0 : Int)))
 (some (r1, (((0 : Int), (0 : Int)), ((0 : Int), ((0 : Int), ((0 : Int), (((0 : Int), (0 : Int)), [])))))))
 (Option.bind (α := Bool)
  ((m_spec_l8Ballot x.2.1).bind fun r4 =>
  (cond (!r4)
   (some true)
   ((m_spec_l8Value x.2.2).bind fun r5 =>
   some (!r5)))) fun j6 =>
 (cond j6
  (some ((3 : Int), (((0 : Int), (0 : Int)), ((0 : Int), ((0 : Int), ((0 : Int), (((0 : Int), (0 : Int)), [])))))))
  (cond (decide (x.2.1 < x.1.2.2.1))
   (some ((8 : Int), (((0 : Int), (0 : Int)), ((0 : Int), ((0 : Int), ((0 : Int), (((0 : Int), (0 : Int)), [])))))))
   (Option.bind (α := Bool)
    (cond (x.2.1 == x.1.2.2.2.1.1)
     (some (!(x.2.2 == x.1.2.2.2.1.2)))
     (some false)) fun j7 =>
   (cond j7
    (some ((7 : Int), (((0 : Int), (0 : Int)), ((0 : Int), ((0 : Int), ((0 : Int), (((0 : Int), (0 : Int)), [])))))))
    ((m_spec_l8Copy x.1).bind fun r8 =>
    (Option.bind (α := ((Int × (Int × (Int × ((Int × Int) × (List (Int × Int)))))) ⊕ (Int × ((Int × Int) × (Int × (Int × (Int × ((Int × Int) × (List (Int × Int))))))))))
     (cond (!((x.2.1 == x.1.2.2.2.1.1) && ((x.2.2 == x.1.2.2.2.1.2) && true)))
      (cond (decide ((lenI x.1.2.2.2.2) ≥ (60 : Int)))
       (some (Sum.inr ((2 : Int), (((0 : Int), (0 : Int)), ((0 : Int), ((0 : Int), ((0 : Int), (((0 : Int), (0 : Int)), []))))))))
       (chk (Nat.ble ((r8.2.2.2.2.length + [x.2].length) * 16) maxBytes)
       (some (Sum.inl (r8.1, (r8.2.1, (x.2.1, (r8.2.2.2.1, (r8.2.2.2.2 ++ [x.2])))))))))
      (some (Sum.inl (r8.1, (r8.2.1, (x.2.1, r8.2.2.2))))))
     (Sum.elim (fun j9 =>
    some ((0 : Int), (x.1.2.2.2.1, (j9.1, (j9.2.1, (j9.2.2.1, (x.2, j9.2.2.2.2))))))) some))))))))))
def m_spec_AcceptSlot (x : ((Int × (Int × (Int × ((Int × Int) × (List (Int × Int)))))) × (Int × Int))) : Option (Int × ((Int × Int) × (Int × (Int × (Int × ((Int × Int) × (List (Int × Int)))))))) := p_spec_AcceptSlot FU x
def a_spec_AcceptSlot : Ann := (.node .leaf (.node .leaf (.node (.join [.slot 23 .bool] [16, 17, 18, 19, 20, 21, 22] .leaf .leaf) (.node (.reg 30 (.node .leaf (.node .leaf (.node (.join [.slot 26 .bool] [13, 14, 15, 16, 17, 18, 19, 20, 21, 22, 23, 24, 25] .leaf .leaf) (.node .leaf (.node .leaf (.joinx [.box 6 (.pair (.int .i64) (.pair (.int .i64) (.pair (.int .i64) (.pair (.pair (.int .i64) (.int .i64)) (.sl (some 79) (.pair (.int .i64) (.int .i64)))))))] [33, 34, 35, 36, 37, 38, 39, 40, 42, 43, 44, 45, 46, 47] .leaf .leaf)))))) .leaf) .leaf))))
def S_spec_AcceptSlot : FSpec := ⟨[.val (.pair (.int .i64) (.pair (.int .i64) (.pair (.int .i64) (.pair (.pair (.int .i64) (.int .i64)) (.sl none (.pair (.int .i64) (.int .i64))))))), .val (.int .i64), .val (.int .i64)], [(.pair (.int .i64) (.pair (.pair (.int .i64) (.int .i64)) (.pair (.int .i64) (.pair (.int .i64) (.pair (.int .i64) (.pair (.pair (.int .i64) (.int .i64)) (.sl (some 79) (.pair (.int .i64) (.int .i64)))))))))], m_spec_AcceptSlot⟩

/-! spec.AcceptAt -/
def p_spec_AcceptAt (n : Nat) (x : ((List (Int × (Int × (Int × ((Int × Int) × (List (Int × Int))))))) × (Int × (Int × (Int × Int))))) : Option (Int × ((Int × Int) × (List (Int × (Int × (Int × ((Int × Int) × (List (Int × Int))))))))) :=
((m_spec_l9Asked (x.1, x.2.1, x.2.2.1)).bind fun r1 =>
(cond (!(r1 == (0 : Int)))
 (some (r1, (((0 : Int), (0 : Int)), [])))
 ((m_spec_l9Slot (x.1, x.2.1, x.2.2.1)).bind fun r2 =>
 ((m_spec_AcceptSlot (r2, x.2.2.2.1, x.2.2.2.2)).bind fun r3 =>
 ((m_spec_l9Told (x.1, r3)).bind fun r4 =>
 some r4)))))
def m_spec_AcceptAt (x : ((List (Int × (Int × (Int × ((Int × Int) × (List (Int × Int))))))) × (Int × (Int × (Int × Int))))) : Option (Int × ((Int × Int) × (List (Int × (Int × (Int × ((Int × Int) × (List (Int × Int))))))))) := p_spec_AcceptAt FU x
def a_spec_AcceptAt : Ann := .leaf
def S_spec_AcceptAt : FSpec := ⟨[.val (.one (.sl none (.pair (.int .i64) (.pair (.int .i64) (.pair (.int .i64) (.pair (.pair (.int .i64) (.int .i64)) (.sl none (.pair (.int .i64) (.int .i64))))))))), .val (.int .i64), .val (.int .i64), .val (.int .i64), .val (.int .i64)], [(.pair (.int .i64) (.pair (.pair (.int .i64) (.int .i64)) (.one (.sl none (.pair (.int .i64) (.pair (.int .i64) (.pair (.int .i64) (.pair (.pair (.int .i64) (.int .i64)) (.sl none (.pair (.int .i64) (.int .i64)))))))))))], m_spec_AcceptAt⟩

/-! spec.RunBallot -/
def l_spec_RunBallot_1 (n : Nat) (x_1 : (List (List (Int × (Int × (Int × ((Int × Int) × (List (Int × Int))))))))) (x_2_1 : (List Int)) (z0 : Int) : Option (Unit ⊕ (Int × (Int × (List (List (Int × (Int × (Int × ((Int × Int) × (List (Int × Int))))))))))) :=
(lp (fun rec19 (z18 : Int) =>
 (cond (decide (z18 < (lenI x_2_1)))
  ((geti x_2_1 z18).bind fun y20 =>
  ((m_spec_l1In (y20, (0 : Int), IntKind.wrap .i64 ((lenI x_1) - (1 : Int)))).bind fun r21 =>
  (cond (!r21)
   (some (Sum.inr ((3 : Int), ((0 : Int), []))))
   (rec19 (IntKind.wrap .i64 (z18 + (1 : Int)))))))
  (some (Sum.inl ())))) n z0)
def l_spec_RunBallot_2 (n : Nat) (x_2_1 : (List Int)) (z0 : Int) : Option (Unit ⊕ (Int × (Int × (List (List (Int × (Int × (Int × ((Int × Int) × (List (Int × Int))))))))))) :=
(lp (fun rec36 (z35 : Int) =>
 (cond (decide (z35 < (lenI x_2_1)))
  ((geti x_2_1 z35).bind fun y37 =>
  ((geti x_2_1 (IntKind.wrap .i64 (z35 - (1 : Int)))).bind fun y38 =>
  (cond (decide (y37 ≤ y38))
   (some (Sum.inr ((7 : Int), ((0 : Int), []))))
   (rec36 (IntKind.wrap .i64 (z35 + (1 : Int)))))))
  (some (Sum.inl ())))) n z0)
def l_spec_RunBallot_3 (n : Nat) (x_2_1 : (List Int)) (x_2_2_1 : Int) (x_2_2_2_1 : Int) (x_2_2_2_2_1 : Int) (z0 : ((List Int) × ((List (Int × Int)) × (Int × (List (List (Int × (Int × (Int × ((Int × Int) × (List (Int × Int)))))))))))) : Option ((List Int) × ((List (Int × Int)) × (List (List (Int × (Int × (Int × ((Int × Int) × (List (Int × Int)))))))))) :=
(lp (fun rec80 (z79 : ((List Int) × ((List (Int × Int)) × (Int × (List (List (Int × (Int × (Int × ((Int × Int) × (List (Int × Int)))))))))))) =>
 (cond (decide (z79.2.2.1 < (lenI x_2_1)))
  ((geti x_2_1 z79.2.2.1).bind fun y81 =>
  ((geti z79.2.2.2 y81).bind fun _ =>
  ((z79.2.2.2[y81.toNat]?).bind fun y82 =>
  (dup 1
   ((m_spec_PromiseAt (y82, x_2_2_1, x_2_2_2_1, x_2_2_2_2_1)).bind fun r83 =>
   (cond (r83.1 == (0 : Int))
    ((geti x_2_1 z79.2.2.1).bind fun y84 =>
    ((geti z79.2.2.2 y84).bind fun _ =>
    ((z79.2.2.2[y84.toNat]?).bind fun y85 =>
    ((geti x_2_1 z79.2.2.1).bind fun y86 =>
    (chk (Nat.ble ((z79.1.length + [y86].length) * 8) maxBytes)
    (chk (Nat.ble ((z79.2.1.length + [r83.2.1].length) * 16) maxBytes)
    (rec80 ((z79.1 ++ [y86]), (z79.2.1 ++ [r83.2.1]), IntKind.wrap .i64 (z79.2.2.1 + (1 : Int)), (z79.2.2.2.set y84.toNat r83.2.2)))))))))
    (rec80 (z79.1, z79.2.1, IntKind.wrap .i64 (z79.2.2.1 + (1 : Int)), z79.2.2.2))))))))
  (some (z79.1, z79.2.1, z79.2.2.2)))) n z0)
def l_spec_RunBallot_4 (n : Nat) (j88_1 : (List Int)) (x_2_2_1 : Int) (x_2_2_2_1 : Int) (x_2_2_2_2_1 : Int) (r90 : Int) (z0 : (Int × (List (List (Int × (Int × (Int × ((Int × Int) × (List (Int × Int)))))))))) : Option (Int × (Int × (List (List (Int × (Int × (Int × ((Int × Int) × (List (Int × Int)))))))))) :=
(lp (fun rec104 (z103 : (Int × (List (List (Int × (Int × (Int × ((Int × Int) × (List (Int × Int)))))))))) =>
 (cond (decide (z103.1 < (lenI j88_1)))
  ((geti j88_1 z103.1).bind fun _ =>
  ((j88_1[z103.1.toNat]?).bind fun y105 =>
  ((geti z103.2 y105).bind fun _ =>
  ((z103.2[y105.toNat]?).bind fun y106 =>
  (dup 1
   ((m_spec_AcceptAt (y106, x_2_2_1, x_2_2_2_1, x_2_2_2_2_1, r90)).bind fun r107 =>
   (cond (r107.1 == (0 : Int))
    ((geti j88_1 z103.1).bind fun _ =>
    ((j88_1[z103.1.toNat]?).bind fun y108 =>
    ((geti z103.2 y108).bind fun _ =>
    ((z103.2[y108.toNat]?).bind fun y109 =>
    rec104 (IntKind.wrap .i64 (z103.1 + (1 : Int)), (z103.2.set y108.toNat r107.2.2))))))
    (rec104 (IntKind.wrap .i64 (z103.1 + (1 : Int)), z103.2)))))))))
  (some ((0 : Int), (r90, z103.2))))) n z0)
def p_spec_RunBallot (n : Nat) (x : ((List (List (Int × (Int × (Int × ((Int × Int) × (List (Int × Int)))))))) × ((List Int) × (Int × (Int × (Int × Int)))))) : Option (Int × (Int × (List (List (Int × (Int × (Int × ((Int × Int) × (List (Int × Int)))))))))) :=
((m_spec_SlotsFor (x.1, x.2.2.1, x.2.2.2.1)).bind fun r1 =>
(cond (!(r1.1 == (0 : Int)))
 (some (r1.1, ((0 : Int), [])))
 (Option.bind (α := Bool)
  ((m_spec_l8Ballot x.2.2.2.2.1).bind fun r4 =>
  (cond (!r4)
   (some true)
   ((m_spec_l8Value x.2.2.2.2.2).bind fun r5 =>
   some (!r5)))) fun j6 =>
 (cond j6
  (some ((3 : Int), ((0 : Int), [])))
  (Option.bind (α := (Unit ⊕ (Int × (Int × (List (List (Int × (Int × (Int × ((Int × Int) × (List (Int × Int))))))))))))
   (l_spec_RunBallot_1 n x.1 x.2.1 (0 : Int))
   (Sum.elim (fun j23 =>
  (Option.bind (α := (Unit ⊕ (Int × (Int × (List (List (Int × (Int × (Int × ((Int × Int) × (List (Int × Int))))))))))))
   (l_spec_RunBallot_2 n x.2.1 (1 : Int))
   (Sum.elim (fun j40 =>
  ((m_spec_l9All x.1).bind fun r41 =>
  (Option.bind (α := ((List Int) × ((List (Int × Int)) × (List (List (Int × (Int × (Int × ((Int × Int) × (List (Int × Int)))))))))))
   (l_spec_RunBallot_3 n x.2.1 x.2.2.1 x.2.2.2.1 x.2.2.2.2.1 (([] : List Int), ([] : List (Int × Int)), (0 : Int), r41)) fun j88 =>
  ((m_spec_l8Quorum (lenI x.1)).bind fun r89 =>
  (cond (decide ((lenI j88.1) < r89))
   (some ((4 : Int), ((0 : Int), j88.2.2)))
   ((m_spec_l8Pick (j88.2.1, x.2.2.2.2.2)).bind fun r90 =>
   (l_spec_RunBallot_4 n j88.1 x.2.2.1 x.2.2.2.1 x.2.2.2.2.1 r90 ((0 : Int), j88.2.2)))))))) some))) some))))))
def m_spec_RunBallot (x : ((List (List (Int × (Int × (Int × ((Int × Int) × (List (Int × Int)))))))) × ((List Int) × (Int × (Int × (Int × Int)))))) : Option (Int × (Int × (List (List (Int × (Int × (Int × ((Int × Int) × (List (Int × Int)))))))))) := p_spec_RunBallot FU x
def a_spec_RunBallot : Ann := (.node .leaf (.node .leaf (.node (.join [.slot 40 .bool] [33, 34, 35, 36, 37, 38, 39] .leaf .leaf) (.joinx [] [14, 42, 43, 44, 45, 46, 47, 48, 49, 50, 51, 52, 53, 54, 55, 56, 57] (.node .leaf (.loop [.slot 14 (.int .i64)] [42, 43, 44, 45, 46, 47, 48, 49, 50, 51, 52, 53, 54, 55, 56, 57] .leaf)) (.joinx [] [15, 58, 59, 60, 61, 62, 63, 64, 65, 66, 67, 68, 69, 70, 71, 72, 73, 74] (.node .leaf (.loop [.slot 15 (.int .i64)] [58, 59, 60, 61, 62, 63, 64, 65, 66, 67, 68, 69, 70, 71, 72, 73, 74] .leaf)) (.node .leaf (.node .leaf (.node .leaf (.join [.slot 17 (.sl (some 2) (.int .i64)), .slot 18 (.sl (some 79) (.pair (.int .i64) (.int .i64))), .row 3 124 (.one (.sl none (.pair (.int .i64) (.pair (.int .i64) (.pair (.int .i64) (.pair (.pair (.int .i64) (.int .i64)) (.sl none (.pair (.int .i64) (.int .i64)))))))))] [19, 20, 80, 81, 82, 83, 84, 85, 86, 87, 88, 89, 90, 91, 92, 93, 94, 95, 96, 97, 98, 99, 100, 101, 102, 103, 104, 105, 106, 107, 108, 109, 110, 111, 112, 113, 114, 115, 116, 117, 118, 119, 120, 121] (.node .leaf (.loop [.slot 17 (.sl (some 2) (.int .i64)), .slot 18 (.sl (some 79) (.pair (.int .i64) (.int .i64))), .slot 19 (.int .i64), .row 3 124 (.one (.sl none (.pair (.int .i64) (.pair (.int .i64) (.pair (.int .i64) (.pair (.pair (.int .i64) (.int .i64)) (.sl none (.pair (.int .i64) (.int .i64)))))))))] [20, 80, 81, 82, 83, 84, 85, 86, 87, 88, 89, 90, 91, 92, 93, 94, 95, 96, 97, 98, 99, 100, 101, 102, 103, 104, 105, 106, 107, 108, 109, 110, 111, 112, 113, 114, 115, 116, 117, 118, 119, 120, 121] .leaf)) (.node .leaf (.node .leaf (.node (.node .leaf (.loop [.slot 21 (.int .i64), .row 3 124 (.one (.sl none (.pair (.int .i64) (.pair (.int .i64) (.pair (.int .i64) (.pair (.pair (.int .i64) (.int .i64)) (.sl none (.pair (.int .i64) (.int .i64)))))))))] [22, 134, 135, 136, 137, 138, 139, 140, 141, 142, 143, 144, 145, 146, 147, 148, 149, 150, 151, 152, 153, 154, 155, 156, 157, 158, 159, 160, 161, 162, 163, 164, 165] .leaf)) .leaf))))))))))))
def S_spec_RunBallot : FSpec := ⟨[.val (.sl none (.one (.sl none (.pair (.int .i64) (.pair (.int .i64) (.pair (.int .i64) (.pair (.pair (.int .i64) (.int .i64)) (.sl none (.pair (.int .i64) (.int .i64)))))))))), .val (.sl none (.int .i64)), .val (.int .i64), .val (.int .i64), .val (.int .i64), .val (.int .i64)], [(.pair (.int .i64) (.pair (.int .i64) (.sl (some 124) (.one (.sl none (.pair (.int .i64) (.pair (.int .i64) (.pair (.int .i64) (.pair (.pair (.int .i64) (.int .i64)) (.sl none (.pair (.int .i64) (.int .i64))))))))))))], m_spec_RunBallot⟩

/-! impl.Acceptor] -/
def p_impl_size_impl_Acceptor (n : Nat) (x : (List (List (Int × (Int × (Int × ((Int × Int) × (List (Int × Int))))))))) : Option Int :=
some (lenI x)
def m_impl_size_impl_Acceptor (x : (List (List (Int × (Int × (Int × ((Int × Int) × (List (Int × Int))))))))) : Option Int := p_impl_size_impl_Acceptor FU x
def a_impl_size_impl_Acceptor : Ann := .leaf
def S_impl_size_impl_Acceptor : FSpec := ⟨[.val (.sl none (.one (.sl none (.pair (.int .i64) (.pair (.int .i64) (.pair (.int .i64) (.pair (.pair (.int .i64) (.int .i64)) (.sl none (.pair (.int .i64) (.int .i64))))))))))], [(.int .i64)], m_impl_size_impl_Acceptor⟩

/-! impl.within -/
def p_impl_within (n : Nat) (x : (Int × (Int × Int))) : Option Bool :=
(cond (decide (x.1 ≥ x.2.1))
 (some (decide (x.1 ≤ x.2.2)))
 (some false))
def m_impl_within (x : (Int × (Int × Int))) : Option Bool := p_impl_within FU x
def a_impl_within : Ann := .leaf
def S_impl_within : FSpec := ⟨[.val (.int .i64), .val (.int .i64), .val (.int .i64)], [.bool], m_impl_within⟩

/-! impl.isId -/
def p_impl_isId (n : Nat) (x : Int) : Option Bool :=
((m_impl_within (x, (1 : Int), (1000000000 : Int))).bind fun r1 =>
some r1)
def m_impl_isId (x : Int) : Option Bool := p_impl_isId FU x
def a_impl_isId : Ann := .leaf
def S_impl_isId : FSpec := ⟨[.val (.int .i64)], [.bool], m_impl_isId⟩

/-! impl.isShard -/
def p_impl_isShard (n : Nat) (x : Int) : Option Bool :=
((m_impl_within (x, (0 : Int), (2 : Int))).bind fun r1 =>
some r1)
def m_impl_isShard (x : Int) : Option Bool := p_impl_isShard FU x
def a_impl_isShard : Ann := .leaf
def S_impl_isShard : FSpec := ⟨[.val (.int .i64)], [.bool], m_impl_isShard⟩

/-! impl.isBallot -/
def p_impl_isBallot (n : Nat) (x : Int) : Option Bool :=
((m_impl_within (x, (0 : Int), (1000 : Int))).bind fun r1 =>
some r1)
def m_impl_isBallot (x : Int) : Option Bool := p_impl_isBallot FU x
def a_impl_isBallot : Ann := .leaf
def S_impl_isBallot : FSpec := ⟨[.val (.int .i64)], [.bool], m_impl_isBallot⟩

/-! impl.isValue -/
def p_impl_isValue (n : Nat) (x : Int) : Option Bool :=
(cond (x == (1 : Int))
 (some true)
 (some (x == (2 : Int))))
def m_impl_isValue (x : Int) : Option Bool := p_impl_isValue FU x
def a_impl_isValue : Ann := .leaf
def S_impl_isValue : FSpec := ⟨[.val (.int .i64)], [.bool], m_impl_isValue⟩

/-! impl.isVote -/
def p_impl_isVote (n : Nat) (x : (Int × Int)) : Option Bool :=
((m_impl_isBallot x.1).bind fun r1 =>
(cond r1
 ((m_impl_isValue x.2).bind fun r2 =>
 some r2)
 (some false)))
def m_impl_isVote (x : (Int × Int)) : Option Bool := p_impl_isVote FU x
def a_impl_isVote : Ann := .leaf
def S_impl_isVote : FSpec := ⟨[.val (.pair (.int .i64) (.int .i64))], [.bool], m_impl_isVote⟩

/-! impl.castFault -/
def l_impl_castFault_1 (n : Nat) (x : (List (Int × Int))) (z0 : Int) : Option Int :=
(lp (fun rec12 (z11 : Int) =>
 (cond (decide (z11 < (lenI x)))
  ((geti x z11).bind fun y13 =>
  ((m_impl_isVote y13).bind fun r14 =>
  (cond (!r14)
   (some (3 : Int))
   (Option.bind (α := Bool)
    (cond (decide (z11 > (0 : Int)))
     ((geti x (IntKind.wrap .i64 (z11 - (1 : Int)))).bind fun y18 =>
     (cond (decide (y13.1 < y18.1))
      (some true)
      ((geti x (IntKind.wrap .i64 (z11 - (1 : Int)))).bind fun y19 =>
      (cond (y13.1 == y19.1)
       ((geti x (IntKind.wrap .i64 (z11 - (1 : Int)))).bind fun y20 =>
       some (!(y13.2 == y20.2)))
       (some false)))))
     (some false)) fun j21 =>
   (cond j21
    (some (1 : Int))
    (rec12 (IntKind.wrap .i64 (z11 + (1 : Int)))))))))
  (some (0 : Int)))) n z0)
def p_impl_castFault (n : Nat) (x : (List (Int × Int))) : Option Int :=
(l_impl_castFault_1 n x (0 : Int))
def m_impl_castFault (x : (List (Int × Int))) : Option Int := p_impl_castFault FU x
def a_impl_castFault : Ann := (.node .leaf (.node (.node .leaf (.loop [.slot 7 (.int .i64)] [2, 3, 4, 8, 9, 10, 11, 12, 13, 14, 15, 16, 17, 18, 19, 20, 21, 22, 23, 24, 25, 26, 27, 28, 29, 30, 31, 32, 33, 34, 35, 36, 37, 38, 39, 40, 41, 42, 43, 44, 45, 46, 47, 48, 49, 50, 51, 52] (.node .leaf (.node .leaf (.node (.node .leaf (.node .leaf (.node .leaf (.join [.slot 16 .bool] [17, 18, 19, 20, 21, 22, 23, 24, 25, 26, 27, 28, 29, 30, 31, 32, 33, 34, 35, 36, 37, 38, 39, 40, 41, 42, 43, 44, 45, 46, 47, 48, 49, 50, 51] .leaf .leaf)))) .leaf))))) .leaf))
def S_impl_castFault : FSpec := ⟨[.val (.sl none (.pair (.int .i64) (.int .i64)))], [(.int .i64)], m_impl_castFault⟩

/-! impl.noVote -/
def p_impl_noVote (n : Nat) (x : Unit) : Option (Int × Int) :=
some ((-1 : Int), (0 : Int))
def m_impl_noVote (x : Unit) : Option (Int × Int) := p_impl_noVote FU x
def a_impl_noVote : Ann := .leaf
def S_impl_noVote : FSpec := ⟨[], [(.pair (.int .i64) (.int .i64))], m_impl_noVote⟩

/-! impl.lastCast -/
def p_impl_lastCast (n : Nat) (x : (List (Int × Int))) : Option (Int × Int) :=
(cond ((lenI x) == (0 : Int))
 ((m_impl_noVote ()).bind fun r1 =>
 some r1)
 ((geti x (IntKind.wrap .i64 ((lenI x) - (1 : Int)))).bind fun y2 =>
 some y2))
def m_impl_lastCast (x : (List (Int × Int))) : Option (Int × Int) := p_impl_lastCast FU x
def a_impl_lastCast : Ann := .leaf
def S_impl_lastCast : FSpec := ⟨[.val (.sl none (.pair (.int .i64) (.int .i64)))], [(.pair (.int .i64) (.int .i64))], m_impl_lastCast⟩

/-! impl.SlotFault -/
def p_impl_SlotFault (n : Nat) (x : (Int × (Int × (Int × ((Int × Int) × (List (Int × Int))))))) : Option Int :=
(Option.bind (α := Bool)
 ((m_impl_isId x.1).bind fun r4 =>
 (cond (!r4)
  (some true)
  ((m_impl_isShard x.2.1).bind fun r5 =>
  (cond (!r5)
   (some true)
   ((m_impl_within (x.2.2.1, (-1 : Int), (1000 : Int))).bind fun r6 =>
   some (!r6)))))) fun j7 =>
(cond j7
 (some (3 : Int))
 (cond (decide ((lenI x.2.2.2.2) > (60 : Int)))
  (some (2 : Int))
  ((m_impl_castFault x.2.2.2.2).bind fun r8 =>
  (cond (!(r8 == (0 : Int)))
   (some r8)
   (Option.bind (α := Bool)
    ((m_impl_lastCast x.2.2.2.2).bind fun r10 =>
    (cond (!((x.2.2.2.1.1 == r10.1) && ((x.2.2.2.1.2 == r10.2) && true)))
     (some true)
     (some (decide (x.2.2.2.1.1 > x.2.2.1))))) fun j11 =>
   (cond j11
    (some (1 : Int))
    (some (0 : Int)))))))))
def m_impl_SlotFault (x : (Int × (Int × (Int × ((Int × Int) × (List (Int × Int))))))) : Option Int := p_impl_SlotFault FU x
def a_impl_SlotFault : Ann := (.node .leaf (.node (.join [.slot 4 .bool] [5, 6, 7, 8, 9, 10, 11, 12, 13, 14, 15, 16, 17, 18, 19, 20] .leaf .leaf) (.node .leaf (.node (.join [.slot 45 .bool] [32, 33, 34, 35, 36, 37, 38, 39, 40, 41, 42, 43, 44] .leaf .leaf) .leaf))))
def S_impl_SlotFault : FSpec := ⟨[.val (.pair (.int .i64) (.pair (.int .i64) (.pair (.int .i64) (.pair (.pair (.int .i64) (.int .i64)) (.sl none (.pair (.int .i64) (.int .i64)))))))], [(.int .i64)], m_impl_SlotFault⟩

/-! cmp.isNaN[int64] -/
def p_cmp_isNaN_int64 (n : Nat) (x : Int) : Option Bool :=
some (!(x == x))
def m_cmp_isNaN_int64 (x : Int) : Option Bool := p_cmp_isNaN_int64 FU x
def a_cmp_isNaN_int64 : Ann := .leaf
def S_cmp_isNaN_int64 : FSpec := ⟨[.val (.int .i64)], [.bool], m_cmp_isNaN_int64⟩

/-! cmp.Compare[int64] -/
def p_cmp_Compare_int64 (n : Nat) (x : (Int × Int)) : Option Int :=
((m_cmp_isNaN_int64 x.1).bind fun r1 =>
((m_cmp_isNaN_int64 x.2).bind fun r2 =>
(cond r1
 (cond r2
  (some (0 : Int))
  (some (-1 : Int)))
 (cond r2
  (some (1 : Int))
  (cond (decide (x.1 < x.2))
   (some (-1 : Int))
   (cond (decide (x.1 > x.2))
    (some (1 : Int))
    (some (0 : Int))))))))
def m_cmp_Compare_int64 (x : (Int × Int)) : Option Int := p_cmp_Compare_int64 FU x
def a_cmp_Compare_int64 : Ann := .leaf
def S_cmp_Compare_int64 : FSpec := ⟨[.val (.int .i64), .val (.int .i64)], [(.int .i64)], m_cmp_Compare_int64⟩

/-! cmp.Or[int] -/
def l_cmp_Or_int_1 (n : Nat) (x : (List Int)) (z0 : Int) : Option Int :=
(lp (fun rec4 (z3 : Int) =>
 (cond (decide (z3 < (lenI x)))
  ((geti x z3).bind fun y5 =>
  (cond (!(y5 == (0 : Int)))
   (some y5)
   (rec4 (IntKind.wrap .i64 (z3 + (1 : Int))))))
  (some (0 : Int)))) n z0)
def p_cmp_Or_int (n : Nat) (x : (List Int)) : Option Int :=
(l_cmp_Or_int_1 n x (0 : Int))
def m_cmp_Or_int (x : (List Int)) : Option Int := p_cmp_Or_int FU x
def a_cmp_Or_int : Ann := (.node .leaf (.node .leaf (.node (.node .leaf (.loop [.slot 8 (.int .i64)] [2, 5, 9, 10, 11, 12, 13, 14, 15, 16] .leaf)) .leaf)))
def S_cmp_Or_int : FSpec := ⟨[.val (.sl none (.int .i64))], [(.int .i64)], m_cmp_Or_int⟩

/-! impl.compareSlots -/
def p_impl_compareSlots (n : Nat) (x : ((Int × (Int × (Int × ((Int × Int) × (List (Int × Int)))))) × (Int × (Int × (Int × ((Int × Int) × (List (Int × Int)))))))) : Option Int :=
((m_cmp_Compare_int64 (x.1.1, x.2.1)).bind fun r1 =>
((m_cmp_Compare_int64 (x.1.2.1, x.2.2.1)).bind fun r2 =>
((m_cmp_Or_int [r1, r2]).bind fun r3 =>
some r3)))
def m_impl_compareSlots (x : ((Int × (Int × (Int × ((Int × Int) × (List (Int × Int)))))) × (Int × (Int × (Int × ((Int × Int) × (List (Int × Int)))))))) : Option Int := p_impl_compareSlots FU x
def a_impl_compareSlots : Ann := (.node .leaf (.node (.lazy 15 .leaf) .leaf))
def S_impl_compareSlots : FSpec := ⟨[.val (.pair (.int .i64) (.pair (.int .i64) (.pair (.int .i64) (.pair (.pair (.int .i64) (.int .i64)) (.sl none (.pair (.int .i64) (.int .i64))))))), .val (.pair (.int .i64) (.pair (.int .i64) (.pair (.int .i64) (.pair (.pair (.int .i64) (.int .i64)) (.sl none (.pair (.int .i64) (.int .i64)))))))], [(.int .i64)], m_impl_compareSlots⟩

/-! impl.AcceptorFault -/
def l_impl_AcceptorFault_1 (n : Nat) (x : (List (Int × (Int × (Int × ((Int × Int) × (List (Int × Int)))))))) (z0 : Int) : Option Int :=
(lp (fun rec10 (z9 : Int) =>
 (cond (decide (z9 < (lenI x)))
  ((geti x z9).bind fun y11 =>
  ((m_impl_SlotFault y11).bind fun r12 =>
  (cond (!(r12 == (0 : Int)))
   (some r12)
   (Option.bind (α := Bool)
    (cond (decide (z9 > (0 : Int)))
     ((geti x (IntKind.wrap .i64 (z9 - (1 : Int)))).bind fun y15 =>
     ((m_impl_compareSlots (y15, y11)).bind fun r16 =>
     some (decide (r16 ≥ (0 : Int)))))
     (some false)) fun j17 =>
   (cond j17
    (some (1 : Int))
    (rec10 (IntKind.wrap .i64 (z9 + (1 : Int)))))))))
  (some (0 : Int)))) n z0)
def p_impl_AcceptorFault (n : Nat) (x : (List (Int × (Int × (Int × ((Int × Int) × (List (Int × Int)))))))) : Option Int :=
(cond (decide ((lenI x) > (60 : Int)))
 (some (2 : Int))
 (l_impl_AcceptorFault_1 n x (0 : Int)))
def m_impl_AcceptorFault (x : (List (Int × (Int × (Int × ((Int × Int) × (List (Int × Int)))))))) : Option Int := p_impl_AcceptorFault FU x
def a_impl_AcceptorFault : Ann := (.node .leaf (.node .leaf (.node (.node .leaf (.loop [.slot 13 (.int .i64)] [2, 3, 4, 5, 14, 15, 16, 17, 18, 19, 20, 21, 22, 23, 24, 25, 26, 27, 28, 29, 30, 31, 32, 33, 34, 35, 36] (.node .leaf (.node .leaf (.node (.node .leaf (.node .leaf (.join [.slot 35 .bool] [23, 24, 25, 26, 27, 28, 29, 30, 31, 32, 33, 34] .leaf .leaf))) .leaf))))) .leaf)))
def S_impl_AcceptorFault : FSpec := ⟨[.val (.one (.sl none (.pair (.int .i64) (.pair (.int .i64) (.pair (.int .i64) (.pair (.pair (.int .i64) (.int .i64)) (.sl none (.pair (.int .i64) (.int .i64)))))))))], [(.int .i64)], m_impl_AcceptorFault⟩

/-! impl.listFault -/
def l_impl_listFault_1 (n : Nat) (x : (List (List (Int × (Int × (Int × ((Int × Int) × (List (Int × Int))))))))) (z0 : Int) : Option Int :=
(lp (fun rec7 (z6 : Int) =>
 (cond (decide (z6 < (lenI x)))
  ((geti x z6).bind fun y8 =>
  ((m_impl_AcceptorFault y8).bind fun r9 =>
  (cond (!(r9 == (0 : Int)))
   (some r9)
   (rec7 (IntKind.wrap .i64 (z6 + (1 : Int)))))))
  (some (0 : Int)))) n z0)
def p_impl_listFault (n : Nat) (x : (List (List (Int × (Int × (Int × ((Int × Int) × (List (Int × Int))))))))) : Option Int :=
((m_impl_size_impl_Acceptor x).bind fun r1 =>
((m_impl_within (r1, (1 : Int), (5 : Int))).bind fun r2 =>
(cond (!r2)
 (some (2 : Int))
 (l_impl_listFault_1 n x (0 : Int)))))
def m_impl_listFault (x : (List (List (Int × (Int × (Int × ((Int × Int) × (List (Int × Int))))))))) : Option Int := p_impl_listFault FU x
def a_impl_listFault : Ann := (.node .leaf (.node .leaf (.node (.node .leaf (.loop [.slot 12 (.int .i64)] [2, 4, 5, 13, 14, 15, 16, 17, 18, 19, 20, 21] .leaf)) .leaf)))
def S_impl_listFault : FSpec := ⟨[.val (.sl none (.one (.sl none (.pair (.int .i64) (.pair (.int .i64) (.pair (.int .i64) (.pair (.pair (.int .i64) (.int .i64)) (.sl none (.pair (.int .i64) (.int .i64))))))))))], [(.int .i64)], m_impl_listFault⟩

/-! impl.newSlot -/
def p_impl_newSlot (n : Nat) (x : (Int × Int)) : Option (Int × (Int × (Int × ((Int × Int) × (List (Int × Int)))))) :=
((m_impl_noVote ()).bind fun r1 =>
some (x.1, (x.2, ((-1 : Int), (r1, [])))))
def m_impl_newSlot (x : (Int × Int)) : Option (Int × (Int × (Int × ((Int × Int) × (List (Int × Int)))))) := p_impl_newSlot FU x
def a_impl_newSlot : Ann := .leaf
def S_impl_newSlot : FSpec := ⟨[.val (.int .i64), .val (.int .i64)], [(.pair (.int .i64) (.pair (.int .i64) (.pair (.int .i64) (.pair (.pair (.int .i64) (.int .i64)) (.sl (some 79) (.pair (.int .i64) (.int .i64)))))))], m_impl_newSlot⟩

/-! impl.NewSlot -/
def p_impl_NewSlot (n : Nat) (x : (Int × Int)) : Option (Int × ((Int × Int) × (Int × (Int × (Int × ((Int × Int) × (List (Int × Int)))))))) :=
(Option.bind (α := Bool)
 ((m_impl_isId x.1).bind fun r3 =>
 (cond (!r3)
  (some true)
  ((m_impl_isShard x.2).bind fun r4 =>
  some (!r4)))) fun j5 =>
(cond j5
 (some ((3 : Int), (((0 : Int), (0 : Int)), ((0 : Int), ((0 : Int), ((0 : Int), (((0 : Int), (0 : Int)), [])))))))
 ((m_impl_newSlot (x.1, x.2)).bind fun r6 =>
 some ((0 : Int), (((0 : Int), (0 : Int)), r6)))))
def m_impl_NewSlot (x : (Int × Int)) : Option (Int × ((Int × Int) × (Int × (Int × (Int × ((Int × Int) × (List (Int × Int)))))))) := p_impl_NewSlot FU x
def a_impl_NewSlot : Ann := (.node .leaf (.node (.join [.slot 12 .bool] [5, 6, 7, 8, 9, 10, 11] .leaf .leaf) .leaf))
def S_impl_NewSlot : FSpec := ⟨[.val (.int .i64), .val (.int .i64)], [(.pair (.int .i64) (.pair (.pair (.int .i64) (.int .i64)) (.pair (.int .i64) (.pair (.int .i64) (.pair (.int .i64) (.pair (.pair (.int .i64) (.int .i64)) (.sl (some 79) (.pair (.int .i64) (.int .i64)))))))))], m_impl_NewSlot⟩

/-! impl.firstOf -/
def l_impl_firstOf_1 (n : Nat) (x : (List Int)) (z0 : Int) : Option Int :=
(lp (fun rec4 (z3 : Int) =>
 (cond (decide (z3 < (lenI x)))
  ((geti x z3).bind fun y5 =>
  (cond (!(y5 == (0 : Int)))
   (some y5)
   (rec4 (IntKind.wrap .i64 (z3 + (1 : Int))))))
  (some (0 : Int)))) n z0)
def p_impl_firstOf (n : Nat) (x : (List Int)) : Option Int :=
(l_impl_firstOf_1 n x (0 : Int))
def m_impl_firstOf (x : (List Int)) : Option Int := p_impl_firstOf FU x
def a_impl_firstOf : Ann := (.node .leaf (.node (.node .leaf (.loop [.slot 7 (.int .i64)] [2, 4, 8, 9, 10, 11, 12, 13, 14] .leaf)) .leaf))
def S_impl_firstOf : FSpec := ⟨[.val (.sl none (.int .i64))], [(.int .i64)], m_impl_firstOf⟩

/-! impl.reachedFault -/
def l_impl_reachedFault_1 (n : Nat) (x_1 : (List Int)) (x_2 : Int) (z0 : Int) : Option Int :=
(lp (fun rec13 (z12 : Int) =>
 (cond (decide (z12 < (lenI x_1)))
  ((geti x_1 z12).bind fun y14 =>
  ((m_impl_within (y14, (0 : Int), IntKind.wrap .i64 (x_2 - (1 : Int)))).bind fun r15 =>
  (cond (!r15)
   (some z12)
   (rec13 (IntKind.wrap .i64 (z12 + (1 : Int)))))))
  (some (-1 : Int)))) n z0)
def l_impl_reachedFault_2 (n : Nat) (x_1 : (List Int)) (z0 : Int) : Option Int :=
(lp (fun rec22 (z21 : Int) =>
 (cond (decide (z21 < (lenI x_1)))
  ((geti x_1 (IntKind.wrap .i64 (z21 - (1 : Int)))).bind fun y23 =>
  ((geti x_1 z21).bind fun y24 =>
  (cond (decide (y23 ≥ y24))
   (some (7 : Int))
   (rec22 (IntKind.wrap .i64 (z21 + (1 : Int)))))))
  (some (0 : Int)))) n z0)
def p_impl_reachedFault (n : Nat) (x : ((List Int) × Int)) : Option Int :=
(Option.bind (α := Int)
 (l_impl_reachedFault_1 n x.1 x.2 (0 : Int)) fun j17 =>
(cond (decide (j17 ≥ (0 : Int)))
 (some (3 : Int))
 (l_impl_reachedFault_2 n x.1 (1 : Int))))
def m_impl_reachedFault (x : ((List Int) × Int)) : Option Int := p_impl_reachedFault FU x
def a_impl_reachedFault : Ann := (.node .leaf (.node (.node (.reg 8 (.node .leaf (.node (.regj 7 [.slot 7 (.int .i64)] [] (.node .leaf (.node (.node .leaf (.loop [.slot 8 (.int .i64)] [4, 5, 9, 10, 11, 12, 13, 14, 15, 16, 17, 18] .leaf)) .leaf)) .leaf) .leaf)) .leaf) .leaf) (.node (.node .leaf (.loop [.slot 5 (.int .i64)] [4, 9, 10, 11, 12, 13, 14, 15, 16, 17, 18, 19, 20, 21, 22, 23, 24] .leaf)) .leaf)))
def S_impl_reachedFault : FSpec := ⟨[.val (.sl none (.int .i64)), .val (.int .i64)], [(.int .i64)], m_impl_reachedFault⟩

/-! impl.Vote] -/
def p_slices_Clone_impl_Vote_impl_Vote (n : Nat) (x : (List (Int × Int))) : Option (List (Int × Int)) :=
(cond (List.isEmpty x)
 (same
  (some [])
  (chk (Nat.ble ((([] : List (Int × Int)).length + x.length) * 16) maxBytes)
  (some (([] : List (Int × Int)) ++ x))))
 (chk (Nat.ble ((([] : List (Int × Int)).length + x.length) * 16) maxBytes)
 (some (([] : List (Int × Int)) ++ x))))
def m_slices_Clone_impl_Vote_impl_Vote (x : (List (Int × Int))) : Option (List (Int × Int)) := p_slices_Clone_impl_Vote_impl_Vote FU x
def a_slices_Clone_impl_Vote_impl_Vote : Ann := .leaf
def S_slices_Clone_impl_Vote_impl_Vote : FSpec := ⟨[.val (.sl none (.pair (.int .i64) (.int .i64)))], [(.sl (some 79) (.pair (.int .i64) (.int .i64)))], m_slices_Clone_impl_Vote_impl_Vote⟩

/-! impl.copySlot -/
def p_impl_copySlot (n : Nat) (x : (Int × (Int × (Int × ((Int × Int) × (List (Int × Int))))))) : Option (Int × (Int × (Int × ((Int × Int) × (List (Int × Int)))))) :=
((m_slices_Clone_impl_Vote_impl_Vote x.2.2.2.2).bind fun r1 =>
some (x.1, (x.2.1, (x.2.2.1, (x.2.2.2.1, r1)))))
def m_impl_copySlot (x : (Int × (Int × (Int × ((Int × Int) × (List (Int × Int))))))) : Option (Int × (Int × (Int × ((Int × Int) × (List (Int × Int)))))) := p_impl_copySlot FU x
def a_impl_copySlot : Ann := .leaf
def S_impl_copySlot : FSpec := ⟨[.val (.pair (.int .i64) (.pair (.int .i64) (.pair (.int .i64) (.pair (.pair (.int .i64) (.int .i64)) (.sl none (.pair (.int .i64) (.int .i64)))))))], [(.pair (.int .i64) (.pair (.int .i64) (.pair (.int .i64) (.pair (.pair (.int .i64) (.int .i64)) (.sl (some 79) (.pair (.int .i64) (.int .i64)))))))], m_impl_copySlot⟩

/-! impl.copyAcceptor -/
def l_impl_copyAcceptor_1 (n : Nat) (x : (List (Int × (Int × (Int × ((Int × Int) × (List (Int × Int)))))))) (z0 : (Int × (List (Int × (Int × (Int × ((Int × Int) × (List (Int × Int))))))))) : Option (List (Int × (Int × (Int × ((Int × Int) × (List (Int × Int))))))) :=
(lp (fun rec8 (z7 : (Int × (List (Int × (Int × (Int × ((Int × Int) × (List (Int × Int))))))))) =>
 (cond (decide (z7.1 < (lenI x)))
  ((geti x z7.1).bind fun y9 =>
  ((m_impl_copySlot y9).bind fun r10 =>
  (chk (Nat.ble ((z7.2.length + [r10].length) * 64) maxBytes)
  (rec8 (IntKind.wrap .i64 (z7.1 + (1 : Int)), (z7.2 ++ [r10]))))))
  (some z7.2))) n z0)
def p_impl_copyAcceptor (n : Nat) (x : (List (Int × (Int × (Int × ((Int × Int) × (List (Int × Int)))))))) : Option (List (Int × (Int × (Int × ((Int × Int) × (List (Int × Int))))))) :=
(l_impl_copyAcceptor_1 n x ((0 : Int), []))
def m_impl_copyAcceptor (x : (List (Int × (Int × (Int × ((Int × Int) × (List (Int × Int)))))))) : Option (List (Int × (Int × (Int × ((Int × Int) × (List (Int × Int))))))) := p_impl_copyAcceptor FU x
def a_impl_copyAcceptor : Ann := (.node .leaf (.node .leaf (.node (.node .leaf (.loop [.slot 10 (.int .i64), .box 2 (.one (.sl (some 135) (.pair (.int .i64) (.pair (.int .i64) (.pair (.int .i64) (.pair (.pair (.int .i64) (.int .i64)) (.sl (some 79) (.pair (.int .i64) (.int .i64)))))))))] [5, 11, 12, 13, 14, 15, 16, 17, 18, 19, 20, 21] (.node .leaf (.node .leaf (.node (.node .leaf (.own 18 (.pair (.int .i64) (.pair (.int .i64) (.pair (.int .i64) (.pair (.pair (.int .i64) (.int .i64)) (.sl (some 79) (.pair (.int .i64) (.int .i64))))))) .leaf)) .leaf))))) .leaf)))
def S_impl_copyAcceptor : FSpec := ⟨[.val (.one (.sl none (.pair (.int .i64) (.pair (.int .i64) (.pair (.int .i64) (.pair (.pair (.int .i64) (.int .i64)) (.sl none (.pair (.int .i64) (.int .i64)))))))))], [(.one (.sl (some 135) (.pair (.int .i64) (.pair (.int .i64) (.pair (.int .i64) (.pair (.pair (.int .i64) (.int .i64)) (.sl (some 79) (.pair (.int .i64) (.int .i64)))))))))], m_impl_copyAcceptor⟩

/-! impl.copyAcceptors -/
def l_impl_copyAcceptors_1 (n : Nat) (x : (List (List (Int × (Int × (Int × ((Int × Int) × (List (Int × Int))))))))) (z0 : ((List (List (Int × (Int × (Int × ((Int × Int) × (List (Int × Int)))))))) × Int)) : Option (List (List (Int × (Int × (Int × ((Int × Int) × (List (Int × Int)))))))) :=
(lp (fun rec5 (z4 : ((List (List (Int × (Int × (Int × ((Int × Int) × (List (Int × Int)))))))) × Int)) =>
 (cond (decide (z4.2 < (lenI x)))
  ((geti x z4.2).bind fun y6 =>
  ((m_impl_copyAcceptor y6).bind fun r7 =>
  (chk (Nat.ble ((z4.1.length + [r7].length) * 24) maxBytes)
  (rec5 ((z4.1 ++ [r7]), IntKind.wrap .i64 (z4.2 + (1 : Int)))))))
  (some z4.1))) n z0)
def p_impl_copyAcceptors (n : Nat) (x : (List (List (Int × (Int × (Int × ((Int × Int) × (List (Int × Int))))))))) : Option (List (List (Int × (Int × (Int × ((Int × Int) × (List (Int × Int)))))))) :=
(l_impl_copyAcceptors_1 n x (([] : List (List (Int × (Int × (Int × ((Int × Int) × (List (Int × Int)))))))), (0 : Int)))
def m_impl_copyAcceptors (x : (List (List (Int × (Int × (Int × ((Int × Int) × (List (Int × Int))))))))) : Option (List (List (Int × (Int × (Int × ((Int × Int) × (List (Int × Int)))))))) := p_impl_copyAcceptors FU x
def a_impl_copyAcceptors : Ann := (.node .leaf (.node (.own 6 (.one (.sl (some 135) (.pair (.int .i64) (.pair (.int .i64) (.pair (.int .i64) (.pair (.pair (.int .i64) (.int .i64)) (.sl (some 79) (.pair (.int .i64) (.int .i64))))))))) .leaf) (.node (.node .leaf (.loop [.slot 3 (.sl (some 124) (.one (.sl (some 135) (.pair (.int .i64) (.pair (.int .i64) (.pair (.int .i64) (.pair (.pair (.int .i64) (.int .i64)) (.sl (some 79) (.pair (.int .i64) (.int .i64)))))))))), .slot 9 (.int .i64)] [5, 10, 11, 12, 13, 14, 15, 16, 17, 18] (.node .leaf (.node .leaf (.node (.node .leaf (.own 16 (.one (.sl (some 135) (.pair (.int .i64) (.pair (.int .i64) (.pair (.int .i64) (.pair (.pair (.int .i64) (.int .i64)) (.sl (some 79) (.pair (.int .i64) (.int .i64))))))))) .leaf)) .leaf))))) .leaf)))
def S_impl_copyAcceptors : FSpec := ⟨[.val (.sl none (.one (.sl none (.pair (.int .i64) (.pair (.int .i64) (.pair (.int .i64) (.pair (.pair (.int .i64) (.int .i64)) (.sl none (.pair (.int .i64) (.int .i64))))))))))], [(.sl (some 124) (.one (.sl (some 135) (.pair (.int .i64) (.pair (.int .i64) (.pair (.int .i64) (.pair (.pair (.int .i64) (.int .i64)) (.sl (some 79) (.pair (.int .i64) (.int .i64))))))))))], m_impl_copyAcceptors⟩

/-! impl.Acceptor).slotAt -/
def l_impl_Acceptor_slotAt_1 (n : Nat) (x_1 : (List (Int × (Int × (Int × ((Int × Int) × (List (Int × Int)))))))) (x_2_1 : Int) (x_2_2 : Int) (z0 : (Int × Int)) : Option Int :=
(lp (fun rec13 (z12 : (Int × Int)) =>
 (cond (decide (z12.1 < z12.2))
  (chk (decide (0 ≤ (1 : Int)))
   ((geti x_1 (IntKind.wrap .i64 (Int.fdiv (IntKind.wrap .u64 (IntKind.wrap .i64 (z12.1 + z12.2))) (2 ^ (min (1 : Int).toNat 64))))).bind fun y14 =>
   ((m_impl_compareSlots (y14, (x_2_1, (x_2_2, ((0 : Int), (((0 : Int), (0 : Int)), [])))))).bind fun r15 =>
   (cond (decide (r15 < (0 : Int)))
    (rec13 (IntKind.wrap .i64 ((IntKind.wrap .i64 (Int.fdiv (IntKind.wrap .u64 (IntKind.wrap .i64 (z12.1 + z12.2))) (2 ^ (min (1 : Int).toNat 64)))) + (1 : Int)), z12.2))
    (rec13 (z12.1, IntKind.wrap .i64 (Int.fdiv (IntKind.wrap .u64 (IntKind.wrap .i64 (z12.1 + z12.2))) (2 ^ (min (1 : Int).toNat 64)))))))))
  (some z12.1))) n z0)
def p_impl_Acceptor_slotAt (n : Nat) (x : ((List (Int × (Int × (Int × ((Int × Int) × (List (Int × Int))))))) × (Int × Int))) : Option (Int × Bool) :=
(Option.bind (α := Int)
 (l_impl_Acceptor_slotAt_1 n x.1 x.2.1 x.2.2 ((0 : Int), lenI x.1)) fun j17 =>
(cond (decide (j17 < (lenI x.1)))
 ((geti x.1 j17).bind fun y18 =>
 ((m_impl_compareSlots (y18, (x.2.1, (x.2.2, ((0 : Int), (((0 : Int), (0 : Int)), [])))))).bind fun r19 =>
 some (j17, (r19 == (0 : Int)))))
 (some (j17, false))))
def m_impl_Acceptor_slotAt (x : ((List (Int × (Int × (Int × ((Int × Int) × (List (Int × Int))))))) × (Int × Int))) : Option (Int × Bool) := p_impl_Acceptor_slotAt FU x
def a_impl_Acceptor_slotAt : Ann := (.node .leaf (.node (.reg 13 (.node .leaf (.node .leaf (.node .leaf (.join [.slot 9 (.int .i64)] [10, 11, 15, 16, 17, 18, 19, 20, 21, 22, 23, 24, 25, 26, 27, 28, 29, 30, 31, 32, 33, 34] (.loop [.slot 9 (.int .i64), .slot 10 (.int .i64)] [11, 15, 16, 17, 18, 19, 20, 21, 22, 23, 24, 25, 26, 27, 28, 29, 30, 31, 32, 33, 34] .leaf) .leaf)))) .leaf) .leaf))
def S_impl_Acceptor_slotAt : FSpec := ⟨[.val (.one (.sl none (.pair (.int .i64) (.pair (.int .i64) (.pair (.int .i64) (.pair (.pair (.int .i64) (.int .i64)) (.sl none (.pair (.int .i64) (.int .i64))))))))), .val (.int .i64), .val (.int .i64)], [(.int .i64), .bool], m_impl_Acceptor_slotAt⟩

/-! impl.Acceptor).slot -/
def p_impl_Acceptor_slot (n : Nat) (x : ((List (Int × (Int × (Int × ((Int × Int) × (List (Int × Int))))))) × (Int × Int))) : Option (Int × (Int × (Int × ((Int × Int) × (List (Int × Int)))))) :=
((m_impl_Acceptor_slotAt (x.1, x.2.1, x.2.2)).bind fun r1 =>
(cond (!r1.2)
 ((m_impl_newSlot (x.2.1, x.2.2)).bind fun r2 =>
 some r2)
 ((geti x.1 r1.1).bind fun y3 =>
 ((m_impl_copySlot y3).bind fun r4 =>
 some r4))))
def m_impl_Acceptor_slot (x : ((List (Int × (Int × (Int × ((Int × Int) × (List (Int × Int))))))) × (Int × Int))) : Option (Int × (Int × (Int × ((Int × Int) × (List (Int × Int)))))) := p_impl_Acceptor_slot FU x
def a_impl_Acceptor_slot : Ann := .leaf
def S_impl_Acceptor_slot : FSpec := ⟨[.val (.one (.sl none (.pair (.int .i64) (.pair (.int .i64) (.pair (.int .i64) (.pair (.pair (.int .i64) (.int .i64)) (.sl none (.pair (.int .i64) (.int .i64))))))))), .val (.int .i64), .val (.int .i64)], [(.pair (.int .i64) (.pair (.int .i64) (.pair (.int .i64) (.pair (.pair (.int .i64) (.int .i64)) (.sl (some 79) (.pair (.int .i64) (.int .i64)))))))], m_impl_Acceptor_slot⟩

/-! impl.PromiseSlot -/
def p_impl_PromiseSlot (n : Nat) (x : ((Int × (Int × (Int × ((Int × Int) × (List (Int × Int)))))) × Int)) : Option (Int × ((Int × Int) × (Int × (Int × (Int × ((Int × Int) × (List (Int × Int)))))))) :=
((m_impl_SlotFault x.1).bind fun r1 =>
(cond (!(r1 == (0 : Int)))
 (some (r1, (((0 : Int), (0 : Int)), ((0 : Int), ((0 : Int), ((0 : Int), (((0 : Int), (0 : Int)), [])))))))
 ((m_impl_isBallot x.2).bind fun r2 =>
 (cond (!r2)
  (some ((3 : Int), (((0 : Int), (0 : Int)), ((0 : Int), ((0 : Int), ((0 : Int), (((0 : Int), (0 : Int)), [])))))))
  (cond (decide (x.2 < x.1.2.2.1))
   (some ((8 : Int), (((0 : Int), (0 : Int)), ((0 : Int), ((0 : Int), ((0 : Int), (((0 : Int), (0 : Int)), [])))))))
   ((m_impl_copySlot x.1).bind fun r3 =>
   some ((0 : Int), (x.1.2.2.2.1, (r3.1, (r3.2.1, (x.2, r3.2.2.2)))))))))))
def m_impl_PromiseSlot (x : ((Int × (Int × (Int × ((Int × Int) × (List (Int × Int)))))) × Int)) : Option (Int × ((Int × Int) × (Int × (Int × (Int × ((Int × Int) × (List (Int × Int)))))))) := p_impl_PromiseSlot FU x
def a_impl_PromiseSlot : Ann := .leaf
def S_impl_PromiseSlot : FSpec := ⟨[.val (.pair (.int .i64) (.pair (.int .i64) (.pair (.int .i64) (.pair (.pair (.int .i64) (.int .i64)) (.sl none (.pair (.int .i64) (.int .i64))))))), .val (.int .i64)], [(.pair (.int .i64) (.pair (.pair (.int .i64) (.int .i64)) (.pair (.int .i64) (.pair (.int .i64) (.pair (.int .i64) (.pair (.pair (.int .i64) (.int .i64)) (.sl (some 79) (.pair (.int .i64) (.int .i64)))))))))], m_impl_PromiseSlot⟩

/-! impl.Slot] -/
def p_slices_Insert_impl_Slot_impl_Slot (n : Nat) (x : ((List (Int × (Int × (Int × ((Int × Int) × (List (Int × Int))))))) × (Int × (List (Int × (Int × (Int × ((Int × Int) × (List (Int × Int)))))))))) : Option ((List (Int × (Int × (Int × ((Int × Int) × (List (Int × Int))))))) × (Bool × Bool)) :=
(insRun 64 x).map fun y => (y, (true, true))
def m_slices_Insert_impl_Slot_impl_Slot (x : ((List (Int × (Int × (Int × ((Int × Int) × (List (Int × Int))))))) × (Int × (List (Int × (Int × (Int × ((Int × Int) × (List (Int × Int)))))))))) : Option ((List (Int × (Int × (Int × ((Int × Int) × (List (Int × Int))))))) × (Bool × Bool)) := p_slices_Insert_impl_Slot_impl_Slot FU x
def a_slices_Insert_impl_Slot_impl_Slot : Ann := .leaf
def S_slices_Insert_impl_Slot_impl_Slot : FSpec := ⟨[.own 135 (.pair (.int .i64) (.pair (.int .i64) (.pair (.int .i64) (.pair (.pair (.int .i64) (.int .i64)) (.sl (some 79) (.pair (.int .i64) (.int .i64))))))), .val (.int .i64), .own 135 (.pair (.int .i64) (.pair (.int .i64) (.pair (.int .i64) (.pair (.pair (.int .i64) (.int .i64)) (.sl (some 79) (.pair (.int .i64) (.int .i64)))))))], [(.sl (some 135) (.pair (.int .i64) (.pair (.int .i64) (.pair (.int .i64) (.pair (.pair (.int .i64) (.int .i64)) (.sl (some 79) (.pair (.int .i64) (.int .i64))))))))], m_slices_Insert_impl_Slot_impl_Slot⟩

/-! impl.Acceptor).promise -/
def p_impl_Acceptor_promise (n : Nat) (x : ((List (Int × (Int × (Int × ((Int × Int) × (List (Int × Int))))))) × (Int × (Int × Int)))) : Option (Int × ((Int × Int) × (List (Int × (Int × (Int × ((Int × Int) × (List (Int × Int))))))))) :=
(Option.bind (α := (Int × ((Int × Int) × (List (Int × (Int × (Int × ((Int × Int) × (List (Int × Int))))))))))
 ((m_impl_Acceptor_slot (x.1, x.2.1, x.2.2.1)).bind fun r6 =>
 ((m_impl_PromiseSlot (r6, x.2.2.2)).bind fun r7 =>
 (cond (!(r7.1 == (0 : Int)))
  (some (r7.1, (((0 : Int), (0 : Int)), [])))
  ((m_impl_copyAcceptor x.1).bind fun r8 =>
  ((m_impl_Acceptor_slotAt (r8, x.2.1, x.2.2.1)).bind fun r9 =>
  (cond r9.2
   ((geti r8 r9.1).bind fun _ =>
   ((r8[r9.1.toNat]?).bind fun _ =>
   some ((0 : Int), (r7.2.1, (r8.set r9.1.toNat r7.2.2)))))
   (cond ((lenI r8) == (60 : Int))
    (some ((2 : Int), (((0 : Int), (0 : Int)), [])))
    ((m_slices_Insert_impl_Slot_impl_Slot (r8, r9.1, [r7.2.2])).bind fun r10 =>
    some ((0 : Int), (r7.2.1, r10.1)))))))))) fun j11 =>
some j11)
def m_impl_Acceptor_promise (x : ((List (Int × (Int × (Int × ((Int × Int) × (List (Int × Int))))))) × (Int × (Int × Int)))) : Option (Int × ((Int × Int) × (List (Int × (Int × (Int × ((Int × Int) × (List (Int × Int))))))))) := p_impl_Acceptor_promise FU x
def a_impl_Acceptor_promise : Ann := (.node .leaf (.node (.regj 13 [.slot 13 (.pair (.int .i64) (.pair (.pair (.int .i64) (.int .i64)) (.one (.sl (some 135) (.pair (.int .i64) (.pair (.int .i64) (.pair (.int .i64) (.pair (.pair (.int .i64) (.int .i64)) (.sl (some 79) (.pair (.int .i64) (.int .i64)))))))))))] [] (.node .leaf (.node .leaf (.node .leaf (.node .leaf (.node .leaf (.node (.node .leaf (.node .leaf (.node .leaf (.node .leaf (.own 39 (.pair (.int .i64) (.pair (.int .i64) (.pair (.int .i64) (.pair (.pair (.int .i64) (.int .i64)) (.sl (some 79) (.pair (.int .i64) (.int .i64))))))) .leaf))))) .leaf)))))) .leaf) .leaf))
def S_impl_Acceptor_promise : FSpec := ⟨[.val (.one (.sl none (.pair (.int .i64) (.pair (.int .i64) (.pair (.int .i64) (.pair (.pair (.int .i64) (.int .i64)) (.sl none (.pair (.int .i64) (.int .i64))))))))), .val (.int .i64), .val (.int .i64), .val (.int .i64)], [(.pair (.int .i64) (.pair (.pair (.int .i64) (.int .i64)) (.one (.sl (some 135) (.pair (.int .i64) (.pair (.int .i64) (.pair (.int .i64) (.pair (.pair (.int .i64) (.int .i64)) (.sl (some 79) (.pair (.int .i64) (.int .i64)))))))))))], m_impl_Acceptor_promise⟩

/-! impl.quorum -/
def p_impl_quorum (n : Nat) (x : Int) : Option Int :=
(cond ((2 : Int) == 0) none
 (some (IntKind.wrap .i64 ((IntKind.wrap .i64 (Int.tdiv x (2 : Int))) + (1 : Int)))))
def m_impl_quorum (x : Int) : Option Int := p_impl_quorum FU x
def a_impl_quorum : Ann := .leaf
def S_impl_quorum : FSpec := ⟨[.val (.int .i64)], [(.int .i64)], m_impl_quorum⟩

/-! impl.PickValue$1 -/
def p_impl_PickValue_1 (n : Nat) (x : (Int × Int)) : Option Bool :=
((m_impl_noVote ()).bind fun r1 =>
(cond (!((x.1 == r1.1) && ((x.2 == r1.2) && true)))
 ((m_impl_isVote x).bind fun r2 =>
 some (!r2))
 (some false)))
def m_impl_PickValue_1 (x : (Int × Int)) : Option Bool := p_impl_PickValue_1 FU x
def a_impl_PickValue_1 : Ann := .leaf
def S_impl_PickValue_1 : FSpec := ⟨[.val (.pair (.int .i64) (.int .i64))], [.bool], m_impl_PickValue_1⟩

/-! impl.PickValue -/
def l_impl_PickValue_1 (n : Nat) (x_1 : (List (Int × Int))) (z0 : Int) : Option Int :=
(lp (fun rec31 (z30 : Int) =>
 (cond (decide (z30 < (lenI x_1)))
  ((geti x_1 z30).bind fun y32 =>
  ((m_impl_PickValue_1 y32).bind fun r33 =>
  (cond r33
   (some z30)
   (rec31 (IntKind.wrap .i64 (z30 + (1 : Int)))))))
  (some (-1 : Int)))) n z0)
def l_impl_PickValue_2 (n : Nat) (x_1 : (List (Int × Int))) (z0 : (Int × (Int × Int))) : Option (Int × Int) :=
(lp (fun rec43 (z42 : (Int × (Int × Int))) =>
 (cond (decide (z42.1 < (lenI x_1)))
  ((geti x_1 z42.1).bind fun y44 =>
  (cond (decide (y44.1 > z42.2.1))
   (rec43 (IntKind.wrap .i64 (z42.1 + (1 : Int)), y44))
   (rec43 (IntKind.wrap .i64 (z42.1 + (1 : Int)), z42.2))))
  (some ((0 : Int), z42.2.2)))) n z0)
def p_impl_PickValue (n : Nat) (x : ((List (Int × Int)) × Int)) : Option (Int × Int) :=
(cond (decide ((lenI x.1) > (9 : Int)))
 (some ((2 : Int), (0 : Int)))
 (Option.bind (α := Bool)
  (Option.bind (α := Int)
   (l_impl_PickValue_1 n x.1 (0 : Int)) fun j35 =>
  (cond (decide (j35 ≥ (0 : Int)))
   (some true)
   ((m_impl_isValue x.2).bind fun r36 =>
   some (!r36)))) fun j37 =>
 (cond j37
  (some ((3 : Int), (0 : Int)))
  (l_impl_PickValue_2 n x.1 ((0 : Int), ((-1 : Int), x.2))))))
def m_impl_PickValue (x : ((List (Int × Int)) × Int)) : Option (Int × Int) := p_impl_PickValue FU x
def a_impl_PickValue : Ann := (.node .leaf (.node (.node .leaf (.node .leaf (.join [.slot 13 .bool] [14, 15, 16, 17, 18, 19, 20] (.reg 15 (.node .leaf (.node (.regj 7 [.slot 7 (.int .i64)] [] (.node .leaf (.node (.node .leaf (.loop [.slot 8 (.int .i64)] [4, 5, 9, 10, 11, 12, 13, 14, 15, 16, 17, 18] .leaf)) .leaf)) .leaf) .leaf)) .leaf) .leaf))) (.node .leaf (.node (.node .leaf (.loop [.slot 26 (.int .i64), .box 1 (.pair (.int .i64) (.int .i64))] [7, 27, 28, 29, 30, 31, 32, 33, 34, 35, 36] .leaf)) .leaf))))
def S_impl_PickValue : FSpec := ⟨[.val (.sl none (.pair (.int .i64) (.int .i64))), .val (.int .i64)], [(.pair (.int .i64) (.int .i64))], m_impl_PickValue⟩

/-! impl.AcceptSlot -/
def p_impl_AcceptSlot (n : Nat) (x : ((Int × (Int × (Int × ((Int × Int) × (List (Int × Int)))))) × (Int × Int))) : Option (Int × ((Int × Int) × (Int × (Int × (Int × ((Int × Int) × (List (Int × Int)))))))) :=
((m_impl_SlotFault x.1).bind fun r1 =>
(cond (!(r1 == (0 : Int)))
 (some (r1, (((0 : Int), (0 : Int)), ((0 : Int), ((0 : Int), ((0 : Int), (((0 : Int), (0 : Int)), [])))))))
 ((m_impl_isVote x.2).bind fun r2 =>
 (cond (!r2)
  (some ((3 : Int), (((0 : Int), (0 : Int)), ((0 : Int), ((0 : Int), ((0 : Int), (((0 : Int), (0 : Int)), [])))))))
  (cond (decide (x.2.1 < x.1.2.2.1))
   (some ((8 : Int), (((0 : Int), (0 : Int)), ((0 : Int), ((0 : Int), ((0 : Int), (((0 : Int), (0 : Int)), [])))))))
   (Option.bind (α := Bool)
    (cond (x.2.1 == x.1.2.2.2.1.1)
     (some (!(x.2.2 == x.1.2.2.2.1.2)))
     (some false)) fun j3 =>
   (cond j3
    (some ((7 : Int), (((0 : Int), (0 : Int)), ((0 : Int), ((0 : Int), ((0 : Int), (((0 : Int), (0 : Int)), [])))))))
    (Option.bind (α := Bool)
     (cond (!((x.2.1 == x.1.2.2.2.1.1) && ((x.2.2 == x.1.2.2.2.1.2) && true)))
      (some ((lenI x.1.2.2.2.2) == (60 : Int)))
      (some false)) fun j4 =>
    (cond j4
     (some ((2 : Int), (((0 : Int), (0 : Int)), ((0 : Int), ((0 : Int), ((0 : Int), (((0 : Int), (0 : Int)), [])))))))
     ((m_impl_copySlot x.1).bind fun r5 =>
     (Option.bind (α := (Int × (Int × (Int × ((Int × Int) × (List (Int × Int)))))))
      (cond (!((x.2.1 == x.1.2.2.2.1.1) && ((x.2.2 == x.1.2.2.2.1.2) && true)))
       (chk (Nat.ble ((r5.2.2.2.2.length + [x.2].length) * 16) maxBytes)
       (some (r5.1, (r5.2.1, (x.2.1, (x.2, (r5.2.2.2.2 ++ [x.2])))))))
       (some (r5.1, (r5.2.1, (x.2.1, (x.2, r5.2.2.2.2)))))) fun j6 =>
     some ((0 : Int), (x.1.2.2.2.1, j6)))))))))))))
def m_impl_AcceptSlot (x : ((Int × (Int × (Int × ((Int × Int) × (List (Int × Int)))))) × (Int × Int))) : Option (Int × ((Int × Int) × (Int × (Int × (Int × ((Int × Int) × (List (Int × Int)))))))) := p_impl_AcceptSlot FU x
def a_impl_AcceptSlot : Ann := (.node .leaf (.node .leaf (.node .leaf (.node (.node .leaf (.node .leaf (.node .leaf (.node .leaf (.join [.slot 30 .bool] [31, 32, 33, 34, 35, 36, 37, 38, 39, 40, 41, 42] .leaf (.node .leaf (.join [.slot 44 .bool] [45, 46, 47, 48, 49, 50, 51, 52, 53, 54] .leaf .leaf))))))) (.node .leaf (.join [.box 4 (.pair (.int .i64) (.pair (.int .i64) (.pair (.int .i64) (.pair (.pair (.int .i64) (.int .i64)) (.sl (some 79) (.pair (.int .i64) (.int .i64)))))))] [58, 59, 60, 61, 62, 63, 64, 65, 66, 67, 68, 69, 70, 71] .leaf .leaf))))))
def S_impl_AcceptSlot : FSpec := ⟨[.val (.pair (.int .i64) (.pair (.int .i64) (.pair (.int .i64) (.pair (.pair (.int .i64) (.int .i64)) (.sl none (.pair (.int .i64) (.int .i64))))))), .val (.int .i64), .val (.int .i64)], [(.pair (.int .i64) (.pair (.pair (.int .i64) (.int .i64)) (.pair (.int .i64) (.pair (.int .i64) (.pair (.int .i64) (.pair (.pair (.int .i64) (.int .i64)) (.sl (some 79) (.pair (.int .i64) (.int .i64)))))))))], m_impl_AcceptSlot⟩

/-! impl.Acceptor).accept -/
def p_impl_Acceptor_accept (n : Nat) (x : ((List (Int × (Int × (Int × ((Int × Int) × (List (Int × Int))))))) × (Int × (Int × (Int × Int))))) : Option (Int × ((Int × Int) × (List (Int × (Int × (Int × ((Int × Int) × (List (Int × Int))))))))) :=
(Option.bind (α := (Int × ((Int × Int) × (List (Int × (Int × (Int × ((Int × Int) × (List (Int × Int))))))))))
 ((m_impl_Acceptor_slot (x.1, x.2.1, x.2.2.1)).bind fun r6 =>
 ((m_impl_AcceptSlot (r6, x.2.2.2.1, x.2.2.2.2)).bind fun r7 =>
 (cond (!(r7.1 == (0 : Int)))
  (some (r7.1, (((0 : Int), (0 : Int)), [])))
  ((m_impl_copyAcceptor x.1).bind fun r8 =>
  ((m_impl_Acceptor_slotAt (r8, x.2.1, x.2.2.1)).bind fun r9 =>
  (cond r9.2
   ((geti r8 r9.1).bind fun _ =>
   ((r8[r9.1.toNat]?).bind fun _ =>
   some ((0 : Int), (r7.2.1, (r8.set r9.1.toNat r7.2.2)))))
   (cond ((lenI r8) == (60 : Int))
    (some ((2 : Int), (((0 : Int), (0 : Int)), [])))
    ((m_slices_Insert_impl_Slot_impl_Slot (r8, r9.1, [r7.2.2])).bind fun r10 =>
    some ((0 : Int), (r7.2.1, r10.1)))))))))) fun j11 =>
some j11)
def m_impl_Acceptor_accept (x : ((List (Int × (Int × (Int × ((Int × Int) × (List (Int × Int))))))) × (Int × (Int × (Int × Int))))) : Option (Int × ((Int × Int) × (List (Int × (Int × (Int × ((Int × Int) × (List (Int × Int))))))))) := p_impl_Acceptor_accept FU x
def a_impl_Acceptor_accept : Ann := (.node .leaf (.node (.regj 15 [.slot 15 (.pair (.int .i64) (.pair (.pair (.int .i64) (.int .i64)) (.one (.sl (some 135) (.pair (.int .i64) (.pair (.int .i64) (.pair (.int .i64) (.pair (.pair (.int .i64) (.int .i64)) (.sl (some 79) (.pair (.int .i64) (.int .i64)))))))))))] [] (.node .leaf (.node .leaf (.node .leaf (.node .leaf (.node .leaf (.node (.node .leaf (.node .leaf (.node .leaf (.node .leaf (.own 39 (.pair (.int .i64) (.pair (.int .i64) (.pair (.int .i64) (.pair (.pair (.int .i64) (.int .i64)) (.sl (some 79) (.pair (.int .i64) (.int .i64))))))) .leaf))))) .leaf)))))) .leaf) .leaf))
def S_impl_Acceptor_accept : FSpec := ⟨[.val (.one (.sl none (.pair (.int .i64) (.pair (.int .i64) (.pair (.int .i64) (.pair (.pair (.int .i64) (.int .i64)) (.sl none (.pair (.int .i64) (.int .i64))))))))), .val (.int .i64), .val (.int .i64), .val (.int .i64), .val (.int .i64)], [(.pair (.int .i64) (.pair (.pair (.int .i64) (.int .i64)) (.one (.sl (some 135) (.pair (.int .i64) (.pair (.int .i64) (.pair (.int .i64) (.pair (.pair (.int .i64) (.int .i64)) (.sl (some 79) (.pair (.int .i64) (.int .i64)))))))))))], m_impl_Acceptor_accept⟩

/-! impl.RunBallot -/
def l_impl_RunBallot_1 (n : Nat) (x_2_1 : (List Int)) (x_2_2_1 : Int) (x_2_2_2_1 : Int) (x_2_2_2_2_1 : Int) (z0 : ((List Int) × ((List (Int × Int)) × (Int × (List (List (Int × (Int × (Int × ((Int × Int) × (List (Int × Int)))))))))))) : Option ((List Int) × ((List (Int × Int)) × (List (List (Int × (Int × (Int × ((Int × Int) × (List (Int × Int)))))))))) :=
(lp (fun rec40 (z39 : ((List Int) × ((List (Int × Int)) × (Int × (List (List (Int × (Int × (Int × ((Int × Int) × (List (Int × Int)))))))))))) =>
 (cond (decide (z39.2.2.1 < (lenI x_2_1)))
  ((geti x_2_1 z39.2.2.1).bind fun y41 =>
  ((geti z39.2.2.2 y41).bind fun _ =>
  ((z39.2.2.2[y41.toNat]?).bind fun y42 =>
  ((z39.2.2.2[y41.toNat]?).bind fun y43 =>
  ((m_impl_Acceptor_promise (y43, x_2_2_1, x_2_2_2_1, x_2_2_2_2_1)).bind fun r44 =>
  (cond (r44.1 == (0 : Int))
   (chk (Nat.ble ((z39.1.length + [y41].length) * 8) maxBytes)
   (chk (Nat.ble ((z39.2.1.length + [r44.2.1].length) * 16) maxBytes)
   ((geti z39.2.2.2 y41).bind fun _ =>
   ((z39.2.2.2[y41.toNat]?).bind fun _ =>
   rec40 ((z39.1 ++ [y41]), (z39.2.1 ++ [r44.2.1]), IntKind.wrap .i64 (z39.2.2.1 + (1 : Int)), (z39.2.2.2.set y41.toNat r44.2.2))))))
   (rec40 (z39.1, z39.2.1, IntKind.wrap .i64 (z39.2.2.1 + (1 : Int)), z39.2.2.2))))))))
  (some (z39.1, z39.2.1, z39.2.2.2)))) n z0)
def l_impl_RunBallot_2 (n : Nat) (j46_1 : (List Int)) (x_2_2_1 : Int) (x_2_2_2_1 : Int) (x_2_2_2_2_1 : Int) (r48_2 : Int) (z0 : (Int × (List (List (Int × (Int × (Int × ((Int × Int) × (List (Int × Int)))))))))) : Option (Int × (Int × (List (List (Int × (Int × (Int × ((Int × Int) × (List (Int × Int)))))))))) :=
(lp (fun rec60 (z59 : (Int × (List (List (Int × (Int × (Int × ((Int × Int) × (List (Int × Int)))))))))) =>
 (cond (decide (z59.1 < (lenI j46_1)))
  ((geti j46_1 z59.1).bind fun _ =>
  ((j46_1[z59.1.toNat]?).bind fun y61 =>
  ((geti z59.2 y61).bind fun _ =>
  ((z59.2[y61.toNat]?).bind fun y62 =>
  ((z59.2[y61.toNat]?).bind fun y63 =>
  ((m_impl_Acceptor_accept (y63, x_2_2_1, x_2_2_2_1, x_2_2_2_2_1, r48_2)).bind fun r64 =>
  (cond (r64.1 == (0 : Int))
   ((geti z59.2 y61).bind fun _ =>
   ((z59.2[y61.toNat]?).bind fun _ =>
   rec60 (IntKind.wrap .i64 (z59.1 + (1 : Int)), (z59.2.set y61.toNat r64.2.2))))
   (rec60 (IntKind.wrap .i64 (z59.1 + (1 : Int)), z59.2)))))))))
  (some ((0 : Int), (r48_2, z59.2))))) n z0)
def p_impl_RunBallot (n : Nat) (x : ((List (List (Int × (Int × (Int × ((Int × Int) × (List (Int × Int)))))))) × ((List Int) × (Int × (Int × (Int × Int)))))) : Option (Int × (Int × (List (List (Int × (Int × (Int × ((Int × Int) × (List (Int × Int)))))))))) :=
((m_impl_listFault x.1).bind fun r1 =>
((m_impl_NewSlot (x.2.2.1, x.2.2.2.1)).bind fun r2 =>
((m_impl_firstOf [r1, r2.1]).bind fun r3 =>
(cond (!(r3 == (0 : Int)))
 (some (r3, ((0 : Int), [])))
 (Option.bind (α := Bool)
  ((m_impl_isBallot x.2.2.2.2.1).bind fun r6 =>
  (cond (!r6)
   (some true)
   ((m_impl_isValue x.2.2.2.2.2).bind fun r7 =>
   some (!r7)))) fun j8 =>
 (cond j8
  (some ((3 : Int), ((0 : Int), [])))
  ((m_impl_size_impl_Acceptor x.1).bind fun r9 =>
  ((m_impl_reachedFault (x.2.1, r9)).bind fun r10 =>
  (cond (!(r10 == (0 : Int)))
   (some (r10, ((0 : Int), [])))
   ((m_impl_copyAcceptors x.1).bind fun r11 =>
   (Option.bind (α := ((List Int) × ((List (Int × Int)) × (List (List (Int × (Int × (Int × ((Int × Int) × (List (Int × Int)))))))))))
    (l_impl_RunBallot_1 n x.2.1 x.2.2.1 x.2.2.2.1 x.2.2.2.2.1 (([] : List Int), ([] : List (Int × Int)), (0 : Int), r11)) fun j46 =>
   ((m_impl_quorum (lenI x.1)).bind fun r47 =>
   (cond (decide ((lenI j46.1) < r47))
    (some ((4 : Int), ((0 : Int), j46.2.2)))
    ((m_impl_PickValue (j46.2.1, x.2.2.2.2.2)).bind fun r48 =>
    (l_impl_RunBallot_2 n j46.1 x.2.2.1 x.2.2.2.1 x.2.2.2.2.1 r48.2 ((0 : Int), j46.2.2))))))))))))))))
def m_impl_RunBallot (x : ((List (List (Int × (Int × (Int × ((Int × Int) × (List (Int × Int)))))))) × ((List Int) × (Int × (Int × (Int × Int)))))) : Option (Int × (Int × (List (List (Int × (Int × (Int × ((Int × Int) × (List (Int × Int)))))))))) := p_impl_RunBallot FU x
def a_impl_RunBallot : Ann := (.node .leaf (.node .leaf (.node (.join [.slot 44 .bool] [37, 38, 39, 40, 41, 42, 43] .leaf .leaf) (.node .leaf (.node .leaf (.join [.slot 16 (.sl (some 2) (.int .i64)), .slot 17 (.sl (some 79) (.pair (.int .i64) (.int .i64))), .row 3 124 (.one (.sl (some 135) (.pair (.int .i64) (.pair (.int .i64) (.pair (.int .i64) (.pair (.pair (.int .i64) (.int .i64)) (.sl (some 79) (.pair (.int .i64) (.int .i64)))))))))] [19, 20, 58, 59, 60, 61, 62, 63, 64, 65, 66, 67, 68, 69, 70, 71, 72, 73, 74, 75, 76, 77, 78, 79, 80, 81, 82, 83, 84, 85, 86, 87, 88, 89] (.node .leaf (.loop [.slot 16 (.sl (some 2) (.int .i64)), .slot 17 (.sl (some 79) (.pair (.int .i64) (.int .i64))), .slot 60 (.int .i64), .row 3 124 (.one (.sl (some 135) (.pair (.int .i64) (.pair (.int .i64) (.pair (.int .i64) (.pair (.pair (.int .i64) (.int .i64)) (.sl (some 79) (.pair (.int .i64) (.int .i64)))))))))] [19, 20, 61, 62, 63, 64, 65, 66, 67, 68, 69, 70, 71, 72, 73, 74, 75, 76, 77, 78, 79, 80, 81, 82, 83, 84, 85, 86, 87, 88, 89] (.node .leaf (.node .leaf (.node (.node .leaf (.node .leaf (.node .leaf (.node (.lazy 86 (.lazy 81 .leaf)) .leaf)))) .leaf))))) (.node .leaf (.node .leaf (.node (.node .leaf (.loop [.slot 104 (.int .i64), .row 3 124 (.one (.sl (some 135) (.pair (.int .i64) (.pair (.int .i64) (.pair (.int .i64) (.pair (.pair (.int .i64) (.int .i64)) (.sl (some 79) (.pair (.int .i64) (.int .i64)))))))))] [23, 24, 105, 106, 107, 108, 109, 110, 111, 112, 113, 114, 115, 116, 117, 118, 119, 120, 121, 122, 123, 124, 125] .leaf)) .leaf)))))))))
def S_impl_RunBallot : FSpec := ⟨[.val (.sl none (.one (.sl none (.pair (.int .i64) (.pair (.int .i64) (.pair (.int .i64) (.pair (.pair (.int .i64) (.int .i64)) (.sl none (.pair (.int .i64) (.int .i64)))))))))), .val (.sl none (.int .i64)), .val (.int .i64), .val (.int .i64), .val (.int .i64), .val (.int .i64)], [(.pair (.int .i64) (.pair (.int .i64) (.sl (some 124) (.one (.sl (some 135) (.pair (.int .i64) (.pair (.int .i64) (.pair (.int .i64) (.pair (.pair (.int .i64) (.int .i64)) (.sl (some 79) (.pair (.int .i64) (.int .i64))))))))))))], m_impl_RunBallot⟩

/-! laws.eqVote -/
def p_laws_eqVote (n : Nat) (x : ((Int × Int) × (Int × Int))) : Option Bool :=
(cond (!(x.1.1 == x.2.1))
 (some false)
 (cond (!(x.1.2 == x.2.2))
  (some false)
  (some true)))
def m_laws_eqVote (x : ((Int × Int) × (Int × Int))) : Option Bool := p_laws_eqVote FU x
def a_laws_eqVote : Ann := .leaf
def S_laws_eqVote : FSpec := ⟨[.val (.pair (.int .i64) (.int .i64)), .val (.pair (.int .i64) (.int .i64))], [.bool], m_laws_eqVote⟩

/-! laws.eqVoteS -/
def l_laws_eqVoteS_1 (n : Nat) (x_1 : (List (Int × Int))) (x_2 : (List (Int × Int))) (z0 : Int) : Option Bool :=
(lp (fun rec6 (z5 : Int) =>
 (cond (decide (z5 < (lenI x_1)))
  ((geti x_1 z5).bind fun y7 =>
  ((geti x_2 z5).bind fun y8 =>
  ((m_laws_eqVote (y7, y8)).bind fun r9 =>
  (cond (!r9)
   (some false)
   (rec6 (IntKind.wrap .i64 (z5 + (1 : Int))))))))
  (some true))) n z0)
def p_laws_eqVoteS (n : Nat) (x : ((List (Int × Int)) × (List (Int × Int)))) : Option Bool :=
(cond (!((lenI x.1) == (lenI x.2)))
 (some false)
 (l_laws_eqVoteS_1 n x.1 x.2 (0 : Int)))
def m_laws_eqVoteS (x : ((List (Int × Int)) × (List (Int × Int)))) : Option Bool := p_laws_eqVoteS FU x
def a_laws_eqVoteS : Ann := (.node .leaf (.node .leaf (.node (.node .leaf (.loop [.slot 5 (.int .i64)] [4, 11, 12, 13, 14, 15, 16, 17, 18, 19, 20, 21, 22, 23, 24, 25, 26] .leaf)) .leaf)))
def S_laws_eqVoteS : FSpec := ⟨[.val (.sl none (.pair (.int .i64) (.int .i64))), .val (.sl none (.pair (.int .i64) (.int .i64)))], [.bool], m_laws_eqVoteS⟩

/-! laws.eqSlot -/
def p_laws_eqSlot (n : Nat) (x : ((Int × (Int × (Int × ((Int × Int) × (List (Int × Int)))))) × (Int × (Int × (Int × ((Int × Int) × (List (Int × Int)))))))) : Option Bool :=
(cond (!(x.1.1 == x.2.1))
 (some false)
 (cond (!(x.1.2.1 == x.2.2.1))
  (some false)
  (cond (!(x.1.2.2.1 == x.2.2.2.1))
   (some false)
   ((m_laws_eqVote (x.1.2.2.2.1, x.2.2.2.2.1)).bind fun r1 =>
   (cond (!r1)
    (some false)
    ((m_laws_eqVoteS (x.1.2.2.2.2, x.2.2.2.2.2)).bind fun r2 =>
    (cond (!r2)
     (some false)
     (some true))))))))
def m_laws_eqSlot (x : ((Int × (Int × (Int × ((Int × Int) × (List (Int × Int)))))) × (Int × (Int × (Int × ((Int × Int) × (List (Int × Int)))))))) : Option Bool := p_laws_eqSlot FU x
def a_laws_eqSlot : Ann := .leaf
def S_laws_eqSlot : FSpec := ⟨[.val (.pair (.int .i64) (.pair (.int .i64) (.pair (.int .i64) (.pair (.pair (.int .i64) (.int .i64)) (.sl none (.pair (.int .i64) (.int .i64))))))), .val (.pair (.int .i64) (.pair (.int .i64) (.pair (.int .i64) (.pair (.pair (.int .i64) (.int .i64)) (.sl none (.pair (.int .i64) (.int .i64)))))))], [.bool], m_laws_eqSlot⟩

/-! laws.eqSlotS -/
def l_laws_eqSlotS_1 (n : Nat) (x_1 : (List (Int × (Int × (Int × ((Int × Int) × (List (Int × Int)))))))) (x_2 : (List (Int × (Int × (Int × ((Int × Int) × (List (Int × Int)))))))) (z0 : Int) : Option Bool :=
(lp (fun rec6 (z5 : Int) =>
 (cond (decide (z5 < (lenI x_1)))
  ((geti x_1 z5).bind fun y7 =>
  ((geti x_2 z5).bind fun y8 =>
  ((m_laws_eqSlot (y7, y8)).bind fun r9 =>
  (cond (!r9)
   (some false)
   (rec6 (IntKind.wrap .i64 (z5 + (1 : Int))))))))
  (some true))) n z0)
def p_laws_eqSlotS (n : Nat) (x : ((List (Int × (Int × (Int × ((Int × Int) × (List (Int × Int))))))) × (List (Int × (Int × (Int × ((Int × Int) × (List (Int × Int))))))))) : Option Bool :=
(cond (!((lenI x.1) == (lenI x.2)))
 (some false)
 (l_laws_eqSlotS_1 n x.1 x.2 (0 : Int)))
def m_laws_eqSlotS (x : ((List (Int × (Int × (Int × ((Int × Int) × (List (Int × Int))))))) × (List (Int × (Int × (Int × ((Int × Int) × (List (Int × Int))))))))) : Option Bool := p_laws_eqSlotS FU x
def a_laws_eqSlotS : Ann := (.node .leaf (.node .leaf (.node (.node .leaf (.loop [.slot 5 (.int .i64)] [4, 11, 12, 13, 14, 15, 16, 17, 18, 19, 20, 21, 22, 23, 24, 25, 26] .leaf)) .leaf)))
def S_laws_eqSlotS : FSpec := ⟨[.val (.sl none (.pair (.int .i64) (.pair (.int .i64) (.pair (.int .i64) (.pair (.pair (.int .i64) (.int .i64)) (.sl none (.pair (.int .i64) (.int .i64)))))))), .val (.sl none (.pair (.int .i64) (.pair (.int .i64) (.pair (.int .i64) (.pair (.pair (.int .i64) (.int .i64)) (.sl none (.pair (.int .i64) (.int .i64))))))))], [.bool], m_laws_eqSlotS⟩

/-! laws.eqAcceptor -/
def p_laws_eqAcceptor (n : Nat) (x : ((List (Int × (Int × (Int × ((Int × Int) × (List (Int × Int))))))) × (List (Int × (Int × (Int × ((Int × Int) × (List (Int × Int))))))))) : Option Bool :=
((m_laws_eqSlotS (x.1, x.2)).bind fun r1 =>
(cond (!r1)
 (some false)
 (some true)))
def m_laws_eqAcceptor (x : ((List (Int × (Int × (Int × ((Int × Int) × (List (Int × Int))))))) × (List (Int × (Int × (Int × ((Int × Int) × (List (Int × Int))))))))) : Option Bool := p_laws_eqAcceptor FU x
def a_laws_eqAcceptor : Ann := .leaf
def S_laws_eqAcceptor : FSpec := ⟨[.val (.one (.sl none (.pair (.int .i64) (.pair (.int .i64) (.pair (.int .i64) (.pair (.pair (.int .i64) (.int .i64)) (.sl none (.pair (.int .i64) (.int .i64))))))))), .val (.one (.sl none (.pair (.int .i64) (.pair (.int .i64) (.pair (.int .i64) (.pair (.pair (.int .i64) (.int .i64)) (.sl none (.pair (.int .i64) (.int .i64)))))))))], [.bool], m_laws_eqAcceptor⟩

/-! laws.eqAcceptorS -/
def l_laws_eqAcceptorS_1 (n : Nat) (x_1 : (List (List (Int × (Int × (Int × ((Int × Int) × (List (Int × Int))))))))) (x_2 : (List (List (Int × (Int × (Int × ((Int × Int) × (List (Int × Int))))))))) (z0 : Int) : Option Bool :=
(lp (fun rec6 (z5 : Int) =>
 (cond (decide (z5 < (lenI x_1)))
  ((geti x_1 z5).bind fun y7 =>
  ((geti x_2 z5).bind fun y8 =>
  ((m_laws_eqAcceptor (y7, y8)).bind fun r9 =>
  (cond (!r9)
   (some false)
   (rec6 (IntKind.wrap .i64 (z5 + (1 : Int))))))))
  (some true))) n z0)
def p_laws_eqAcceptorS (n : Nat) (x : ((List (List (Int × (Int × (Int × ((Int × Int) × (List (Int × Int)))))))) × (List (List (Int × (Int × (Int × ((Int × Int) × (List (Int × Int)))))))))) : Option Bool :=
(cond (!((lenI x.1) == (lenI x.2)))
 (some false)
 (l_laws_eqAcceptorS_1 n x.1 x.2 (0 : Int)))
def m_laws_eqAcceptorS (x : ((List (List (Int × (Int × (Int × ((Int × Int) × (List (Int × Int)))))))) × (List (List (Int × (Int × (Int × ((Int × Int) × (List (Int × Int)))))))))) : Option Bool := p_laws_eqAcceptorS FU x
def a_laws_eqAcceptorS : Ann := (.node .leaf (.node .leaf (.node (.node .leaf (.loop [.slot 5 (.int .i64)] [4, 11, 12, 13, 14, 15, 16, 17, 18, 19, 20, 21, 22, 23, 24, 25, 26] .leaf)) .leaf)))
def S_laws_eqAcceptorS : FSpec := ⟨[.val (.sl none (.one (.sl none (.pair (.int .i64) (.pair (.int .i64) (.pair (.int .i64) (.pair (.pair (.int .i64) (.int .i64)) (.sl none (.pair (.int .i64) (.int .i64)))))))))), .val (.sl none (.one (.sl none (.pair (.int .i64) (.pair (.int .i64) (.pair (.int .i64) (.pair (.pair (.int .i64) (.int .i64)) (.sl none (.pair (.int .i64) (.int .i64))))))))))], [.bool], m_laws_eqAcceptorS⟩

/-! laws.eqAcceptorsResult -/
def p_laws_eqAcceptorsResult (n : Nat) (x : ((Int × (Int × (List (List (Int × (Int × (Int × ((Int × Int) × (List (Int × Int)))))))))) × (Int × (Int × (List (List (Int × (Int × (Int × ((Int × Int) × (List (Int × Int)))))))))))) : Option Bool :=
(cond (!(x.1.1 == x.2.1))
 (some false)
 (cond (!(x.1.2.1 == x.2.2.1))
  (some false)
  ((m_laws_eqAcceptorS (x.1.2.2, x.2.2.2)).bind fun r1 =>
  (cond (!r1)
   (some false)
   (some true)))))
def m_laws_eqAcceptorsResult (x : ((Int × (Int × (List (List (Int × (Int × (Int × ((Int × Int) × (List (Int × Int)))))))))) × (Int × (Int × (List (List (Int × (Int × (Int × ((Int × Int) × (List (Int × Int)))))))))))) : Option Bool := p_laws_eqAcceptorsResult FU x
def a_laws_eqAcceptorsResult : Ann := .leaf
def S_laws_eqAcceptorsResult : FSpec := ⟨[.val (.pair (.int .i64) (.pair (.int .i64) (.sl none (.one (.sl none (.pair (.int .i64) (.pair (.int .i64) (.pair (.int .i64) (.pair (.pair (.int .i64) (.int .i64)) (.sl none (.pair (.int .i64) (.int .i64)))))))))))), .val (.pair (.int .i64) (.pair (.int .i64) (.sl none (.one (.sl none (.pair (.int .i64) (.pair (.int .i64) (.pair (.int .i64) (.pair (.pair (.int .i64) (.int .i64)) (.sl none (.pair (.int .i64) (.int .i64))))))))))))], [.bool], m_laws_eqAcceptorsResult⟩

/-! laws.eqInt64S -/
def l_laws_eqInt64S_1 (n : Nat) (x_1 : (List Int)) (x_2 : (List Int)) (z0 : Int) : Option Bool :=
(lp (fun rec5 (z4 : Int) =>
 (cond (decide (z4 < (lenI x_1)))
  ((geti x_1 z4).bind fun y6 =>
  ((geti x_2 z4).bind fun y7 =>
  (cond (!(y6 == y7))
   (some false)
   (rec5 (IntKind.wrap .i64 (z4 + (1 : Int)))))))
  (some true))) n z0)
def p_laws_eqInt64S (n : Nat) (x : ((List Int) × (List Int))) : Option Bool :=
(cond (!((lenI x.1) == (lenI x.2)))
 (some false)
 (l_laws_eqInt64S_1 n x.1 x.2 (0 : Int)))
def m_laws_eqInt64S (x : ((List Int) × (List Int))) : Option Bool := p_laws_eqInt64S FU x
def a_laws_eqInt64S : Ann := (.node .leaf (.node .leaf (.node (.node .leaf (.loop [.slot 5 (.int .i64)] [4, 11, 12, 13, 14, 15, 16, 17, 18, 19, 20, 21, 22, 23, 24, 25] .leaf)) .leaf)))
def S_laws_eqInt64S : FSpec := ⟨[.val (.sl none (.int .i64)), .val (.sl none (.int .i64))], [.bool], m_laws_eqInt64S⟩

/-! laws.markVoteS -/
def l_laws_markVoteS_1 (n : Nat)  (z0 : (Int × (Int × (List (Int × Int))))) : Option (Int × (List (Int × Int))) :=
(lp (fun rec8 (z7 : (Int × (Int × (List (Int × Int))))) =>
 (cond (decide (z7.2.1 < (lenI z7.2.2)))
  ((geti z7.2.2 z7.2.1).bind fun _ =>
  ((z7.2.2[z7.2.1.toNat]?).bind fun y9 =>
  ((geti (z7.2.2.set z7.2.1.toNat (z7.1, y9.2)) z7.2.1).bind fun _ =>
  (((z7.2.2.set z7.2.1.toNat (z7.1, y9.2))[z7.2.1.toNat]?).bind fun y10 =>
  rec8 (IntKind.wrap .i64 ((IntKind.wrap .i64 (z7.1 + (1 : Int))) + (1 : Int)), IntKind.wrap .i64 (z7.2.1 + (1 : Int)), ((z7.2.2.set z7.2.1.toNat (z7.1, y9.2)).set z7.2.1.toNat (y10.1, IntKind.wrap .i64 (z7.1 + (1 : Int)))))))))
  (some (z7.1, z7.2.2)))) n z0)
def p_laws_markVoteS (n : Nat) (x : ((List (Int × Int)) × Int)) : Option (Int × (List (Int × Int))) :=
(l_laws_markVoteS_1 n  (x.2, (0 : Int), x.1))
def m_laws_markVoteS (x : ((List (Int × Int)) × Int)) : Option (Int × (List (Int × Int))) := p_laws_markVoteS FU x
def a_laws_markVoteS : Ann := (.node .leaf (.node (.node .leaf (.loop [.slot 1 (.int .i64), .slot 5 (.int .i64), .row 0 79 (.pair (.int .i64) (.int .i64))] [6, 7, 8, 9, 10, 11, 12, 13, 14, 15, 16, 17, 18, 19, 20, 21, 22, 23, 24, 25] .leaf)) .leaf))
def S_laws_markVoteS : FSpec := ⟨[.row 79 (.pair (.int .i64) (.int .i64)), .val (.int .i64)], [(.int .i64)], m_laws_markVoteS⟩

/-! laws.markSlotS -/
def l_laws_markSlotS_1 (n : Nat)  (z0 : (Int × (Int × (List (Int × (Int × (Int × ((Int × Int) × (List (Int × Int)))))))))) : Option (Int × (List (Int × (Int × (Int × ((Int × Int) × (List (Int × Int)))))))) :=
(lp (fun rec20 (z19 : (Int × (Int × (List (Int × (Int × (Int × ((Int × Int) × (List (Int × Int)))))))))) =>
 (cond (decide (z19.2.1 < (lenI z19.2.2)))
  ((geti z19.2.2 z19.2.1).bind fun _ =>
  ((z19.2.2[z19.2.1.toNat]?).bind fun y21 =>
  ((geti (z19.2.2.set z19.2.1.toNat (z19.1, y21.2)) z19.2.1).bind fun _ =>
  (((z19.2.2.set z19.2.1.toNat (z19.1, y21.2))[z19.2.1.toNat]?).bind fun y22 =>
  ((geti ((z19.2.2.set z19.2.1.toNat (z19.1, y21.2)).set z19.2.1.toNat (y22.1, (IntKind.wrap .i64 (z19.1 + (1 : Int)), y22.2.2))) z19.2.1).bind fun _ =>
  ((((z19.2.2.set z19.2.1.toNat (z19.1, y21.2)).set z19.2.1.toNat (y22.1, (IntKind.wrap .i64 (z19.1 + (1 : Int)), y22.2.2)))[z19.2.1.toNat]?).bind fun y23 =>
  ((geti (((z19.2.2.set z19.2.1.toNat (z19.1, y21.2)).set z19.2.1.toNat (y22.1, (IntKind.wrap .i64 (z19.1 + (1 : Int)), y22.2.2))).set z19.2.1.toNat (y23.1, (y23.2.1, (IntKind.wrap .i64 ((IntKind.wrap .i64 (z19.1 + (1 : Int))) + (1 : Int)), y23.2.2.2)))) z19.2.1).bind fun _ =>
  (((((z19.2.2.set z19.2.1.toNat (z19.1, y21.2)).set z19.2.1.toNat (y22.1, (IntKind.wrap .i64 (z19.1 + (1 : Int)), y22.2.2))).set z19.2.1.toNat (y23.1, (y23.2.1, (IntKind.wrap .i64 ((IntKind.wrap .i64 (z19.1 + (1 : Int))) + (1 : Int)), y23.2.2.2))))[z19.2.1.toNat]?).bind fun y24 =>
  ((geti ((((z19.2.2.set z19.2.1.toNat (z19.1, y21.2)).set z19.2.1.toNat (y22.1, (IntKind.wrap .i64 (z19.1 + (1 : Int)), y22.2.2))).set z19.2.1.toNat (y23.1, (y23.2.1, (IntKind.wrap .i64 ((IntKind.wrap .i64 (z19.1 + (1 : Int))) + (1 : Int)), y23.2.2.2)))).set z19.2.1.toNat (y24.1, (y24.2.1, (y24.2.2.1, ((IntKind.wrap .i64 ((IntKind.wrap .i64 ((IntKind.wrap .i64 (z19.1 + (1 : Int))) + (1 : Int))) + (1 : Int)), y24.2.2.2.1.2), y24.2.2.2.2))))) z19.2.1).bind fun _ =>
  ((((((z19.2.2.set z19.2.1.toNat (z19.1, y21.2)).set z19.2.1.toNat (y22.1, (IntKind.wrap .i64 (z19.1 + (1 : Int)), y22.2.2))).set z19.2.1.toNat (y23.1, (y23.2.1, (IntKind.wrap .i64 ((IntKind.wrap .i64 (z19.1 + (1 : Int))) + (1 : Int)), y23.2.2.2)))).set z19.2.1.toNat (y24.1, (y24.2.1, (y24.2.2.1, ((IntKind.wrap .i64 ((IntKind.wrap .i64 ((IntKind.wrap .i64 (z19.1 + (1 : Int))) + (1 : Int))) + (1 : Int)), y24.2.2.2.1.2), y24.2.2.2.2)))))[z19.2.1.toNat]?).bind fun y25 =>
  ((geti (((((z19.2.2.set z19.2.1.toNat (z19.1, y21.2)).set z19.2.1.toNat (y22.1, (IntKind.wrap .i64 (z19.1 + (1 : Int)), y22.2.2))).set z19.2.1.toNat (y23.1, (y23.2.1, (IntKind.wrap .i64 ((IntKind.wrap .i64 (z19.1 + (1 : Int))) + (1 : Int)), y23.2.2.2)))).set z19.2.1.toNat (y24.1, (y24.2.1, (y24.2.2.1, ((IntKind.wrap .i64 ((IntKind.wrap .i64 ((IntKind.wrap .i64 (z19.1 + (1 : Int))) + (1 : Int))) + (1 : Int)), y24.2.2.2.1.2), y24.2.2.2.2))))).set z19.2.1.toNat (y25.1, (y25.2.1, (y25.2.2.1, ((y25.2.2.2.1.1, IntKind.wrap .i64 ((IntKind.wrap .i64 ((IntKind.wrap .i64 ((IntKind.wrap .i64 (z19.1 + (1 : Int))) + (1 : Int))) + (1 : Int))) + (1 : Int))), y25.2.2.2.2))))) z19.2.1).bind fun _ =>
  (((((((z19.2.2.set z19.2.1.toNat (z19.1, y21.2)).set z19.2.1.toNat (y22.1, (IntKind.wrap .i64 (z19.1 + (1 : Int)), y22.2.2))).set z19.2.1.toNat (y23.1, (y23.2.1, (IntKind.wrap .i64 ((IntKind.wrap .i64 (z19.1 + (1 : Int))) + (1 : Int)), y23.2.2.2)))).set z19.2.1.toNat (y24.1, (y24.2.1, (y24.2.2.1, ((IntKind.wrap .i64 ((IntKind.wrap .i64 ((IntKind.wrap .i64 (z19.1 + (1 : Int))) + (1 : Int))) + (1 : Int)), y24.2.2.2.1.2), y24.2.2.2.2))))).set z19.2.1.toNat (y25.1, (y25.2.1, (y25.2.2.1, ((y25.2.2.2.1.1, IntKind.wrap .i64 ((IntKind.wrap .i64 ((IntKind.wrap .i64 ((IntKind.wrap .i64 (z19.1 + (1 : Int))) + (1 : Int))) + (1 : Int))) + (1 : Int))), y25.2.2.2.2)))))[z19.2.1.toNat]?).bind fun y26 =>
  (((((((z19.2.2.set z19.2.1.toNat (z19.1, y21.2)).set z19.2.1.toNat (y22.1, (IntKind.wrap .i64 (z19.1 + (1 : Int)), y22.2.2))).set z19.2.1.toNat (y23.1, (y23.2.1, (IntKind.wrap .i64 ((IntKind.wrap .i64 (z19.1 + (1 : Int))) + (1 : Int)), y23.2.2.2)))).set z19.2.1.toNat (y24.1, (y24.2.1, (y24.2.2.1, ((IntKind.wrap .i64 ((IntKind.wrap .i64 ((IntKind.wrap .i64 (z19.1 + (1 : Int))) + (1 : Int))) + (1 : Int)), y24.2.2.2.1.2), y24.2.2.2.2))))).set z19.2.1.toNat (y25.1, (y25.2.1, (y25.2.2.1, ((y25.2.2.2.1.1, IntKind.wrap .i64 ((IntKind.wrap .i64 ((IntKind.wrap .i64 ((IntKind.wrap .i64 (z19.1 + (1 : Int))) + (1 : Int))) + (1 : Int))) + (1 : Int))), y25.2.2.2.2)))))[z19.2.1.toNat]?).bind fun y27 =>
  ((m_laws_markVoteS (y27.2.2.2.2, IntKind.wrap .i64 ((IntKind.wrap .i64 ((IntKind.wrap .i64 ((IntKind.wrap .i64 ((IntKind.wrap .i64 (z19.1 + (1 : Int))) + (1 : Int))) + (1 : Int))) + (1 : Int))) + (1 : Int)))).bind fun r28 =>
  rec20 (r28.1, IntKind.wrap .i64 (z19.2.1 + (1 : Int)), ((((((z19.2.2.set z19.2.1.toNat (z19.1, y21.2)).set z19.2.1.toNat (y22.1, (IntKind.wrap .i64 (z19.1 + (1 : Int)), y22.2.2))).set z19.2.1.toNat (y23.1, (y23.2.1, (IntKind.wrap .i64 ((IntKind.wrap .i64 (z19.1 + (1 : Int))) + (1 : Int)), y23.2.2.2)))).set z19.2.1.toNat (y24.1, (y24.2.1, (y24.2.2.1, ((IntKind.wrap .i64 ((IntKind.wrap .i64 ((IntKind.wrap .i64 (z19.1 + (1 : Int))) + (1 : Int))) + (1 : Int)), y24.2.2.2.1.2), y24.2.2.2.2))))).set z19.2.1.toNat (y25.1, (y25.2.1, (y25.2.2.1, ((y25.2.2.2.1.1, IntKind.wrap .i64 ((IntKind.wrap .i64 ((IntKind.wrap .i64 ((IntKind.wrap .i64 (z19.1 + (1 : Int))) + (1 : Int))) + (1 : Int))) + (1 : Int))), y25.2.2.2.2))))).set z19.2.1.toNat (y27.1, (y27.2.1, (y27.2.2.1, (y27.2.2.2.1, r28.2))))))))))))))))))))
  (some (z19.1, z19.2.2)))) n z0)
def p_laws_markSlotS (n : Nat) (x : ((List (Int × (Int × (Int × ((Int × Int) × (List (Int × Int))))))) × Int)) : Option (Int × (List (Int × (Int × (Int × ((Int × Int) × (List (Int × Int)))))))) :=
(l_laws_markSlotS_1 n  (x.2, (0 : Int), x.1))
def m_laws_markSlotS (x : ((List (Int × (Int × (Int × ((Int × Int) × (List (Int × Int))))))) × Int)) : Option (Int × (List (Int × (Int × (Int × ((Int × Int) × (List (Int × Int)))))))) := p_laws_markSlotS FU x
def a_laws_markSlotS : Ann := (.node .leaf (.node (.node .leaf (.loop [.slot 1 (.int .i64), .slot 5 (.int .i64), .row 0 135 (.pair (.int .i64) (.pair (.int .i64) (.pair (.int .i64) (.pair (.pair (.int .i64) (.int .i64)) (.sl (some 79) (.pair (.int .i64) (.int .i64)))))))] [6, 7, 8, 9, 10, 11, 12, 13, 14, 15, 16, 17, 18, 19, 20, 21, 22, 23, 24, 25, 26, 27, 28, 29, 30, 31, 32, 33, 34, 35, 36, 37, 38, 39, 40, 41, 42, 43, 44, 45, 46, 47, 48, 49, 50, 51, 52, 53, 54, 55] .leaf)) .leaf))
def S_laws_markSlotS : FSpec := ⟨[.row 135 (.pair (.int .i64) (.pair (.int .i64) (.pair (.int .i64) (.pair (.pair (.int .i64) (.int .i64)) (.sl (some 79) (.pair (.int .i64) (.int .i64))))))), .val (.int .i64)], [(.int .i64)], m_laws_markSlotS⟩

/-! laws.markAcceptorS -/
def l_laws_markAcceptorS_1 (n : Nat)  (z0 : (Int × (Int × (List (List (Int × (Int × (Int × ((Int × Int) × (List (Int × Int))))))))))) : Option (Int × (List (List (Int × (Int × (Int × ((Int × Int) × (List (Int × Int))))))))) :=
(lp (fun rec10 (z9 : (Int × (Int × (List (List (Int × (Int × (Int × ((Int × Int) × (List (Int × Int))))))))))) =>
 (cond (decide (z9.2.1 < (lenI z9.2.2)))
  ((geti z9.2.2 z9.2.1).bind fun _ =>
  ((z9.2.2[z9.2.1.toNat]?).bind fun y11 =>
  ((z9.2.2[z9.2.1.toNat]?).bind fun y12 =>
  ((m_laws_markSlotS (y12, z9.1)).bind fun r13 =>
  rec10 (r13.1, IntKind.wrap .i64 (z9.2.1 + (1 : Int)), (z9.2.2.set z9.2.1.toNat r13.2))))))
  (some (z9.1, z9.2.2)))) n z0)
def p_laws_markAcceptorS (n : Nat) (x : ((List (List (Int × (Int × (Int × ((Int × Int) × (List (Int × Int)))))))) × Int)) : Option (Int × (List (List (Int × (Int × (Int × ((Int × Int) × (List (Int × Int))))))))) :=
(l_laws_markAcceptorS_1 n  (x.2, (0 : Int), x.1))
def m_laws_markAcceptorS (x : ((List (List (Int × (Int × (Int × ((Int × Int) × (List (Int × Int)))))))) × Int)) : Option (Int × (List (List (Int × (Int × (Int × ((Int × Int) × (List (Int × Int))))))))) := p_laws_markAcceptorS FU x
def a_laws_markAcceptorS : Ann := (.node .leaf (.node (.node .leaf (.loop [.slot 1 (.int .i64), .slot 5 (.int .i64), .row 0 124 (.one (.sl (some 135) (.pair (.int .i64) (.pair (.int .i64) (.pair (.int .i64) (.pair (.pair (.int .i64) (.int .i64)) (.sl (some 79) (.pair (.int .i64) (.int .i64)))))))))] [6, 7, 8, 9, 10, 11, 12, 13, 14, 15, 16, 17, 18] .leaf)) .leaf))
def S_laws_markAcceptorS : FSpec := ⟨[.row 124 (.one (.sl (some 135) (.pair (.int .i64) (.pair (.int .i64) (.pair (.int .i64) (.pair (.pair (.int .i64) (.int .i64)) (.sl (some 79) (.pair (.int .i64) (.int .i64))))))))), .val (.int .i64)], [(.int .i64)], m_laws_markAcceptorS⟩

/-! laws.markInt64S -/
def l_laws_markInt64S_1 (n : Nat)  (z0 : (Int × (Int × (List Int)))) : Option (Int × (List Int)) :=
(lp (fun rec6 (z5 : (Int × (Int × (List Int)))) =>
 (cond (decide (z5.2.1 < (lenI z5.2.2)))
  ((geti z5.2.2 z5.2.1).bind fun _ =>
  ((z5.2.2[z5.2.1.toNat]?).bind fun y7 =>
  rec6 (IntKind.wrap .i64 (z5.1 + (1 : Int)), IntKind.wrap .i64 (z5.2.1 + (1 : Int)), (z5.2.2.set z5.2.1.toNat z5.1))))
  (some (z5.1, z5.2.2)))) n z0)
def p_laws_markInt64S (n : Nat) (x : ((List Int) × Int)) : Option (Int × (List Int)) :=
(l_laws_markInt64S_1 n  (x.2, (0 : Int), x.1))
def m_laws_markInt64S (x : ((List Int) × Int)) : Option (Int × (List Int)) := p_laws_markInt64S FU x
def a_laws_markInt64S : Ann := (.node .leaf (.node (.node .leaf (.loop [.slot 1 (.int .i64), .slot 5 (.int .i64), .row 0 2 (.int .i64)] [6, 7, 8, 9, 10, 11, 12, 13, 14, 15, 16, 17] .leaf)) .leaf))
def S_laws_markInt64S : FSpec := ⟨[.row 2 (.int .i64), .val (.int .i64)], [(.int .i64)], m_laws_markInt64S⟩

/-! laws.heldVoteS -/
def l_laws_heldVoteS_1 (n : Nat) (x_1 : (List (Int × Int))) (z0 : (Int × Int)) : Option Int :=
(lp (fun rec5 (z4 : (Int × Int)) =>
 (cond (decide (z4.2 < (lenI x_1)))
  ((geti x_1 z4.2).bind fun y6 =>
  (cond (!(y6.1 == z4.1))
   (some (-1 : Int))
   ((geti x_1 z4.2).bind fun y7 =>
   (cond (!(y7.2 == (IntKind.wrap .i64 (z4.1 + (1 : Int)))))
    (some (-1 : Int))
    (rec5 (IntKind.wrap .i64 ((IntKind.wrap .i64 (z4.1 + (1 : Int))) + (1 : Int)), IntKind.wrap .i64 (z4.2 + (1 : Int))))))))
  (some z4.1))) n z0)
def p_laws_heldVoteS (n : Nat) (x : ((List (Int × Int)) × Int)) : Option Int :=
(l_laws_heldVoteS_1 n x.1 (x.2, (0 : Int)))
def m_laws_heldVoteS (x : ((List (Int × Int)) × Int)) : Option Int := p_laws_heldVoteS FU x
def a_laws_heldVoteS : Ann := (.node .leaf (.node (.node .leaf (.loop [.slot 1 (.int .i64), .slot 5 (.int .i64)] [4, 6, 7, 8, 9, 10, 11, 12, 13, 14, 15, 16, 17, 18, 19, 20, 21, 22, 23, 24, 25, 26, 27, 28, 29] .leaf)) .leaf))
def S_laws_heldVoteS : FSpec := ⟨[.val (.sl none (.pair (.int .i64) (.int .i64))), .val (.int .i64)], [(.int .i64)], m_laws_heldVoteS⟩

/-! laws.heldSlotS -/
def l_laws_heldSlotS_1 (n : Nat) (x_1 : (List (Int × (Int × (Int × ((Int × Int) × (List (Int × Int)))))))) (z0 : (Int × Int)) : Option Int :=
(lp (fun rec10 (z9 : (Int × Int)) =>
 (cond (decide (z9.2 < (lenI x_1)))
  ((geti x_1 z9.2).bind fun y11 =>
  (cond (!(y11.1 == z9.1))
   (some (-1 : Int))
   ((geti x_1 z9.2).bind fun y12 =>
   (cond (!(y12.2.1 == (IntKind.wrap .i64 (z9.1 + (1 : Int)))))
    (some (-1 : Int))
    ((geti x_1 z9.2).bind fun y13 =>
    (cond (!(y13.2.2.1 == (IntKind.wrap .i64 ((IntKind.wrap .i64 (z9.1 + (1 : Int))) + (1 : Int)))))
     (some (-1 : Int))
     ((geti x_1 z9.2).bind fun y14 =>
     (cond (!(y14.2.2.2.1.1 == (IntKind.wrap .i64 ((IntKind.wrap .i64 ((IntKind.wrap .i64 (z9.1 + (1 : Int))) + (1 : Int))) + (1 : Int)))))
      (some (-1 : Int))
      ((geti x_1 z9.2).bind fun y15 =>
      (cond (!(y15.2.2.2.1.2 == (IntKind.wrap .i64 ((IntKind.wrap .i64 ((IntKind.wrap .i64 ((IntKind.wrap .i64 (z9.1 + (1 : Int))) + (1 : Int))) + (1 : Int))) + (1 : Int)))))
       (some (-1 : Int))
       ((geti x_1 z9.2).bind fun y16 =>
       ((m_laws_heldVoteS (y16.2.2.2.2, IntKind.wrap .i64 ((IntKind.wrap .i64 ((IntKind.wrap .i64 ((IntKind.wrap .i64 ((IntKind.wrap .i64 (z9.1 + (1 : Int))) + (1 : Int))) + (1 : Int))) + (1 : Int))) + (1 : Int)))).bind fun r17 =>
       (cond (decide (r17 < (0 : Int)))
        (some (-1 : Int))
        (rec10 (r17, IntKind.wrap .i64 (z9.2 + (1 : Int)))))))))))))))))
  (some z9.1))) n z0)
def p_laws_heldSlotS (n : Nat) (x : ((List (Int × (Int × (Int × ((Int × Int) × (List (Int × Int))))))) × Int)) : Option Int :=
(l_laws_heldSlotS_1 n x.1 (x.2, (0 : Int)))
def m_laws_heldSlotS (x : ((List (Int × (Int × (Int × ((Int × Int) × (List (Int × Int))))))) × Int)) : Option Int := p_laws_heldSlotS FU x
def a_laws_heldSlotS : Ann := (.node .leaf (.node (.node .leaf (.loop [.slot 1 (.int .i64), .slot 5 (.int .i64)] [4, 6, 7, 8, 9, 10, 11, 12, 13, 14, 15, 16, 17, 18, 19, 20, 21, 22, 23, 24, 25, 26, 27, 28, 29, 30, 31, 32, 33, 34, 35, 36, 37, 38, 39, 40, 41, 42, 43, 44, 45, 46, 47, 48, 49, 50, 51, 52, 53, 54, 55, 56, 57, 58, 59, 60, 61, 62, 63, 64, 65, 66, 67] .leaf)) .leaf))
def S_laws_heldSlotS : FSpec := ⟨[.val (.sl none (.pair (.int .i64) (.pair (.int .i64) (.pair (.int .i64) (.pair (.pair (.int .i64) (.int .i64)) (.sl none (.pair (.int .i64) (.int .i64)))))))), .val (.int .i64)], [(.int .i64)], m_laws_heldSlotS⟩

/-! laws.heldAcceptorS -/
def l_laws_heldAcceptorS_1 (n : Nat) (x_1 : (List (List (Int × (Int × (Int × ((Int × Int) × (List (Int × Int))))))))) (z0 : (Int × Int)) : Option Int :=
(lp (fun rec5 (z4 : (Int × Int)) =>
 (cond (decide (z4.2 < (lenI x_1)))
  ((geti x_1 z4.2).bind fun y6 =>
  ((m_laws_heldSlotS (y6, z4.1)).bind fun r7 =>
  (cond (decide (r7 < (0 : Int)))
   (some (-1 : Int))
   (rec5 (r7, IntKind.wrap .i64 (z4.2 + (1 : Int)))))))
  (some z4.1))) n z0)
def p_laws_heldAcceptorS (n : Nat) (x : ((List (List (Int × (Int × (Int × ((Int × Int) × (List (Int × Int)))))))) × Int)) : Option Int :=
(l_laws_heldAcceptorS_1 n x.1 (x.2, (0 : Int)))
def m_laws_heldAcceptorS (x : ((List (List (Int × (Int × (Int × ((Int × Int) × (List (Int × Int)))))))) × Int)) : Option Int := p_laws_heldAcceptorS FU x
def a_laws_heldAcceptorS : Ann := (.node .leaf (.node (.node .leaf (.loop [.slot 1 (.int .i64), .slot 5 (.int .i64)] [4, 6, 7, 8, 9, 10, 11, 12, 13, 14, 15, 16, 17, 18, 19, 20] .leaf)) .leaf))
def S_laws_heldAcceptorS : FSpec := ⟨[.val (.sl none (.one (.sl none (.pair (.int .i64) (.pair (.int .i64) (.pair (.int .i64) (.pair (.pair (.int .i64) (.int .i64)) (.sl none (.pair (.int .i64) (.int .i64)))))))))), .val (.int .i64)], [(.int .i64)], m_laws_heldAcceptorS⟩

/-! laws.heldAcceptorsResult -/
def p_laws_heldAcceptorsResult (n : Nat) (x : ((Int × (Int × (List (List (Int × (Int × (Int × ((Int × Int) × (List (Int × Int)))))))))) × Int)) : Option Int :=
((m_laws_heldAcceptorS (x.1.2.2, x.2)).bind fun r1 =>
(cond (decide (r1 < (0 : Int)))
 (some (-1 : Int))
 (some r1)))
def m_laws_heldAcceptorsResult (x : ((Int × (Int × (List (List (Int × (Int × (Int × ((Int × Int) × (List (Int × Int)))))))))) × Int)) : Option Int := p_laws_heldAcceptorsResult FU x
def a_laws_heldAcceptorsResult : Ann := .leaf
def S_laws_heldAcceptorsResult : FSpec := ⟨[.val (.pair (.int .i64) (.pair (.int .i64) (.sl none (.one (.sl none (.pair (.int .i64) (.pair (.int .i64) (.pair (.int .i64) (.pair (.pair (.int .i64) (.int .i64)) (.sl none (.pair (.int .i64) (.int .i64)))))))))))), .val (.int .i64)], [(.int .i64)], m_laws_heldAcceptorsResult⟩

/-! laws.FnExactRunBallot -/
def p_laws_FnExactRunBallot (n : Nat) (x : ((List (List (Int × (Int × (Int × ((Int × Int) × (List (Int × Int)))))))) × ((List Int) × (Int × (Int × (Int × Int)))))) : Option Bool :=
(cond (decide ((lenI x.2.1) > (1048576 : Int)))
 (some true)
 ((m_laws_szAcceptorS (x.1, (1048576 : Int))).bind fun r1 =>
 (cond (decide (r1 < (0 : Int)))
  (some true)
  ((m_laws_toAcceptorS x.1).bind fun r2 =>
  ((m_laws_toInt64S x.2.1).bind fun r3 =>
  ((m_spec_RunBallot (r2, r3, x.2.2.1, x.2.2.2.1, x.2.2.2.2.1, x.2.2.2.2.2)).bind fun r4 =>
  ((m_laws_toAcceptorS x.1).bind fun r5 =>
  ((m_laws_toInt64S x.2.1).bind fun r6 =>
  ((m_impl_RunBallot (r5, r6, x.2.2.1, x.2.2.2.1, x.2.2.2.2.1, x.2.2.2.2.2)).bind fun r7 =>
  ((m_laws_eqAcceptorsResult (r7, r4)).bind fun r8 =>
  (cond (!r8)
   (some false)
   ((m_laws_toAcceptorS x.1).bind fun r9 =>
   ((m_laws_eqAcceptorS (r5, r9)).bind fun r10 =>
   (cond (!r10)
    (some false)
    ((m_laws_toInt64S x.2.1).bind fun r11 =>
    ((m_laws_eqInt64S (r6, r11)).bind fun r12 =>
    (cond (!r12)
     (some false)
     ((m_laws_markAcceptorS (r5, (1 : Int))).bind fun r13 =>
     ((m_laws_markInt64S (r6, r13.1)).bind fun r14 =>
     (Option.bind (α := Bool)
      (cond (decide (r14.1 < (0 : Int)))
       (some true)
       ((m_laws_eqAcceptorsResult (r7, r4)).bind fun r16 =>
       some (!r16))) fun j17 =>
     (cond j17
      (some false)
      ((m_laws_markAcceptorS (r7.2.2, (1 : Int))).bind fun r18 =>
      ((m_laws_heldAcceptorsResult ((r7.1, (r7.2.1, r18.2)), (1 : Int))).bind fun r19 =>
      (cond (decide (r19 < (0 : Int)))
       (some false)
       (cond (!(r19 == r18.1))
        (some false)
        ((m_laws_toAcceptorS x.1).bind fun r20 =>
        ((m_laws_toInt64S x.2.1).bind fun r21 =>
        ((m_impl_RunBallot (r20, r21, x.2.2.1, x.2.2.2.1, x.2.2.2.2.1, x.2.2.2.2.2)).bind fun r22 =>
        ((m_laws_eqAcceptorsResult (r22, r4)).bind fun r23 =>
        (cond (!r23)
         (some false)
         ((m_laws_heldAcceptorsResult ((r7.1, (r7.2.1, r18.2)), (1 : Int))).bind fun r24 =>
         (cond (decide (r24 < (0 : Int)))
          (some false)
          (cond (!(r24 == r18.1))
           (some false)
           (some true))))))))))))))))))))))))))))))))))
def m_laws_FnExactRunBallot (x : ((List (List (Int × (Int × (Int × ((Int × Int) × (List (Int × Int)))))))) × ((List Int) × (Int × (Int × (Int × Int)))))) : Option Bool := p_laws_FnExactRunBallot FU x
def a_laws_FnExactRunBallot : Ann := (.node .leaf (.node .leaf (.node .leaf (.node .leaf (.node .leaf (.node .leaf (.node .leaf (.node .leaf (.node .leaf (.node .leaf (.node .leaf (.node .leaf (.node .leaf (.node .leaf (.node .leaf (.node (.join [.slot 77 .bool] [70, 71, 72, 73, 74, 75, 76] .leaf .leaf) .leaf))))))))))))))))
def S_laws_FnExactRunBallot : FSpec := ⟨[.val (.sl none (.one (.sl none (.pair (.int .i64) (.pair (.int .i64) (.pair (.int .i64) (.pair (.pair (.int .i64) (.int .i64)) (.sl none (.pair (.int .i64) (.int .i64)))))))))), .val (.sl none (.int .i64)), .val (.int .i64), .val (.int .i64), .val (.int .i64), .val (.int .i64)], [.bool], m_laws_FnExactRunBallot⟩

def T : Tab := [
  (2, ⟨false, 1, 8, [], 0, [.int .i64 0], some (.int .i64), [0]⟩),
  (3, ⟨false, 1, 8, [], 0, [.int .i64 0], some (.int .i64), [0]⟩),
  (22, ⟨false, 1, 24, [], 114, [.nil], some (.sl none (.one (.sl none (.pair (.int .i64) (.pair (.int .i64) (.pair (.int .i64) (.pair (.pair (.int .i64) (.int .i64)) (.sl none (.pair (.int .i64) (.int .i64)))))))))), []⟩),
  (23, ⟨false, 1, 24, [], 2, [.nil], some (.sl none (.int .i64)), []⟩),
  (25, ⟨false, 1, 24, [], 124, [.nil], some (.sl none (.one (.sl none (.pair (.int .i64) (.pair (.int .i64) (.pair (.int .i64) (.pair (.pair (.int .i64) (.int .i64)) (.sl none (.pair (.int .i64) (.int .i64)))))))))), []⟩),
  (27, ⟨true, 3, 40, [(0, 1, 2), (1, 1, 2), (2, 1, 25)], 0, [.int .i64 0, .int .i64 0, .nil], some (.pair (.int .i64) (.pair (.int .i64) (.sl none (.one (.sl none (.pair (.int .i64) (.pair (.int .i64) (.pair (.int .i64) (.pair (.pair (.int .i64) (.int .i64)) (.sl none (.pair (.int .i64) (.int .i64)))))))))))), []⟩),
  (43, ⟨true, 2, 16, [(0, 1, 2), (1, 1, 2)], 0, [.int .i64 0, .int .i64 0], some (.pair (.int .i64) (.int .i64)), [0, 0]⟩),
  (67, ⟨true, 2, 16, [(0, 1, 2), (1, 1, 2)], 0, [.int .i64 0, .int .i64 0], some (.pair (.int .i64) (.int .i64)), [0, 0]⟩),
  (79, ⟨true, 2, 16, [(0, 1, 2), (1, 1, 2)], 0, [.int .i64 0, .int .i64 0], some (.pair (.int .i64) (.int .i64)), [0, 0]⟩),
  (112, ⟨false, 1, 24, [], 289, [.nil], some (.sl none (.pair (.int .i64) (.pair (.int .i64) (.pair (.int .i64) (.pair (.pair (.int .i64) (.int .i64)) (.sl none (.pair (.int .i64) (.int .i64)))))))), []⟩),
  (114, ⟨true, 1, 24, [(0, 1, 112)], 0, [.nil], some (.one (.sl none (.pair (.int .i64) (.pair (.int .i64) (.pair (.int .i64) (.pair (.pair (.int .i64) (.int .i64)) (.sl none (.pair (.int .i64) (.int .i64))))))))), []⟩),
  (115, ⟨false, 1, 24, [], 135, [.nil], some (.sl none (.pair (.int .i64) (.pair (.int .i64) (.pair (.int .i64) (.pair (.pair (.int .i64) (.int .i64)) (.sl none (.pair (.int .i64) (.int .i64)))))))), []⟩),
  (117, ⟨true, 2, 32, [(0, 1, 2), (1, 1, 115)], 0, [.int .i64 0, .nil], some (.pair (.int .i64) (.sl none (.pair (.int .i64) (.pair (.int .i64) (.pair (.int .i64) (.pair (.pair (.int .i64) (.int .i64)) (.sl none (.pair (.int .i64) (.int .i64))))))))), []⟩),
  (122, ⟨false, 1, 24, [], 79, [.nil], some (.sl none (.pair (.int .i64) (.int .i64))), []⟩),
  (124, ⟨true, 1, 24, [(0, 1, 115)], 0, [.nil], some (.one (.sl none (.pair (.int .i64) (.pair (.int .i64) (.pair (.int .i64) (.pair (.pair (.int .i64) (.int .i64)) (.sl none (.pair (.int .i64) (.int .i64))))))))), []⟩),
  (126, ⟨true, 4, 48, [(0, 1, 2), (1, 2, 79), (3, 1, 124)], 0, [.int .i64 0, .int .i64 0, .int .i64 0, .nil], some (.pair (.int .i64) (.pair (.pair (.int .i64) (.int .i64)) (.one (.sl none (.pair (.int .i64) (.pair (.int .i64) (.pair (.int .i64) (.pair (.pair (.int .i64) (.int .i64)) (.sl none (.pair (.int .i64) (.int .i64))))))))))), []⟩),
  (135, ⟨true, 6, 64, [(0, 1, 2), (1, 1, 2), (2, 1, 2), (3, 2, 79), (5, 1, 122)], 0, [.int .i64 0, .int .i64 0, .int .i64 0, .int .i64 0, .int .i64 0, .nil], some (.pair (.int .i64) (.pair (.int .i64) (.pair (.int .i64) (.pair (.pair (.int .i64) (.int .i64)) (.sl none (.pair (.int .i64) (.int .i64))))))), []⟩),
  (137, ⟨true, 9, 88, [(0, 1, 2), (1, 2, 79), (3, 6, 135)], 0, [.int .i64 0, .int .i64 0, .int .i64 0, .int .i64 0, .int .i64 0, .int .i64 0, .int .i64 0, .int .i64 0, .nil], some (.pair (.int .i64) (.pair (.pair (.int .i64) (.int .i64)) (.pair (.int .i64) (.pair (.int .i64) (.pair (.int .i64) (.pair (.pair (.int .i64) (.int .i64)) (.sl none (.pair (.int .i64) (.int .i64))))))))), []⟩),
  (287, ⟨false, 1, 24, [], 67, [.nil], some (.sl none (.pair (.int .i64) (.int .i64))), []⟩),
  (289, ⟨true, 6, 64, [(0, 1, 2), (1, 1, 2), (2, 1, 2), (3, 2, 67), (5, 1, 287)], 0, [.int .i64 0, .int .i64 0, .int .i64 0, .int .i64 0, .int .i64 0, .nil], some (.pair (.int .i64) (.pair (.int .i64) (.pair (.int .i64) (.pair (.pair (.int .i64) (.int .i64)) (.sl none (.pair (.int .i64) (.int .i64))))))), []⟩),
  (309, ⟨false, 1, 8, [], 0, [.int .u64 0], some (.int .u64), [0]⟩),
  (370, ⟨false, 1, 24, [], 3, [.nil], some (.sl none (.int .i64)), []⟩)]
def G_laws_szVoteS : Env := (301, S_laws_szVoteS) :: []
def G_laws_szSlot : Env := (247, S_laws_szSlot) :: G_laws_szVoteS
def G_laws_szSlotS : Env := (151, S_laws_szSlotS) :: G_laws_szSlot
def G_laws_szAcceptor : Env := (59, S_laws_szAcceptor) :: G_laws_szSlotS
def G_laws_szAcceptorS : Env := (11, S_laws_szAcceptorS) :: G_laws_szAcceptor
def G_laws_toVote : Env := (105, S_laws_toVote) :: G_laws_szAcceptorS
def G_laws_toVoteS : Env := (303, S_laws_toVoteS) :: G_laws_toVote
def G_laws_toSlot : Env := (252, S_laws_toSlot) :: G_laws_toVoteS
def G_laws_toSlotS : Env := (161, S_laws_toSlotS) :: G_laws_toSlot
def G_laws_toAcceptor : Env := (69, S_laws_toAcceptor) :: G_laws_toSlotS
def G_laws_toAcceptorS : Env := (13, S_laws_toAcceptorS) :: G_laws_toAcceptor
def G_laws_toInt64S : Env := (14, S_laws_toInt64S) :: G_laws_toAcceptorS
def G_spec_l1In : Env := (63, S_spec_l1In) :: G_laws_toInt64S
def G_spec_l1Id : Env := (181, S_spec_l1Id) :: G_spec_l1In
def G_spec_l8Ballot : Env := (61, S_spec_l8Ballot) :: G_spec_l1Id
def G_spec_l8Value : Env := (62, S_spec_l8Value) :: G_spec_l8Ballot
def G_spec_l8None : Env := (159, S_spec_l8None) :: G_spec_l8Value
def G_spec_l8Last : Env := (302, S_spec_l8Last) :: G_spec_l8None
def G_spec_SlotFault : Env := (250, S_spec_SlotFault) :: G_spec_l8Last
def G_spec_l9Ahead : Env := (263, S_spec_l9Ahead) :: G_spec_SlotFault
def G_spec_AcceptorFault : Env := (180, S_spec_AcceptorFault) :: G_spec_l9Ahead
def G_spec_l9List : Env := (86, S_spec_l9List) :: G_spec_AcceptorFault
def G_spec_NewSlot : Env := (152, S_spec_NewSlot) :: G_spec_l9List
def G_spec_l8Copy : Env := (248, S_spec_l8Copy) :: G_spec_NewSlot
def G_spec_l9Slot : Env := (158, S_spec_l9Slot) :: G_spec_l8Copy
def G_spec_l9Slots : Env := (153, S_spec_l9Slots) :: G_spec_l9Slot
def G_spec_SlotsFor : Env := (60, S_spec_SlotsFor) :: G_spec_l9Slots
def G_spec_l9Copy : Env := (154, S_spec_l9Copy) :: G_spec_SlotsFor
def G_spec_l9All : Env := (64, S_spec_l9All) :: G_spec_l9Copy
def G_spec_l9Asked : Env := (155, S_spec_l9Asked) :: G_spec_l9All
def G_spec_PromiseSlot : Env := (157, S_spec_PromiseSlot) :: G_spec_l9Asked
def G_spec_l9Set : Env := (249, S_spec_l9Set) :: G_spec_PromiseSlot
def G_spec_l9Told : Env := (156, S_spec_l9Told) :: G_spec_l9Set
def G_spec_PromiseAt : Env := (65, S_spec_PromiseAt) :: G_spec_l9Told
def G_spec_l8Quorum : Env := (66, S_spec_l8Quorum) :: G_spec_PromiseAt
def G_spec_l8Pick : Env := (67, S_spec_l8Pick) :: G_spec_l8Quorum
def G_spec_AcceptSlot : Env := (160, S_spec_AcceptSlot) :: G_spec_l8Pick
def G_spec_AcceptAt : Env := (68, S_spec_AcceptAt) :: G_spec_AcceptSlot
def G_spec_RunBallot : Env := (12, S_spec_RunBallot) :: G_spec_AcceptAt
def G_impl_size_impl_Acceptor : Env := (76, S_impl_size_impl_Acceptor) :: G_spec_RunBallot
def G_impl_within : Env := (106, S_impl_within) :: G_impl_size_impl_Acceptor
def G_impl_isId : Env := (163, S_impl_isId) :: G_impl_within
def G_impl_isShard : Env := (124, S_impl_isShard) :: G_impl_isId
def G_impl_isBallot : Env := (73, S_impl_isBallot) :: G_impl_isShard
def G_impl_isValue : Env := (74, S_impl_isValue) :: G_impl_isBallot
def G_impl_isVote : Env := (174, S_impl_isVote) :: G_impl_isValue
def G_impl_castFault : Env := (304, S_impl_castFault) :: G_impl_isVote
def G_impl_noVote : Env := (173, S_impl_noVote) :: G_impl_castFault
def G_impl_lastCast : Env := (305, S_impl_lastCast) :: G_impl_noVote
def G_impl_SlotFault : Env := (253, S_impl_SlotFault) :: G_impl_lastCast
def G_cmp_isNaN_int64 : Env := (334, S_cmp_isNaN_int64) :: G_impl_SlotFault
def G_cmp_Compare_int64 : Env := (282, S_cmp_Compare_int64) :: G_cmp_isNaN_int64
def G_cmp_Or_int : Env := (281, S_cmp_Or_int) :: G_cmp_Compare_int64
def G_impl_compareSlots : Env := (254, S_impl_compareSlots) :: G_cmp_Or_int
def G_impl_AcceptorFault : Env := (162, S_impl_AcceptorFault) :: G_impl_compareSlots
def G_impl_listFault : Env := (71, S_impl_listFault) :: G_impl_AcceptorFault
def G_impl_newSlot : Env := (164, S_impl_newSlot) :: G_impl_listFault
def G_impl_NewSlot : Env := (72, S_impl_NewSlot) :: G_impl_newSlot
def G_impl_firstOf : Env := (70, S_impl_firstOf) :: G_impl_NewSlot
def G_impl_reachedFault : Env := (75, S_impl_reachedFault) :: G_impl_firstOf
def G_slices_Clone_impl_Vote_impl_Vote : Env := (306, S_slices_Clone_impl_Vote_impl_Vote) :: G_impl_reachedFault
def G_impl_copySlot : Env := (256, S_impl_copySlot) :: G_slices_Clone_impl_Vote_impl_Vote
def G_impl_copyAcceptor : Env := (167, S_impl_copyAcceptor) :: G_impl_copySlot
def G_impl_copyAcceptors : Env := (77, S_impl_copyAcceptors) :: G_impl_copyAcceptor
def G_impl_Acceptor_slotAt : Env := (258, S_impl_Acceptor_slotAt) :: G_impl_copyAcceptors
def G_impl_Acceptor_slot : Env := (257, S_impl_Acceptor_slot) :: G_impl_Acceptor_slotAt
def G_impl_PromiseSlot : Env := (170, S_impl_PromiseSlot) :: G_impl_Acceptor_slot
def G_slices_Insert_impl_Slot_impl_Slot : Env := (259, S_slices_Insert_impl_Slot_impl_Slot) :: G_impl_PromiseSlot
def G_impl_Acceptor_promise : Env := (78, S_impl_Acceptor_promise) :: G_slices_Insert_impl_Slot_impl_Slot
def G_impl_quorum : Env := (79, S_impl_quorum) :: G_impl_Acceptor_promise
def G_impl_PickValue_1 : Env := (172, S_impl_PickValue_1) :: G_impl_quorum
def G_impl_PickValue : Env := (80, S_impl_PickValue) :: G_impl_PickValue_1
def G_impl_AcceptSlot : Env := (176, S_impl_AcceptSlot) :: G_impl_PickValue
def G_impl_Acceptor_accept : Env := (81, S_impl_Acceptor_accept) :: G_impl_AcceptSlot
def G_impl_RunBallot : Env := (15, S_impl_RunBallot) :: G_impl_Acceptor_accept
def G_laws_eqVote : Env := (280, S_laws_eqVote) :: G_impl_RunBallot
def G_laws_eqVoteS : Env := (310, S_laws_eqVoteS) :: G_laws_eqVote
def G_laws_eqSlot : Env := (261, S_laws_eqSlot) :: G_laws_eqVoteS
def G_laws_eqSlotS : Env := (177, S_laws_eqSlotS) :: G_laws_eqSlot
def G_laws_eqAcceptor : Env := (82, S_laws_eqAcceptor) :: G_laws_eqSlotS
def G_laws_eqAcceptorS : Env := (17, S_laws_eqAcceptorS) :: G_laws_eqAcceptor
def G_laws_eqAcceptorsResult : Env := (16, S_laws_eqAcceptorsResult) :: G_laws_eqAcceptorS
def G_laws_eqInt64S : Env := (18, S_laws_eqInt64S) :: G_laws_eqAcceptorsResult
def G_laws_markVoteS : Env := (178, S_laws_markVoteS) :: G_laws_eqInt64S
def G_laws_markSlotS : Env := (83, S_laws_markSlotS) :: G_laws_markVoteS
def G_laws_markAcceptorS : Env := (19, S_laws_markAcceptorS) :: G_laws_markSlotS
def G_laws_markInt64S : Env := (20, S_laws_markInt64S) :: G_laws_markAcceptorS
def G_laws_heldVoteS : Env := (262, S_laws_heldVoteS) :: G_laws_markInt64S
def G_laws_heldSlotS : Env := (179, S_laws_heldSlotS) :: G_laws_heldVoteS
def G_laws_heldAcceptorS : Env := (84, S_laws_heldAcceptorS) :: G_laws_heldSlotS
def G_laws_heldAcceptorsResult : Env := (22, S_laws_heldAcceptorsResult) :: G_laws_heldAcceptorS
def G_laws_FnExactRunBallot : Env := (3, S_laws_FnExactRunBallot) :: G_laws_heldAcceptorsResult
end
end Go.RvP
