/- The plain functions that the evaluator comes to, for FnExactAcceptAt. No condition. -/
import Derived.Test.YtlpfmkjihbancaaRvL
import Derived.Test.YtlpfmkjihbancaaRvY
namespace Go.RvP
open Go Go.Rv
noncomputable section
/-! laws.szVoteS -/
def p_laws_szVoteS (n : Nat) (x : ((List (Int × Int)) × Int)) : Option Int :=
(cond (decide ((IntKind.wrap .i64 (x.2 - (lenI x.1))) < (0 : Int)))
 (some (-1 : Int))
 (some (IntKind.wrap .i64 (x.2 - (lenI x.1)))))
def m_laws_szVoteS (x : ((List (Int × Int)) × Int)) : Option Int := p_laws_szVoteS FU x
def a_laws_szVoteS : Ann := .leaf
def S_laws_szVoteS : FSpec := ⟨[.val (.sl none (.pair (.int .i64) (.int .i64))), .val (.int .i64)], [(.int .i64)], m_laws_szVoteS⟩

/-! laws.szSlot -/
def p_laws_szSlot (n : Nat) (x : ((Int × (Int × (Int × ((Int × Int) × (List (Int × Int)))))) × Int)) : Option Int :=
((m_laws_szVoteS (x.1.2.2.2.2, x.2)).bind fun r1 =>
(cond (decide (r1 < (0 : Int)))
 (some (-1 : Int))
 (some r1)))
def m_laws_szSlot (x : ((Int × (Int × (Int × ((Int × Int) × (List (Int × Int)))))) × Int)) : Option Int := p_laws_szSlot FU x
def a_laws_szSlot : Ann := .leaf
def S_laws_szSlot : FSpec := ⟨[.val (.pair (.int .i64) (.pair (.int .i64) (.pair (.int .i64) (.pair (.pair (.int .i64) (.int .i64)) (.sl none (.pair (.int .i64) (.int .i64))))))), .val (.int .i64)], [(.int .i64)], m_laws_szSlot⟩

/-! laws.szSlotS -/
def l_laws_szSlotS_1 (n : Nat) (x_1 : (List (Int × (Int × (Int × ((Int × Int) × (List (Int × Int)))))))) (z0 : (Int × Int)) : Option Int :=
(lp (fun rec5 (z4 : (Int × Int)) =>
 (cond (decide (z4.2 < (lenI x_1)))
  ((geti x_1 z4.2).bind fun y6 =>
  ((m_laws_szSlot (y6, z4.1)).bind fun r7 =>
  (cond (decide (r7 < (0 : Int)))
   (some (-1 : Int))
   (rec5 (r7, IntKind.wrap .i64 (z4.2 + (1 : Int)))))))
  (some z4.1))) n z0)
def p_laws_szSlotS (n : Nat) (x : ((List (Int × (Int × (Int × ((Int × Int) × (List (Int × Int))))))) × Int)) : Option Int :=
(cond (decide ((IntKind.wrap .i64 (x.2 - (lenI x.1))) < (0 : Int)))
 (some (-1 : Int))
 (l_laws_szSlotS_1 n x.1 (IntKind.wrap .i64 (x.2 - (lenI x.1)), (0 : Int))))
def m_laws_szSlotS (x : ((List (Int × (Int × (Int × ((Int × Int) × (List (Int × Int))))))) × Int)) : Option Int := p_laws_szSlotS FU x
def a_laws_szSlotS : Ann := (.node .leaf (.node .leaf (.node .leaf (.node (.node .leaf (.loop [.slot 1 (.int .i64), .slot 5 (.int .i64)] [4, 12, 13, 14, 15, 16, 17, 18, 19, 20, 21, 22, 23, 24, 25] .leaf)) .leaf))))
def S_laws_szSlotS : FSpec := ⟨[.val (.sl none (.pair (.int .i64) (.pair (.int .i64) (.pair (.int .i64) (.pair (.pair (.int .i64) (.int .i64)) (.sl none (.pair (.int .i64) (.int .i64)))))))), .val (.int .i64)], [(.int .i64)], m_laws_szSlotS⟩

/-! laws.szAcceptor -/
def p_laws_szAcceptor (n : Nat) (x : ((List (Int × (Int × (Int × ((Int × Int) × (List (Int × Int))))))) × Int)) : Option Int :=
((m_laws_szSlotS (x.1, x.2)).bind fun r1 =>
(cond (decide (r1 < (0 : Int)))
 (some (-1 : Int))
 (some r1)))
def m_laws_szAcceptor (x : ((List (Int × (Int × (Int × ((Int × Int) × (List (Int × Int))))))) × Int)) : Option Int := p_laws_szAcceptor FU x
def a_laws_szAcceptor : Ann := .leaf
def S_laws_szAcceptor : FSpec := ⟨[.val (.one (.sl none (.pair (.int .i64) (.pair (.int .i64) (.pair (.int .i64) (.pair (.pair (.int .i64) (.int .i64)) (.sl none (.pair (.int .i64) (.int .i64))))))))), .val (.int .i64)], [(.int .i64)], m_laws_szAcceptor⟩

/-! laws.toVote -/
def p_laws_toVote (n : Nat) (x : (Int × Int)) : Option (Int × Int) :=
some x
def m_laws_toVote (x : (Int × Int)) : Option (Int × Int) := p_laws_toVote FU x
def a_laws_toVote : Ann := .leaf
def S_laws_toVote : FSpec := ⟨[.val (.pair (.int .i64) (.int .i64))], [(.pair (.int .i64) (.int .i64))], m_laws_toVote⟩

/-! laws.toVoteS -/
def l_laws_toVoteS_1 (n : Nat) (x : (List (Int × Int))) (z0 : (Int × (List (Int × Int)))) : Option (List (Int × Int)) :=
(lp (fun rec10 (z9 : (Int × (List (Int × Int)))) =>
 (cond (decide (z9.1 < (lenI x)))
  ((geti x z9.1).bind fun y11 =>
  ((m_laws_toVote y11).bind fun r12 =>
  ((geti z9.2 z9.1).bind fun _ =>
  ((z9.2[z9.1.toNat]?).bind fun y13 =>
  rec10 (IntKind.wrap .i64 (z9.1 + (1 : Int)), (z9.2.set z9.1.toNat r12))))))
  (some z9.2))) n z0)
def p_laws_toVoteS (n : Nat) (x : (List (Int × Int))) : Option (List (Int × Int)) :=
(if (lenI x) = (lenI x) then (if 0 ≤ (lenI x) then chk (Nat.ble (16 * (lenI x).toNat) maxBytes)
(l_laws_toVoteS_1 n x ((0 : Int), (List.replicate (lenI x).toNat ((0 : Int), (0 : Int))))) else none) else none)
def m_laws_toVoteS (x : (List (Int × Int))) : Option (List (Int × Int)) := p_laws_toVoteS FU x
def a_laws_toVoteS : Ann := (.node .leaf (.node .leaf (.node (.node .leaf (.loop [.slot 4 (.int .i64), .row 0 62 (.pair (.int .i64) (.int .i64))] [8, 9, 10, 11, 12, 13, 14, 15, 16, 17, 18, 19, 20, 21] .leaf)) .leaf)))
def S_laws_toVoteS : FSpec := ⟨[.val (.sl none (.pair (.int .i64) (.int .i64)))], [(.sl (some 62) (.pair (.int .i64) (.int .i64)))], m_laws_toVoteS⟩

/-! laws.toSlot -/
def p_laws_toSlot (n : Nat) (x : (Int × (Int × (Int × ((Int × Int) × (List (Int × Int))))))) : Option (Int × (Int × (Int × ((Int × Int) × (List (Int × Int)))))) :=
((m_laws_toVote x.2.2.2.1).bind fun r1 =>
((m_laws_toVoteS x.2.2.2.2).bind fun r2 =>
some (x.1, (x.2.1, (x.2.2.1, (r1, r2))))))
def m_laws_toSlot (x : (Int × (Int × (Int × ((Int × Int) × (List (Int × Int))))))) : Option (Int × (Int × (Int × ((Int × Int) × (List (Int × Int)))))) := p_laws_toSlot FU x
def a_laws_toSlot : Ann := .leaf
def S_laws_toSlot : FSpec := ⟨[.val (.pair (.int .i64) (.pair (.int .i64) (.pair (.int .i64) (.pair (.pair (.int .i64) (.int .i64)) (.sl none (.pair (.int .i64) (.int .i64)))))))], [(.pair (.int .i64) (.pair (.int .i64) (.pair (.int .i64) (.pair (.pair (.int .i64) (.int .i64)) (.sl (some 62) (.pair (.int .i64) (.int .i64)))))))], m_laws_toSlot⟩

/-! laws.toSlotS -/
def l_laws_toSlotS_1 (n : Nat) (x : (List (Int × (Int × (Int × ((Int × Int) × (List (Int × Int)))))))) (z0 : (Int × (List (Int × (Int × (Int × ((Int × Int) × (List (Int × Int))))))))) : Option (List (Int × (Int × (Int × ((Int × Int) × (List (Int × Int))))))) :=
(lp (fun rec8 (z7 : (Int × (List (Int × (Int × (Int × ((Int × Int) × (List (Int × Int))))))))) =>
 (cond (decide (z7.1 < (lenI x)))
  ((geti x z7.1).bind fun y9 =>
  ((m_laws_toSlot y9).bind fun r10 =>
  ((geti z7.2 z7.1).bind fun _ =>
  ((z7.2[z7.1.toNat]?).bind fun _ =>
  rec8 (IntKind.wrap .i64 (z7.1 + (1 : Int)), (z7.2.set z7.1.toNat r10))))))
  (some z7.2))) n z0)
def p_laws_toSlotS (n : Nat) (x : (List (Int × (Int × (Int × ((Int × Int) × (List (Int × Int)))))))) : Option (List (Int × (Int × (Int × ((Int × Int) × (List (Int × Int))))))) :=
(if (lenI x) = (lenI x) then (if 0 ≤ (lenI x) then chk (Nat.ble (64 * (lenI x).toNat) maxBytes)
(l_laws_toSlotS_1 n x ((0 : Int), (List.replicate (lenI x).toNat ((0 : Int), ((0 : Int), ((0 : Int), (((0 : Int), (0 : Int)), []))))))) else none) else none)
def m_laws_toSlotS (x : (List (Int × (Int × (Int × ((Int × Int) × (List (Int × Int)))))))) : Option (List (Int × (Int × (Int × ((Int × Int) × (List (Int × Int))))))) := p_laws_toSlotS FU x
def a_laws_toSlotS : Ann := (.node .leaf (.node (.own 7 (.pair (.int .i64) (.pair (.int .i64) (.pair (.int .i64) (.pair (.pair (.int .i64) (.int .i64)) (.sl (some 62) (.pair (.int .i64) (.int .i64))))))) .leaf) (.node (.node .leaf (.loop [.slot 4 (.int .i64), .row 0 114 (.pair (.int .i64) (.pair (.int .i64) (.pair (.int .i64) (.pair (.pair (.int .i64) (.int .i64)) (.sl (some 62) (.pair (.int .i64) (.int .i64)))))))] [8, 9, 10, 11, 12, 13, 14, 15, 16, 17, 18, 19, 20, 21] .leaf)) .leaf)))
def S_laws_toSlotS : FSpec := ⟨[.val (.sl none (.pair (.int .i64) (.pair (.int .i64) (.pair (.int .i64) (.pair (.pair (.int .i64) (.int .i64)) (.sl none (.pair (.int .i64) (.int .i64))))))))], [(.sl (some 114) (.pair (.int .i64) (.pair (.int .i64) (.pair (.int .i64) (.pair (.pair (.int .i64) (.int .i64)) (.sl (some 62) (.pair (.int .i64) (.int .i64))))))))], m_laws_toSlotS⟩

/-! laws.toAcceptor -/
def p_laws_toAcceptor (n : Nat) (x : (List (Int × (Int × (Int × ((Int × Int) × (List (Int × Int)))))))) : Option (List (Int × (Int × (Int × ((Int × Int) × (List (Int × Int))))))) :=
((m_laws_toSlotS x).bind fun r1 =>
some r1)
def m_laws_toAcceptor (x : (List (Int × (Int × (Int × ((Int × Int) × (List (Int × Int)))))))) : Option (List (Int × (Int × (Int × ((Int × Int) × (List (Int × Int))))))) := p_laws_toAcceptor FU x
def a_laws_toAcceptor : Ann := .leaf
def S_laws_toAcceptor : FSpec := ⟨[.val (.one (.sl none (.pair (.int .i64) (.pair (.int .i64) (.pair (.int .i64) (.pair (.pair (.int .i64) (.int .i64)) (.sl none (.pair (.int .i64) (.int .i64)))))))))], [(.one (.sl (some 114) (.pair (.int .i64) (.pair (.int .i64) (.pair (.int .i64) (.pair (.pair (.int .i64) (.int .i64)) (.sl (some 62) (.pair (.int .i64) (.int .i64)))))))))], m_laws_toAcceptor⟩

/-! spec.l1In -/
def p_spec_l1In (n : Nat) (x : (Int × (Int × Int))) : Option Bool :=
(cond (decide (x.1 ≥ x.2.1))
 (some (decide (x.1 ≤ x.2.2)))
 (some false))
def m_spec_l1In (x : (Int × (Int × Int))) : Option Bool := p_spec_l1In FU x
def a_spec_l1In : Ann := .leaf
def S_spec_l1In : FSpec := ⟨[.val (.int .i64), .val (.int .i64), .val (.int .i64)], [.bool], m_spec_l1In⟩

/-! spec.l1Id -/
def p_spec_l1Id (n : Nat) (x : Int) : Option Bool :=
((m_spec_l1In (x, (1 : Int), (1000000000 : Int))).bind fun r1 =>
some r1)
def m_spec_l1Id (x : Int) : Option Bool := p_spec_l1Id FU x
def a_spec_l1Id : Ann := .leaf
def S_spec_l1Id : FSpec := ⟨[.val (.int .i64)], [.bool], m_spec_l1Id⟩

/-! spec.l8Ballot -/
def p_spec_l8Ballot (n : Nat) (x : Int) : Option Bool :=
((m_spec_l1In (x, (0 : Int), (1000 : Int))).bind fun r1 =>
some r1)
def m_spec_l8Ballot (x : Int) : Option Bool := p_spec_l8Ballot FU x
def a_spec_l8Ballot : Ann := .leaf
def S_spec_l8Ballot : FSpec := ⟨[.val (.int .i64)], [.bool], m_spec_l8Ballot⟩

/-! spec.l8Value -/
def p_spec_l8Value (n : Nat) (x : Int) : Option Bool :=
(cond (x == (1 : Int))
 (some true)
 (some (x == (2 : Int))))
def m_spec_l8Value (x : Int) : Option Bool := p_spec_l8Value FU x
def a_spec_l8Value : Ann := .leaf
def S_spec_l8Value : FSpec := ⟨[.val (.int .i64)], [.bool], m_spec_l8Value⟩

/-! spec.l8None -/
def p_spec_l8None (n : Nat) (x : Unit) : Option (Int × Int) :=
some ((-1 : Int), (0 : Int))
def m_spec_l8None (x : Unit) : Option (Int × Int) := p_spec_l8None FU x
def a_spec_l8None : Ann := .leaf
def S_spec_l8None : FSpec := ⟨[], [(.pair (.int .i64) (.int .i64))], m_spec_l8None⟩

/-! spec.l8Last -/
def p_spec_l8Last (n : Nat) (x : (Int × (Int × (Int × ((Int × Int) × (List (Int × Int))))))) : Option (Int × Int) :=
(cond ((lenI x.2.2.2.2) == (0 : Int))
 ((m_spec_l8None ()).bind fun r1 =>
 some r1)
 ((geti x.2.2.2.2 (IntKind.wrap .i64 ((lenI x.2.2.2.2) - (1 : Int)))).bind fun y2 =>
 some y2))
def m_spec_l8Last (x : (Int × (Int × (Int × ((Int × Int) × (List (Int × Int))))))) : Option (Int × Int) := p_spec_l8Last FU x
def a_spec_l8Last : Ann := .leaf
def S_spec_l8Last : FSpec := ⟨[.val (.pair (.int .i64) (.pair (.int .i64) (.pair (.int .i64) (.pair (.pair (.int .i64) (.int .i64)) (.sl none (.pair (.int .i64) (.int .i64)))))))], [(.pair (.int .i64) (.int .i64))], m_spec_l8Last⟩

/-! spec.SlotFault -/
def l_spec_SlotFault_1 (n : Nat) (x_2_2_2_2 : (List (Int × Int))) (z0 : Int) : Option (Unit ⊕ Int) :=
(lp (fun rec53 (z52 : Int) =>
 (cond (decide (z52 < (lenI x_2_2_2_2)))
  ((geti x_2_2_2_2 z52).bind fun y54 =>
  (Option.bind (α := Bool)
   ((m_spec_l8Ballot y54.1).bind fun r57 =>
   (cond (!r57)
    (some true)
    ((m_spec_l8Value y54.2).bind fun r58 =>
    some (!r58)))) fun j59 =>
  (cond j59
   (some (Sum.inr (3 : Int)))
   (Option.bind (α := Bool)
    (cond (decide (z52 > (0 : Int)))
     ((geti x_2_2_2_2 (IntKind.wrap .i64 (z52 - (1 : Int)))).bind fun y63 =>
     (cond (decide (y54.1 < y63.1))
      (some true)
      ((geti x_2_2_2_2 (IntKind.wrap .i64 (z52 - (1 : Int)))).bind fun y64 =>
      (cond (y54.1 == y64.1)
       ((geti x_2_2_2_2 (IntKind.wrap .i64 (z52 - (1 : Int)))).bind fun y65 =>
       some (!(y54.2 == y65.2)))
       (some false)))))
     (some false)) fun j66 =>
   (cond j66
    (some (Sum.inr (1 : Int)))
    (rec53 (IntKind.wrap .i64 (z52 + (1 : Int)))))))))
  (some (Sum.inl ())))) n z0)
def p_spec_SlotFault (n : Nat) (x : (Int × (Int × (Int × ((Int × Int) × (List (Int × Int))))))) : Option Int :=
(Option.bind (α := Bool)
 ((m_spec_l1Id x.1).bind fun r4 =>
 (cond (!r4)
  (some true)
  ((m_spec_l1In (x.2.1, (0 : Int), (2 : Int))).bind fun r5 =>
  (cond (!r5)
   (some true)
   ((m_spec_l1In (x.2.2.1, (-1 : Int), (1000 : Int))).bind fun r6 =>
   some (!r6)))))) fun j7 =>
(cond j7
 (some (3 : Int))
 (cond (decide ((lenI x.2.2.2.2) > (60 : Int)))
  (some (2 : Int))
  (Option.bind (α := (Unit ⊕ Int))
   (l_spec_SlotFault_1 n x.2.2.2.2 (0 : Int))
   (Sum.elim (fun j68 =>
  (Option.bind (α := Bool)
   ((m_spec_l8Last x).bind fun r70 =>
   (cond (!((x.2.2.2.1.1 == r70.1) && ((x.2.2.2.1.2 == r70.2) && true)))
    (some true)
    (some (decide (x.2.2.2.1.1 > x.2.2.1))))) fun j71 =>
  (cond j71
   (some (1 : Int))
   (some (0 : Int))))) some)))))
def m_spec_SlotFault (x : (Int × (Int × (Int × ((Int × Int) × (List (Int × Int))))))) : Option Int := p_spec_SlotFault FU x
def a_spec_SlotFault : Ann := (.node .leaf (.node (.join [.slot 20 .bool] [5, 6, 7, 8, 9, 10, 11, 12, 13, 14, 15, 16, 17, 18, 19] .leaf .leaf) (.node .leaf (.joinx [] [2, 3, 4, 25, 26, 27, 28, 29, 30, 31, 32, 33, 34, 35, 36, 37, 38, 39, 40, 41, 42, 43, 44, 45, 46, 47, 48, 49, 50, 51, 52, 53, 54, 55, 56, 57, 58, 59, 60, 61, 62, 63, 64, 65, 66, 67, 68, 69, 70, 71, 72, 73, 74, 75, 76, 77, 78, 79, 80, 81, 82, 83, 84] (.node .leaf (.loop [.slot 3 (.int .i64)] [2, 4, 25, 26, 27, 28, 29, 30, 31, 32, 33, 34, 35, 36, 37, 38, 39, 40, 41, 42, 43, 44, 45, 46, 47, 48, 49, 50, 51, 52, 53, 54, 55, 56, 57, 58, 59, 60, 61, 62, 63, 64, 65, 66, 67, 68, 69, 70, 71, 72, 73, 74, 75, 76, 77, 78, 79, 80, 81, 82, 83, 84] (.node .leaf (.node (.node .leaf (.node (.join [.slot 46 .bool] [37, 38, 39, 40, 41, 42, 43, 44, 45] .leaf .leaf) (.join [.slot 84 .bool] [47, 48, 49, 50, 51, 52, 53, 54, 55, 56, 57, 58, 59, 60, 61, 62, 63, 64, 65, 66, 67, 68, 69, 70, 71, 72, 73, 74, 75, 76, 77, 78, 79, 80, 81, 82, 83] .leaf .leaf))) .leaf)))) (.node (.join [.slot 97 .bool] [85, 86, 87, 88, 89, 90, 91, 92, 93, 94, 95, 96] .leaf .leaf) .leaf)))))
def S_spec_SlotFault : FSpec := ⟨[.val (.pair (.int .i64) (.pair (.int .i64) (.pair (.int .i64) (.pair (.pair (.int .i64) (.int .i64)) (.sl none (.pair (.int .i64) (.int .i64)))))))], [(.int .i64)], m_spec_SlotFault⟩

/-! spec.l9Ahead -/
def p_spec_l9Ahead (n : Nat) (x : ((Int × (Int × (Int × ((Int × Int) × (List (Int × Int)))))) × (Int × (Int × (Int × ((Int × Int) × (List (Int × Int)))))))) : Option Bool :=
(cond (!(x.1.1 == x.2.1))
 (some (decide (x.1.1 < x.2.1)))
 (some (decide (x.1.2.1 < x.2.2.1))))
def m_spec_l9Ahead (x : ((Int × (Int × (Int × ((Int × Int) × (List (Int × Int)))))) × (Int × (Int × (Int × ((Int × Int) × (List (Int × Int)))))))) : Option Bool := p_spec_l9Ahead FU x
def a_spec_l9Ahead : Ann := .leaf
def S_spec_l9Ahead : FSpec := ⟨[.val (.pair (.int .i64) (.pair (.int .i64) (.pair (.int .i64) (.pair (.pair (.int .i64) (.int .i64)) (.sl none (.pair (.int .i64) (.int .i64))))))), .val (.pair (.int .i64) (.pair (.int .i64) (.pair (.int .i64) (.pair (.pair (.int .i64) (.int .i64)) (.sl none (.pair (.int .i64) (.int .i64)))))))], [.bool], m_spec_l9Ahead⟩

/-! spec.AcceptorFault -/
def l_spec_AcceptorFault_1 (n : Nat) (x : (List (Int × (Int × (Int × ((Int × Int) × (List (Int × Int)))))))) (z0 : Int) : Option Int :=
(lp (fun rec12 (z11 : Int) =>
 (cond (decide (z11 < (lenI x)))
  ((geti x z11).bind fun y13 =>
  ((m_spec_SlotFault y13).bind fun r14 =>
  (cond (!(r14 == (0 : Int)))
   (some r14)
   (Option.bind (α := Bool)
    (cond (decide (z11 > (0 : Int)))
     ((geti x (IntKind.wrap .i64 (z11 - (1 : Int)))).bind fun y18 =>
     ((geti x z11).bind fun y19 =>
     ((m_spec_l9Ahead (y18, y19)).bind fun r20 =>
     some (!r20))))
     (some false)) fun j21 =>
   (cond j21
    (some (1 : Int))
    (rec12 (IntKind.wrap .i64 (z11 + (1 : Int)))))))))
  (some (0 : Int)))) n z0)
def p_spec_AcceptorFault (n : Nat) (x : (List (Int × (Int × (Int × ((Int × Int) × (List (Int × Int)))))))) : Option Int :=
(cond (decide ((lenI x) > (60 : Int)))
 (some (2 : Int))
 (l_spec_AcceptorFault_1 n x (0 : Int)))
def m_spec_AcceptorFault (x : (List (Int × (Int × (Int × ((Int × Int) × (List (Int × Int)))))))) : Option Int := p_spec_AcceptorFault FU x
def a_spec_AcceptorFault : Ann := (.node .leaf (.node .leaf (.node (.node .leaf (.loop [.slot 3 (.int .i64)] [2, 4, 9, 10, 11, 12, 13, 14, 15, 16, 17, 18, 19, 20, 21, 22, 23, 24, 25, 26, 27, 28, 29, 30, 31, 32, 33, 34, 35, 36, 37, 38, 39, 40, 41] (.node .leaf (.node (.node .leaf (.join [.slot 41 .bool] [25, 26, 27, 28, 29, 30, 31, 32, 33, 34, 35, 36, 37, 38, 39, 40] .leaf .leaf)) .leaf)))) .leaf)))
def S_spec_AcceptorFault : FSpec := ⟨[.val (.one (.sl none (.pair (.int .i64) (.pair (.int .i64) (.pair (.int .i64) (.pair (.pair (.int .i64) (.int .i64)) (.sl none (.pair (.int .i64) (.int .i64)))))))))], [(.int .i64)], m_spec_AcceptorFault⟩

/-! spec.NewSlot -/
def p_spec_NewSlot (n : Nat) (x : (Int × Int)) : Option (Int × ((Int × Int) × (Int × (Int × (Int × ((Int × Int) × (List (Int × Int)))))))) :=
(Option.bind (α := Bool)
 ((m_spec_l1Id x.1).bind fun r3 =>
 (cond (!r3)
  (some true)
  ((m_spec_l1In (x.2, (0 : Int), (2 : Int))).bind fun r4 =>
  some (!r4)))) fun j5 =>
(cond j5
 (some ((3 : Int), (((0 : Int), (0 : Int)), ((0 : Int), ((0 : Int), ((0 : Int), (((0 : Int), (0 : Int)), [])))))))
 ((m_spec_l8None ()).bind fun r6 =>
 some ((0 : Int), (((0 : Int), (0 : Int)), (x.1, (x.2, ((-1 : Int), (r6, [])))))))))
def m_spec_NewSlot (x : (Int × Int)) : Option (Int × ((Int × Int) × (Int × (Int × (Int × ((Int × Int) × (List (Int × Int)))))))) := p_spec_NewSlot FU x
def a_spec_NewSlot : Ann := (.node .leaf (.node (.join [.slot 12 .bool] [5, 6, 7, 8, 9, 10, 11] .leaf .leaf) .leaf))
def S_spec_NewSlot : FSpec := ⟨[.val (.int .i64), .val (.int .i64)], [(.pair (.int .i64) (.pair (.pair (.int .i64) (.int .i64)) (.pair (.int .i64) (.pair (.int .i64) (.pair (.int .i64) (.pair (.pair (.int .i64) (.int .i64)) (.sl (some 62) (.pair (.int .i64) (.int .i64)))))))))], m_spec_NewSlot⟩

/-! spec.l9Asked -/
def p_spec_l9Asked (n : Nat) (x : ((List (Int × (Int × (Int × ((Int × Int) × (List (Int × Int))))))) × (Int × Int))) : Option Int :=
((m_spec_AcceptorFault x.1).bind fun r1 =>
(cond (!(r1 == (0 : Int)))
 (some r1)
 ((m_spec_NewSlot (x.2.1, x.2.2)).bind fun r2 =>
 some r2.1)))
def m_spec_l9Asked (x : ((List (Int × (Int × (Int × ((Int × Int) × (List (Int × Int))))))) × (Int × Int))) : Option Int := p_spec_l9Asked FU x
def a_spec_l9Asked : Ann := .leaf
def S_spec_l9Asked : FSpec := ⟨[.val (.one (.sl none (.pair (.int .i64) (.pair (.int .i64) (.pair (.int .i64) (.pair (.pair (.int .i64) (.int .i64)) (.sl none (.pair (.int .i64) (.int .i64))))))))), .val (.int .i64), .val (.int .i64)], [(.int .i64)], m_spec_l9Asked⟩

/-! spec.l8Copy -/
def p_spec_l8Copy (n : Nat) (x : (Int × (Int × (Int × ((Int × Int) × (List (Int × Int))))))) : Option (Int × (Int × (Int × ((Int × Int) × (List (Int × Int)))))) :=
(chk (Nat.ble ((([] : List (Int × Int)).length + x.2.2.2.2.length) * 16) maxBytes)
(some (x.1, (x.2.1, (x.2.2.1, (x.2.2.2.1, (([] : List (Int × Int)) ++ x.2.2.2.2)))))))
def m_spec_l8Copy (x : (Int × (Int × (Int × ((Int × Int) × (List (Int × Int))))))) : Option (Int × (Int × (Int × ((Int × Int) × (List (Int × Int)))))) := p_spec_l8Copy FU x
def a_spec_l8Copy : Ann := .leaf
def S_spec_l8Copy : FSpec := ⟨[.val (.pair (.int .i64) (.pair (.int .i64) (.pair (.int .i64) (.pair (.pair (.int .i64) (.int .i64)) (.sl none (.pair (.int .i64) (.int .i64)))))))], [(.pair (.int .i64) (.pair (.int .i64) (.pair (.int .i64) (.pair (.pair (.int .i64) (.int .i64)) (.sl (some 62) (.pair (.int .i64) (.int .i64)))))))], m_spec_l8Copy⟩

/-! spec.l9Slot -/
def l_spec_l9Slot_1 (n : Nat) (x_1 : (List (Int × (Int × (Int × ((Int × Int) × (List (Int × Int)))))))) (x_2_1 : Int) (x_2_2 : Int) (z0 : Int) : Option (Unit ⊕ (Int × (Int × (Int × ((Int × Int) × (List (Int × Int))))))) :=
(lp (fun rec28 (z27 : Int) =>
 (cond (decide (z27 < (lenI x_1)))
  (Option.bind (α := Bool)
   ((geti x_1 z27).bind fun y31 =>
   (cond (y31.1 == x_2_1)
    ((geti x_1 z27).bind fun y32 =>
    some (y32.2.1 == x_2_2))
    (some false))) fun j33 =>
  (cond j33
   ((geti x_1 z27).bind fun y34 =>
   ((m_spec_l8Copy y34).bind fun r35 =>
   some (Sum.inr r35)))
   (rec28 (IntKind.wrap .i64 (z27 + (1 : Int))))))
  (some (Sum.inl ())))) n z0)
def p_spec_l9Slot (n : Nat) (x : ((List (Int × (Int × (Int × ((Int × Int) × (List (Int × Int))))))) × (Int × Int))) : Option (Int × (Int × (Int × ((Int × Int) × (List (Int × Int)))))) :=
(Option.bind (α := (Unit ⊕ (Int × (Int × (Int × ((Int × Int) × (List (Int × Int))))))))
 (l_spec_l9Slot_1 n x.1 x.2.1 x.2.2 (0 : Int))
 (Sum.elim (fun j37 =>
((m_spec_NewSlot (x.2.1, x.2.2)).bind fun r38 =>
some r38.2.2)) some))
def m_spec_l9Slot (x : ((List (Int × (Int × (Int × ((Int × Int) × (List (Int × Int))))))) × (Int × Int))) : Option (Int × (Int × (Int × ((Int × Int) × (List (Int × Int)))))) := p_spec_l9Slot FU x
def a_spec_l9Slot : Ann := (.node .leaf (.joinx [] [7, 8, 9, 10, 11, 12, 13, 14, 15, 16, 17, 18, 19, 20, 21, 22, 23, 24, 25, 26, 27, 28, 29, 30, 31, 32, 33, 34, 35, 36, 37, 38] (.node .leaf (.loop [.slot 7 (.int .i64)] [8, 9, 10, 11, 12, 13, 14, 15, 16, 17, 18, 19, 20, 21, 22, 23, 24, 25, 26, 27, 28, 29, 30, 31, 32, 33, 34, 35, 36, 37, 38] (.node .leaf (.node (.join [.slot 32 .bool] [15, 16, 17, 18, 19, 20, 21, 22, 23, 24, 25, 26, 27, 28, 29, 30, 31] .leaf .leaf) .leaf)))) .leaf))
def S_spec_l9Slot : FSpec := ⟨[.val (.one (.sl none (.pair (.int .i64) (.pair (.int .i64) (.pair (.int .i64) (.pair (.pair (.int .i64) (.int .i64)) (.sl none (.pair (.int .i64) (.int .i64))))))))), .val (.int .i64), .val (.int .i64)], [(.pair (.int .i64) (.pair (.int .i64) (.pair (.int .i64) (.pair (.pair (.int .i64) (.int .i64)) (.sl (some 62) (.pair (.int .i64) (.int .i64)))))))], m_spec_l9Slot⟩

/-! spec.AcceptSlot -/
def p_spec_AcceptSlot (n : Nat) (x : ((Int × (Int × (Int × ((Int × Int) × (List (Int × Int)))))) × (Int × Int))) : Option (Int × ((Int × Int) × (Int × (Int × (Int × ((Int × Int) × (List (Int × Int)))))))) :=
((m_spec_SlotFault x.1).bind fun r1 =>
(cond (!(r1 == (0 : Int)))
 (some (r1, (((0 : Int), (0 : Int)), ((0 : Int), ((0 : Int), ((0 : Int), (((0 : Int), (0 : Int)), [])))))))
 (Option.bind (α := Bool)
  ((m_spec_l8Ballot x.2.1).bind fun r4 =>
  (cond (!r4)
   (some true)
   ((m_spec_l8Value x.2.2).bind fun r5 =>
   some (!r5)))) fun j6 =>
 (cond j6
  (some ((3 : Int), (((0 : Int), (0 : Int)), ((0 : Int), ((0 : Int), ((0 : Int), (((0 : Int), (0 : Int)), [])))))))
  (cond (decide (x.2.1 < x.1.2.2.1))
   (some ((8 : Int), (((0 : Int), (0 : Int)), ((0 : Int), ((0 : Int), ((0 : Int), (((0 : Int), (0 : Int)), [])))))))
   (Option.bind (α := Bool)
    (cond (x.2.1 == x.1.2.2.2.1.1)
     (some (!(x.2.2 == x.1.2.2.2.1.2)))
     (some false)) fun j7 =>
   (cond j7
    (some ((7 : Int), (((0 : Int), (0 : Int)), ((0 : Int), ((0 : Int), ((0 : Int), (((0 : Int), (0 : Int)), [])))))))
    ((m_spec_l8Copy x.1).bind fun r8 =>
    (Option.bind (α := ((Int × (Int × (Int × ((Int × Int) × (List (Int × Int)))))) ⊕ (Int × ((Int × Int) × (Int × (Int × (Int × ((Int × Int) × (List (Int × Int))))))))))
     (cond (!((x.2.1 == x.1.2.2.2.1.1) && ((x.2.2 == x.1.2.2.2.1.2) && true)))
      (cond (decide ((lenI x.1.2.2.2.2) ≥ (60 : Int)))
       (some (Sum.inr ((2 : Int), (((0 : Int), (0 : Int)), ((0 : Int), ((0 : Int), ((0 : Int), (((0 : Int), (0 : Int)), []))))))))
       (chk (Nat.ble ((r8.2.2.2.2.length + [x.2].length) * 16) maxBytes)
       (some (Sum.inl (r8.1, (r8.2.1, (x.2.1, (r8.2.2.2.1, (r8.2.2.2.2 ++ [x.2])))))))))
      (some (Sum.inl (r8.1, (r8.2.1, (x.2.1, r8.2.2.2))))))
     (Sum.elim (fun j9 =>
    some ((0 : Int), (x.1.2.2.2.1, (j9.1, (j9.2.1, (j9.2.2.1, (x.2, j9.2.2.2.2))))))) some))))))))))
def m_spec_AcceptSlot (x : ((Int × (Int × (Int × ((Int × Int) × (List (Int × Int)))))) × (Int × Int))) : Option (Int × ((Int × Int) × (Int × (Int × (Int × ((Int × Int) × (List (Int × Int)))))))) := p_spec_AcceptSlot FU x
def a_spec_AcceptSlot : Ann := (.node .leaf (.node .leaf (.node (.join [.slot 23 .bool] [16, 17, 18, 19, 20, 21, 22] .leaf .leaf) (.node (.reg 30 (.node .leaf (.node .leaf (.node (.join [.slot 26 .bool] [13, 14, 15, 16, 17, 18, 19, 20, 21, 22, 23, 24, 25] .leaf .leaf) (.node .leaf (.node .leaf (.joinx [.box 6 (.pair (.int .i64) (.pair (.int .i64) (.pair (.int .i64) (.pair (.pair (.int .i64) (.int .i64)) (.sl (some 62) (.pair (.int .i64) (.int .i64)))))))] [33, 34, 35, 36, 37, 38, 39, 40, 42, 43, 44, 45, 46, 47] .leaf .leaf)))))) .leaf) .leaf))))
def S_spec_AcceptSlot : FSpec := ⟨[.val (.pair (.int .i64) (.pair (.int .i64) (.pair (.int .i64) (.pair (.pair (.int .i64) (.int .i64)) (.sl none (.pair (.int .i64) (.int .i64))))))), .val (.int .i64), .val (.int .i64)], [(.pair (.int .i64) (.pair (.pair (.int .i64) (.int .i64)) (.pair (.int .i64) (.pair (.int .i64) (.pair (.int .i64) (.pair (.pair (.int .i64) (.int .i64)) (.sl (some 62) (.pair (.int .i64) (.int .i64)))))))))], m_spec_AcceptSlot⟩

/-! spec.l9Copy -/
def l_spec_l9Copy_1 (n : Nat) (x : (List (Int × (Int × (Int × ((Int × Int) × (List (Int × Int)))))))) (z0 : (Int × (List (Int × (Int × (Int × ((Int × Int) × (List (Int × Int))))))))) : Option (List (Int × (Int × (Int × ((Int × Int) × (List (Int × Int))))))) :=
(lp (fun rec8 (z7 : (Int × (List (Int × (Int × (Int × ((Int × Int) × (List (Int × Int))))))))) =>
 (cond (decide (z7.1 < (lenI x)))
  ((geti x z7.1).bind fun y9 =>
  ((m_spec_l8Copy y9).bind fun r10 =>
  (chk (Nat.ble ((z7.2.length + [r10].length) * 64) maxBytes)
  (rec8 (IntKind.wrap .i64 (z7.1 + (1 : Int)), (z7.2 ++ [r10]))))))
  (some z7.2))) n z0)
def p_spec_l9Copy (n : Nat) (x : (List (Int × (Int × (Int × ((Int × Int) × (List (Int × Int)))))))) : Option (List (Int × (Int × (Int × ((Int × Int) × (List (Int × Int))))))) :=
(l_spec_l9Copy_1 n x ((0 : Int), []))
def m_spec_l9Copy (x : (List (Int × (Int × (Int × ((Int × Int) × (List (Int × Int)))))))) : Option (List (Int × (Int × (Int × ((Int × Int) × (List (Int × Int))))))) := p_spec_l9Copy FU x
def a_spec_l9Copy : Ann := (.node .leaf (.node .leaf (.node (.node .leaf (.loop [.slot 4 (.int .i64), .box 2 (.one (.sl (some 114) (.pair (.int .i64) (.pair (.int .i64) (.pair (.int .i64) (.pair (.pair (.int .i64) (.int .i64)) (.sl none (.pair (.int .i64) (.int .i64)))))))))] [6, 7, 8, 9, 10, 11, 12, 13, 14, 15, 16, 17, 18, 19, 20, 21, 22, 23] .leaf)) .leaf)))
def S_spec_l9Copy : FSpec := ⟨[.val (.one (.sl none (.pair (.int .i64) (.pair (.int .i64) (.pair (.int .i64) (.pair (.pair (.int .i64) (.int .i64)) (.sl none (.pair (.int .i64) (.int .i64)))))))))], [(.one (.sl (some 114) (.pair (.int .i64) (.pair (.int .i64) (.pair (.int .i64) (.pair (.pair (.int .i64) (.int .i64)) (.sl none (.pair (.int .i64) (.int .i64)))))))))], m_spec_l9Copy⟩

/-! spec.l9Set -/
def l_spec_l9Set_1 (n : Nat) (r1 : (List (Int × (Int × (Int × ((Int × Int) × (List (Int × Int)))))))) (x_2 : (Int × (Int × (Int × ((Int × Int) × (List (Int × Int))))))) (z0 : Int) : Option Int :=
(lp (fun rec23 (z22 : Int) =>
 (Option.bind (α := Bool)
  (cond (decide (z22 < (lenI r1)))
   ((geti r1 z22).bind fun _ =>
   ((r1[z22.toNat]?).bind fun y26 =>
   ((m_spec_l9Ahead (y26, x_2)).bind fun r27 =>
   some r27)))
   (some false)) fun j28 =>
 (cond j28
  (rec23 (IntKind.wrap .i64 (z22 + (1 : Int))))
  (some z22)))) n z0)
def p_spec_l9Set (n : Nat) (x : ((List (Int × (Int × (Int × ((Int × Int) × (List (Int × Int))))))) × (Int × (Int × (Int × ((Int × Int) × (List (Int × Int)))))))) : Option ((List (Int × (Int × (Int × ((Int × Int) × (List (Int × Int))))))) × Bool) :=
((m_spec_l9Copy x.1).bind fun r1 =>
(Option.bind (α := Int)
 (l_spec_l9Set_1 n r1 x.2 (0 : Int)) fun j30 =>
(Option.bind (α := Bool)
 (cond (decide (j30 < (lenI r1)))
  ((geti r1 j30).bind fun _ =>
  ((r1[j30.toNat]?).bind fun y33 =>
  ((m_spec_l9Ahead (x.2, y33)).bind fun r34 =>
  some (!r34))))
  (some false)) fun j35 =>
(cond j35
 ((geti r1 j30).bind fun _ =>
 ((r1[j30.toNat]?).bind fun y36 =>
 some ((r1.set j30.toNat x.2), true)))
 (cond (decide ((lenI r1) ≥ (60 : Int)))
  (some (x.1, false))
  (chk (bndB none (some j30) none r1.length)
   (chk (bndB (some j30) none none r1.length)
    (chk (Nat.ble (((r1.drop 0).take j30.toNat).length * 64) maxBytes)
    (chk (Nat.ble ((((r1.drop 0).take j30.toNat).length + [x.2].length) * 64) maxBytes)
    (chk (Nat.ble (((((r1.drop 0).take j30.toNat) ++ [x.2]).length + ((r1.drop j30.toNat).take (r1.length - j30.toNat)).length) * 64) maxBytes)
    (some (((((r1.drop 0).take j30.toNat) ++ [x.2]) ++ ((r1.drop j30.toNat).take (r1.length - j30.toNat))), true))))))))))))
def m_spec_l9Set (x : ((List (Int × (Int × (Int × ((Int × Int) × (List (Int × Int))))))) × (Int × (Int × (Int × ((Int × Int) × (List (Int × Int)))))))) : Option ((List (Int × (Int × (Int × ((Int × Int) × (List (Int × Int))))))) × Bool) := p_spec_l9Set FU x
def a_spec_l9Set : Ann := (.node .leaf (.node .leaf (.node .leaf (.join [.slot 7 (.int .i64)] [10, 11, 12, 13, 14, 15, 16, 17, 18, 19, 20, 21, 22, 23, 24, 25] (.loop [.slot 7 (.int .i64)] [10, 11, 12, 13, 14, 15, 16, 17, 18, 19, 20, 21, 22, 23, 24, 25] (.node (.join [.slot 23 .bool] [10, 11, 12, 13, 14, 15, 16, 17, 18, 19, 20, 21, 22] .leaf .leaf) .leaf)) (.node (.join [.slot 40 .bool] [26, 27, 28, 29, 30, 31, 32, 33, 34, 35, 36, 37, 38, 39] .leaf .leaf) (.node .leaf (.node (.lazy 59 (.lazy 52 .leaf)) .leaf)))))))
def S_spec_l9Set : FSpec := ⟨[.val (.one (.sl none (.pair (.int .i64) (.pair (.int .i64) (.pair (.int .i64) (.pair (.pair (.int .i64) (.int .i64)) (.sl none (.pair (.int .i64) (.int .i64))))))))), .val (.pair (.int .i64) (.pair (.int .i64) (.pair (.int .i64) (.pair (.pair (.int .i64) (.int .i64)) (.sl none (.pair (.int .i64) (.int .i64)))))))], [(.one (.sl none (.pair (.int .i64) (.pair (.int .i64) (.pair (.int .i64) (.pair (.pair (.int .i64) (.int .i64)) (.sl none (.pair (.int .i64) (.int .i64))))))))), .bool], m_spec_l9Set⟩

/-! spec.l9Told -/
def p_spec_l9Told (n : Nat) (x : ((List (Int × (Int × (Int × ((Int × Int) × (List (Int × Int))))))) × (Int × ((Int × Int) × (Int × (Int × (Int × ((Int × Int) × (List (Int × Int)))))))))) : Option (Int × ((Int × Int) × (List (Int × (Int × (Int × ((Int × Int) × (List (Int × Int))))))))) :=
(cond (!(x.2.1 == (0 : Int)))
 (some (x.2.1, (((0 : Int), (0 : Int)), [])))
 ((m_spec_l9Set (x.1, x.2.2.2)).bind fun r1 =>
 (cond (!r1.2)
  (some ((2 : Int), (((0 : Int), (0 : Int)), [])))
  (some ((0 : Int), (x.2.2.1, r1.1))))))
def m_spec_l9Told (x : ((List (Int × (Int × (Int × ((Int × Int) × (List (Int × Int))))))) × (Int × ((Int × Int) × (Int × (Int × (Int × ((Int × Int) × (List (Int × Int)))))))))) : Option (Int × ((Int × Int) × (List (Int × (Int × (Int × ((Int × Int) × (List (Int × Int))))))))) := p_spec_l9Told FU x
def a_spec_l9Told : Ann := .leaf
def S_spec_l9Told : FSpec := ⟨[.val (.one (.sl none (.pair (.int .i64) (.pair (.int .i64) (.pair (.int .i64) (.pair (.pair (.int .i64) (.int .i64)) (.sl none (.pair (.int .i64) (.int .i64))))))))), .val (.pair (.int .i64) (.pair (.pair (.int .i64) (.int .i64)) (.pair (.int .i64) (.pair (.int .i64) (.pair (.int .i64) (.pair (.pair (.int .i64) (.int .i64)) (.sl none (.pair (.int .i64) (.int .i64)))))))))], [(.pair (.int .i64) (.pair (.pair (.int .i64) (.int .i64)) (.one (.sl none (.pair (.int .i64) (.pair (.int .i64) (.pair (.int .i64) (.pair (.pair (.int .i64) (.int .i64)) (.sl none (.pair (.int .i64) (.int .i64)))))))))))], m_spec_l9Told⟩

/-! spec.AcceptAt -/
def p_spec_AcceptAt (n : Nat) (x : ((List (Int × (Int × (Int × ((Int × Int) × (List (Int × Int))))))) × (Int × (Int × (Int × Int))))) : Option (Int × ((Int × Int) × (List (Int × (Int × (Int × ((Int × Int) × (List (Int × Int))))))))) :=
((m_spec_l9Asked (x.1, x.2.1, x.2.2.1)).bind fun r1 =>
(cond (!(r1 == (0 : Int)))
 (some (r1, (((0 : Int), (0 : Int)), [])))
 ((m_spec_l9Slot (x.1, x.2.1, x.2.2.1)).bind fun r2 =>
 ((m_spec_AcceptSlot (r2, x.2.2.2.1, x.2.2.2.2)).bind fun r3 =>
 ((m_spec_l9Told (x.1, r3)).bind fun r4 =>
 some r4)))))
def m_spec_AcceptAt (x : ((List (Int × (Int × (Int × ((Int × Int) × (List (Int × Int))))))) × (Int × (Int × (Int × Int))))) : Option (Int × ((Int × Int) × (List (Int × (Int × (Int × ((Int × Int) × (List (Int × Int))))))))) := p_spec_AcceptAt FU x
def a_spec_AcceptAt : Ann := .leaf
def S_spec_AcceptAt : FSpec := ⟨[.val (.one (.sl none (.pair (.int .i64) (.pair (.int .i64) (.pair (.int .i64) (.pair (.pair (.int .i64) (.int .i64)) (.sl none (.pair (.int .i64) (.int .i64))))))))), .val (.int .i64), .val (.int .i64), .val (.int .i64), .val (.int .i64)], [(.pair (.int .i64) (.pair (.pair (.int .i64) (.int .i64)) (.one (.sl none (.pair (.int .i64) (.pair (.int .i64) (.pair (.int .i64) (.pair (.pair (.int .i64) (.int .i64)) (.sl none (.pair (.int .i64) (.int .i64)))))))))))], m_spec_AcceptAt⟩

/-! impl.within -/
def p_impl_within (n : Nat) (x : (Int × (Int × Int))) : Option Bool :=
(cond (decide (x.1 ≥ x.2.1))
 (some (decide (x.1 ≤ x.2.2)))
 (some false))
def m_impl_within (x : (Int × (Int × Int))) : Option Bool := p_impl_within FU x
def a_impl_within : Ann := .leaf
def S_impl_within : FSpec := ⟨[.val (.int .i64), .val (.int .i64), .val (.int .i64)], [.bool], m_impl_within⟩

/-! impl.isId -/
def p_impl_isId (n : Nat) (x : Int) : Option Bool :=
((m_impl_within (x, (1 : Int), (1000000000 : Int))).bind fun r1 =>
some r1)
def m_impl_isId (x : Int) : Option Bool := p_impl_isId FU x
def a_impl_isId : Ann := .leaf
def S_impl_isId : FSpec := ⟨[.val (.int .i64)], [.bool], m_impl_isId⟩

/-! impl.isShard -/
def p_impl_isShard (n : Nat) (x : Int) : Option Bool :=
((m_impl_within (x, (0 : Int), (2 : Int))).bind fun r1 =>
some r1)
def m_impl_isShard (x : Int) : Option Bool := p_impl_isShard FU x
def a_impl_isShard : Ann := .leaf
def S_impl_isShard : FSpec := ⟨[.val (.int .i64)], [.bool], m_impl_isShard⟩

/-! impl.isBallot -/
def p_impl_isBallot (n : Nat) (x : Int) : Option Bool :=
((m_impl_within (x, (0 : Int), (1000 : Int))).bind fun r1 =>
some r1)
def m_impl_isBallot (x : Int) : Option Bool := p_impl_isBallot FU x
def a_impl_isBallot : Ann := .leaf
def S_impl_isBallot : FSpec := ⟨[.val (.int .i64)], [.bool], m_impl_isBallot⟩

/-! impl.isValue -/
def p_impl_isValue (n : Nat) (x : Int) : Option Bool :=
(cond (x == (1 : Int))
 (some true)
 (some (x == (2 : Int))))
def m_impl_isValue (x : Int) : Option Bool := p_impl_isValue FU x
def a_impl_isValue : Ann := .leaf
def S_impl_isValue : FSpec := ⟨[.val (.int .i64)], [.bool], m_impl_isValue⟩

/-! impl.isVote -/
def p_impl_isVote (n : Nat) (x : (Int × Int)) : Option Bool :=
((m_impl_isBallot x.1).bind fun r1 =>
(cond r1
 ((m_impl_isValue x.2).bind fun r2 =>
 some r2)
 (some false)))
def m_impl_isVote (x : (Int × Int)) : Option Bool := p_impl_isVote FU x
def a_impl_isVote : Ann := .leaf
def S_impl_isVote : FSpec := ⟨[.val (.pair (.int .i64) (.int .i64))], [.bool], m_impl_isVote⟩

/-! impl.castFault -/
def l_impl_castFault_1 (n : Nat) (x : (List (Int × Int))) (z0 : Int) : Option Int :=
(lp (fun rec12 (z11 : Int) =>
 (cond (decide (z11 < (lenI x)))
  ((geti x z11).bind fun y13 =>
  ((m_impl_isVote y13).bind fun r14 =>
  (cond (!r14)
   (some (3 : Int))
   (Option.bind (α := Bool)
    (cond (decide (z11 > (0 : Int)))
     ((geti x (IntKind.wrap .i64 (z11 - (1 : Int)))).bind fun y18 =>
     (cond (decide (y13.1 < y18.1))
      (some true)
      ((geti x (IntKind.wrap .i64 (z11 - (1 : Int)))).bind fun y19 =>
      (cond (y13.1 == y19.1)
       ((geti x (IntKind.wrap .i64 (z11 - (1 : Int)))).bind fun y20 =>
       some (!(y13.2 == y20.2)))
       (some false)))))
     (some false)) fun j21 =>
   (cond j21
    (some (1 : Int))
    (rec12 (IntKind.wrap .i64 (z11 + (1 : Int)))))))))
  (some (0 : Int)))) n z0)
def p_impl_castFault (n : Nat) (x : (List (Int × Int))) : Option Int :=
(l_impl_castFault_1 n x (0 : Int))
def m_impl_castFault (x : (List (Int × Int))) : Option Int := p_impl_castFault FU x
def a_impl_castFault : Ann := (.node .leaf (.node (.node .leaf (.loop [.slot 7 (.int .i64)] [2, 3, 4, 8, 9, 10, 11, 12, 13, 14, 15, 16, 17, 18, 19, 20, 21, 22, 23, 24, 25, 26, 27, 28, 29, 30, 31, 32, 33, 34, 35, 36, 37, 38, 39, 40, 41, 42, 43, 44, 45, 46, 47, 48, 49, 50, 51, 52] (.node .leaf (.node .leaf (.node (.node .leaf (.node .leaf (.node .leaf (.join [.slot 16 .bool] [17, 18, 19, 20, 21, 22, 23, 24, 25, 26, 27, 28, 29, 30, 31, 32, 33, 34, 35, 36, 37, 38, 39, 40, 41, 42, 43, 44, 45, 46, 47, 48, 49, 50, 51] .leaf .leaf)))) .leaf))))) .leaf))
def S_impl_castFault : FSpec := ⟨[.val (.sl none (.pair (.int .i64) (.int .i64)))], [(.int .i64)], m_impl_castFault⟩

/-! impl.noVote -/
def p_impl_noVote (n : Nat) (x : Unit) : Option (Int × Int) :=
some ((-1 : Int), (0 : Int))
def m_impl_noVote (x : Unit) : Option (Int × Int) := p_impl_noVote FU x
def a_impl_noVote : Ann := .leaf
def S_impl_noVote : FSpec := ⟨[], [(.pair (.int .i64) (.int .i64))], m_impl_noVote⟩

/-! impl.lastCast -/
def p_impl_lastCast (n : Nat) (x : (List (Int × Int))) : Option (Int × Int) :=
(cond ((lenI x) == (0 : Int))
 ((m_impl_noVote ()).bind fun r1 =>
 some r1)
 ((geti x (IntKind.wrap .i64 ((lenI x) - (1 : Int)))).bind fun y2 =>
 some y2))
def m_impl_lastCast (x : (List (Int × Int))) : Option (Int × Int) := p_impl_lastCast FU x
def a_impl_lastCast : Ann := .leaf
def S_impl_lastCast : FSpec := ⟨[.val (.sl none (.pair (.int .i64) (.int .i64)))], [(.pair (.int .i64) (.int .i64))], m_impl_lastCast⟩

/-! impl.SlotFault -/
def p_impl_SlotFault (n : Nat) (x : (Int × (Int × (Int × ((Int × Int) × (List (Int × Int))))))) : Option Int :=
(Option.bind (α := Bool)
 ((m_impl_isId x.1).bind fun r4 =>
 (cond (!r4)
  (some true)
  ((m_impl_isShard x.2.1).bind fun r5 =>
  (cond (!r5)
   (some true)
   ((m_impl_within (x.2.2.1, (-1 : Int), (1000 : Int))).bind fun r6 =>
   some (!r6)))))) fun j7 =>
(cond j7
 (some (3 : Int))
 (cond (decide ((lenI x.2.2.2.2) > (60 : Int)))
  (some (2 : Int))
  ((m_impl_castFault x.2.2.2.2).bind fun r8 =>
  (cond (!(r8 == (0 : Int)))
   (some r8)
   (Option.bind (α := Bool)
    ((m_impl_lastCast x.2.2.2.2).bind fun r10 =>
    (cond (!((x.2.2.2.1.1 == r10.1) && ((x.2.2.2.1.2 == r10.2) && true)))
     (some true)
     (some (decide (x.2.2.2.1.1 > x.2.2.1))))) fun j11 =>
   (cond j11
    (some (1 : Int))
    (some (0 : Int)))))))))
def m_impl_SlotFault (x : (Int × (Int × (Int × ((Int × Int) × (List (Int × Int))))))) : Option Int := p_impl_SlotFault FU x
def a_impl_SlotFault : Ann := (.node .leaf (.node (.join [.slot 4 .bool] [5, 6, 7, 8, 9, 10, 11, 12, 13, 14, 15, 16, 17, 18, 19, 20] .leaf .leaf) (.node .leaf (.node (.join [.slot 45 .bool] [32, 33, 34, 35, 36, 37, 38, 39, 40, 41, 42, 43, 44] .leaf .leaf) .leaf))))
def S_impl_SlotFault : FSpec := ⟨[.val (.pair (.int .i64) (.pair (.int .i64) (.pair (.int .i64) (.pair (.pair (.int .i64) (.int .i64)) (.sl none (.pair (.int .i64) (.int .i64)))))))], [(.int .i64)], m_impl_SlotFault⟩

/-! cmp.isNaN[int64] -/
def p_cmp_isNaN_int64 (n : Nat) (x : Int) : Option Bool :=
some (!(x == x))
def m_cmp_isNaN_int64 (x : Int) : Option Bool := p_cmp_isNaN_int64 FU x
def a_cmp_isNaN_int64 : Ann := .leaf
def S_cmp_isNaN_int64 : FSpec := ⟨[.val (.int .i64)], [.bool], m_cmp_isNaN_int64⟩

/-! cmp.Compare[int64] -/
def p_cmp_Compare_int64 (n : Nat) (x : (Int × Int)) : Option Int :=
((m_cmp_isNaN_int64 x.1).bind fun r1 =>
((m_cmp_isNaN_int64 x.2).bind fun r2 =>
(cond r1
 (cond r2
  (some (0 : Int))
  (some (-1 : Int)))
 (cond r2
  (some (1 : Int))
  (cond (decide (x.1 < x.2))
   (some (-1 : Int))
   (cond (decide (x.1 > x.2))
    (some (1 : Int))
    (some (0 : Int))))))))
def m_cmp_Compare_int64 (x : (Int × Int)) : Option Int := p_cmp_Compare_int64 FU x
def a_cmp_Compare_int64 : Ann := .leaf
def S_cmp_Compare_int64 : FSpec := ⟨[.val (.int .i64), .val (.int .i64)], [(.int .i64)], m_cmp_Compare_int64⟩

/-! cmp.Or[int] -/
def l_cmp_Or_int_1 (n : Nat) (x : (List Int)) (z0 : Int) : Option Int :=
(lp (fun rec4 (z3 : Int) =>
 (cond (decide (z3 < (lenI x)))
  ((geti x z3).bind fun y5 =>
  (cond (!(y5 == (0 : Int)))
   (some y5)
   (rec4 (IntKind.wrap .i64 (z3 + (1 : Int))))))
  (some (0 : Int)))) n z0)
def p_cmp_Or_int (n : Nat) (x : (List Int)) : Option Int :=
(l_cmp_Or_int_1 n x (0 : Int))
def m_cmp_Or_int (x : (List Int)) : Option Int := p_cmp_Or_int FU x
def a_cmp_Or_int : Ann := (.node .leaf (.node .leaf (.node (.node .leaf (.loop [.slot 8 (.int .i64)] [2, 5, 9, 10, 11, 12, 13, 14, 15, 16] .leaf)) .leaf)))
def S_cmp_Or_int : FSpec := ⟨[.val (.sl none (.int .i64))], [(.int .i64)], m_cmp_Or_int⟩

/-! impl.compareSlots -/
def p_impl_compareSlots (n : Nat) (x : ((Int × (Int × (Int × ((Int × Int) × (List (Int × Int)))))) × (Int × (Int × (Int × ((Int × Int) × (List (Int × Int)))))))) : Option Int :=
((m_cmp_Compare_int64 (x.1.1, x.2.1)).bind fun r1 =>
((m_cmp_Compare_int64 (x.1.2.1, x.2.2.1)).bind fun r2 =>
((m_cmp_Or_int [r1, r2]).bind fun r3 =>
some r3)))
def m_impl_compareSlots (x : ((Int × (Int × (Int × ((Int × Int) × (List (Int × Int)))))) × (Int × (Int × (Int × ((Int × Int) × (List (Int × Int)))))))) : Option Int := p_impl_compareSlots FU x
def a_impl_compareSlots : Ann := (.node .leaf (.node (.lazy 15 .leaf) .leaf))
def S_impl_compareSlots : FSpec := ⟨[.val (.pair (.int .i64) (.pair (.int .i64) (.pair (.int .i64) (.pair (.pair (.int .i64) (.int .i64)) (.sl none (.pair (.int .i64) (.int .i64))))))), .val (.pair (.int .i64) (.pair (.int .i64) (.pair (.int .i64) (.pair (.pair (.int .i64) (.int .i64)) (.sl none (.pair (.int .i64) (.int .i64)))))))], [(.int .i64)], m_impl_compareSlots⟩

/-! impl.AcceptorFault -/
def l_impl_AcceptorFault_1 (n : Nat) (x : (List (Int × (Int × (Int × ((Int × Int) × (List (Int × Int)))))))) (z0 : Int) : Option Int :=
(lp (fun rec10 (z9 : Int) =>
 (cond (decide (z9 < (lenI x)))
  ((geti x z9).bind fun y11 =>
  ((m_impl_SlotFault y11).bind fun r12 =>
  (cond (!(r12 == (0 : Int)))
   (some r12)
   (Option.bind (α := Bool)
    (cond (decide (z9 > (0 : Int)))
     ((geti x (IntKind.wrap .i64 (z9 - (1 : Int)))).bind fun y15 =>
     ((m_impl_compareSlots (y15, y11)).bind fun r16 =>
     some (decide (r16 ≥ (0 : Int)))))
     (some false)) fun j17 =>
   (cond j17
    (some (1 : Int))
    (rec10 (IntKind.wrap .i64 (z9 + (1 : Int)))))))))
  (some (0 : Int)))) n z0)
def p_impl_AcceptorFault (n : Nat) (x : (List (Int × (Int × (Int × ((Int × Int) × (List (Int × Int)))))))) : Option Int :=
(cond (decide ((lenI x) > (60 : Int)))
 (some (2 : Int))
 (l_impl_AcceptorFault_1 n x (0 : Int)))
def m_impl_AcceptorFault (x : (List (Int × (Int × (Int × ((Int × Int) × (List (Int × Int)))))))) : Option Int := p_impl_AcceptorFault FU x
def a_impl_AcceptorFault : Ann := (.node .leaf (.node .leaf (.node (.node .leaf (.loop [.slot 13 (.int .i64)] [2, 3, 4, 5, 14, 15, 16, 17, 18, 19, 20, 21, 22, 23, 24, 25, 26, 27, 28, 29, 30, 31, 32, 33, 34, 35, 36] (.node .leaf (.node .leaf (.node (.node .leaf (.node .leaf (.join [.slot 35 .bool] [23, 24, 25, 26, 27, 28, 29, 30, 31, 32, 33, 34] .leaf .leaf))) .leaf))))) .leaf)))
def S_impl_AcceptorFault : FSpec := ⟨[.val (.one (.sl none (.pair (.int .i64) (.pair (.int .i64) (.pair (.int .i64) (.pair (.pair (.int .i64) (.int .i64)) (.sl none (.pair (.int .i64) (.int .i64)))))))))], [(.int .i64)], m_impl_AcceptorFault⟩

/-! impl.newSlot -/
def p_impl_newSlot (n : Nat) (x : (Int × Int)) : Option (Int × (Int × (Int × ((Int × Int) × (List (Int × Int)))))) :=
((m_impl_noVote ()).bind fun r1 =>
some (x.1, (x.2, ((-1 : Int), (r1, [])))))
def m_impl_newSlot (x : (Int × Int)) : Option (Int × (Int × (Int × ((Int × Int) × (List (Int × Int)))))) := p_impl_newSlot FU x
def a_impl_newSlot : Ann := .leaf
def S_impl_newSlot : FSpec := ⟨[.val (.int .i64), .val (.int .i64)], [(.pair (.int .i64) (.pair (.int .i64) (.pair (.int .i64) (.pair (.pair (.int .i64) (.int .i64)) (.sl (some 62) (.pair (.int .i64) (.int .i64)))))))], m_impl_newSlot⟩

/-! impl.NewSlot -/
def p_impl_NewSlot (n : Nat) (x : (Int × Int)) : Option (Int × ((Int × Int) × (Int × (Int × (Int × ((Int × Int) × (List (Int × Int)))))))) :=
(Option.bind (α := Bool)
 ((m_impl_isId x.1).bind fun r3 =>
 (cond (!r3)
  (some true)
  ((m_impl_isShard x.2).bind fun r4 =>
  some (!r4)))) fun j5 =>
(cond j5
 (some ((3 : Int), (((0 : Int), (0 : Int)), ((0 : Int), ((0 : Int), ((0 : Int), (((0 : Int), (0 : Int)), [])))))))
 ((m_impl_newSlot (x.1, x.2)).bind fun r6 =>
 some ((0 : Int), (((0 : Int), (0 : Int)), r6)))))
def m_impl_NewSlot (x : (Int × Int)) : Option (Int × ((Int × Int) × (Int × (Int × (Int × ((Int × Int) × (List (Int × Int)))))))) := p_impl_NewSlot FU x
def a_impl_NewSlot : Ann := (.node .leaf (.node (.join [.slot 12 .bool] [5, 6, 7, 8, 9, 10, 11] .leaf .leaf) .leaf))
def S_impl_NewSlot : FSpec := ⟨[.val (.int .i64), .val (.int .i64)], [(.pair (.int .i64) (.pair (.pair (.int .i64) (.int .i64)) (.pair (.int .i64) (.pair (.int .i64) (.pair (.int .i64) (.pair (.pair (.int .i64) (.int .i64)) (.sl (some 62) (.pair (.int .i64) (.int .i64)))))))))], m_impl_NewSlot⟩

/-! impl.firstOf -/
def l_impl_firstOf_1 (n : Nat) (x : (List Int)) (z0 : Int) : Option Int :=
(lp (fun rec4 (z3 : Int) =>
 (cond (decide (z3 < (lenI x)))
  ((geti x z3).bind fun y5 =>
  (cond (!(y5 == (0 : Int)))
   (some y5)
   (rec4 (IntKind.wrap .i64 (z3 + (1 : Int))))))
  (some (0 : Int)))) n z0)
def p_impl_firstOf (n : Nat) (x : (List Int)) : Option Int :=
(l_impl_firstOf_1 n x (0 : Int))
def m_impl_firstOf (x : (List Int)) : Option Int := p_impl_firstOf FU x
def a_impl_firstOf : Ann := (.node .leaf (.node (.node .leaf (.loop [.slot 7 (.int .i64)] [2, 4, 8, 9, 10, 11, 12, 13, 14] .leaf)) .leaf))
def S_impl_firstOf : FSpec := ⟨[.val (.sl none (.int .i64))], [(.int .i64)], m_impl_firstOf⟩

/-! impl.Acceptor).slotAt -/
def l_impl_Acceptor_slotAt_1 (n : Nat) (x_1 : (List (Int × (Int × (Int × ((Int × Int) × (List (Int × Int)))))))) (x_2_1 : Int) (x_2_2 : Int) (z0 : (Int × Int)) : Option Int :=
(lp (fun rec13 (z12 : (Int × Int)) =>
 (cond (decide (z12.1 < z12.2))
  (chk (decide (0 ≤ (1 : Int)))
   ((geti x_1 (IntKind.wrap .i64 (Int.fdiv (IntKind.wrap .u64 (IntKind.wrap .i64 (z12.1 + z12.2))) (2 ^ (min (1 : Int).toNat 64))))).bind fun y14 =>
   ((m_impl_compareSlots (y14, (x_2_1, (x_2_2, ((0 : Int), (((0 : Int), (0 : Int)), [])))))).bind fun r15 =>
   (cond (decide (r15 < (0 : Int)))
    (rec13 (IntKind.wrap .i64 ((IntKind.wrap .i64 (Int.fdiv (IntKind.wrap .u64 (IntKind.wrap .i64 (z12.1 + z12.2))) (2 ^ (min (1 : Int).toNat 64)))) + (1 : Int)), z12.2))
    (rec13 (z12.1, IntKind.wrap .i64 (Int.fdiv (IntKind.wrap .u64 (IntKind.wrap .i64 (z12.1 + z12.2))) (2 ^ (min (1 : Int).toNat 64)))))))))
  (some z12.1))) n z0)
def p_impl_Acceptor_slotAt (n : Nat) (x : ((List (Int × (Int × (Int × ((Int × Int) × (List (Int × Int))))))) × (Int × Int))) : Option (Int × Bool) :=
(Option.bind (α := Int)
 (l_impl_Acceptor_slotAt_1 n x.1 x.2.1 x.2.2 ((0 : Int), lenI x.1)) fun j17 =>
(cond (decide (j17 < (lenI x.1)))
 ((geti x.1 j17).bind fun y18 =>
 ((m_impl_compareSlots (y18, (x.2.1, (x.2.2, ((0 : Int), (((0 : Int), (0 : Int)), [])))))).bind fun r19 =>
 some (j17, (r19 == (0 : Int)))))
 (some (j17, false))))
def m_impl_Acceptor_slotAt (x : ((List (Int × (Int × (Int × ((Int × Int) × (List (Int × Int))))))) × (Int × Int))) : Option (Int × Bool) := p_impl_Acceptor_slotAt FU x
def a_impl_Acceptor_slotAt : Ann := (.node .leaf (.node (.reg 13 (.node .leaf (.node .leaf (.node .leaf (.join [.slot 9 (.int .i64)] [10, 11, 15, 16, 17, 18, 19, 20, 21, 22, 23, 24, 25, 26, 27, 28, 29, 30, 31, 32, 33, 34] (.loop [.slot 9 (.int .i64), .slot 10 (.int .i64)] [11, 15, 16, 17, 18, 19, 20, 21, 22, 23, 24, 25, 26, 27, 28, 29, 30, 31, 32, 33, 34] .leaf) .leaf)))) .leaf) .leaf))
def S_impl_Acceptor_slotAt : FSpec := ⟨[.val (.one (.sl none (.pair (.int .i64) (.pair (.int .i64) (.pair (.int .i64) (.pair (.pair (.int .i64) (.int .i64)) (.sl none (.pair (.int .i64) (.int .i64))))))))), .val (.int .i64), .val (.int .i64)], [(.int .i64), .bool], m_impl_Acceptor_slotAt⟩

/-! impl.Vote] -/
def p_slices_Clone_impl_Vote_impl_Vote (n : Nat) (x : (List (Int × Int))) : Option (List (Int × Int)) :=
(cond (List.isEmpty x)
 (same
  (some [])
  (chk (Nat.ble ((([] : List (Int × Int)).length + x.length) * 16) maxBytes)
  (some (([] : List (Int × Int)) ++ x))))
 (chk (Nat.ble ((([] : List (Int × Int)).length + x.length) * 16) maxBytes)
 (some (([] : List (Int × Int)) ++ x))))
def m_slices_Clone_impl_Vote_impl_Vote (x : (List (Int × Int))) : Option (List (Int × Int)) := p_slices_Clone_impl_Vote_impl_Vote FU x
def a_slices_Clone_impl_Vote_impl_Vote : Ann := .leaf
def S_slices_Clone_impl_Vote_impl_Vote : FSpec := ⟨[.val (.sl none (.pair (.int .i64) (.int .i64)))], [(.sl (some 62) (.pair (.int .i64) (.int .i64)))], m_slices_Clone_impl_Vote_impl_Vote⟩

/-! impl.copySlot -/
def p_impl_copySlot (n : Nat) (x : (Int × (Int × (Int × ((Int × Int) × (List (Int × Int))))))) : Option (Int × (Int × (Int × ((Int × Int) × (List (Int × Int)))))) :=
((m_slices_Clone_impl_Vote_impl_Vote x.2.2.2.2).bind fun r1 =>
some (x.1, (x.2.1, (x.2.2.1, (x.2.2.2.1, r1)))))
def m_impl_copySlot (x : (Int × (Int × (Int × ((Int × Int) × (List (Int × Int))))))) : Option (Int × (Int × (Int × ((Int × Int) × (List (Int × Int)))))) := p_impl_copySlot FU x
def a_impl_copySlot : Ann := .leaf
def S_impl_copySlot : FSpec := ⟨[.val (.pair (.int .i64) (.pair (.int .i64) (.pair (.int .i64) (.pair (.pair (.int .i64) (.int .i64)) (.sl none (.pair (.int .i64) (.int .i64)))))))], [(.pair (.int .i64) (.pair (.int .i64) (.pair (.int .i64) (.pair (.pair (.int .i64) (.int .i64)) (.sl (some 62) (.pair (.int .i64) (.int .i64)))))))], m_impl_copySlot⟩

/-! impl.Acceptor).slot -/
def p_impl_Acceptor_slot (n : Nat) (x : ((List (Int × (Int × (Int × ((Int × Int) × (List (Int × Int))))))) × (Int × Int))) : Option (Int × (Int × (Int × ((Int × Int) × (List (Int × Int)))))) :=
((m_impl_Acceptor_slotAt (x.1, x.2.1, x.2.2)).bind fun r1 =>
(cond (!r1.2)
 ((m_impl_newSlot (x.2.1, x.2.2)).bind fun r2 =>
 some r2)
 ((geti x.1 r1.1).bind fun y3 =>
 ((m_impl_copySlot y3).bind fun r4 =>
 some r4))))
def m_impl_Acceptor_slot (x : ((List (Int × (Int × (Int × ((Int × Int) × (List (Int × Int))))))) × (Int × Int))) : Option (Int × (Int × (Int × ((Int × Int) × (List (Int × Int)))))) := p_impl_Acceptor_slot FU x
def a_impl_Acceptor_slot : Ann := .leaf
def S_impl_Acceptor_slot : FSpec := ⟨[.val (.one (.sl none (.pair (.int .i64) (.pair (.int .i64) (.pair (.int .i64) (.pair (.pair (.int .i64) (.int .i64)) (.sl none (.pair (.int .i64) (.int .i64))))))))), .val (.int .i64), .val (.int .i64)], [(.pair (.int .i64) (.pair (.int .i64) (.pair (.int .i64) (.pair (.pair (.int .i64) (.int .i64)) (.sl (some 62) (.pair (.int .i64) (.int .i64)))))))], m_impl_Acceptor_slot⟩

/-! impl.AcceptSlot -/
def p_impl_AcceptSlot (n : Nat) (x : ((Int × (Int × (Int × ((Int × Int) × (List (Int × Int)))))) × (Int × Int))) : Option (Int × ((Int × Int) × (Int × (Int × (Int × ((Int × Int) × (List (Int × Int)))))))) :=
((m_impl_SlotFault x.1).bind fun r1 =>
(cond (!(r1 == (0 : Int)))
 (some (r1, (((0 : Int), (0 : Int)), ((0 : Int), ((0 : Int), ((0 : Int), (((0 : Int), (0 : Int)), [])))))))
 ((m_impl_isVote x.2).bind fun r2 =>
 (cond (!r2)
  (some ((3 : Int), (((0 : Int), (0 : Int)), ((0 : Int), ((0 : Int), ((0 : Int), (((0 : Int), (0 : Int)), [])))))))
  (cond (decide (x.2.1 < x.1.2.2.1))
   (some ((8 : Int), (((0 : Int), (0 : Int)), ((0 : Int), ((0 : Int), ((0 : Int), (((0 : Int), (0 : Int)), [])))))))
   (Option.bind (α := Bool)
    (cond (x.2.1 == x.1.2.2.2.1.1)
     (some (!(x.2.2 == x.1.2.2.2.1.2)))
     (some false)) fun j3 =>
   (cond j3
    (some ((7 : Int), (((0 : Int), (0 : Int)), ((0 : Int), ((0 : Int), ((0 : Int), (((0 : Int), (0 : Int)), [])))))))
    (Option.bind (α := Bool)
     (cond (!((x.2.1 == x.1.2.2.2.1.1) && ((x.2.2 == x.1.2.2.2.1.2) && true)))
      (some ((lenI x.1.2.2.2.2) == (60 : Int)))
      (some false)) fun j4 =>
    (cond j4
     (some ((2 : Int), (((0 : Int), (0 : Int)), ((0 : Int), ((0 : Int), ((0 : Int), (((0 : Int), (0 : Int)), [])))))))
     ((m_impl_copySlot x.1).bind fun r5 =>
     (Option.bind (α := (Int × (Int × (Int × ((Int × Int) × (List (Int × Int)))))))
      (cond (!((x.2.1 == x.1.2.2.2.1.1) && ((x.2.2 == x.1.2.2.2.1.2) && true)))
       (chk (Nat.ble ((r5.2.2.2.2.length + [x.2].length) * 16) maxBytes)
       (some (r5.1, (r5.2.1, (x.2.1, (x.2, (r5.2.2.2.2 ++ [x.2])))))))
       (some (r5.1, (r5.2.1, (x.2.1, (x.2, r5.2.2.2.2)))))) fun j6 =>
     some ((0 : Int), (x.1.2.2.2.1, j6)))))))))))))
def m_impl_AcceptSlot (x : ((Int × (Int × (Int × ((Int × Int) × (List (Int × Int)))))) × (Int × Int))) : Option (Int × ((Int × Int) × (Int × (Int × (Int × ((Int × Int) × (List (Int × Int)))))))) := p_impl_AcceptSlot FU x
def a_impl_AcceptSlot : Ann := (.node .leaf (.node .leaf (.node .leaf (.node (.node .leaf (.node .leaf (.node .leaf (.node .leaf (.join [.slot 30 .bool] [31, 32, 33, 34, 35, 36, 37, 38, 39, 40, 41, 42] .leaf (.node .leaf (.join [.slot 44 .bool] [45, 46, 47, 48, 49, 50, 51, 52, 53, 54] .leaf .leaf))))))) (.node .leaf (.join [.box 4 (.pair (.int .i64) (.pair (.int .i64) (.pair (.int .i64) (.pair (.pair (.int .i64) (.int .i64)) (.sl (some 62) (.pair (.int .i64) (.int .i64)))))))] [58, 59, 60, 61, 62, 63, 64, 65, 66, 67, 68, 69, 70, 71] .leaf .leaf))))))
def S_impl_AcceptSlot : FSpec := ⟨[.val (.pair (.int .i64) (.pair (.int .i64) (.pair (.int .i64) (.pair (.pair (.int .i64) (.int .i64)) (.sl none (.pair (.int .i64) (.int .i64))))))), .val (.int .i64), .val (.int .i64)], [(.pair (.int .i64) (.pair (.pair (.int .i64) (.int .i64)) (.pair (.int .i64) (.pair (.int .i64) (.pair (.int .i64) (.pair (.pair (.int .i64) (.int .i64)) (.sl (some 62) (.pair (.int .i64) (.int .i64)))))))))], m_impl_AcceptSlot⟩

/-! impl.copyAcceptor -/
def l_impl_copyAcceptor_1 (n : Nat) (x : (List (Int × (Int × (Int × ((Int × Int) × (List (Int × Int)))))))) (z0 : (Int × (List (Int × (Int × (Int × ((Int × Int) × (List (Int × Int))))))))) : Option (List (Int × (Int × (Int × ((Int × Int) × (List (Int × Int))))))) :=
(lp (fun rec8 (z7 : (Int × (List (Int × (Int × (Int × ((Int × Int) × (List (Int × Int))))))))) =>
 (cond (decide (z7.1 < (lenI x)))
  ((geti x z7.1).bind fun y9 =>
  ((m_impl_copySlot y9).bind fun r10 =>
  (chk (Nat.ble ((z7.2.length + [r10].length) * 64) maxBytes)
  (rec8 (IntKind.wrap .i64 (z7.1 + (1 : Int)), (z7.2 ++ [r10]))))))
  (some z7.2))) n z0)
def p_impl_copyAcceptor (n : Nat) (x : (List (Int × (Int × (Int × ((Int × Int) × (List (Int × Int)))))))) : Option (List (Int × (Int × (Int × ((Int × Int) × (List (Int × Int))))))) :=
(l_impl_copyAcceptor_1 n x ((0 : Int), []))
def m_impl_copyAcceptor (x : (List (Int × (Int × (Int × ((Int × Int) × (List (Int × Int)))))))) : Option (List (Int × (Int × (Int × ((Int × Int) × (List (Int × Int))))))) := p_impl_copyAcceptor FU x
def a_impl_copyAcceptor : Ann := (.node .leaf (.node .leaf (.node (.node .leaf (.loop [.slot 10 (.int .i64), .box 2 (.one (.sl (some 114) (.pair (.int .i64) (.pair (.int .i64) (.pair (.int .i64) (.pair (.pair (.int .i64) (.int .i64)) (.sl (some 62) (.pair (.int .i64) (.int .i64)))))))))] [5, 11, 12, 13, 14, 15, 16, 17, 18, 19, 20, 21] (.node .leaf (.node .leaf (.node (.node .leaf (.own 18 (.pair (.int .i64) (.pair (.int .i64) (.pair (.int .i64) (.pair (.pair (.int .i64) (.int .i64)) (.sl (some 62) (.pair (.int .i64) (.int .i64))))))) .leaf)) .leaf))))) .leaf)))
def S_impl_copyAcceptor : FSpec := ⟨[.val (.one (.sl none (.pair (.int .i64) (.pair (.int .i64) (.pair (.int .i64) (.pair (.pair (.int .i64) (.int .i64)) (.sl none (.pair (.int .i64) (.int .i64)))))))))], [(.one (.sl (some 114) (.pair (.int .i64) (.pair (.int .i64) (.pair (.int .i64) (.pair (.pair (.int .i64) (.int .i64)) (.sl (some 62) (.pair (.int .i64) (.int .i64)))))))))], m_impl_copyAcceptor⟩

/-! impl.Slot] -/
def p_slices_Insert_impl_Slot_impl_Slot (n : Nat) (x : ((List (Int × (Int × (Int × ((Int × Int) × (List (Int × Int))))))) × (Int × (List (Int × (Int × (Int × ((Int × Int) × (List (Int × Int)))))))))) : Option ((List (Int × (Int × (Int × ((Int × Int) × (List (Int × Int))))))) × (Bool × Bool)) :=
(insRun 64 x).map fun y => (y, (true, true))
def m_slices_Insert_impl_Slot_impl_Slot (x : ((List (Int × (Int × (Int × ((Int × Int) × (List (Int × Int))))))) × (Int × (List (Int × (Int × (Int × ((Int × Int) × (List (Int × Int)))))))))) : Option ((List (Int × (Int × (Int × ((Int × Int) × (List (Int × Int))))))) × (Bool × Bool)) := p_slices_Insert_impl_Slot_impl_Slot FU x
def a_slices_Insert_impl_Slot_impl_Slot : Ann := .leaf
def S_slices_Insert_impl_Slot_impl_Slot : FSpec := ⟨[.own 114 (.pair (.int .i64) (.pair (.int .i64) (.pair (.int .i64) (.pair (.pair (.int .i64) (.int .i64)) (.sl (some 62) (.pair (.int .i64) (.int .i64))))))), .val (.int .i64), .own 114 (.pair (.int .i64) (.pair (.int .i64) (.pair (.int .i64) (.pair (.pair (.int .i64) (.int .i64)) (.sl (some 62) (.pair (.int .i64) (.int .i64)))))))], [(.sl (some 114) (.pair (.int .i64) (.pair (.int .i64) (.pair (.int .i64) (.pair (.pair (.int .i64) (.int .i64)) (.sl (some 62) (.pair (.int .i64) (.int .i64))))))))], m_slices_Insert_impl_Slot_impl_Slot⟩

/-! impl.Acceptor).accept -/
def p_impl_Acceptor_accept (n : Nat) (x : ((List (Int × (Int × (Int × ((Int × Int) × (List (Int × Int))))))) × (Int × (Int × (Int × Int))))) : Option (Int × ((Int × Int) × (List (Int × (Int × (Int × ((Int × Int) × (List (Int × Int))))))))) :=
(Option.bind (α := (Int × ((Int × Int) × (List (Int × (Int × (Int × ((Int × Int) × (List (Int × Int))))))))))
 ((m_impl_Acceptor_slot (x.1, x.2.1, x.2.2.1)).bind fun r6 =>
 ((m_impl_AcceptSlot (r6, x.2.2.2.1, x.2.2.2.2)).bind fun r7 =>
 (cond (!(r7.1 == (0 : Int)))
  (some (r7.1, (((0 : Int), (0 : Int)), [])))
  ((m_impl_copyAcceptor x.1).bind fun r8 =>
  ((m_impl_Acceptor_slotAt (r8, x.2.1, x.2.2.1)).bind fun r9 =>
  (cond r9.2
   ((geti r8 r9.1).bind fun _ =>
   ((r8[r9.1.toNat]?).bind fun _ =>
   some ((0 : Int), (r7.2.1, (r8.set r9.1.toNat r7.2.2)))))
   (cond ((lenI r8) == (60 : Int))
    (some ((2 : Int), (((0 : Int), (0 : Int)), [])))
    ((m_slices_Insert_impl_Slot_impl_Slot (r8, r9.1, [r7.2.2])).bind fun r10 =>
    some ((0 : Int), (r7.2.1, r10.1)))))))))) fun j11 =>
some j11)
def m_impl_Acceptor_accept (x : ((List (Int × (Int × (Int × ((Int × Int) × (List (Int × Int))))))) × (Int × (Int × (Int × Int))))) : Option (Int × ((Int × Int) × (List (Int × (Int × (Int × ((Int × Int) × (List (Int × Int))))))))) := p_impl_Acceptor_accept FU x
def a_impl_Acceptor_accept : Ann := (.node .leaf (.node (.regj 15 [.slot 15 (.pair (.int .i64) (.pair (.pair (.int .i64) (.int .i64)) (.one (.sl (some 114) (.pair (.int .i64) (.pair (.int .i64) (.pair (.int .i64) (.pair (.pair (.int .i64) (.int .i64)) (.sl (some 62) (.pair (.int .i64) (.int .i64)))))))))))] [] (.node .leaf (.node .leaf (.node .leaf (.node .leaf (.node .leaf (.node (.node .leaf (.node .leaf (.node .leaf (.node .leaf (.own 39 (.pair (.int .i64) (.pair (.int .i64) (.pair (.int .i64) (.pair (.pair (.int .i64) (.int .i64)) (.sl (some 62) (.pair (.int .i64) (.int .i64))))))) .leaf))))) .leaf)))))) .leaf) .leaf))
def S_impl_Acceptor_accept : FSpec := ⟨[.val (.one (.sl none (.pair (.int .i64) (.pair (.int .i64) (.pair (.int .i64) (.pair (.pair (.int .i64) (.int .i64)) (.sl none (.pair (.int .i64) (.int .i64))))))))), .val (.int .i64), .val (.int .i64), .val (.int .i64), .val (.int .i64)], [(.pair (.int .i64) (.pair (.pair (.int .i64) (.int .i64)) (.one (.sl (some 114) (.pair (.int .i64) (.pair (.int .i64) (.pair (.int .i64) (.pair (.pair (.int .i64) (.int .i64)) (.sl (some 62) (.pair (.int .i64) (.int .i64)))))))))))], m_impl_Acceptor_accept⟩

/-! impl.AcceptAt -/
def p_impl_AcceptAt (n : Nat) (x : ((List (Int × (Int × (Int × ((Int × Int) × (List (Int × Int))))))) × (Int × (Int × (Int × Int))))) : Option (Int × ((Int × Int) × (List (Int × (Int × (Int × ((Int × Int) × (List (Int × Int))))))))) :=
((m_impl_AcceptorFault x.1).bind fun r1 =>
((m_impl_NewSlot (x.2.1, x.2.2.1)).bind fun r2 =>
((m_impl_firstOf [r1, r2.1]).bind fun r3 =>
(cond (!(r3 == (0 : Int)))
 (some (r3, (((0 : Int), (0 : Int)), [])))
 ((m_impl_Acceptor_accept (x.1, x.2.1, x.2.2.1, x.2.2.2.1, x.2.2.2.2)).bind fun r4 =>
 some r4)))))
def m_impl_AcceptAt (x : ((List (Int × (Int × (Int × ((Int × Int) × (List (Int × Int))))))) × (Int × (Int × (Int × Int))))) : Option (Int × ((Int × Int) × (List (Int × (Int × (Int × ((Int × Int) × (List (Int × Int))))))))) := p_impl_AcceptAt FU x
def a_impl_AcceptAt : Ann := .leaf
def S_impl_AcceptAt : FSpec := ⟨[.val (.one (.sl none (.pair (.int .i64) (.pair (.int .i64) (.pair (.int .i64) (.pair (.pair (.int .i64) (.int .i64)) (.sl none (.pair (.int .i64) (.int .i64))))))))), .val (.int .i64), .val (.int .i64), .val (.int .i64), .val (.int .i64)], [(.pair (.int .i64) (.pair (.pair (.int .i64) (.int .i64)) (.one (.sl (some 114) (.pair (.int .i64) (.pair (.int .i64) (.pair (.int .i64) (.pair (.pair (.int .i64) (.int .i64)) (.sl (some 62) (.pair (.int .i64) (.int .i64)))))))))))], m_impl_AcceptAt⟩

/-! laws.eqVote -/
def p_laws_eqVote (n : Nat) (x : ((Int × Int) × (Int × Int))) : Option Bool :=
(cond (!(x.1.1 == x.2.1))
 (some false)
 (cond (!(x.1.2 == x.2.2))
  (some false)
  (some true)))
def m_laws_eqVote (x : ((Int × Int) × (Int × Int))) : Option Bool := p_laws_eqVote FU x
def a_laws_eqVote : Ann := .leaf
def S_laws_eqVote : FSpec := ⟨[.val (.pair (.int .i64) (.int .i64)), .val (.pair (.int .i64) (.int .i64))], [.bool], m_laws_eqVote⟩

/-! laws.eqVoteS -/
def l_laws_eqVoteS_1 (n : Nat) (x_1 : (List (Int × Int))) (x_2 : (List (Int × Int))) (z0 : Int) : Option Bool :=
(lp (fun rec6 (z5 : Int) =>
 (cond (decide (z5 < (lenI x_1)))
  ((geti x_1 z5).bind fun y7 =>
  ((geti x_2 z5).bind fun y8 =>
  ((m_laws_eqVote (y7, y8)).bind fun r9 =>
  (cond (!r9)
   (some false)
   (rec6 (IntKind.wrap .i64 (z5 + (1 : Int))))))))
  (some true))) n z0)
def p_laws_eqVoteS (n : Nat) (x : ((List (Int × Int)) × (List (Int × Int)))) : Option Bool :=
(cond (!((lenI x.1) == (lenI x.2)))
 (some false)
 (l_laws_eqVoteS_1 n x.1 x.2 (0 : Int)))
def m_laws_eqVoteS (x : ((List (Int × Int)) × (List (Int × Int)))) : Option Bool := p_laws_eqVoteS FU x
def a_laws_eqVoteS : Ann := (.node .leaf (.node .leaf (.node (.node .leaf (.loop [.slot 5 (.int .i64)] [4, 11, 12, 13, 14, 15, 16, 17, 18, 19, 20, 21, 22, 23, 24, 25, 26] .leaf)) .leaf)))
def S_laws_eqVoteS : FSpec := ⟨[.val (.sl none (.pair (.int .i64) (.int .i64))), .val (.sl none (.pair (.int .i64) (.int .i64)))], [.bool], m_laws_eqVoteS⟩

/-! laws.eqSlot -/
def p_laws_eqSlot (n : Nat) (x : ((Int × (Int × (Int × ((Int × Int) × (List (Int × Int)))))) × (Int × (Int × (Int × ((Int × Int) × (List (Int × Int)))))))) : Option Bool :=
(cond (!(x.1.1 == x.2.1))
 (some false)
 (cond (!(x.1.2.1 == x.2.2.1))
  (some false)
  (cond (!(x.1.2.2.1 == x.2.2.2.1))
   (some false)
   ((m_laws_eqVote (x.1.2.2.2.1, x.2.2.2.2.1)).bind fun r1 =>
   (cond (!r1)
    (some false)
    ((m_laws_eqVoteS (x.1.2.2.2.2, x.2.2.2.2.2)).bind fun r2 =>
    (cond (!r2)
     (some false)
     (some true))))))))
def m_laws_eqSlot (x : ((Int × (Int × (Int × ((Int × Int) × (List (Int × Int)))))) × (Int × (Int × (Int × ((Int × Int) × (List (Int × Int)))))))) : Option Bool := p_laws_eqSlot FU x
def a_laws_eqSlot : Ann := .leaf
def S_laws_eqSlot : FSpec := ⟨[.val (.pair (.int .i64) (.pair (.int .i64) (.pair (.int .i64) (.pair (.pair (.int .i64) (.int .i64)) (.sl none (.pair (.int .i64) (.int .i64))))))), .val (.pair (.int .i64) (.pair (.int .i64) (.pair (.int .i64) (.pair (.pair (.int .i64) (.int .i64)) (.sl none (.pair (.int .i64) (.int .i64)))))))], [.bool], m_laws_eqSlot⟩

/-! laws.eqSlotS -/
def l_laws_eqSlotS_1 (n : Nat) (x_1 : (List (Int × (Int × (Int × ((Int × Int) × (List (Int × Int)))))))) (x_2 : (List (Int × (Int × (Int × ((Int × Int) × (List (Int × Int)))))))) (z0 : Int) : Option Bool :=
(lp (fun rec6 (z5 : Int) =>
 (cond (decide (z5 < (lenI x_1)))
  ((geti x_1 z5).bind fun y7 =>
  ((geti x_2 z5).bind fun y8 =>
  ((m_laws_eqSlot (y7, y8)).bind fun r9 =>
  (cond (!r9)
   (some false)
   (rec6 (IntKind.wrap .i64 (z5 + (1 : Int))))))))
  (some true))) n z0)
def p_laws_eqSlotS (n : Nat) (x : ((List (Int × (Int × (Int × ((Int × Int) × (List (Int × Int))))))) × (List (Int × (Int × (Int × ((Int × Int) × (List (Int × Int))))))))) : Option Bool :=
(cond (!((lenI x.1) == (lenI x.2)))
 (some false)
 (l_laws_eqSlotS_1 n x.1 x.2 (0 : Int)))
def m_laws_eqSlotS (x : ((List (Int × (Int × (Int × ((Int × Int) × (List (Int × Int))))))) × (List (Int × (Int × (Int × ((Int × Int) × (List (Int × Int))))))))) : Option Bool := p_laws_eqSlotS FU x
def a_laws_eqSlotS : Ann := (.node .leaf (.node .leaf (.node (.node .leaf (.loop [.slot 5 (.int .i64)] [4, 11, 12, 13, 14, 15, 16, 17, 18, 19, 20, 21, 22, 23, 24, 25, 26] .leaf)) .leaf)))
def S_laws_eqSlotS : FSpec := ⟨[.val (.sl none (.pair (.int .i64) (.pair (.int .i64) (.pair (.int .i64) (.pair (.pair (.int .i64) (.int .i64)) (.sl none (.pair (.int .i64) (.int .i64)))))))), .val (.sl none (.pair (.int .i64) (.pair (.int .i64) (.pair (.int .i64) (.pair (.pair (.int .i64) (.int .i64)) (.sl none (.pair (.int .i64) (.int .i64))))))))], [.bool], m_laws_eqSlotS⟩

/-! laws.eqAcceptor -/
def p_laws_eqAcceptor (n : Nat) (x : ((List (Int × (Int × (Int × ((Int × Int) × (List (Int × Int))))))) × (List (Int × (Int × (Int × ((Int × Int) × (List (Int × Int))))))))) : Option Bool :=
((m_laws_eqSlotS (x.1, x.2)).bind fun r1 =>
(cond (!r1)
 (some false)
 (some true)))
def m_laws_eqAcceptor (x : ((List (Int × (Int × (Int × ((Int × Int) × (List (Int × Int))))))) × (List (Int × (Int × (Int × ((Int × Int) × (List (Int × Int))))))))) : Option Bool := p_laws_eqAcceptor FU x
def a_laws_eqAcceptor : Ann := .leaf
def S_laws_eqAcceptor : FSpec := ⟨[.val (.one (.sl none (.pair (.int .i64) (.pair (.int .i64) (.pair (.int .i64) (.pair (.pair (.int .i64) (.int .i64)) (.sl none (.pair (.int .i64) (.int .i64))))))))), .val (.one (.sl none (.pair (.int .i64) (.pair (.int .i64) (.pair (.int .i64) (.pair (.pair (.int .i64) (.int .i64)) (.sl none (.pair (.int .i64) (.int .i64)))))))))], [.bool], m_laws_eqAcceptor⟩

/-! laws.eqAcceptorResult -/
def p_laws_eqAcceptorResult (n : Nat) (x : ((Int × ((Int × Int) × (List (Int × (Int × (Int × ((Int × Int) × (List (Int × Int))))))))) × (Int × ((Int × Int) × (List (Int × (Int × (Int × ((Int × Int) × (List (Int × Int))))))))))) : Option Bool :=
(cond (!(x.1.1 == x.2.1))
 (some false)
 ((m_laws_eqVote (x.1.2.1, x.2.2.1)).bind fun r1 =>
 (cond (!r1)
  (some false)
  ((m_laws_eqAcceptor (x.1.2.2, x.2.2.2)).bind fun r2 =>
  (cond (!r2)
   (some false)
   (some true))))))
def m_laws_eqAcceptorResult (x : ((Int × ((Int × Int) × (List (Int × (Int × (Int × ((Int × Int) × (List (Int × Int))))))))) × (Int × ((Int × Int) × (List (Int × (Int × (Int × ((Int × Int) × (List (Int × Int))))))))))) : Option Bool := p_laws_eqAcceptorResult FU x
def a_laws_eqAcceptorResult : Ann := .leaf
def S_laws_eqAcceptorResult : FSpec := ⟨[.val (.pair (.int .i64) (.pair (.pair (.int .i64) (.int .i64)) (.one (.sl none (.pair (.int .i64) (.pair (.int .i64) (.pair (.int .i64) (.pair (.pair (.int .i64) (.int .i64)) (.sl none (.pair (.int .i64) (.int .i64))))))))))), .val (.pair (.int .i64) (.pair (.pair (.int .i64) (.int .i64)) (.one (.sl none (.pair (.int .i64) (.pair (.int .i64) (.pair (.int .i64) (.pair (.pair (.int .i64) (.int .i64)) (.sl none (.pair (.int .i64) (.int .i64)))))))))))], [.bool], m_laws_eqAcceptorResult⟩

/-! laws.markVoteS -/
def l_laws_markVoteS_1 (n : Nat)  (z0 : (Int × (Int × (List (Int × Int))))) : Option (Int × (List (Int × Int))) :=
(lp (fun rec8 (z7 : (Int × (Int × (List (Int × Int))))) =>
 (cond (decide (z7.2.1 < (lenI z7.2.2)))
  ((geti z7.2.2 z7.2.1).bind fun _ =>
  ((z7.2.2[z7.2.1.toNat]?).bind fun y9 =>
  ((geti (z7.2.2.set z7.2.1.toNat (z7.1, y9.2)) z7.2.1).bind fun _ =>
  (((z7.2.2.set z7.2.1.toNat (z7.1, y9.2))[z7.2.1.toNat]?).bind fun y10 =>
  rec8 (IntKind.wrap .i64 ((IntKind.wrap .i64 (z7.1 + (1 : Int))) + (1 : Int)), IntKind.wrap .i64 (z7.2.1 + (1 : Int)), ((z7.2.2.set z7.2.1.toNat (z7.1, y9.2)).set z7.2.1.toNat (y10.1, IntKind.wrap .i64 (z7.1 + (1 : Int)))))))))
  (some (z7.1, z7.2.2)))) n z0)
def p_laws_markVoteS (n : Nat) (x : ((List (Int × Int)) × Int)) : Option (Int × (List (Int × Int))) :=
(l_laws_markVoteS_1 n  (x.2, (0 : Int), x.1))
def m_laws_markVoteS (x : ((List (Int × Int)) × Int)) : Option (Int × (List (Int × Int))) := p_laws_markVoteS FU x
def a_laws_markVoteS : Ann := (.node .leaf (.node (.node .leaf (.loop [.slot 1 (.int .i64), .slot 5 (.int .i64), .row 0 62 (.pair (.int .i64) (.int .i64))] [6, 7, 8, 9, 10, 11, 12, 13, 14, 15, 16, 17, 18, 19, 20, 21, 22, 23, 24, 25] .leaf)) .leaf))
def S_laws_markVoteS : FSpec := ⟨[.row 62 (.pair (.int .i64) (.int .i64)), .val (.int .i64)], [(.int .i64)], m_laws_markVoteS⟩

/-! laws.markSlotS -/
def l_laws_markSlotS_1 (n : Nat)  (z0 : (Int × (Int × (List (Int × (Int × (Int × ((Int × Int) × (List (Int × Int)))))))))) : Option (Int × (List (Int × (Int × (Int × ((Int × Int) × (List (Int × Int)))))))) :=
(lp (fun rec20 (z19 : (Int × (Int × (List (Int × (Int × (Int × ((Int × Int) × (List (Int × Int)))))))))) =>
 (cond (decide (z19.2.1 < (lenI z19.2.2)))
  ((geti z19.2.2 z19.2.1).bind fun _ =>
  ((z19.2.2[z19.2.1.toNat]?).bind fun y21 =>
  ((geti (z19.2.2.set z19.2.1.toNat (z19.1, y21.2)) z19.2.1).bind fun _ =>
  (((z19.2.2.set z19.2.1.toNat (z19.1, y21.2))[z19.2.1.toNat]?).bind fun y22 =>
  ((geti ((z19.2.2.set z19.2.1.toNat (z19.1, y21.2)).set z19.2.1.toNat (y22.1, (IntKind.wrap .i64 (z19.1 + (1 : Int)), y22.2.2))) z19.2.1).bind fun _ =>
  ((((z19.2.2.set z19.2.1.toNat (z19.1, y21.2)).set z19.2.1.toNat (y22.1, (IntKind.wrap .i64 (z19.1 + (1 : Int)), y22.2.2)))[z19.2.1.toNat]?).bind fun y23 =>
  ((geti (((z19.2.2.set z19.2.1.toNat (z19.1, y21.2)).set z19.2.1.toNat (y22.1, (IntKind.wrap .i64 (z19.1 + (1 : Int)), y22.2.2))).set z19.2.1.toNat (y23.1, (y23.2.1, (IntKind.wrap .i64 ((IntKind.wrap .i64 (z19.1 + (1 : Int))) + (1 : Int)), y23.2.2.2)))) z19.2.1).bind fun _ =>
  (((((z19.2.2.set z19.2.1.toNat (z19.1, y21.2)).set z19.2.1.toNat (y22.1, (IntKind.wrap .i64 (z19.1 + (1 : Int)), y22.2.2))).set z19.2.1.toNat (y23.1, (y23.2.1, (IntKind.wrap .i64 ((IntKind.wrap .i64 (z19.1 + (1 : Int))) + (1 : Int)), y23.2.2.2))))[z19.2.1.toNat]?).bind fun y24 =>
  ((geti ((((z19.2.2.set z19.2.1.toNat (z19.1, y21.2)).set z19.2.1.toNat (y22.1, (IntKind.wrap .i64 (z19.1 + (1 : Int)), y22.2.2))).set z19.2.1.toNat (y23.1, (y23.2.1, (IntKind.wrap .i64 ((IntKind.wrap .i64 (z19.1 + (1 : Int))) + (1 : Int)), y23.2.2.2)))).set z19.2.1.toNat (y24.1, (y24.2.1, (y24.2.2.1, ((IntKind.wrap .i64 ((IntKind.wrap .i64 ((IntKind.wrap .i64 (z19.1 + (1 : Int))) + (1 : Int))) + (1 : Int)), y24.2.2.2.1.2), y24.2.2.2.2))))) z19.2.1).bind fun _ =>
  ((((((z19.2.2.set z19.2.1.toNat (z19.1, y21.2)).set z19.2.1.toNat (y22.1, (IntKind.wrap .i64 (z19.1 + (1 : Int)), y22.2.2))).set z19.2.1.toNat (y23.1, (y23.2.1, (IntKind.wrap .i64 ((IntKind.wrap .i64 (z19.1 + (1 : Int))) + (1 : Int)), y23.2.2.2)))).set z19.2.1.toNat (y24.1, (y24.2.1, (y24.2.2.1, ((IntKind.wrap .i64 ((IntKind.wrap .i64 ((IntKind.wrap .i64 (z19.1 + (1 : Int))) + (1 : Int))) + (1 : Int)), y24.2.2.2.1.2), y24.2.2.2.2)))))[z19.2.1.toNat]?).bind fun y25 =>
  ((geti (((((z19.2.2.set z19.2.1.toNat (z19.1, y21.2)).set z19.2.1.toNat (y22.1, (IntKind.wrap .i64 (z19.1 + (1 : Int)), y22.2.2))).set z19.2.1.toNat (y23.1, (y23.2.1, (IntKind.wrap .i64 ((IntKind.wrap .i64 (z19.1 + (1 : Int))) + (1 : Int)), y23.2.2.2)))).set z19.2.1.toNat (y24.1, (y24.2.1, (y24.2.2.1, ((IntKind.wrap .i64 ((IntKind.wrap .i64 ((IntKind.wrap .i64 (z19.1 + (1 : Int))) + (1 : Int))) + (1 : Int)), y24.2.2.2.1.2), y24.2.2.2.2))))).set z19.2.1.toNat (y25.1, (y25.2.1, (y25.2.2.1, ((y25.2.2.2.1.1, IntKind.wrap .i64 ((IntKind.wrap .i64 ((IntKind.wrap .i64 ((IntKind.wrap .i64 (z19.1 + (1 : Int))) + (1 : Int))) + (1 : Int))) + (1 : Int))), y25.2.2.2.2))))) z19.2.1).bind fun _ =>
  (((((((z19.2.2.set z19.2.1.toNat (z19.1, y21.2)).set z19.2.1.toNat (y22.1, (IntKind.wrap .i64 (z19.1 + (1 : Int)), y22.2.2))).set z19.2.1.toNat (y23.1, (y23.2.1, (IntKind.wrap .i64 ((IntKind.wrap .i64 (z19.1 + (1 : Int))) + (1 : Int)), y23.2.2.2)))).set z19.2.1.toNat (y24.1, (y24.2.1, (y24.2.2.1, ((IntKind.wrap .i64 ((IntKind.wrap .i64 ((IntKind.wrap .i64 (z19.1 + (1 : Int))) + (1 : Int))) + (1 : Int)), y24.2.2.2.1.2), y24.2.2.2.2))))).set z19.2.1.toNat (y25.1, (y25.2.1, (y25.2.2.1, ((y25.2.2.2.1.1, IntKind.wrap .i64 ((IntKind.wrap .i64 ((IntKind.wrap .i64 ((IntKind.wrap .i64 (z19.1 + (1 : Int))) + (1 : Int))) + (1 : Int))) + (1 : Int))), y25.2.2.2.2)))))[z19.2.1.toNat]?).bind fun y26 =>
  (((((((z19.2.2.set z19.2.1.toNat (z19.1, y21.2)).set z19.2.1.toNat (y22.1, (IntKind.wrap .i64 (z19.1 + (1 : Int)), y22.2.2))).set z19.2.1.toNat (y23.1, (y23.2.1, (IntKind.wrap .i64 ((IntKind.wrap .i64 (z19.1 + (1 : Int))) + (1 : Int)), y23.2.2.2)))).set z19.2.1.toNat (y24.1, (y24.2.1, (y24.2.2.1, ((IntKind.wrap .i64 ((IntKind.wrap .i64 ((IntKind.wrap .i64 (z19.1 + (1 : Int))) + (1 : Int))) + (1 : Int)), y24.2.2.2.1.2), y24.2.2.2.2))))).set z19.2.1.toNat (y25.1, (y25.2.1, (y25.2.2.1, ((y25.2.2.2.1.1, IntKind.wrap .i64 ((IntKind.wrap .i64 ((IntKind.wrap .i64 ((IntKind.wrap .i64 (z19.1 + (1 : Int))) + (1 : Int))) + (1 : Int))) + (1 : Int))), y25.2.2.2.2)))))[z19.2.1.toNat]?).bind fun y27 =>
  ((m_laws_markVoteS (y27.2.2.2.2, IntKind.wrap .i64 ((IntKind.wrap .i64 ((IntKind.wrap .i64 ((IntKind.wrap .i64 ((IntKind.wrap .i64 (z19.1 + (1 : Int))) + (1 : Int))) + (1 : Int))) + (1 : Int))) + (1 : Int)))).bind fun r28 =>
  rec20 (r28.1, IntKind.wrap .i64 (z19.2.1 + (1 : Int)), ((((((z19.2.2.set z19.2.1.toNat (z19.1, y21.2)).set z19.2.1.toNat (y22.1, (IntKind.wrap .i64 (z19.1 + (1 : Int)), y22.2.2))).set z19.2.1.toNat (y23.1, (y23.2.1, (IntKind.wrap .i64 ((IntKind.wrap .i64 (z19.1 + (1 : Int))) + (1 : Int)), y23.2.2.2)))).set z19.2.1.toNat (y24.1, (y24.2.1, (y24.2.2.1, ((IntKind.wrap .i64 ((IntKind.wrap .i64 ((IntKind.wrap .i64 (z19.1 + (1 : Int))) + (1 : Int))) + (1 : Int)), y24.2.2.2.1.2), y24.2.2.2.2))))).set z19.2.1.toNat (y25.1, (y25.2.1, (y25.2.2.1, ((y25.2.2.2.1.1, IntKind.wrap .i64 ((IntKind.wrap .i64 ((IntKind.wrap .i64 ((IntKind.wrap .i64 (z19.1 + (1 : Int))) + (1 : Int))) + (1 : Int))) + (1 : Int))), y25.2.2.2.2))))).set z19.2.1.toNat (y27.1, (y27.2.1, (y27.2.2.1, (y27.2.2.2.1, r28.2))))))))))))))))))))
  (some (z19.1, z19.2.2)))) n z0)
def p_laws_markSlotS (n : Nat) (x : ((List (Int × (Int × (Int × ((Int × Int) × (List (Int × Int))))))) × Int)) : Option (Int × (List (Int × (Int × (Int × ((Int × Int) × (List (Int × Int)))))))) :=
(l_laws_markSlotS_1 n  (x.2, (0 : Int), x.1))
def m_laws_markSlotS (x : ((List (Int × (Int × (Int × ((Int × Int) × (List (Int × Int))))))) × Int)) : Option (Int × (List (Int × (Int × (Int × ((Int × Int) × (List (Int × Int)))))))) := p_laws_markSlotS FU x
def a_laws_markSlotS : Ann := (.node .leaf (.node (.node .leaf (.loop [.slot 1 (.int .i64), .slot 5 (.int .i64), .row 0 114 (.pair (.int .i64) (.pair (.int .i64) (.pair (.int .i64) (.pair (.pair (.int .i64) (.int .i64)) (.sl (some 62) (.pair (.int .i64) (.int .i64)))))))] [6, 7, 8, 9, 10, 11, 12, 13, 14, 15, 16, 17, 18, 19, 20, 21, 22, 23, 24, 25, 26, 27, 28, 29, 30, 31, 32, 33, 34, 35, 36, 37, 38, 39, 40, 41, 42, 43, 44, 45, 46, 47, 48, 49, 50, 51, 52, 53, 54, 55] .leaf)) .leaf))
def S_laws_markSlotS : FSpec := ⟨[.row 114 (.pair (.int .i64) (.pair (.int .i64) (.pair (.int .i64) (.pair (.pair (.int .i64) (.int .i64)) (.sl (some 62) (.pair (.int .i64) (.int .i64))))))), .val (.int .i64)], [(.int .i64)], m_laws_markSlotS⟩

/-! laws.heldVoteS -/
def l_laws_heldVoteS_1 (n : Nat) (x_1 : (List (Int × Int))) (z0 : (Int × Int)) : Option Int :=
(lp (fun rec5 (z4 : (Int × Int)) =>
 (cond (decide (z4.2 < (lenI x_1)))
  ((geti x_1 z4.2).bind fun y6 =>
  (cond (!(y6.1 == z4.1))
   (some (-1 : Int))
   ((geti x_1 z4.2).bind fun y7 =>
   (cond (!(y7.2 == (IntKind.wrap .i64 (z4.1 + (1 : Int)))))
    (some (-1 : Int))
    (rec5 (IntKind.wrap .i64 ((IntKind.wrap .i64 (z4.1 + (1 : Int))) + (1 : Int)), IntKind.wrap .i64 (z4.2 + (1 : Int))))))))
  (some z4.1))) n z0)
def p_laws_heldVoteS (n : Nat) (x : ((List (Int × Int)) × Int)) : Option Int :=
(l_laws_heldVoteS_1 n x.1 (x.2, (0 : Int)))
def m_laws_heldVoteS (x : ((List (Int × Int)) × Int)) : Option Int := p_laws_heldVoteS FU x
def a_laws_heldVoteS : Ann := (.node .leaf (.node (.node .leaf (.loop [.slot 1 (.int .i64), .slot 5 (.int .i64)] [4, 6, 7, 8, 9, 10, 11, 12, 13, 14, 15, 16, 17, 18, 19, 20, 21, 22, 23, 24, 25, 26, 27, 28, 29] .leaf)) .leaf))
def S_laws_heldVoteS : FSpec := ⟨[.val (.sl none (.pair (.int .i64) (.int .i64))), .val (.int .i64)], [(.int .i64)], m_laws_heldVoteS⟩

/-! laws.heldSlotS -/
def l_laws_heldSlotS_1 (n : Nat) (x_1 : (List (Int × (Int × (Int × ((Int × Int) × (List (Int × Int)))))))) (z0 : (Int × Int)) : Option Int :=
(lp (fun rec10 (z9 : (Int × Int)) =>
 (cond (decide (z9.2 < (lenI x_1)))
  ((geti x_1 z9.2).bind fun y11 =>
  (cond (!(y11.1 == z9.1))
   (some (-1 : Int))
   ((geti x_1 z9.2).bind fun y12 =>
   (cond (!(y12.2.1 == (IntKind.wrap .i64 (z9.1 + (1 : Int)))))
    (some (-1 : Int))
    ((geti x_1 z9.2).bind fun y13 =>
    (cond (!(y13.2.2.1 == (IntKind.wrap .i64 ((IntKind.wrap .i64 (z9.1 + (1 : Int))) + (1 : Int)))))
     (some (-1 : Int))
     ((geti x_1 z9.2).bind fun y14 =>
     (cond (!(y14.2.2.2.1.1 == (IntKind.wrap .i64 ((IntKind.wrap .i64 ((IntKind.wrap .i64 (z9.1 + (1 : Int))) + (1 : Int))) + (1 : Int)))))
      (some (-1 : Int))
      ((geti x_1 z9.2).bind fun y15 =>
      (cond (!(y15.2.2.2.1.2 == (IntKind.wrap .i64 ((IntKind.wrap .i64 ((IntKind.wrap .i64 ((IntKind.wrap .i64 (z9.1 + (1 : Int))) + (1 : Int))) + (1 : Int))) + (1 : Int)))))
       (some (-1 : Int))
       ((geti x_1 z9.2).bind fun y16 =>
       ((m_laws_heldVoteS (y16.2.2.2.2, IntKind.wrap .i64 ((IntKind.wrap .i64 ((IntKind.wrap .i64 ((IntKind.wrap .i64 ((IntKind.wrap .i64 (z9.1 + (1 : Int))) + (1 : Int))) + (1 : Int))) + (1 : Int))) + (1 : Int)))).bind fun r17 =>
       (cond (decide (r17 < (0 : Int)))
        (some (-1 : Int))
        (rec10 (r17, IntKind.wrap .i64 (z9.2 + (1 : Int)))))))))))))))))
  (some z9.1))) n z0)
def p_laws_heldSlotS (n : Nat) (x : ((List (Int × (Int × (Int × ((Int × Int) × (List (Int × Int))))))) × Int)) : Option Int :=
(l_laws_heldSlotS_1 n x.1 (x.2, (0 : Int)))
def m_laws_heldSlotS (x : ((List (Int × (Int × (Int × ((Int × Int) × (List (Int × Int))))))) × Int)) : Option Int := p_laws_heldSlotS FU x
def a_laws_heldSlotS : Ann := (.node .leaf (.node (.node .leaf (.loop [.slot 1 (.int .i64), .slot 5 (.int .i64)] [4, 6, 7, 8, 9, 10, 11, 12, 13, 14, 15, 16, 17, 18, 19, 20, 21, 22, 23, 24, 25, 26, 27, 28, 29, 30, 31, 32, 33, 34, 35, 36, 37, 38, 39, 40, 41, 42, 43, 44, 45, 46, 47, 48, 49, 50, 51, 52, 53, 54, 55, 56, 57, 58, 59, 60, 61, 62, 63, 64, 65, 66, 67] .leaf)) .leaf))
def S_laws_heldSlotS : FSpec := ⟨[.val (.sl none (.pair (.int .i64) (.pair (.int .i64) (.pair (.int .i64) (.pair (.pair (.int .i64) (.int .i64)) (.sl none (.pair (.int .i64) (.int .i64)))))))), .val (.int .i64)], [(.int .i64)], m_laws_heldSlotS⟩

/-! laws.heldAcceptor -/
def p_laws_heldAcceptor (n : Nat) (x : ((List (Int × (Int × (Int × ((Int × Int) × (List (Int × Int))))))) × Int)) : Option Int :=
((m_laws_heldSlotS (x.1, x.2)).bind fun r1 =>
(cond (decide (r1 < (0 : Int)))
 (some (-1 : Int))
 (some r1)))
def m_laws_heldAcceptor (x : ((List (Int × (Int × (Int × ((Int × Int) × (List (Int × Int))))))) × Int)) : Option Int := p_laws_heldAcceptor FU x
def a_laws_heldAcceptor : Ann := .leaf
def S_laws_heldAcceptor : FSpec := ⟨[.val (.one (.sl none (.pair (.int .i64) (.pair (.int .i64) (.pair (.int .i64) (.pair (.pair (.int .i64) (.int .i64)) (.sl none (.pair (.int .i64) (.int .i64))))))))), .val (.int .i64)], [(.int .i64)], m_laws_heldAcceptor⟩

/-! laws.heldAcceptorResult -/
def p_laws_heldAcceptorResult (n : Nat) (x : ((Int × ((Int × Int) × (List (Int × (Int × (Int × ((Int × Int) × (List (Int × Int))))))))) × Int)) : Option Int :=
((m_laws_heldAcceptor (x.1.2.2, x.2)).bind fun r1 =>
(cond (decide (r1 < (0 : Int)))
 (some (-1 : Int))
 (some r1)))
def m_laws_heldAcceptorResult (x : ((Int × ((Int × Int) × (List (Int × (Int × (Int × ((Int × Int) × (List (Int × Int))))))))) × Int)) : Option Int := p_laws_heldAcceptorResult FU x
def a_laws_heldAcceptorResult : Ann := .leaf
def S_laws_heldAcceptorResult : FSpec := ⟨[.val (.pair (.int .i64) (.pair (.pair (.int .i64) (.int .i64)) (.one (.sl none (.pair (.int .i64) (.pair (.int .i64) (.pair (.int .i64) (.pair (.pair (.int .i64) (.int .i64)) (.sl none (.pair (.int .i64) (.int .i64))))))))))), .val (.int .i64)], [(.int .i64)], m_laws_heldAcceptorResult⟩

/-! laws.FnExactAcceptAt -/
def p_laws_FnExactAcceptAt (n : Nat) (x : ((List (Int × (Int × (Int × ((Int × Int) × (List (Int × Int))))))) × (Int × (Int × (Int × Int))))) : Option Bool :=
((m_laws_szAcceptor (x.1, (1048576 : Int))).bind fun r1 =>
(cond (decide (r1 < (0 : Int)))
 (some true)
 ((m_laws_toAcceptor x.1).bind fun r2 =>
 ((m_spec_AcceptAt (r2, x.2.1, x.2.2.1, x.2.2.2.1, x.2.2.2.2)).bind fun r3 =>
 ((m_laws_toAcceptor x.1).bind fun r4 =>
 ((m_impl_AcceptAt (r4, x.2.1, x.2.2.1, x.2.2.2.1, x.2.2.2.2)).bind fun r5 =>
 ((m_laws_eqAcceptorResult (r5, r3)).bind fun r6 =>
 (cond (!r6)
  (some false)
  ((m_laws_toAcceptor x.1).bind fun r7 =>
  ((m_laws_eqAcceptor (r4, r7)).bind fun r8 =>
  (cond (!r8)
   (some false)
   ((m_laws_markSlotS (r4, (1 : Int))).bind fun r9 =>
   (Option.bind (α := Bool)
    (cond (decide (r9.1 < (0 : Int)))
     (some true)
     ((m_laws_eqAcceptorResult (r5, r3)).bind fun r11 =>
     some (!r11))) fun j12 =>
   (cond j12
    (some false)
    ((m_laws_markSlotS (r5.2.2, (1 : Int))).bind fun r13 =>
    ((m_laws_heldAcceptorResult ((r5.1, (r5.2.1, r13.2)), (1 : Int))).bind fun r14 =>
    (cond (decide (r14 < (0 : Int)))
     (some false)
     (cond (!(r14 == r13.1))
      (some false)
      ((m_laws_toAcceptor x.1).bind fun r15 =>
      ((m_impl_AcceptAt (r15, x.2.1, x.2.2.1, x.2.2.2.1, x.2.2.2.2)).bind fun r16 =>
      ((m_laws_eqAcceptorResult (r16, r3)).bind fun r17 =>
      (cond (!r17)
       (some false)
       ((m_laws_heldAcceptorResult ((r5.1, (r5.2.1, r13.2)), (1 : Int))).bind fun r18 =>
       (cond (decide (r18 < (0 : Int)))
        (some false)
        (cond (!(r18 == r13.1))
         (some false)
         (some true))))))))))))))))))))))))))
def m_laws_FnExactAcceptAt (x : ((List (Int × (Int × (Int × ((Int × Int) × (List (Int × Int))))))) × (Int × (Int × (Int × Int))))) : Option Bool := p_laws_FnExactAcceptAt FU x
def a_laws_FnExactAcceptAt : Ann := (.node .leaf (.node .leaf (.node .leaf (.node .leaf (.node .leaf (.node .leaf (.node .leaf (.node .leaf (.node .leaf (.node .leaf (.node .leaf (.node (.join [.slot 58 .bool] [51, 52, 53, 54, 55, 56, 57] .leaf .leaf) .leaf))))))))))))
def S_laws_FnExactAcceptAt : FSpec := ⟨[.val (.one (.sl none (.pair (.int .i64) (.pair (.int .i64) (.pair (.int .i64) (.pair (.pair (.int .i64) (.int .i64)) (.sl none (.pair (.int .i64) (.int .i64))))))))), .val (.int .i64), .val (.int .i64), .val (.int .i64), .val (.int .i64)], [.bool], m_laws_FnExactAcceptAt⟩

def T : Tab := [
  (2, ⟨false, 1, 8, [], 0, [.int .i64 0], some (.int .i64), [0]⟩),
  (3, ⟨false, 1, 8, [], 0, [.int .i64 0], some (.int .i64), [0]⟩),
  (23, ⟨false, 1, 24, [], 2, [.nil], some (.sl none (.int .i64)), []⟩),
  (57, ⟨false, 1, 24, [], 163, [.nil], some (.sl none (.pair (.int .i64) (.pair (.int .i64) (.pair (.int .i64) (.pair (.pair (.int .i64) (.int .i64)) (.sl none (.pair (.int .i64) (.int .i64)))))))), []⟩),
  (59, ⟨true, 1, 24, [(0, 1, 57)], 0, [.nil], some (.one (.sl none (.pair (.int .i64) (.pair (.int .i64) (.pair (.int .i64) (.pair (.pair (.int .i64) (.int .i64)) (.sl none (.pair (.int .i64) (.int .i64))))))))), []⟩),
  (62, ⟨true, 2, 16, [(0, 1, 2), (1, 1, 2)], 0, [.int .i64 0, .int .i64 0], some (.pair (.int .i64) (.int .i64)), [0, 0]⟩),
  (63, ⟨false, 1, 24, [], 114, [.nil], some (.sl none (.pair (.int .i64) (.pair (.int .i64) (.pair (.int .i64) (.pair (.pair (.int .i64) (.int .i64)) (.sl none (.pair (.int .i64) (.int .i64)))))))), []⟩),
  (65, ⟨true, 1, 24, [(0, 1, 63)], 0, [.nil], some (.one (.sl none (.pair (.int .i64) (.pair (.int .i64) (.pair (.int .i64) (.pair (.pair (.int .i64) (.int .i64)) (.sl none (.pair (.int .i64) (.int .i64))))))))), []⟩),
  (67, ⟨true, 4, 48, [(0, 1, 2), (1, 2, 62), (3, 1, 65)], 0, [.int .i64 0, .int .i64 0, .int .i64 0, .nil], some (.pair (.int .i64) (.pair (.pair (.int .i64) (.int .i64)) (.one (.sl none (.pair (.int .i64) (.pair (.int .i64) (.pair (.int .i64) (.pair (.pair (.int .i64) (.int .i64)) (.sl none (.pair (.int .i64) (.int .i64))))))))))), []⟩),
  (112, ⟨false, 1, 24, [], 62, [.nil], some (.sl none (.pair (.int .i64) (.int .i64))), []⟩),
  (114, ⟨true, 6, 64, [(0, 1, 2), (1, 1, 2), (2, 1, 2), (3, 2, 62), (5, 1, 112)], 0, [.int .i64 0, .int .i64 0, .int .i64 0, .int .i64 0, .int .i64 0, .nil], some (.pair (.int .i64) (.pair (.int .i64) (.pair (.int .i64) (.pair (.pair (.int .i64) (.int .i64)) (.sl none (.pair (.int .i64) (.int .i64))))))), []⟩),
  (116, ⟨true, 9, 88, [(0, 1, 2), (1, 2, 62), (3, 6, 114)], 0, [.int .i64 0, .int .i64 0, .int .i64 0, .int .i64 0, .int .i64 0, .int .i64 0, .int .i64 0, .int .i64 0, .nil], some (.pair (.int .i64) (.pair (.pair (.int .i64) (.int .i64)) (.pair (.int .i64) (.pair (.int .i64) (.pair (.int .i64) (.pair (.pair (.int .i64) (.int .i64)) (.sl none (.pair (.int .i64) (.int .i64))))))))), []⟩),
  (160, ⟨true, 2, 16, [(0, 1, 2), (1, 1, 2)], 0, [.int .i64 0, .int .i64 0], some (.pair (.int .i64) (.int .i64)), [0, 0]⟩),
  (161, ⟨false, 1, 24, [], 160, [.nil], some (.sl none (.pair (.int .i64) (.int .i64))), []⟩),
  (163, ⟨true, 6, 64, [(0, 1, 2), (1, 1, 2), (2, 1, 2), (3, 2, 160), (5, 1, 161)], 0, [.int .i64 0, .int .i64 0, .int .i64 0, .int .i64 0, .int .i64 0, .nil], some (.pair (.int .i64) (.pair (.int .i64) (.pair (.int .i64) (.pair (.pair (.int .i64) (.int .i64)) (.sl none (.pair (.int .i64) (.int .i64))))))), []⟩),
  (186, ⟨false, 1, 8, [], 0, [.int .u64 0], some (.int .u64), [0]⟩),
  (230, ⟨false, 1, 24, [], 3, [.nil], some (.sl none (.int .i64)), []⟩)]
def G_laws_szVoteS : Env := (186, S_laws_szVoteS) :: []
def G_laws_szSlot : Env := (140, S_laws_szSlot) :: G_laws_szVoteS
def G_laws_szSlotS : Env := (77, S_laws_szSlotS) :: G_laws_szSlot
def G_laws_szAcceptor : Env := (31, S_laws_szAcceptor) :: G_laws_szSlotS
def G_laws_toVote : Env := (191, S_laws_toVote) :: G_laws_szAcceptor
def G_laws_toVoteS : Env := (192, S_laws_toVoteS) :: G_laws_toVote
def G_laws_toSlot : Env := (147, S_laws_toSlot) :: G_laws_toVoteS
def G_laws_toSlotS : Env := (82, S_laws_toSlotS) :: G_laws_toSlot
def G_laws_toAcceptor : Env := (33, S_laws_toAcceptor) :: G_laws_toSlotS
def G_spec_l1In : Env := (116, S_spec_l1In) :: G_laws_toAcceptor
def G_spec_l1Id : Env := (55, S_spec_l1Id) :: G_spec_l1In
def G_spec_l8Ballot : Env := (145, S_spec_l8Ballot) :: G_spec_l1Id
def G_spec_l8Value : Env := (157, S_spec_l8Value) :: G_spec_l8Ballot
def G_spec_l8None : Env := (188, S_spec_l8None) :: G_spec_l8Value
def G_spec_l8Last : Env := (190, S_spec_l8Last) :: G_spec_l8None
def G_spec_SlotFault : Env := (144, S_spec_SlotFault) :: G_spec_l8Last
def G_spec_l9Ahead : Env := (187, S_spec_l9Ahead) :: G_spec_SlotFault
def G_spec_AcceptorFault : Env := (141, S_spec_AcceptorFault) :: G_spec_l9Ahead
def G_spec_NewSlot : Env := (142, S_spec_NewSlot) :: G_spec_AcceptorFault
def G_spec_l9Asked : Env := (78, S_spec_l9Asked) :: G_spec_NewSlot
def G_spec_l8Copy : Env := (146, S_spec_l8Copy) :: G_spec_l9Asked
def G_spec_l9Slot : Env := (81, S_spec_l9Slot) :: G_spec_l8Copy
def G_spec_AcceptSlot : Env := (90, S_spec_AcceptSlot) :: G_spec_l9Slot
def G_spec_l9Copy : Env := (189, S_spec_l9Copy) :: G_spec_AcceptSlot
def G_spec_l9Set : Env := (143, S_spec_l9Set) :: G_spec_l9Copy
def G_spec_l9Told : Env := (79, S_spec_l9Told) :: G_spec_l9Set
def G_spec_AcceptAt : Env := (40, S_spec_AcceptAt) :: G_spec_l9Told
def G_impl_within : Env := (129, S_impl_within) :: G_spec_AcceptAt
def G_impl_isId : Env := (100, S_impl_isId) :: G_impl_within
def G_impl_isShard : Env := (66, S_impl_isShard) :: G_impl_isId
def G_impl_isBallot : Env := (200, S_impl_isBallot) :: G_impl_isShard
def G_impl_isValue : Env := (237, S_impl_isValue) :: G_impl_isBallot
def G_impl_isVote : Env := (204, S_impl_isVote) :: G_impl_isValue
def G_impl_castFault : Env := (193, S_impl_castFault) :: G_impl_isVote
def G_impl_noVote : Env := (195, S_impl_noVote) :: G_impl_castFault
def G_impl_lastCast : Env := (194, S_impl_lastCast) :: G_impl_noVote
def G_impl_SlotFault : Env := (148, S_impl_SlotFault) :: G_impl_lastCast
def G_cmp_isNaN_int64 : Env := (230, S_cmp_isNaN_int64) :: G_impl_SlotFault
def G_cmp_Compare_int64 : Env := (177, S_cmp_Compare_int64) :: G_cmp_isNaN_int64
def G_cmp_Or_int : Env := (175, S_cmp_Or_int) :: G_cmp_Compare_int64
def G_impl_compareSlots : Env := (149, S_impl_compareSlots) :: G_cmp_Or_int
def G_impl_AcceptorFault : Env := (83, S_impl_AcceptorFault) :: G_impl_compareSlots
def G_impl_newSlot : Env := (150, S_impl_newSlot) :: G_impl_AcceptorFault
def G_impl_NewSlot : Env := (84, S_impl_NewSlot) :: G_impl_newSlot
def G_impl_firstOf : Env := (58, S_impl_firstOf) :: G_impl_NewSlot
def G_impl_Acceptor_slotAt : Env := (198, S_impl_Acceptor_slotAt) :: G_impl_firstOf
def G_slices_Clone_impl_Vote_impl_Vote : Env := (236, S_slices_Clone_impl_Vote_impl_Vote) :: G_impl_Acceptor_slotAt
def G_impl_copySlot : Env := (201, S_impl_copySlot) :: G_slices_Clone_impl_Vote_impl_Vote
def G_impl_Acceptor_slot : Env := (196, S_impl_Acceptor_slot) :: G_impl_copySlot
def G_impl_AcceptSlot : Env := (160, S_impl_AcceptSlot) :: G_impl_Acceptor_slot
def G_impl_copyAcceptor : Env := (197, S_impl_copyAcceptor) :: G_impl_AcceptSlot
def G_slices_Insert_impl_Slot_impl_Slot : Env := (199, S_slices_Insert_impl_Slot_impl_Slot) :: G_impl_copyAcceptor
def G_impl_Acceptor_accept : Env := (91, S_impl_Acceptor_accept) :: G_slices_Insert_impl_Slot_impl_Slot
def G_impl_AcceptAt : Env := (41, S_impl_AcceptAt) :: G_impl_Acceptor_accept
def G_laws_eqVote : Env := (86, S_laws_eqVote) :: G_impl_AcceptAt
def G_laws_eqVoteS : Env := (202, S_laws_eqVoteS) :: G_laws_eqVote
def G_laws_eqSlot : Env := (154, S_laws_eqSlot) :: G_laws_eqVoteS
def G_laws_eqSlotS : Env := (87, S_laws_eqSlotS) :: G_laws_eqSlot
def G_laws_eqAcceptor : Env := (36, S_laws_eqAcceptor) :: G_laws_eqSlotS
def G_laws_eqAcceptorResult : Env := (35, S_laws_eqAcceptorResult) :: G_laws_eqAcceptor
def G_laws_markVoteS : Env := (155, S_laws_markVoteS) :: G_laws_eqAcceptorResult
def G_laws_markSlotS : Env := (88, S_laws_markSlotS) :: G_laws_markVoteS
def G_laws_heldVoteS : Env := (203, S_laws_heldVoteS) :: G_laws_markSlotS
def G_laws_heldSlotS : Env := (156, S_laws_heldSlotS) :: G_laws_heldVoteS
def G_laws_heldAcceptor : Env := (89, S_laws_heldAcceptor) :: G_laws_heldSlotS
def G_laws_heldAcceptorResult : Env := (39, S_laws_heldAcceptorResult) :: G_laws_heldAcceptor
def G_laws_FnExactAcceptAt : Env := (7, S_laws_FnExactAcceptAt) :: G_laws_heldAcceptorResult
end
end Go.RvP
