/- The plain functions that the evaluator comes to, for FnExactAcceptorFault. No condition. -/
import Derived.Test.YtekndmbpphncmaaRvL
namespace Go.RvP
open Go Go.Rv
/-! laws.szVoteS -/
def p_laws_szVoteS (n : Nat) (x : ((List (Int × Int)) × Int)) : Option Int :=
(cond (decide ((IntKind.wrap .i64 (x.2 - (lenI x.1))) < (0 : Int)))
 (some (-1 : Int))
 (some (IntKind.wrap .i64 (x.2 - (lenI x.1)))))
def m_laws_szVoteS (x : ((List (Int × Int)) × Int)) : Option Int := p_laws_szVoteS FU x
def a_laws_szVoteS : Ann := .leaf
def S_laws_szVoteS : FSpec := ⟨[.val (.sl none (.pair (.int .i64) (.int .i64))), .val (.int .i64)], [(.int .i64)], m_laws_szVoteS⟩

/-! laws.szSlot -/
def p_laws_szSlot (n : Nat) (x : ((Int × (Int × (Int × ((Int × Int) × (List (Int × Int)))))) × Int)) : Option Int :=
((m_laws_szVoteS (x.1.2.2.2.2, x.2)).bind fun r1 =>
(cond (decide (r1 < (0 : Int)))
 (some (-1 : Int))
 (some r1)))
def m_laws_szSlot (x : ((Int × (Int × (Int × ((Int × Int) × (List (Int × Int)))))) × Int)) : Option Int := p_laws_szSlot FU x
def a_laws_szSlot : Ann := .leaf
def S_laws_szSlot : FSpec := ⟨[.val (.pair (.int .i64) (.pair (.int .i64) (.pair (.int .i64) (.pair (.pair (.int .i64) (.int .i64)) (.sl none (.pair (.int .i64) (.int .i64))))))), .val (.int .i64)], [(.int .i64)], m_laws_szSlot⟩

/-! laws.szSlotS -/
def p_laws_szSlotS (n : Nat) (x : ((List (Int × (Int × (Int × ((Int × Int) × (List (Int × Int))))))) × Int)) : Option Int :=
(cond (decide ((IntKind.wrap .i64 (x.2 - (lenI x.1))) < (0 : Int)))
 (some (-1 : Int))
 (lp (fun rec5 (z4 : (Int × Int)) =>
  (cond (decide (z4.2 < (lenI x.1)))
   ((geti x.1 z4.2).bind fun y6 =>
   ((m_laws_szSlot (y6, z4.1)).bind fun r7 =>
   (cond (decide (r7 < (0 : Int)))
    (some (-1 : Int))
    (rec5 (r7, IntKind.wrap .i64 (z4.2 + (1 : Int)))))))
   (some z4.1))) n (IntKind.wrap .i64 (x.2 - (lenI x.1)), (0 : Int))))
def m_laws_szSlotS (x : ((List (Int × (Int × (Int × ((Int × Int) × (List (Int × Int))))))) × Int)) : Option Int := p_laws_szSlotS FU x
def a_laws_szSlotS : Ann := (.node .leaf (.node .leaf (.node .leaf (.node (.node .leaf (.loop [.slot 1 (.int .i64), .slot 5 (.int .i64)] [4, 12, 13, 14, 15, 16, 17, 18, 19, 20, 21, 22, 23, 24, 25] .leaf)) .leaf))))
def S_laws_szSlotS : FSpec := ⟨[.val (.sl none (.pair (.int .i64) (.pair (.int .i64) (.pair (.int .i64) (.pair (.pair (.int .i64) (.int .i64)) (.sl none (.pair (.int .i64) (.int .i64)))))))), .val (.int .i64)], [(.int .i64)], m_laws_szSlotS⟩

/-! laws.szAcceptor -/
def p_laws_szAcceptor (n : Nat) (x : ((List (Int × (Int × (Int × ((Int × Int) × (List (Int × Int))))))) × Int)) : Option Int :=
((m_laws_szSlotS (x.1, x.2)).bind fun r1 =>
(cond (decide (r1 < (0 : Int)))
 (some (-1 : Int))
 (some r1)))
def m_laws_szAcceptor (x : ((List (Int × (Int × (Int × ((Int × Int) × (List (Int × Int))))))) × Int)) : Option Int := p_laws_szAcceptor FU x
def a_laws_szAcceptor : Ann := .leaf
def S_laws_szAcceptor : FSpec := ⟨[.val (.one (.sl none (.pair (.int .i64) (.pair (.int .i64) (.pair (.int .i64) (.pair (.pair (.int .i64) (.int .i64)) (.sl none (.pair (.int .i64) (.int .i64))))))))), .val (.int .i64)], [(.int .i64)], m_laws_szAcceptor⟩

/-! laws.toVote -/
def p_laws_toVote (n : Nat) (x : (Int × Int)) : Option (Int × Int) :=
some x
def m_laws_toVote (x : (Int × Int)) : Option (Int × Int) := p_laws_toVote FU x
def a_laws_toVote : Ann := .leaf
def S_laws_toVote : FSpec := ⟨[.val (.pair (.int .i64) (.int .i64))], [(.pair (.int .i64) (.int .i64))], m_laws_toVote⟩

/-! laws.toVoteS -/
def p_laws_toVoteS (n : Nat) (x : (List (Int × Int))) : Option (List (Int × Int)) :=
(if (lenI x) = (lenI x) then (if 0 ≤ (lenI x) then chk (Nat.ble (16 * (lenI x).toNat) maxBytes)
(lp (fun rec6 (z5 : ((List (Int × Int)) × Int)) =>
 (cond (decide (z5.2 < (lenI x)))
  ((geti x z5.2).bind fun y7 =>
  ((m_laws_toVote y7).bind fun r8 =>
  ((geti z5.1 z5.2).bind fun _ =>
  ((z5.1[z5.2.toNat]?).bind fun y9 =>
  rec6 ((z5.1.set z5.2.toNat r8), IntKind.wrap .i64 (z5.2 + (1 : Int)))))))
  (some z5.1))) n ((List.replicate (lenI x).toNat ((0 : Int), (0 : Int))), (0 : Int))) else none) else none)
def m_laws_toVoteS (x : (List (Int × Int))) : Option (List (Int × Int)) := p_laws_toVoteS FU x
def a_laws_toVoteS : Ann := (.node .leaf (.node .leaf (.node (.node .leaf (.loop [.slot 3 (.sl (some 34) (.pair (.int .i64) (.int .i64))), .slot 4 (.int .i64)] [8, 9, 10, 11, 12, 13, 14, 15, 16, 17, 18, 19, 20, 21] .leaf)) .leaf)))
def S_laws_toVoteS : FSpec := ⟨[.val (.sl none (.pair (.int .i64) (.int .i64)))], [(.sl (some 34) (.pair (.int .i64) (.int .i64)))], m_laws_toVoteS⟩

/-! laws.toSlot -/
def p_laws_toSlot (n : Nat) (x : (Int × (Int × (Int × ((Int × Int) × (List (Int × Int))))))) : Option (Int × (Int × (Int × ((Int × Int) × (List (Int × Int)))))) :=
((m_laws_toVote x.2.2.2.1).bind fun r1 =>
((m_laws_toVoteS x.2.2.2.2).bind fun r2 =>
some (x.1, (x.2.1, (x.2.2.1, (r1, r2))))))
def m_laws_toSlot (x : (Int × (Int × (Int × ((Int × Int) × (List (Int × Int))))))) : Option (Int × (Int × (Int × ((Int × Int) × (List (Int × Int)))))) := p_laws_toSlot FU x
def a_laws_toSlot : Ann := .leaf
def S_laws_toSlot : FSpec := ⟨[.val (.pair (.int .i64) (.pair (.int .i64) (.pair (.int .i64) (.pair (.pair (.int .i64) (.int .i64)) (.sl none (.pair (.int .i64) (.int .i64)))))))], [(.pair (.int .i64) (.pair (.int .i64) (.pair (.int .i64) (.pair (.pair (.int .i64) (.int .i64)) (.sl (some 34) (.pair (.int .i64) (.int .i64)))))))], m_laws_toSlot⟩

/-! laws.toSlotS -/
def p_laws_toSlotS (n : Nat) (x : (List (Int × (Int × (Int × ((Int × Int) × (List (Int × Int)))))))) : Option (List (Int × (Int × (Int × ((Int × Int) × (List (Int × Int))))))) :=
(if (lenI x) = (lenI x) then (if 0 ≤ (lenI x) then chk (Nat.ble (64 * (lenI x).toNat) maxBytes)
(lp (fun rec6 (z5 : ((List (Int × (Int × (Int × ((Int × Int) × (List (Int × Int))))))) × Int)) =>
 (cond (decide (z5.2 < (lenI x)))
  ((geti x z5.2).bind fun y7 =>
  ((m_laws_toSlot y7).bind fun r8 =>
  ((geti z5.1 z5.2).bind fun _ =>
  ((z5.1[z5.2.toNat]?).bind fun y9 =>
  rec6 ((z5.1.set z5.2.toNat r8), IntKind.wrap .i64 (z5.2 + (1 : Int)))))))
  (some z5.1))) n ((List.replicate (lenI x).toNat ((0 : Int), ((0 : Int), ((0 : Int), (((0 : Int), (0 : Int)), []))))), (0 : Int))) else none) else none)
def m_laws_toSlotS (x : (List (Int × (Int × (Int × ((Int × Int) × (List (Int × Int)))))))) : Option (List (Int × (Int × (Int × ((Int × Int) × (List (Int × Int))))))) := p_laws_toSlotS FU x
def a_laws_toSlotS : Ann := (.node .leaf (.node .leaf (.node (.node .leaf (.loop [.slot 3 (.sl (some 41) (.pair (.int .i64) (.pair (.int .i64) (.pair (.int .i64) (.pair (.pair (.int .i64) (.int .i64)) (.sl none (.pair (.int .i64) (.int .i64)))))))), .slot 4 (.int .i64)] [8, 9, 10, 11, 12, 13, 14, 15, 16, 17, 18, 19, 20, 21] .leaf)) .leaf)))
def S_laws_toSlotS : FSpec := ⟨[.val (.sl none (.pair (.int .i64) (.pair (.int .i64) (.pair (.int .i64) (.pair (.pair (.int .i64) (.int .i64)) (.sl none (.pair (.int .i64) (.int .i64))))))))], [(.sl (some 41) (.pair (.int .i64) (.pair (.int .i64) (.pair (.int .i64) (.pair (.pair (.int .i64) (.int .i64)) (.sl none (.pair (.int .i64) (.int .i64))))))))], m_laws_toSlotS⟩

/-! laws.toAcceptor -/
def p_laws_toAcceptor (n : Nat) (x : (List (Int × (Int × (Int × ((Int × Int) × (List (Int × Int)))))))) : Option (List (Int × (Int × (Int × ((Int × Int) × (List (Int × Int))))))) :=
((m_laws_toSlotS x).bind fun r1 =>
some r1)
def m_laws_toAcceptor (x : (List (Int × (Int × (Int × ((Int × Int) × (List (Int × Int)))))))) : Option (List (Int × (Int × (Int × ((Int × Int) × (List (Int × Int))))))) := p_laws_toAcceptor FU x
def a_laws_toAcceptor : Ann := .leaf
def S_laws_toAcceptor : FSpec := ⟨[.val (.one (.sl none (.pair (.int .i64) (.pair (.int .i64) (.pair (.int .i64) (.pair (.pair (.int .i64) (.int .i64)) (.sl none (.pair (.int .i64) (.int .i64)))))))))], [(.one (.sl (some 41) (.pair (.int .i64) (.pair (.int .i64) (.pair (.int .i64) (.pair (.pair (.int .i64) (.int .i64)) (.sl none (.pair (.int .i64) (.int .i64)))))))))], m_laws_toAcceptor⟩

/-! spec.l1In -/
def p_spec_l1In (n : Nat) (x : (Int × (Int × Int))) : Option Bool :=
(cond (decide (x.1 ≥ x.2.1))
 (some (decide (x.1 ≤ x.2.2)))
 (some false))
def m_spec_l1In (x : (Int × (Int × Int))) : Option Bool := p_spec_l1In FU x
def a_spec_l1In : Ann := .leaf
def S_spec_l1In : FSpec := ⟨[.val (.int .i64), .val (.int .i64), .val (.int .i64)], [.bool], m_spec_l1In⟩

/-! spec.l1Id -/
def p_spec_l1Id (n : Nat) (x : Int) : Option Bool :=
((m_spec_l1In (x, (1 : Int), (1000000000 : Int))).bind fun r1 =>
some r1)
def m_spec_l1Id (x : Int) : Option Bool := p_spec_l1Id FU x
def a_spec_l1Id : Ann := .leaf
def S_spec_l1Id : FSpec := ⟨[.val (.int .i64)], [.bool], m_spec_l1Id⟩

/-! spec.l8Ballot -/
def p_spec_l8Ballot (n : Nat) (x : Int) : Option Bool :=
((m_spec_l1In (x, (0 : Int), (1000 : Int))).bind fun r1 =>
some r1)
def m_spec_l8Ballot (x : Int) : Option Bool := p_spec_l8Ballot FU x
def a_spec_l8Ballot : Ann := .leaf
def S_spec_l8Ballot : FSpec := ⟨[.val (.int .i64)], [.bool], m_spec_l8Ballot⟩

/-! spec.l8Value -/
def p_spec_l8Value (n : Nat) (x : Int) : Option Bool :=
(cond (x == (1 : Int))
 (some true)
 (some (x == (2 : Int))))
def m_spec_l8Value (x : Int) : Option Bool := p_spec_l8Value FU x
def a_spec_l8Value : Ann := .leaf
def S_spec_l8Value : FSpec := ⟨[.val (.int .i64)], [.bool], m_spec_l8Value⟩

/-! spec.l8None -/
def p_spec_l8None (n : Nat) (x : Unit) : Option (Int × Int) :=
some ((-1 : Int), (0 : Int))
def m_spec_l8None (x : Unit) : Option (Int × Int) := p_spec_l8None FU x
def a_spec_l8None : Ann := .leaf
def S_spec_l8None : FSpec := ⟨[], [(.pair (.int .i64) (.int .i64))], m_spec_l8None⟩

/-! spec.l8Last -/
def p_spec_l8Last (n : Nat) (x : (Int × (Int × (Int × ((Int × Int) × (List (Int × Int))))))) : Option (Int × Int) :=
(cond ((lenI x.2.2.2.2) == (0 : Int))
 ((m_spec_l8None ()).bind fun r1 =>
 some r1)
 ((geti x.2.2.2.2 (IntKind.wrap .i64 ((lenI x.2.2.2.2) - (1 : Int)))).bind fun y2 =>
 some y2))
def m_spec_l8Last (x : (Int × (Int × (Int × ((Int × Int) × (List (Int × Int))))))) : Option (Int × Int) := p_spec_l8Last FU x
def a_spec_l8Last : Ann := .leaf
def S_spec_l8Last : FSpec := ⟨[.val (.pair (.int .i64) (.pair (.int .i64) (.pair (.int .i64) (.pair (.pair (.int .i64) (.int .i64)) (.sl none (.pair (.int .i64) (.int .i64)))))))], [(.pair (.int .i64) (.int .i64))], m_spec_l8Last⟩

/-! spec.SlotFault -/
def p_spec_SlotFault (n : Nat) (x : (Int × (Int × (Int × ((Int × Int) × (List (Int × Int))))))) : Option Int :=
((m_spec_l1Id x.1).bind fun r1 =>
(cond (!r1)
 (some (3 : Int))
 ((m_spec_l1In (x.2.1, (0 : Int), (2 : Int))).bind fun r2 =>
 (cond (!r2)
  (some (3 : Int))
  ((m_spec_l1In (x.2.2.1, (-1 : Int), (1000 : Int))).bind fun r3 =>
  (cond (!r3)
   (some (3 : Int))
   (cond (decide ((lenI x.2.2.2.2) > (60 : Int)))
    (some (2 : Int))
    (lp (fun rec12 (z11 : Int) =>
     (cond (decide (z11 < (lenI x.2.2.2.2)))
      ((geti x.2.2.2.2 z11).bind fun y13 =>
      ((m_spec_l8Ballot y13.1).bind fun r14 =>
      (cond (!r14)
       (some (3 : Int))
       ((m_spec_l8Value y13.2).bind fun r15 =>
       (cond (!r15)
        (some (3 : Int))
        (cond (decide (z11 > (0 : Int)))
         ((geti x.2.2.2.2 (IntKind.wrap .i64 (z11 - (1 : Int)))).bind fun y16 =>
         (cond (decide (y13.1 < y16.1))
          (some (1 : Int))
          ((geti x.2.2.2.2 (IntKind.wrap .i64 (z11 - (1 : Int)))).bind fun y17 =>
          (cond (y13.1 == y17.1)
           ((geti x.2.2.2.2 (IntKind.wrap .i64 (z11 - (1 : Int)))).bind fun y18 =>
           (cond (!(y13.2 == y18.2))
            (some (1 : Int))
            (rec12 (IntKind.wrap .i64 (z11 + (1 : Int))))))
           (rec12 (IntKind.wrap .i64 (z11 + (1 : Int))))))))
         (rec12 (IntKind.wrap .i64 (z11 + (1 : Int))))))))))
      ((m_spec_l8Last x).bind fun r19 =>
      (cond (!((x.2.2.2.1.1 == r19.1) && ((x.2.2.2.1.2 == r19.2) && true)))
       (some (1 : Int))
       (cond (decide (x.2.2.2.1.1 > x.2.2.1))
        (some (1 : Int))
        (some (0 : Int))))))) n (0 : Int)))))))))
def m_spec_SlotFault (x : (Int × (Int × (Int × ((Int × Int) × (List (Int × Int))))))) : Option Int := p_spec_SlotFault FU x
def a_spec_SlotFault : Ann := (.node .leaf (.node .leaf (.node .leaf (.node (.node .leaf (.loop [.slot 3 (.int .i64)] [2, 4, 25, 26, 27, 28, 29, 30, 31, 32, 33, 34, 35, 36, 37, 38, 39, 40, 41, 42, 43, 44, 45, 46, 47, 48, 49, 50, 51, 52, 53, 54, 55, 56, 57, 58, 59, 60, 61, 62, 63, 64, 65, 66, 67, 68, 69, 70, 71, 72, 73, 74, 75, 76, 77, 78, 79, 80, 81, 82, 83, 84] .leaf)) .leaf))))
def S_spec_SlotFault : FSpec := ⟨[.val (.pair (.int .i64) (.pair (.int .i64) (.pair (.int .i64) (.pair (.pair (.int .i64) (.int .i64)) (.sl none (.pair (.int .i64) (.int .i64)))))))], [(.int .i64)], m_spec_SlotFault⟩

/-! spec.l9Ahead -/
def p_spec_l9Ahead (n : Nat) (x : ((Int × (Int × (Int × ((Int × Int) × (List (Int × Int)))))) × (Int × (Int × (Int × ((Int × Int) × (List (Int × Int)))))))) : Option Bool :=
(cond (!(x.1.1 == x.2.1))
 (some (decide (x.1.1 < x.2.1)))
 (some (decide (x.1.2.1 < x.2.2.1))))
def m_spec_l9Ahead (x : ((Int × (Int × (Int × ((Int × Int) × (List (Int × Int)))))) × (Int × (Int × (Int × ((Int × Int) × (List (Int × Int)))))))) : Option Bool := p_spec_l9Ahead FU x
def a_spec_l9Ahead : Ann := .leaf
def S_spec_l9Ahead : FSpec := ⟨[.val (.pair (.int .i64) (.pair (.int .i64) (.pair (.int .i64) (.pair (.pair (.int .i64) (.int .i64)) (.sl none (.pair (.int .i64) (.int .i64))))))), .val (.pair (.int .i64) (.pair (.int .i64) (.pair (.int .i64) (.pair (.pair (.int .i64) (.int .i64)) (.sl none (.pair (.int .i64) (.int .i64)))))))], [.bool], m_spec_l9Ahead⟩

/-! spec.AcceptorFault -/
def p_spec_AcceptorFault (n : Nat) (x : (List (Int × (Int × (Int × ((Int × Int) × (List (Int × Int)))))))) : Option Int :=
(cond (decide ((lenI x) > (60 : Int)))
 (some (2 : Int))
 (lp (fun rec8 (z7 : Int) =>
  (cond (decide (z7 < (lenI x)))
   ((geti x z7).bind fun y9 =>
   ((m_spec_SlotFault y9).bind fun r10 =>
   (cond (!(r10 == (0 : Int)))
    (some r10)
    (cond (decide (z7 > (0 : Int)))
     ((geti x (IntKind.wrap .i64 (z7 - (1 : Int)))).bind fun y11 =>
     ((geti x z7).bind fun y12 =>
     ((m_spec_l9Ahead (y11, y12)).bind fun r13 =>
     (cond (!r13)
      (some (1 : Int))
      (rec8 (IntKind.wrap .i64 (z7 + (1 : Int))))))))
     (rec8 (IntKind.wrap .i64 (z7 + (1 : Int))))))))
   (some (0 : Int)))) n (0 : Int)))
def m_spec_AcceptorFault (x : (List (Int × (Int × (Int × ((Int × Int) × (List (Int × Int)))))))) : Option Int := p_spec_AcceptorFault FU x
def a_spec_AcceptorFault : Ann := (.node .leaf (.node .leaf (.node (.node .leaf (.loop [.slot 3 (.int .i64)] [2, 4, 9, 10, 11, 12, 13, 14, 15, 16, 17, 18, 19, 20, 21, 22, 23, 24, 25, 26, 27, 28, 29, 30, 31, 32, 33, 34, 35, 36, 37, 38, 39, 40, 41] .leaf)) .leaf)))
def S_spec_AcceptorFault : FSpec := ⟨[.val (.one (.sl none (.pair (.int .i64) (.pair (.int .i64) (.pair (.int .i64) (.pair (.pair (.int .i64) (.int .i64)) (.sl none (.pair (.int .i64) (.int .i64)))))))))], [(.int .i64)], m_spec_AcceptorFault⟩

/-! impl.within -/
def p_impl_within (n : Nat) (x : (Int × (Int × Int))) : Option Bool :=
(cond (decide (x.1 ≥ x.2.1))
 (some (decide (x.1 ≤ x.2.2)))
 (some false))
def m_impl_within (x : (Int × (Int × Int))) : Option Bool := p_impl_within FU x
def a_impl_within : Ann := .leaf
def S_impl_within : FSpec := ⟨[.val (.int .i64), .val (.int .i64), .val (.int .i64)], [.bool], m_impl_within⟩

/-! impl.isId -/
def p_impl_isId (n : Nat) (x : Int) : Option Bool :=
((m_impl_within (x, (1 : Int), (1000000000 : Int))).bind fun r1 =>
some r1)
def m_impl_isId (x : Int) : Option Bool := p_impl_isId FU x
def a_impl_isId : Ann := .leaf
def S_impl_isId : FSpec := ⟨[.val (.int .i64)], [.bool], m_impl_isId⟩

/-! impl.isShard -/
def p_impl_isShard (n : Nat) (x : Int) : Option Bool :=
((m_impl_within (x, (0 : Int), (2 : Int))).bind fun r1 =>
some r1)
def m_impl_isShard (x : Int) : Option Bool := p_impl_isShard FU x
def a_impl_isShard : Ann := .leaf
def S_impl_isShard : FSpec := ⟨[.val (.int .i64)], [.bool], m_impl_isShard⟩

/-! impl.isBallot -/
def p_impl_isBallot (n : Nat) (x : Int) : Option Bool :=
((m_impl_within (x, (0 : Int), (1000 : Int))).bind fun r1 =>
some r1)
def m_impl_isBallot (x : Int) : Option Bool := p_impl_isBallot FU x
def a_impl_isBallot : Ann := .leaf
def S_impl_isBallot : FSpec := ⟨[.val (.int .i64)], [.bool], m_impl_isBallot⟩

/-! impl.isValue -/
def p_impl_isValue (n : Nat) (x : Int) : Option Bool :=
(cond (x == (1 : Int))
 (some true)
 (some (x == (2 : Int))))
def m_impl_isValue (x : Int) : Option Bool := p_impl_isValue FU x
def a_impl_isValue : Ann := .leaf
def S_impl_isValue : FSpec := ⟨[.val (.int .i64)], [.bool], m_impl_isValue⟩

/-! impl.isVote -/
def p_impl_isVote (n : Nat) (x : (Int × Int)) : Option Bool :=
((m_impl_isBallot x.1).bind fun r1 =>
(cond r1
 ((m_impl_isValue x.2).bind fun r2 =>
 some r2)
 (some false)))
def m_impl_isVote (x : (Int × Int)) : Option Bool := p_impl_isVote FU x
def a_impl_isVote : Ann := .leaf
def S_impl_isVote : FSpec := ⟨[.val (.pair (.int .i64) (.int .i64))], [.bool], m_impl_isVote⟩

/-! impl.castFault -/
def p_impl_castFault (n : Nat) (x : (List (Int × Int))) : Option Int :=
(lp (fun rec8 (z7 : Int) =>
 (cond (decide (z7 < (lenI x)))
  ((geti x z7).bind fun y9 =>
  ((m_impl_isVote y9).bind fun r10 =>
  (cond (!r10)
   (some (3 : Int))
   (cond (decide (z7 > (0 : Int)))
    ((geti x (IntKind.wrap .i64 (z7 - (1 : Int)))).bind fun y11 =>
    (cond (decide (y9.1 < y11.1))
     (some (1 : Int))
     ((geti x (IntKind.wrap .i64 (z7 - (1 : Int)))).bind fun y12 =>
     (cond (y9.1 == y12.1)
      ((geti x (IntKind.wrap .i64 (z7 - (1 : Int)))).bind fun y13 =>
      (cond (!(y9.2 == y13.2))
       (some (1 : Int))
       (rec8 (IntKind.wrap .i64 (z7 + (1 : Int))))))
      (rec8 (IntKind.wrap .i64 (z7 + (1 : Int))))))))
    (rec8 (IntKind.wrap .i64 (z7 + (1 : Int))))))))
  (some (0 : Int)))) n (0 : Int))
def m_impl_castFault (x : (List (Int × Int))) : Option Int := p_impl_castFault FU x
def a_impl_castFault : Ann := (.node .leaf (.node (.node .leaf (.loop [.slot 7 (.int .i64)] [2, 3, 4, 8, 9, 10, 11, 12, 13, 14, 15, 16, 17, 18, 19, 20, 21, 22, 23, 24, 25, 26, 27, 28, 29, 30, 31, 32, 33, 34, 35, 36, 37, 38, 39, 40, 41, 42, 43, 44, 45, 46, 47, 48, 49, 50, 51, 52] .leaf)) .leaf))
def S_impl_castFault : FSpec := ⟨[.val (.sl none (.pair (.int .i64) (.int .i64)))], [(.int .i64)], m_impl_castFault⟩

/-! impl.noVote -/
def p_impl_noVote (n : Nat) (x : Unit) : Option (Int × Int) :=
some ((-1 : Int), (0 : Int))
def m_impl_noVote (x : Unit) : Option (Int × Int) := p_impl_noVote FU x
def a_impl_noVote : Ann := .leaf
def S_impl_noVote : FSpec := ⟨[], [(.pair (.int .i64) (.int .i64))], m_impl_noVote⟩

/-! impl.lastCast -/
def p_impl_lastCast (n : Nat) (x : (List (Int × Int))) : Option (Int × Int) :=
(cond ((lenI x) == (0 : Int))
 ((m_impl_noVote ()).bind fun r1 =>
 some r1)
 ((geti x (IntKind.wrap .i64 ((lenI x) - (1 : Int)))).bind fun y2 =>
 some y2))
def m_impl_lastCast (x : (List (Int × Int))) : Option (Int × Int) := p_impl_lastCast FU x
def a_impl_lastCast : Ann := .leaf
def S_impl_lastCast : FSpec := ⟨[.val (.sl none (.pair (.int .i64) (.int .i64)))], [(.pair (.int .i64) (.int .i64))], m_impl_lastCast⟩

/-! impl.SlotFault -/
def p_impl_SlotFault (n : Nat) (x : (Int × (Int × (Int × ((Int × Int) × (List (Int × Int))))))) : Option Int :=
(Option.bind (α := Bool)
 ((m_impl_isId x.1).bind fun r4 =>
 (cond (!r4)
  (some true)
  ((m_impl_isShard x.2.1).bind fun r5 =>
  (cond (!r5)
   (some true)
   ((m_impl_within (x.2.2.1, (-1 : Int), (1000 : Int))).bind fun r6 =>
   some (!r6)))))) fun j7 =>
(cond j7
 (some (3 : Int))
 (cond (decide ((lenI x.2.2.2.2) > (60 : Int)))
  (some (2 : Int))
  ((m_impl_castFault x.2.2.2.2).bind fun r8 =>
  (cond (!(r8 == (0 : Int)))
   (some r8)
   ((m_impl_lastCast x.2.2.2.2).bind fun r9 =>
   (cond (!((x.2.2.2.1.1 == r9.1) && ((x.2.2.2.1.2 == r9.2) && true)))
    (some (1 : Int))
    (cond (decide (x.2.2.2.1.1 > x.2.2.1))
     (some (1 : Int))
     (some (0 : Int))))))))))
def m_impl_SlotFault (x : (Int × (Int × (Int × ((Int × Int) × (List (Int × Int))))))) : Option Int := p_impl_SlotFault FU x
def a_impl_SlotFault : Ann := (.node .leaf (.node (.join [.slot 4 .bool] [5, 6, 7, 8, 9, 10, 11, 12, 13, 14, 15, 16, 17, 18, 19, 20] .leaf .leaf) .leaf))
def S_impl_SlotFault : FSpec := ⟨[.val (.pair (.int .i64) (.pair (.int .i64) (.pair (.int .i64) (.pair (.pair (.int .i64) (.int .i64)) (.sl none (.pair (.int .i64) (.int .i64)))))))], [(.int .i64)], m_impl_SlotFault⟩

/-! cmp.isNaN[int64] -/
def p_cmp_isNaN_int64 (n : Nat) (x : Int) : Option Bool :=
some (!(x == x))
def m_cmp_isNaN_int64 (x : Int) : Option Bool := p_cmp_isNaN_int64 FU x
def a_cmp_isNaN_int64 : Ann := .leaf
def S_cmp_isNaN_int64 : FSpec := ⟨[.val (.int .i64)], [.bool], m_cmp_isNaN_int64⟩

/-! cmp.Compare[int64] -/
def p_cmp_Compare_int64 (n : Nat) (x : (Int × Int)) : Option Int :=
((m_cmp_isNaN_int64 x.1).bind fun r1 =>
((m_cmp_isNaN_int64 x.2).bind fun r2 =>
(cond r1
 (cond r2
  (some (0 : Int))
  (some (-1 : Int)))
 (cond r2
  (some (1 : Int))
  (cond (decide (x.1 < x.2))
   (some (-1 : Int))
   (cond (decide (x.1 > x.2))
    (some (1 : Int))
    (some (0 : Int))))))))
def m_cmp_Compare_int64 (x : (Int × Int)) : Option Int := p_cmp_Compare_int64 FU x
def a_cmp_Compare_int64 : Ann := .leaf
def S_cmp_Compare_int64 : FSpec := ⟨[.val (.int .i64), .val (.int .i64)], [(.int .i64)], m_cmp_Compare_int64⟩

/-! cmp.Or[int] -/
def p_cmp_Or_int (n : Nat) (x : (List Int)) : Option Int :=
(lp (fun rec4 (z3 : Int) =>
 (cond (decide (z3 < (lenI x)))
  ((geti x z3).bind fun y5 =>
  (cond (!(y5 == (0 : Int)))
   (some y5)
   (rec4 (IntKind.wrap .i64 (z3 + (1 : Int))))))
  (some (0 : Int)))) n (0 : Int))
def m_cmp_Or_int (x : (List Int)) : Option Int := p_cmp_Or_int FU x
def a_cmp_Or_int : Ann := (.node .leaf (.node .leaf (.node (.node .leaf (.loop [.slot 8 (.int .i64)] [2, 5, 9, 10, 11, 12, 13, 14, 15, 16] .leaf)) .leaf)))
def S_cmp_Or_int : FSpec := ⟨[.val (.sl none (.int .i64))], [(.int .i64)], m_cmp_Or_int⟩

/-! impl.compareSlots -/
def p_impl_compareSlots (n : Nat) (x : ((Int × (Int × (Int × ((Int × Int) × (List (Int × Int)))))) × (Int × (Int × (Int × ((Int × Int) × (List (Int × Int)))))))) : Option Int :=
((m_cmp_Compare_int64 (x.1.1, x.2.1)).bind fun r1 =>
((m_cmp_Compare_int64 (x.1.2.1, x.2.2.1)).bind fun r2 =>
((m_cmp_Or_int [r1, r2]).bind fun r3 =>
some r3)))
def m_impl_compareSlots (x : ((Int × (Int × (Int × ((Int × Int) × (List (Int × Int)))))) × (Int × (Int × (Int × ((Int × Int) × (List (Int × Int)))))))) : Option Int := p_impl_compareSlots FU x
def a_impl_compareSlots : Ann := .leaf
def S_impl_compareSlots : FSpec := ⟨[.val (.pair (.int .i64) (.pair (.int .i64) (.pair (.int .i64) (.pair (.pair (.int .i64) (.int .i64)) (.sl none (.pair (.int .i64) (.int .i64))))))), .val (.pair (.int .i64) (.pair (.int .i64) (.pair (.int .i64) (.pair (.pair (.int .i64) (.int .i64)) (.sl none (.pair (.int .i64) (.int .i64)))))))], [(.int .i64)], m_impl_compareSlots⟩

/-! impl.AcceptorFault -/
def p_impl_AcceptorFault (n : Nat) (x : (List (Int × (Int × (Int × ((Int × Int) × (List (Int × Int)))))))) : Option Int :=
(cond (decide ((lenI x) > (60 : Int)))
 (some (2 : Int))
 (lp (fun rec7 (z6 : Int) =>
  (cond (decide (z6 < (lenI x)))
   ((geti x z6).bind fun y8 =>
   ((m_impl_SlotFault y8).bind fun r9 =>
   (cond (!(r9 == (0 : Int)))
    (some r9)
    (cond (decide (z6 > (0 : Int)))
     ((geti x (IntKind.wrap .i64 (z6 - (1 : Int)))).bind fun y10 =>
     ((m_impl_compareSlots (y10, y8)).bind fun r11 =>
     (cond (decide (r11 ≥ (0 : Int)))
      (some (1 : Int))
      (rec7 (IntKind.wrap .i64 (z6 + (1 : Int)))))))
     (rec7 (IntKind.wrap .i64 (z6 + (1 : Int))))))))
   (some (0 : Int)))) n (0 : Int)))
def m_impl_AcceptorFault (x : (List (Int × (Int × (Int × ((Int × Int) × (List (Int × Int)))))))) : Option Int := p_impl_AcceptorFault FU x
def a_impl_AcceptorFault : Ann := (.node .leaf (.node .leaf (.node (.node .leaf (.loop [.slot 13 (.int .i64)] [2, 3, 4, 5, 14, 15, 16, 17, 18, 19, 20, 21, 22, 23, 24, 25, 26, 27, 28, 29, 30, 31, 32, 33, 34, 35, 36] .leaf)) .leaf)))
def S_impl_AcceptorFault : FSpec := ⟨[.val (.one (.sl none (.pair (.int .i64) (.pair (.int .i64) (.pair (.int .i64) (.pair (.pair (.int .i64) (.int .i64)) (.sl none (.pair (.int .i64) (.int .i64)))))))))], [(.int .i64)], m_impl_AcceptorFault⟩

/-! laws.eqVote -/
def p_laws_eqVote (n : Nat) (x : ((Int × Int) × (Int × Int))) : Option Bool :=
(cond (!(x.1.1 == x.2.1))
 (some false)
 (cond (!(x.1.2 == x.2.2))
  (some false)
  (some true)))
def m_laws_eqVote (x : ((Int × Int) × (Int × Int))) : Option Bool := p_laws_eqVote FU x
def a_laws_eqVote : Ann := .leaf
def S_laws_eqVote : FSpec := ⟨[.val (.pair (.int .i64) (.int .i64)), .val (.pair (.int .i64) (.int .i64))], [.bool], m_laws_eqVote⟩

/-! laws.eqVoteS -/
def p_laws_eqVoteS (n : Nat) (x : ((List (Int × Int)) × (List (Int × Int)))) : Option Bool :=
(cond (!((lenI x.1) == (lenI x.2)))
 (some false)
 (lp (fun rec6 (z5 : Int) =>
  (cond (decide (z5 < (lenI x.1)))
   ((geti x.1 z5).bind fun y7 =>
   ((geti x.2 z5).bind fun y8 =>
   ((m_laws_eqVote (y7, y8)).bind fun r9 =>
   (cond (!r9)
    (some false)
    (rec6 (IntKind.wrap .i64 (z5 + (1 : Int))))))))
   (some true))) n (0 : Int)))
def m_laws_eqVoteS (x : ((List (Int × Int)) × (List (Int × Int)))) : Option Bool := p_laws_eqVoteS FU x
def a_laws_eqVoteS : Ann := (.node .leaf (.node .leaf (.node (.node .leaf (.loop [.slot 5 (.int .i64)] [4, 11, 12, 13, 14, 15, 16, 17, 18, 19, 20, 21, 22, 23, 24, 25, 26] .leaf)) .leaf)))
def S_laws_eqVoteS : FSpec := ⟨[.val (.sl none (.pair (.int .i64) (.int .i64))), .val (.sl none (.pair (.int .i64) (.int .i64)))], [.bool], m_laws_eqVoteS⟩

/-! laws.eqSlot -/
def p_laws_eqSlot (n : Nat) (x : ((Int × (Int × (Int × ((Int × Int) × (List (Int × Int)))))) × (Int × (Int × (Int × ((Int × Int) × (List (Int × Int)))))))) : Option Bool :=
(cond (!(x.1.1 == x.2.1))
 (some false)
 (cond (!(x.1.2.1 == x.2.2.1))
  (some false)
  (cond (!(x.1.2.2.1 == x.2.2.2.1))
   (some false)
   ((m_laws_eqVote (x.1.2.2.2.1, x.2.2.2.2.1)).bind fun r1 =>
   (cond (!r1)
    (some false)
    ((m_laws_eqVoteS (x.1.2.2.2.2, x.2.2.2.2.2)).bind fun r2 =>
    (cond (!r2)
     (some false)
     (some true))))))))
def m_laws_eqSlot (x : ((Int × (Int × (Int × ((Int × Int) × (List (Int × Int)))))) × (Int × (Int × (Int × ((Int × Int) × (List (Int × Int)))))))) : Option Bool := p_laws_eqSlot FU x
def a_laws_eqSlot : Ann := .leaf
def S_laws_eqSlot : FSpec := ⟨[.val (.pair (.int .i64) (.pair (.int .i64) (.pair (.int .i64) (.pair (.pair (.int .i64) (.int .i64)) (.sl none (.pair (.int .i64) (.int .i64))))))), .val (.pair (.int .i64) (.pair (.int .i64) (.pair (.int .i64) (.pair (.pair (.int .i64) (.int .i64)) (.sl none (.pair (.int .i64) (.int .i64)))))))], [.bool], m_laws_eqSlot⟩

/-! laws.eqSlotS -/
def p_laws_eqSlotS (n : Nat) (x : ((List (Int × (Int × (Int × ((Int × Int) × (List (Int × Int))))))) × (List (Int × (Int × (Int × ((Int × Int) × (List (Int × Int))))))))) : Option Bool :=
(cond (!((lenI x.1) == (lenI x.2)))
 (some false)
 (lp (fun rec6 (z5 : Int) =>
  (cond (decide (z5 < (lenI x.1)))
   ((geti x.1 z5).bind fun y7 =>
   ((geti x.2 z5).bind fun y8 =>
   ((m_laws_eqSlot (y7, y8)).bind fun r9 =>
   (cond (!r9)
    (some false)
    (rec6 (IntKind.wrap .i64 (z5 + (1 : Int))))))))
   (some true))) n (0 : Int)))
def m_laws_eqSlotS (x : ((List (Int × (Int × (Int × ((Int × Int) × (List (Int × Int))))))) × (List (Int × (Int × (Int × ((Int × Int) × (List (Int × Int))))))))) : Option Bool := p_laws_eqSlotS FU x
def a_laws_eqSlotS : Ann := (.node .leaf (.node .leaf (.node (.node .leaf (.loop [.slot 5 (.int .i64)] [4, 11, 12, 13, 14, 15, 16, 17, 18, 19, 20, 21, 22, 23, 24, 25, 26] .leaf)) .leaf)))
def S_laws_eqSlotS : FSpec := ⟨[.val (.sl none (.pair (.int .i64) (.pair (.int .i64) (.pair (.int .i64) (.pair (.pair (.int .i64) (.int .i64)) (.sl none (.pair (.int .i64) (.int .i64)))))))), .val (.sl none (.pair (.int .i64) (.pair (.int .i64) (.pair (.int .i64) (.pair (.pair (.int .i64) (.int .i64)) (.sl none (.pair (.int .i64) (.int .i64))))))))], [.bool], m_laws_eqSlotS⟩

/-! laws.eqAcceptor -/
def p_laws_eqAcceptor (n : Nat) (x : ((List (Int × (Int × (Int × ((Int × Int) × (List (Int × Int))))))) × (List (Int × (Int × (Int × ((Int × Int) × (List (Int × Int))))))))) : Option Bool :=
((m_laws_eqSlotS (x.1, x.2)).bind fun r1 =>
(cond (!r1)
 (some false)
 (some true)))
def m_laws_eqAcceptor (x : ((List (Int × (Int × (Int × ((Int × Int) × (List (Int × Int))))))) × (List (Int × (Int × (Int × ((Int × Int) × (List (Int × Int))))))))) : Option Bool := p_laws_eqAcceptor FU x
def a_laws_eqAcceptor : Ann := .leaf
def S_laws_eqAcceptor : FSpec := ⟨[.val (.one (.sl none (.pair (.int .i64) (.pair (.int .i64) (.pair (.int .i64) (.pair (.pair (.int .i64) (.int .i64)) (.sl none (.pair (.int .i64) (.int .i64))))))))), .val (.one (.sl none (.pair (.int .i64) (.pair (.int .i64) (.pair (.int .i64) (.pair (.pair (.int .i64) (.int .i64)) (.sl none (.pair (.int .i64) (.int .i64)))))))))], [.bool], m_laws_eqAcceptor⟩

/-! laws.FnExactAcceptorFault -/
def p_laws_FnExactAcceptorFault (n : Nat) (x : (List (Int × (Int × (Int × ((Int × Int) × (List (Int × Int)))))))) : Option Bool :=
((m_laws_szAcceptor (x, (1048576 : Int))).bind fun r1 =>
(cond (decide (r1 < (0 : Int)))
 (some true)
 ((m_laws_toAcceptor x).bind fun r2 =>
 ((m_spec_AcceptorFault r2).bind fun r3 =>
 ((m_laws_toAcceptor x).bind fun r4 =>
 ((m_impl_AcceptorFault r4).bind fun r5 =>
 (cond (!(r5 == r3))
  (some false)
  ((m_laws_toAcceptor x).bind fun r6 =>
  ((m_laws_eqAcceptor (r4, r6)).bind fun r7 =>
  (cond (!r7)
   (some false)
   (some true)))))))))))
def m_laws_FnExactAcceptorFault (x : (List (Int × (Int × (Int × ((Int × Int) × (List (Int × Int)))))))) : Option Bool := p_laws_FnExactAcceptorFault FU x
def a_laws_FnExactAcceptorFault : Ann := .leaf
def S_laws_FnExactAcceptorFault : FSpec := ⟨[.val (.one (.sl none (.pair (.int .i64) (.pair (.int .i64) (.pair (.int .i64) (.pair (.pair (.int .i64) (.int .i64)) (.sl none (.pair (.int .i64) (.int .i64)))))))))], [.bool], m_laws_FnExactAcceptorFault⟩

def T : Tab := [
  (2, ⟨false, 1, 8, [], 0, [.int .i64 0], some (.int .i64), [0]⟩),
  (3, ⟨false, 1, 8, [], 0, [.int .i64 0], some (.int .i64), [0]⟩),
  (29, ⟨false, 1, 24, [], 34, [.nil], some (.sl none (.pair (.int .i64) (.int .i64))), []⟩),
  (34, ⟨true, 2, 16, [(0, 1, 2), (1, 1, 2)], 0, [.int .i64 0, .int .i64 0], some (.pair (.int .i64) (.int .i64)), [0, 0]⟩),
  (35, ⟨false, 1, 24, [], 48, [.nil], some (.sl none (.pair (.int .i64) (.int .i64))), []⟩),
  (41, ⟨true, 6, 64, [(0, 1, 2), (1, 1, 2), (2, 1, 2), (3, 2, 34), (5, 1, 29)], 0, [.int .i64 0, .int .i64 0, .int .i64 0, .int .i64 0, .int .i64 0, .nil], some (.pair (.int .i64) (.pair (.int .i64) (.pair (.int .i64) (.pair (.pair (.int .i64) (.int .i64)) (.sl none (.pair (.int .i64) (.int .i64))))))), []⟩),
  (48, ⟨true, 2, 16, [(0, 1, 2), (1, 1, 2)], 0, [.int .i64 0, .int .i64 0], some (.pair (.int .i64) (.int .i64)), [0, 0]⟩),
  (50, ⟨true, 6, 64, [(0, 1, 2), (1, 1, 2), (2, 1, 2), (3, 2, 48), (5, 1, 35)], 0, [.int .i64 0, .int .i64 0, .int .i64 0, .int .i64 0, .int .i64 0, .nil], some (.pair (.int .i64) (.pair (.int .i64) (.pair (.int .i64) (.pair (.pair (.int .i64) (.int .i64)) (.sl none (.pair (.int .i64) (.int .i64))))))), []⟩),
  (63, ⟨false, 1, 24, [], 50, [.nil], some (.sl none (.pair (.int .i64) (.pair (.int .i64) (.pair (.int .i64) (.pair (.pair (.int .i64) (.int .i64)) (.sl none (.pair (.int .i64) (.int .i64)))))))), []⟩),
  (66, ⟨false, 1, 24, [], 41, [.nil], some (.sl none (.pair (.int .i64) (.pair (.int .i64) (.pair (.int .i64) (.pair (.pair (.int .i64) (.int .i64)) (.sl none (.pair (.int .i64) (.int .i64)))))))), []⟩),
  (75, ⟨true, 1, 24, [(0, 1, 63)], 0, [.nil], some (.one (.sl none (.pair (.int .i64) (.pair (.int .i64) (.pair (.int .i64) (.pair (.pair (.int .i64) (.int .i64)) (.sl none (.pair (.int .i64) (.int .i64))))))))), []⟩),
  (79, ⟨true, 1, 24, [(0, 1, 66)], 0, [.nil], some (.one (.sl none (.pair (.int .i64) (.pair (.int .i64) (.pair (.int .i64) (.pair (.pair (.int .i64) (.int .i64)) (.sl none (.pair (.int .i64) (.int .i64))))))))), []⟩),
  (142, ⟨false, 1, 24, [], 3, [.nil], some (.sl none (.int .i64)), []⟩)]
def G_laws_szVoteS : Env := (22, S_laws_szVoteS) :: []
def G_laws_szSlot : Env := (30, S_laws_szSlot) :: G_laws_szVoteS
def G_laws_szSlotS : Env := (41, S_laws_szSlotS) :: G_laws_szSlot
def G_laws_szAcceptor : Env := (49, S_laws_szAcceptor) :: G_laws_szSlotS
def G_laws_toVote : Env := (80, S_laws_toVote) :: G_laws_szAcceptor
def G_laws_toVoteS : Env := (23, S_laws_toVoteS) :: G_laws_toVote
def G_laws_toSlot : Env := (32, S_laws_toSlot) :: G_laws_toVoteS
def G_laws_toSlotS : Env := (43, S_laws_toSlotS) :: G_laws_toSlot
def G_laws_toAcceptor : Env := (51, S_laws_toAcceptor) :: G_laws_toSlotS
def G_spec_l1In : Env := (63, S_spec_l1In) :: G_laws_toAcceptor
def G_spec_l1Id : Env := (82, S_spec_l1Id) :: G_spec_l1In
def G_spec_l8Ballot : Env := (77, S_spec_l8Ballot) :: G_spec_l1Id
def G_spec_l8Value : Env := (78, S_spec_l8Value) :: G_spec_l8Ballot
def G_spec_l8None : Env := (69, S_spec_l8None) :: G_spec_l8Value
def G_spec_l8Last : Env := (87, S_spec_l8Last) :: G_spec_l8None
def G_spec_SlotFault : Env := (31, S_spec_SlotFault) :: G_spec_l8Last
def G_spec_l9Ahead : Env := (101, S_spec_l9Ahead) :: G_spec_SlotFault
def G_spec_AcceptorFault : Env := (50, S_spec_AcceptorFault) :: G_spec_l9Ahead
def G_impl_within : Env := (65, S_impl_within) :: G_spec_AcceptorFault
def G_impl_isId : Env := (83, S_impl_isId) :: G_impl_within
def G_impl_isShard : Env := (84, S_impl_isShard) :: G_impl_isId
def G_impl_isBallot : Env := (91, S_impl_isBallot) :: G_impl_isShard
def G_impl_isValue : Env := (76, S_impl_isValue) :: G_impl_isBallot
def G_impl_isVote : Env := (75, S_impl_isVote) :: G_impl_isValue
def G_impl_castFault : Env := (88, S_impl_castFault) :: G_impl_isVote
def G_impl_noVote : Env := (74, S_impl_noVote) :: G_impl_castFault
def G_impl_lastCast : Env := (89, S_impl_lastCast) :: G_impl_noVote
def G_impl_SlotFault : Env := (33, S_impl_SlotFault) :: G_impl_lastCast
def G_cmp_isNaN_int64 : Env := (128, S_cmp_isNaN_int64) :: G_impl_SlotFault
def G_cmp_Compare_int64 : Env := (121, S_cmp_Compare_int64) :: G_cmp_isNaN_int64
def G_cmp_Or_int : Env := (120, S_cmp_Or_int) :: G_cmp_Compare_int64
def G_impl_compareSlots : Env := (102, S_impl_compareSlots) :: G_cmp_Or_int
def G_impl_AcceptorFault : Env := (52, S_impl_AcceptorFault) :: G_impl_compareSlots
def G_laws_eqVote : Env := (81, S_laws_eqVote) :: G_impl_AcceptorFault
def G_laws_eqVoteS : Env := (24, S_laws_eqVoteS) :: G_laws_eqVote
def G_laws_eqSlot : Env := (34, S_laws_eqSlot) :: G_laws_eqVoteS
def G_laws_eqSlotS : Env := (45, S_laws_eqSlotS) :: G_laws_eqSlot
def G_laws_eqAcceptor : Env := (53, S_laws_eqAcceptor) :: G_laws_eqSlotS
def G_laws_FnExactAcceptorFault : Env := (13, S_laws_FnExactAcceptorFault) :: G_laws_eqAcceptor
end Go.RvP
