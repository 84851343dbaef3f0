/- The plain functions that the evaluator comes to, for FnExactChosenIn. No condition. -/
import Derived.Test.YtekndmbpphncmaaRvL
import Derived.Test.YtekndmbpphncmaaRvS
namespace Go.RvP
open Go Go.Rv
noncomputable section
/-! laws.szVoteS -/
def p_laws_szVoteS (n : Nat) (x : ((List (Int × Int)) × Int)) : Option Int :=
(cond (decide ((IntKind.wrap .i64 (x.2 - (lenI x.1))) < (0 : Int)))
 (some (-1 : Int))
 (some (IntKind.wrap .i64 (x.2 - (lenI x.1)))))
def m_laws_szVoteS (x : ((List (Int × Int)) × Int)) : Option Int := p_laws_szVoteS FU x
def a_laws_szVoteS : Ann := .leaf
def S_laws_szVoteS : FSpec := ⟨[.val (.sl none (.pair (.int .i64) (.int .i64))), .val (.int .i64)], [(.int .i64)], m_laws_szVoteS⟩

/-! laws.szSlot -/
def p_laws_szSlot (n : Nat) (x : ((Int × (Int × (Int × ((Int × Int) × (List (Int × Int)))))) × Int)) : Option Int :=
((m_laws_szVoteS (x.1.2.2.2.2, x.2)).bind fun r1 =>
(cond (decide (r1 < (0 : Int)))
 (some (-1 : Int))
 (some r1)))
def m_laws_szSlot (x : ((Int × (Int × (Int × ((Int × Int) × (List (Int × Int)))))) × Int)) : Option Int := p_laws_szSlot FU x
def a_laws_szSlot : Ann := .leaf
def S_laws_szSlot : FSpec := ⟨[.val (.pair (.int .i64) (.pair (.int .i64) (.pair (.int .i64) (.pair (.pair (.int .i64) (.int .i64)) (.sl none (.pair (.int .i64) (.int .i64))))))), .val (.int .i64)], [(.int .i64)], m_laws_szSlot⟩

/-! laws.szSlotS -/
def l_laws_szSlotS_1 (n : Nat) (x_1 : (List (Int × (Int × (Int × ((Int × Int) × (List (Int × Int)))))))) (z0 : (Int × Int)) : Option Int :=
(lp (fun rec5 (z4 : (Int × Int)) =>
 (cond (decide (z4.2 < (lenI x_1)))
  ((geti x_1 z4.2).bind fun y6 =>
  ((m_laws_szSlot (y6, z4.1)).bind fun r7 =>
  (cond (decide (r7 < (0 : Int)))
   (some (-1 : Int))
   (rec5 (r7, IntKind.wrap .i64 (z4.2 + (1 : Int)))))))
  (some z4.1))) n z0)
def p_laws_szSlotS (n : Nat) (x : ((List (Int × (Int × (Int × ((Int × Int) × (List (Int × Int))))))) × Int)) : Option Int :=
(cond (decide ((IntKind.wrap .i64 (x.2 - (lenI x.1))) < (0 : Int)))
 (some (-1 : Int))
 (l_laws_szSlotS_1 n x.1 (IntKind.wrap .i64 (x.2 - (lenI x.1)), (0 : Int))))
def m_laws_szSlotS (x : ((List (Int × (Int × (Int × ((Int × Int) × (List (Int × Int))))))) × Int)) : Option Int := p_laws_szSlotS FU x
def a_laws_szSlotS : Ann := (.node .leaf (.node .leaf (.node .leaf (.node (.node .leaf (.loop [.slot 1 (.int .i64), .slot 5 (.int .i64)] [4, 12, 13, 14, 15, 16, 17, 18, 19, 20, 21, 22, 23, 24, 25] .leaf)) .leaf))))
def S_laws_szSlotS : FSpec := ⟨[.val (.sl none (.pair (.int .i64) (.pair (.int .i64) (.pair (.int .i64) (.pair (.pair (.int .i64) (.int .i64)) (.sl none (.pair (.int .i64) (.int .i64)))))))), .val (.int .i64)], [(.int .i64)], m_laws_szSlotS⟩

/-! laws.toVote -/
def p_laws_toVote (n : Nat) (x : (Int × Int)) : Option (Int × Int) :=
some x
def m_laws_toVote (x : (Int × Int)) : Option (Int × Int) := p_laws_toVote FU x
def a_laws_toVote : Ann := .leaf
def S_laws_toVote : FSpec := ⟨[.val (.pair (.int .i64) (.int .i64))], [(.pair (.int .i64) (.int .i64))], m_laws_toVote⟩

/-! laws.toVoteS -/
def l_laws_toVoteS_1 (n : Nat) (x : (List (Int × Int))) (z0 : (Int × (List (Int × Int)))) : Option (List (Int × Int)) :=
(lp (fun rec10 (z9 : (Int × (List (Int × Int)))) =>
 (cond (decide (z9.1 < (lenI x)))
  ((geti x z9.1).bind fun y11 =>
  ((m_laws_toVote y11).bind fun r12 =>
  ((geti z9.2 z9.1).bind fun _ =>
  ((z9.2[z9.1.toNat]?).bind fun y13 =>
  rec10 (IntKind.wrap .i64 (z9.1 + (1 : Int)), (z9.2.set z9.1.toNat r12))))))
  (some z9.2))) n z0)
def p_laws_toVoteS (n : Nat) (x : (List (Int × Int))) : Option (List (Int × Int)) :=
(if (lenI x) = (lenI x) then (if 0 ≤ (lenI x) then chk (Nat.ble (16 * (lenI x).toNat) maxBytes)
(l_laws_toVoteS_1 n x ((0 : Int), (List.replicate (lenI x).toNat ((0 : Int), (0 : Int))))) else none) else none)
def m_laws_toVoteS (x : (List (Int × Int))) : Option (List (Int × Int)) := p_laws_toVoteS FU x
def a_laws_toVoteS : Ann := (.node .leaf (.node .leaf (.node (.node .leaf (.loop [.slot 4 (.int .i64), .row 0 34 (.pair (.int .i64) (.int .i64))] [8, 9, 10, 11, 12, 13, 14, 15, 16, 17, 18, 19, 20, 21] .leaf)) .leaf)))
def S_laws_toVoteS : FSpec := ⟨[.val (.sl none (.pair (.int .i64) (.int .i64)))], [(.sl (some 34) (.pair (.int .i64) (.int .i64)))], m_laws_toVoteS⟩

/-! laws.toSlot -/
def p_laws_toSlot (n : Nat) (x : (Int × (Int × (Int × ((Int × Int) × (List (Int × Int))))))) : Option (Int × (Int × (Int × ((Int × Int) × (List (Int × Int)))))) :=
((m_laws_toVote x.2.2.2.1).bind fun r1 =>
((m_laws_toVoteS x.2.2.2.2).bind fun r2 =>
some (x.1, (x.2.1, (x.2.2.1, (r1, r2))))))
def m_laws_toSlot (x : (Int × (Int × (Int × ((Int × Int) × (List (Int × Int))))))) : Option (Int × (Int × (Int × ((Int × Int) × (List (Int × Int)))))) := p_laws_toSlot FU x
def a_laws_toSlot : Ann := .leaf
def S_laws_toSlot : FSpec := ⟨[.val (.pair (.int .i64) (.pair (.int .i64) (.pair (.int .i64) (.pair (.pair (.int .i64) (.int .i64)) (.sl none (.pair (.int .i64) (.int .i64)))))))], [(.pair (.int .i64) (.pair (.int .i64) (.pair (.int .i64) (.pair (.pair (.int .i64) (.int .i64)) (.sl (some 34) (.pair (.int .i64) (.int .i64)))))))], m_laws_toSlot⟩

/-! laws.toSlotS -/
def l_laws_toSlotS_1 (n : Nat) (x : (List (Int × (Int × (Int × ((Int × Int) × (List (Int × Int)))))))) (z0 : (Int × (List (Int × (Int × (Int × ((Int × Int) × (List (Int × Int))))))))) : Option (List (Int × (Int × (Int × ((Int × Int) × (List (Int × Int))))))) :=
(lp (fun rec8 (z7 : (Int × (List (Int × (Int × (Int × ((Int × Int) × (List (Int × Int))))))))) =>
 (cond (decide (z7.1 < (lenI x)))
  ((geti x z7.1).bind fun y9 =>
  ((m_laws_toSlot y9).bind fun r10 =>
  ((geti z7.2 z7.1).bind fun _ =>
  ((z7.2[z7.1.toNat]?).bind fun _ =>
  rec8 (IntKind.wrap .i64 (z7.1 + (1 : Int)), (z7.2.set z7.1.toNat r10))))))
  (some z7.2))) n z0)
def p_laws_toSlotS (n : Nat) (x : (List (Int × (Int × (Int × ((Int × Int) × (List (Int × Int)))))))) : Option (List (Int × (Int × (Int × ((Int × Int) × (List (Int × Int))))))) :=
(if (lenI x) = (lenI x) then (if 0 ≤ (lenI x) then chk (Nat.ble (64 * (lenI x).toNat) maxBytes)
(l_laws_toSlotS_1 n x ((0 : Int), (List.replicate (lenI x).toNat ((0 : Int), ((0 : Int), ((0 : Int), (((0 : Int), (0 : Int)), []))))))) else none) else none)
def m_laws_toSlotS (x : (List (Int × (Int × (Int × ((Int × Int) × (List (Int × Int)))))))) : Option (List (Int × (Int × (Int × ((Int × Int) × (List (Int × Int))))))) := p_laws_toSlotS FU x
def a_laws_toSlotS : Ann := (.node .leaf (.node (.own 7 (.pair (.int .i64) (.pair (.int .i64) (.pair (.int .i64) (.pair (.pair (.int .i64) (.int .i64)) (.sl (some 34) (.pair (.int .i64) (.int .i64))))))) .leaf) (.node (.node .leaf (.loop [.slot 4 (.int .i64), .row 0 41 (.pair (.int .i64) (.pair (.int .i64) (.pair (.int .i64) (.pair (.pair (.int .i64) (.int .i64)) (.sl (some 34) (.pair (.int .i64) (.int .i64)))))))] [8, 9, 10, 11, 12, 13, 14, 15, 16, 17, 18, 19, 20, 21] .leaf)) .leaf)))
def S_laws_toSlotS : FSpec := ⟨[.val (.sl none (.pair (.int .i64) (.pair (.int .i64) (.pair (.int .i64) (.pair (.pair (.int .i64) (.int .i64)) (.sl none (.pair (.int .i64) (.int .i64))))))))], [(.sl (some 41) (.pair (.int .i64) (.pair (.int .i64) (.pair (.int .i64) (.pair (.pair (.int .i64) (.int .i64)) (.sl (some 34) (.pair (.int .i64) (.int .i64))))))))], m_laws_toSlotS⟩

/-! spec.l1In -/
def p_spec_l1In (n : Nat) (x : (Int × (Int × Int))) : Option Bool :=
(cond (decide (x.1 ≥ x.2.1))
 (some (decide (x.1 ≤ x.2.2)))
 (some false))
def m_spec_l1In (x : (Int × (Int × Int))) : Option Bool := p_spec_l1In FU x
def a_spec_l1In : Ann := .leaf
def S_spec_l1In : FSpec := ⟨[.val (.int .i64), .val (.int .i64), .val (.int .i64)], [.bool], m_spec_l1In⟩

/-! spec.l1Id -/
def p_spec_l1Id (n : Nat) (x : Int) : Option Bool :=
((m_spec_l1In (x, (1 : Int), (1000000000 : Int))).bind fun r1 =>
some r1)
def m_spec_l1Id (x : Int) : Option Bool := p_spec_l1Id FU x
def a_spec_l1Id : Ann := .leaf
def S_spec_l1Id : FSpec := ⟨[.val (.int .i64)], [.bool], m_spec_l1Id⟩

/-! spec.l8Ballot -/
def p_spec_l8Ballot (n : Nat) (x : Int) : Option Bool :=
((m_spec_l1In (x, (0 : Int), (1000 : Int))).bind fun r1 =>
some r1)
def m_spec_l8Ballot (x : Int) : Option Bool := p_spec_l8Ballot FU x
def a_spec_l8Ballot : Ann := .leaf
def S_spec_l8Ballot : FSpec := ⟨[.val (.int .i64)], [.bool], m_spec_l8Ballot⟩

/-! spec.l8Value -/
def p_spec_l8Value (n : Nat) (x : Int) : Option Bool :=
(cond (x == (1 : Int))
 (some true)
 (some (x == (2 : Int))))
def m_spec_l8Value (x : Int) : Option Bool := p_spec_l8Value FU x
def a_spec_l8Value : Ann := .leaf
def S_spec_l8Value : FSpec := ⟨[.val (.int .i64)], [.bool], m_spec_l8Value⟩

/-! spec.l8None -/
def p_spec_l8None (n : Nat) (x : Unit) : Option (Int × Int) :=
some ((-1 : Int), (0 : Int))
def m_spec_l8None (x : Unit) : Option (Int × Int) := p_spec_l8None FU x
def a_spec_l8None : Ann := .leaf
def S_spec_l8None : FSpec := ⟨[], [(.pair (.int .i64) (.int .i64))], m_spec_l8None⟩

/-! spec.l8Last -/
def p_spec_l8Last (n : Nat) (x : (Int × (Int × (Int × ((Int × Int) × (List (Int × Int))))))) : Option (Int × Int) :=
(cond ((lenI x.2.2.2.2) == (0 : Int))
 ((m_spec_l8None ()).bind fun r1 =>
 some r1)
 ((geti x.2.2.2.2 (IntKind.wrap .i64 ((lenI x.2.2.2.2) - (1 : Int)))).bind fun y2 =>
 some y2))
def m_spec_l8Last (x : (Int × (Int × (Int × ((Int × Int) × (List (Int × Int))))))) : Option (Int × Int) := p_spec_l8Last FU x
def a_spec_l8Last : Ann := .leaf
def S_spec_l8Last : FSpec := ⟨[.val (.pair (.int .i64) (.pair (.int .i64) (.pair (.int .i64) (.pair (.pair (.int .i64) (.int .i64)) (.sl none (.pair (.int .i64) (.int .i64)))))))], [(.pair (.int .i64) (.int .i64))], m_spec_l8Last⟩

/-! spec.SlotFault -/
def l_spec_SlotFault_1 (n : Nat) (x_2_2_2_2 : (List (Int × Int))) (z0 : Int) : Option (Unit ⊕ Int) :=
(lp (fun rec53 (z52 : Int) =>
 (cond (decide (z52 < (lenI x_2_2_2_2)))
  ((geti x_2_2_2_2 z52).bind fun y54 =>
  (Option.bind (α := Bool)
   ((m_spec_l8Ballot y54.1).bind fun r57 =>
   (cond (!r57)
    (some true)
    ((m_spec_l8Value y54.2).bind fun r58 =>
    some (!r58)))) fun j59 =>
  (cond j59
   (some (Sum.inr (3 : Int)))
   (Option.bind (α := Bool)
    (cond (decide (z52 > (0 : Int)))
     ((geti x_2_2_2_2 (IntKind.wrap .i64 (z52 - (1 : Int)))).bind fun y63 =>
     (cond (decide (y54.1 < y63.1))
      (some true)
      ((geti x_2_2_2_2 (IntKind.wrap .i64 (z52 - (1 : Int)))).bind fun y64 =>
      (cond (y54.1 == y64.1)
       ((geti x_2_2_2_2 (IntKind.wrap .i64 (z52 - (1 : Int)))).bind fun y65 =>
       some (!(y54.2 == y65.2)))
       (some false)))))
     (some false)) fun j66 =>
   (cond j66
    (some (Sum.inr (1 : Int)))
    (rec53 (IntKind.wrap .i64 (z52 + (1 : Int)))))))))
  (some (Sum.inl ())))) n z0)
def p_spec_SlotFault (n : Nat) (x : (Int × (Int × (Int × ((Int × Int) × (List (Int × Int))))))) : Option Int :=
(Option.bind (α := Bool)
 ((m_spec_l1Id x.1).bind fun r4 =>
 (cond (!r4)
  (some true)
  ((m_spec_l1In (x.2.1, (0 : Int), (2 : Int))).bind fun r5 =>
  (cond (!r5)
   (some true)
   ((m_spec_l1In (x.2.2.1, (-1 : Int), (1000 : Int))).bind fun r6 =>
   some (!r6)))))) fun j7 =>
(cond j7
 (some (3 : Int))
 (cond (decide ((lenI x.2.2.2.2) > (60 : Int)))
  (some (2 : Int))
  (Option.bind (α := (Unit ⊕ Int))
   (l_spec_SlotFault_1 n x.2.2.2.2 (0 : Int))
   (Sum.elim (fun j68 =>
  (Option.bind (α := Bool)
   ((m_spec_l8Last x).bind fun r70 =>
   (cond (!((x.2.2.2.1.1 == r70.1) && ((x.2.2.2.1.2 == r70.2) && true)))
    (some true)
    (some (decide (x.2.2.2.1.1 > x.2.2.1))))) fun j71 =>
  (cond j71
   (some (1 : Int))
   (some (0 : Int))))) some)))))
def m_spec_SlotFault (x : (Int × (Int × (Int × ((Int × Int) × (List (Int × Int))))))) : Option Int := p_spec_SlotFault FU x
def a_spec_SlotFault : Ann := (.node .leaf (.node (.join [.slot 20 .bool] [5, 6, 7, 8, 9, 10, 11, 12, 13, 14, 15, 16, 17, 18, 19] .leaf .leaf) (.node .leaf (.joinx [] [2, 3, 4, 25, 26, 27, 28, 29, 30, 31, 32, 33, 34, 35, 36, 37, 38, 39, 40, 41, 42, 43, 44, 45, 46, 47, 48, 49, 50, 51, 52, 53, 54, 55, 56, 57, 58, 59, 60, 61, 62, 63, 64, 65, 66, 67, 68, 69, 70, 71, 72, 73, 74, 75, 76, 77, 78, 79, 80, 81, 82, 83, 84] (.node .leaf (.loop [.slot 3 (.int .i64)] [2, 4, 25, 26, 27, 28, 29, 30, 31, 32, 33, 34, 35, 36, 37, 38, 39, 40, 41, 42, 43, 44, 45, 46, 47, 48, 49, 50, 51, 52, 53, 54, 55, 56, 57, 58, 59, 60, 61, 62, 63, 64, 65, 66, 67, 68, 69, 70, 71, 72, 73, 74, 75, 76, 77, 78, 79, 80, 81, 82, 83, 84] (.node .leaf (.node (.node .leaf (.node (.join [.slot 46 .bool] [37, 38, 39, 40, 41, 42, 43, 44, 45] .leaf .leaf) (.join [.slot 84 .bool] [47, 48, 49, 50, 51, 52, 53, 54, 55, 56, 57, 58, 59, 60, 61, 62, 63, 64, 65, 66, 67, 68, 69, 70, 71, 72, 73, 74, 75, 76, 77, 78, 79, 80, 81, 82, 83] .leaf .leaf))) .leaf)))) (.node (.join [.slot 97 .bool] [85, 86, 87, 88, 89, 90, 91, 92, 93, 94, 95, 96] .leaf .leaf) .leaf)))))
def S_spec_SlotFault : FSpec := ⟨[.val (.pair (.int .i64) (.pair (.int .i64) (.pair (.int .i64) (.pair (.pair (.int .i64) (.int .i64)) (.sl none (.pair (.int .i64) (.int .i64)))))))], [(.int .i64)], m_spec_SlotFault⟩

/-! spec.l8Asked -/
def l_spec_l8Asked_1 (n : Nat) (x : (List (Int × (Int × (Int × ((Int × Int) × (List (Int × Int)))))))) (z0 : Int) : Option (Unit ⊕ Int) :=
(lp (fun rec13 (z12 : Int) =>
 (cond (decide (z12 < (lenI x)))
  ((geti x z12).bind fun y14 =>
  ((m_spec_SlotFault y14).bind fun r15 =>
  (cond (!(r15 == (0 : Int)))
   (some (Sum.inr r15))
   (rec13 (IntKind.wrap .i64 (z12 + (1 : Int)))))))
  (some (Sum.inl ())))) n z0)
def l_spec_l8Asked_2 (n : Nat) (x : (List (Int × (Int × (Int × ((Int × Int) × (List (Int × Int)))))))) (z0 : Int) : Option Int :=
(lp (fun rec30 (z29 : Int) =>
 (cond (decide (z29 < (lenI x)))
  (Option.bind (α := Bool)
   ((geti x z29).bind fun y35 =>
   ((geti x (0 : Int)).bind fun y36 =>
   (cond (!(y35.1 == y36.1))
    (some true)
    ((geti x z29).bind fun y37 =>
    ((geti x (0 : Int)).bind fun y38 =>
    some (!(y37.2.1 == y38.2.1))))))) fun j39 =>
  (cond j39
   (some (1 : Int))
   (rec30 (IntKind.wrap .i64 (z29 + (1 : Int))))))
  (some (0 : Int)))) n z0)
def p_spec_l8Asked (n : Nat) (x : (List (Int × (Int × (Int × ((Int × Int) × (List (Int × Int)))))))) : Option Int :=
(Option.bind (α := (Unit ⊕ Int))
 (l_spec_l8Asked_1 n x (0 : Int))
 (Sum.elim (fun j17 =>
(Option.bind (α := Bool)
 (cond (decide ((lenI x) < (1 : Int)))
  (some true)
  (some (decide ((lenI x) > (9 : Int))))) fun j18 =>
(cond j18
 (some (2 : Int))
 (l_spec_l8Asked_2 n x (0 : Int))))) some))
def m_spec_l8Asked (x : (List (Int × (Int × (Int × ((Int × Int) × (List (Int × Int)))))))) : Option Int := p_spec_l8Asked FU x
def a_spec_l8Asked : Ann := (.node .leaf (.joinx [] [2, 3, 4, 6, 7, 8, 9, 10, 11, 12, 13, 14, 15, 16, 17, 18, 19] (.node .leaf (.loop [.slot 3 (.int .i64)] [2, 4, 6, 7, 8, 9, 10, 11, 12, 13, 14, 15, 16, 17, 18, 19] .leaf)) (.node (.join [.slot 27 .bool] [20, 21, 22, 23, 24, 25, 26] .leaf .leaf) (.node (.node .leaf (.loop [.slot 5 (.int .i64)] [2, 28, 29, 30, 31, 32, 33, 34, 35, 36, 37, 38, 39, 40, 41, 42, 43, 44, 45, 46, 47, 48, 49, 50, 51, 52, 53, 54, 55] (.node .leaf (.node (.join [.slot 55 .bool] [34, 35, 36, 37, 38, 39, 40, 41, 42, 43, 44, 45, 46, 47, 48, 49, 50, 51, 52, 53, 54] .leaf .leaf) .leaf)))) .leaf))))
def S_spec_l8Asked : FSpec := ⟨[.val (.sl none (.pair (.int .i64) (.pair (.int .i64) (.pair (.int .i64) (.pair (.pair (.int .i64) (.int .i64)) (.sl none (.pair (.int .i64) (.int .i64))))))))], [(.int .i64)], m_spec_l8Asked⟩

/-! spec.l8Cast -/
def l_spec_l8Cast_1 (n : Nat) (x_2_1 : Int) (x_2_2 : Int) (x_1_2_2_2_2 : (List (Int × Int))) (z0 : Int) : Option Bool :=
(lp (fun rec4 (z3 : Int) =>
 (cond (decide (z3 < (lenI x_1_2_2_2_2)))
  ((geti x_1_2_2_2_2 z3).bind fun y5 =>
  (cond ((y5.1 == x_2_1) && ((y5.2 == x_2_2) && true))
   (some true)
   (rec4 (IntKind.wrap .i64 (z3 + (1 : Int))))))
  (some false))) n z0)
def p_spec_l8Cast (n : Nat) (x : ((Int × (Int × (Int × ((Int × Int) × (List (Int × Int)))))) × (Int × Int))) : Option Bool :=
(l_spec_l8Cast_1 n x.2.1 x.2.2 x.1.2.2.2.2 (0 : Int))
def m_spec_l8Cast (x : ((Int × (Int × (Int × ((Int × Int) × (List (Int × Int)))))) × (Int × Int))) : Option Bool := p_spec_l8Cast FU x
def a_spec_l8Cast : Ann := (.node .leaf (.node (.node .leaf (.loop [.slot 5 (.int .i64)] [4, 6, 7, 8, 9, 10, 11, 12, 13, 14, 15, 16, 17, 18, 19] .leaf)) .leaf))
def S_spec_l8Cast : FSpec := ⟨[.val (.pair (.int .i64) (.pair (.int .i64) (.pair (.int .i64) (.pair (.pair (.int .i64) (.int .i64)) (.sl none (.pair (.int .i64) (.int .i64))))))), .val (.pair (.int .i64) (.int .i64))], [.bool], m_spec_l8Cast⟩

/-! spec.l8Quorum -/
def p_spec_l8Quorum (n : Nat) (x : Int) : Option Int :=
(cond ((2 : Int) == 0) none
 (some (IntKind.wrap .i64 ((IntKind.wrap .i64 (Int.tdiv x (2 : Int))) + (1 : Int)))))
def m_spec_l8Quorum (x : Int) : Option Int := p_spec_l8Quorum FU x
def a_spec_l8Quorum : Ann := .leaf
def S_spec_l8Quorum : FSpec := ⟨[.val (.int .i64)], [(.int .i64)], m_spec_l8Quorum⟩

/-! spec.l8Chosen -/
def l_spec_l8Chosen_1 (n : Nat) (x : (List (Int × (Int × (Int × ((Int × Int) × (List (Int × Int)))))))) (y711 : (Int × Int)) (z0 : (Int × Int)) : Option Int :=
(lp (fun rec724 (z723 : (Int × Int)) =>
 (cond (decide (z723.2 < (lenI x)))
  ((geti x z723.2).bind fun y725 =>
  ((m_spec_l8Cast (y725, y711)).bind fun r726 =>
  (cond r726
   (rec724 (IntKind.wrap .i64 (z723.1 + (1 : Int)), IntKind.wrap .i64 (z723.2 + (1 : Int))))
   (rec724 (z723.1, IntKind.wrap .i64 (z723.2 + (1 : Int)))))))
  (some z723.1))) n z0)
def l_spec_l8Chosen_2 (n : Nat) (z662_1 : (List (Int × Int))) (y711_1 : Int) (z0 : Int) : Option Int :=
(lp (fun rec744 (z743 : Int) =>
 (Option.bind (α := Bool)
  (cond (decide (z743 < (lenI z662_1)))
   ((geti z662_1 z743).bind fun _ =>
   ((z662_1[z743.toNat]?).bind fun y746 =>
   some (decide (y746.1 < y711_1))))
   (some false)) fun j747 =>
 (cond j747
  (rec744 (IntKind.wrap .i64 (z743 + (1 : Int))))
  (some z743)))) n z0)
def l_spec_l8Chosen_3 (n : Nat) (x : (List (Int × (Int × (Int × ((Int × Int) × (List (Int × Int)))))))) (z379_2 : Int) (z0 : ((List (Int × Int)) × Int)) : Option (List (Int × Int)) :=
(lp (fun rec663 (z662 : ((List (Int × Int)) × Int)) =>
 ((geti x z379_2).bind fun y664 =>
 (cond (decide (z662.2 < (lenI y664.2.2.2.2)))
  (Option.bind (α := (List (Int × Int)))
   ((geti x z379_2).bind fun y710 =>
   ((geti y710.2.2.2.2 z662.2).bind fun y711 =>
   (Option.bind (α := Int)
    (l_spec_l8Chosen_1 n x y711 ((0 : Int), (0 : Int))) fun j728 =>
   (Option.bind (α := Int)
    (l_spec_l8Chosen_2 n z662.1 y711.1 (0 : Int)) fun j749 =>
   (Option.bind (α := Bool)
    ((m_spec_l8Quorum (lenI x)).bind fun r752 =>
    (cond (decide (j728 ≥ r752))
     (cond (j749 == (lenI z662.1))
      (some true)
      ((geti z662.1 j749).bind fun _ =>
      ((z662.1[j749.toNat]?).bind fun y753 =>
      some (!((y753.1 == y711.1) && ((y753.2 == y711.2) && true))))))
     (some false))) fun j754 =>
   (cond j754
    (chk (bndB none (some j749) none z662.1.length)
     (chk (bndB (some j749) none none z662.1.length)
      (chk (Nat.ble (((z662.1.drop 0).take j749.toNat).length * 16) maxBytes)
      (chk (Nat.ble ((((z662.1.drop 0).take j749.toNat).length + [y711].length) * 16) maxBytes)
      (chk (Nat.ble (((((z662.1.drop 0).take j749.toNat) ++ [y711]).length + ((z662.1.drop j749.toNat).take (z662.1.length - j749.toNat)).length) * 16) maxBytes)
      (some ((((z662.1.drop 0).take j749.toNat) ++ [y711]) ++ ((z662.1.drop j749.toNat).take (z662.1.length - j749.toNat)))))))))
    (some z662.1))))))) fun j755 =>
  rec663 (j755, IntKind.wrap .i64 (z662.2 + (1 : Int))))
  (some z662.1)))) n z0)
def l_spec_l8Chosen_4 (n : Nat) (x : (List (Int × (Int × (Int × ((Int × Int) × (List (Int × Int)))))))) (z0 : ((List (Int × Int)) × Int)) : Option (List (Int × Int)) :=
(lp (fun rec380 (z379 : ((List (Int × Int)) × Int)) =>
 (cond (decide (z379.2 < (lenI x)))
  (Option.bind (α := (List (Int × Int)))
   (l_spec_l8Chosen_3 n x z379.2 (z379.1, (0 : Int))) fun j757 =>
  rec380 (j757, IntKind.wrap .i64 (z379.2 + (1 : Int))))
  (some z379.1))) n z0)
def p_spec_l8Chosen (n : Nat) (x : (List (Int × (Int × (Int × ((Int × Int) × (List (Int × Int)))))))) : Option (List (Int × Int)) :=
(l_spec_l8Chosen_4 n x (([] : List (Int × Int)), (0 : Int)))
def m_spec_l8Chosen (x : (List (Int × (Int × (Int × ((Int × Int) × (List (Int × Int)))))))) : Option (List (Int × Int)) := p_spec_l8Chosen FU x
def a_spec_l8Chosen : Ann := (.node .leaf (.node .leaf (.node (.node .leaf (.loop [.slot 3 (.sl (some 34) (.pair (.int .i64) (.int .i64))), .slot 4 (.int .i64)] [5, 6, 7, 8, 9, 11, 12, 13, 14, 15, 16, 17, 18, 19, 20, 21, 22, 23, 24, 25, 26, 27, 28, 29, 30, 31, 32, 33, 34, 35, 36, 37, 38, 39, 40, 41, 42, 43, 44, 45, 46, 47, 48, 49, 50, 51, 52, 53, 54, 55, 56, 57, 58, 59, 60, 61, 62, 63, 64, 65, 66, 67, 68, 69, 70, 71, 72, 73, 74, 75, 76, 77, 78, 79, 80, 81, 82, 83, 84, 85, 86, 87, 88, 89, 90, 91, 92, 93, 94, 95] (.node .leaf (.join [.slot 3 (.sl (some 34) (.pair (.int .i64) (.int .i64)))] [5, 6, 7, 8, 9, 17, 18, 19, 20, 21, 22, 23, 24, 25, 26, 27, 28, 29, 30, 31, 32, 33, 34, 35, 36, 37, 38, 39, 40, 41, 42, 43, 44, 45, 46, 47, 48, 49, 50, 51, 52, 53, 54, 55, 56, 57, 58, 59, 60, 61, 62, 63, 64, 65, 66, 67, 68, 69, 70, 71, 72, 73, 74, 75, 76, 77, 78, 79, 80, 81, 82, 83, 84, 85, 86, 87, 88, 89, 90, 91, 92, 93, 94, 95] (.node .leaf (.loop [.slot 3 (.sl (some 34) (.pair (.int .i64) (.int .i64))), .slot 5 (.int .i64)] [6, 7, 8, 9, 17, 18, 19, 20, 21, 22, 23, 24, 25, 26, 27, 28, 29, 30, 31, 32, 33, 34, 35, 36, 37, 38, 39, 40, 41, 42, 43, 44, 45, 46, 47, 48, 49, 50, 51, 52, 53, 54, 55, 56, 57, 58, 59, 60, 61, 62, 63, 64, 65, 66, 67, 68, 69, 70, 71, 72, 73, 74, 75, 76, 77, 78, 79, 80, 81, 82, 83, 84, 85, 86, 87, 88, 89, 90, 91, 92, 93, 94, 95] (.node .leaf (.join [.slot 3 (.sl (some 34) (.pair (.int .i64) (.int .i64)))] [6, 7, 8, 9, 27, 28, 29, 30, 31, 32, 33, 34, 35, 36, 37, 38, 39, 40, 41, 42, 43, 44, 45, 46, 47, 48, 49, 50, 51, 52, 53, 54, 55, 56, 57, 58, 59, 60, 61, 62, 63, 64, 65, 66, 67, 68, 69, 70, 71, 72, 73, 74, 75, 76, 77, 78, 79, 80, 81, 82, 83, 84, 85, 86, 87, 88, 89, 90, 91, 92, 93, 94, 95] (.node .leaf (.node .leaf (.join [.slot 7 (.int .i64)] [8, 35, 36, 37, 38, 39, 40, 41, 42, 43, 44, 45, 46, 47, 48] (.node .leaf (.loop [.slot 7 (.int .i64), .slot 8 (.int .i64)] [35, 36, 37, 38, 39, 40, 41, 42, 43, 44, 45, 46, 47, 48] .leaf)) (.node .leaf (.join [.slot 9 (.int .i64)] [49, 50, 51, 52, 53, 54, 55, 56, 57, 58, 59, 60, 61, 62, 63, 64] (.loop [.slot 9 (.int .i64)] [49, 50, 51, 52, 53, 54, 55, 56, 57, 58, 59, 60, 61, 62, 63, 64] (.node (.join [.slot 62 .bool] [49, 50, 51, 52, 53, 54, 55, 56, 57, 58, 59, 60, 61] .leaf .leaf) .leaf)) (.join [.slot 83 .bool] [65, 66, 67, 68, 69, 70, 71, 72, 73, 74, 75, 76, 77, 78, 79, 80, 81, 82] .leaf (.node (.lazy 90 (.lazy 84 .leaf)) .leaf))))))) .leaf)))) .leaf)))) .leaf)))
def S_spec_l8Chosen : FSpec := ⟨[.val (.sl none (.pair (.int .i64) (.pair (.int .i64) (.pair (.int .i64) (.pair (.pair (.int .i64) (.int .i64)) (.sl none (.pair (.int .i64) (.int .i64))))))))], [(.sl (some 34) (.pair (.int .i64) (.int .i64)))], m_spec_l8Chosen⟩

/-! spec.ChosenIn -/
def p_spec_ChosenIn (n : Nat) (x : (List (Int × (Int × (Int × ((Int × Int) × (List (Int × Int)))))))) : Option (Int × (Int × Int)) :=
((m_spec_l8Asked x).bind fun r1 =>
(cond (!(r1 == (0 : Int)))
 (some (r1, ((0 : Int), (0 : Int))))
 ((m_spec_l8Chosen x).bind fun r2 =>
 (cond ((lenI r2) == (0 : Int))
  (some ((4 : Int), ((0 : Int), (0 : Int))))
  ((geti r2 (0 : Int)).bind fun _ =>
  ((r2[(0 : Int).toNat]?).bind fun y3 =>
  some ((0 : Int), y3)))))))
def m_spec_ChosenIn (x : (List (Int × (Int × (Int × ((Int × Int) × (List (Int × Int)))))))) : Option (Int × (Int × Int)) := p_spec_ChosenIn FU x
def a_spec_ChosenIn : Ann := .leaf
def S_spec_ChosenIn : FSpec := ⟨[.val (.sl none (.pair (.int .i64) (.pair (.int .i64) (.pair (.int .i64) (.pair (.pair (.int .i64) (.int .i64)) (.sl none (.pair (.int .i64) (.int .i64))))))))], [(.pair (.int .i64) (.pair (.int .i64) (.int .i64)))], m_spec_ChosenIn⟩

/-! impl.within -/
def p_impl_within (n : Nat) (x : (Int × (Int × Int))) : Option Bool :=
(cond (decide (x.1 ≥ x.2.1))
 (some (decide (x.1 ≤ x.2.2)))
 (some false))
def m_impl_within (x : (Int × (Int × Int))) : Option Bool := p_impl_within FU x
def a_impl_within : Ann := .leaf
def S_impl_within : FSpec := ⟨[.val (.int .i64), .val (.int .i64), .val (.int .i64)], [.bool], m_impl_within⟩

/-! impl.isId -/
def p_impl_isId (n : Nat) (x : Int) : Option Bool :=
((m_impl_within (x, (1 : Int), (1000000000 : Int))).bind fun r1 =>
some r1)
def m_impl_isId (x : Int) : Option Bool := p_impl_isId FU x
def a_impl_isId : Ann := .leaf
def S_impl_isId : FSpec := ⟨[.val (.int .i64)], [.bool], m_impl_isId⟩

/-! impl.isShard -/
def p_impl_isShard (n : Nat) (x : Int) : Option Bool :=
((m_impl_within (x, (0 : Int), (2 : Int))).bind fun r1 =>
some r1)
def m_impl_isShard (x : Int) : Option Bool := p_impl_isShard FU x
def a_impl_isShard : Ann := .leaf
def S_impl_isShard : FSpec := ⟨[.val (.int .i64)], [.bool], m_impl_isShard⟩

/-! impl.isBallot -/
def p_impl_isBallot (n : Nat) (x : Int) : Option Bool :=
((m_impl_within (x, (0 : Int), (1000 : Int))).bind fun r1 =>
some r1)
def m_impl_isBallot (x : Int) : Option Bool := p_impl_isBallot FU x
def a_impl_isBallot : Ann := .leaf
def S_impl_isBallot : FSpec := ⟨[.val (.int .i64)], [.bool], m_impl_isBallot⟩

/-! impl.isValue -/
def p_impl_isValue (n : Nat) (x : Int) : Option Bool :=
(cond (x == (1 : Int))
 (some true)
 (some (x == (2 : Int))))
def m_impl_isValue (x : Int) : Option Bool := p_impl_isValue FU x
def a_impl_isValue : Ann := .leaf
def S_impl_isValue : FSpec := ⟨[.val (.int .i64)], [.bool], m_impl_isValue⟩

/-! impl.isVote -/
def p_impl_isVote (n : Nat) (x : (Int × Int)) : Option Bool :=
((m_impl_isBallot x.1).bind fun r1 =>
(cond r1
 ((m_impl_isValue x.2).bind fun r2 =>
 some r2)
 (some false)))
def m_impl_isVote (x : (Int × Int)) : Option Bool := p_impl_isVote FU x
def a_impl_isVote : Ann := .leaf
def S_impl_isVote : FSpec := ⟨[.val (.pair (.int .i64) (.int .i64))], [.bool], m_impl_isVote⟩

/-! impl.castFault -/
def l_impl_castFault_1 (n : Nat) (x : (List (Int × Int))) (z0 : Int) : Option Int :=
(lp (fun rec12 (z11 : Int) =>
 (cond (decide (z11 < (lenI x)))
  ((geti x z11).bind fun y13 =>
  ((m_impl_isVote y13).bind fun r14 =>
  (cond (!r14)
   (some (3 : Int))
   (Option.bind (α := Bool)
    (cond (decide (z11 > (0 : Int)))
     ((geti x (IntKind.wrap .i64 (z11 - (1 : Int)))).bind fun y18 =>
     (cond (decide (y13.1 < y18.1))
      (some true)
      ((geti x (IntKind.wrap .i64 (z11 - (1 : Int)))).bind fun y19 =>
      (cond (y13.1 == y19.1)
       ((geti x (IntKind.wrap .i64 (z11 - (1 : Int)))).bind fun y20 =>
       some (!(y13.2 == y20.2)))
       (some false)))))
     (some false)) fun j21 =>
   (cond j21
    (some (1 : Int))
    (rec12 (IntKind.wrap .i64 (z11 + (1 : Int)))))))))
  (some (0 : Int)))) n z0)
def p_impl_castFault (n : Nat) (x : (List (Int × Int))) : Option Int :=
(l_impl_castFault_1 n x (0 : Int))
def m_impl_castFault (x : (List (Int × Int))) : Option Int := p_impl_castFault FU x
def a_impl_castFault : Ann := (.node .leaf (.node (.node .leaf (.loop [.slot 7 (.int .i64)] [2, 3, 4, 8, 9, 10, 11, 12, 13, 14, 15, 16, 17, 18, 19, 20, 21, 22, 23, 24, 25, 26, 27, 28, 29, 30, 31, 32, 33, 34, 35, 36, 37, 38, 39, 40, 41, 42, 43, 44, 45, 46, 47, 48, 49, 50, 51, 52] (.node .leaf (.node .leaf (.node (.node .leaf (.node .leaf (.node .leaf (.join [.slot 16 .bool] [17, 18, 19, 20, 21, 22, 23, 24, 25, 26, 27, 28, 29, 30, 31, 32, 33, 34, 35, 36, 37, 38, 39, 40, 41, 42, 43, 44, 45, 46, 47, 48, 49, 50, 51] .leaf .leaf)))) .leaf))))) .leaf))
def S_impl_castFault : FSpec := ⟨[.val (.sl none (.pair (.int .i64) (.int .i64)))], [(.int .i64)], m_impl_castFault⟩

/-! impl.noVote -/
def p_impl_noVote (n : Nat) (x : Unit) : Option (Int × Int) :=
some ((-1 : Int), (0 : Int))
def m_impl_noVote (x : Unit) : Option (Int × Int) := p_impl_noVote FU x
def a_impl_noVote : Ann := .leaf
def S_impl_noVote : FSpec := ⟨[], [(.pair (.int .i64) (.int .i64))], m_impl_noVote⟩

/-! impl.lastCast -/
def p_impl_lastCast (n : Nat) (x : (List (Int × Int))) : Option (Int × Int) :=
(cond ((lenI x) == (0 : Int))
 ((m_impl_noVote ()).bind fun r1 =>
 some r1)
 ((geti x (IntKind.wrap .i64 ((lenI x) - (1 : Int)))).bind fun y2 =>
 some y2))
def m_impl_lastCast (x : (List (Int × Int))) : Option (Int × Int) := p_impl_lastCast FU x
def a_impl_lastCast : Ann := .leaf
def S_impl_lastCast : FSpec := ⟨[.val (.sl none (.pair (.int .i64) (.int .i64)))], [(.pair (.int .i64) (.int .i64))], m_impl_lastCast⟩

/-! impl.SlotFault -/
def p_impl_SlotFault (n : Nat) (x : (Int × (Int × (Int × ((Int × Int) × (List (Int × Int))))))) : Option Int :=
(Option.bind (α := Bool)
 ((m_impl_isId x.1).bind fun r4 =>
 (cond (!r4)
  (some true)
  ((m_impl_isShard x.2.1).bind fun r5 =>
  (cond (!r5)
   (some true)
   ((m_impl_within (x.2.2.1, (-1 : Int), (1000 : Int))).bind fun r6 =>
   some (!r6)))))) fun j7 =>
(cond j7
 (some (3 : Int))
 (cond (decide ((lenI x.2.2.2.2) > (60 : Int)))
  (some (2 : Int))
  ((m_impl_castFault x.2.2.2.2).bind fun r8 =>
  (cond (!(r8 == (0 : Int)))
   (some r8)
   (Option.bind (α := Bool)
    ((m_impl_lastCast x.2.2.2.2).bind fun r10 =>
    (cond (!((x.2.2.2.1.1 == r10.1) && ((x.2.2.2.1.2 == r10.2) && true)))
     (some true)
     (some (decide (x.2.2.2.1.1 > x.2.2.1))))) fun j11 =>
   (cond j11
    (some (1 : Int))
    (some (0 : Int)))))))))
def m_impl_SlotFault (x : (Int × (Int × (Int × ((Int × Int) × (List (Int × Int))))))) : Option Int := p_impl_SlotFault FU x
def a_impl_SlotFault : Ann := (.node .leaf (.node (.join [.slot 4 .bool] [5, 6, 7, 8, 9, 10, 11, 12, 13, 14, 15, 16, 17, 18, 19, 20] .leaf .leaf) (.node .leaf (.node (.join [.slot 45 .bool] [32, 33, 34, 35, 36, 37, 38, 39, 40, 41, 42, 43, 44] .leaf .leaf) .leaf))))
def S_impl_SlotFault : FSpec := ⟨[.val (.pair (.int .i64) (.pair (.int .i64) (.pair (.int .i64) (.pair (.pair (.int .i64) (.int .i64)) (.sl none (.pair (.int .i64) (.int .i64)))))))], [(.int .i64)], m_impl_SlotFault⟩

/-! impl.Slot] -/
def p_impl_size_impl_Slot (n : Nat) (x : (List (Int × (Int × (Int × ((Int × Int) × (List (Int × Int)))))))) : Option Int :=
some (lenI x)
def m_impl_size_impl_Slot (x : (List (Int × (Int × (Int × ((Int × Int) × (List (Int × Int)))))))) : Option Int := p_impl_size_impl_Slot FU x
def a_impl_size_impl_Slot : Ann := .leaf
def S_impl_size_impl_Slot : FSpec := ⟨[.val (.sl none (.pair (.int .i64) (.pair (.int .i64) (.pair (.int .i64) (.pair (.pair (.int .i64) (.int .i64)) (.sl none (.pair (.int .i64) (.int .i64))))))))], [(.int .i64)], m_impl_size_impl_Slot⟩

/-! impl.slotsFault -/
def l_impl_slotsFault_1 (n : Nat) (x : (List (Int × (Int × (Int × ((Int × Int) × (List (Int × Int)))))))) (z0 : Int) : Option (Unit ⊕ Int) :=
(lp (fun rec13 (z12 : Int) =>
 (cond (decide (z12 < (lenI x)))
  ((geti x z12).bind fun y14 =>
  ((m_impl_SlotFault y14).bind fun r15 =>
  (cond (!(r15 == (0 : Int)))
   (some (Sum.inr r15))
   (rec13 (IntKind.wrap .i64 (z12 + (1 : Int)))))))
  (some (Sum.inl ())))) n z0)
def l_impl_slotsFault_2 (n : Nat) (x : (List (Int × (Int × (Int × ((Int × Int) × (List (Int × Int)))))))) (z0 : Int) : Option Int :=
(lp (fun rec44 (z43 : Int) =>
 (cond (decide (z43 < (lenI x)))
  ((geti x z43).bind fun y45 =>
  (Option.bind (α := Bool)
   ((geti x (0 : Int)).bind fun y48 =>
   (cond (!(y45.1 == y48.1))
    (some true)
    ((geti x (0 : Int)).bind fun y49 =>
    some (!(y45.2.1 == y49.2.1))))) fun j50 =>
  (cond j50
   (some z43)
   (rec44 (IntKind.wrap .i64 (z43 + (1 : Int)))))))
  (some (-1 : Int)))) n z0)
def p_impl_slotsFault (n : Nat) (x : (List (Int × (Int × (Int × ((Int × Int) × (List (Int × Int)))))))) : Option Int :=
(Option.bind (α := (Unit ⊕ Int))
 (l_impl_slotsFault_1 n x (0 : Int))
 (Sum.elim (fun j17 =>
((m_impl_size_impl_Slot x).bind fun r18 =>
((m_impl_within (r18, (1 : Int), (9 : Int))).bind fun r19 =>
(cond (!r19)
 (some (2 : Int))
 (Option.bind (α := Int)
  (l_impl_slotsFault_2 n x (0 : Int)) fun j52 =>
 (cond (decide (j52 ≥ (0 : Int)))
  (some (1 : Int))
  (some (0 : Int)))))))) some))
def m_impl_slotsFault (x : (List (Int × (Int × (Int × ((Int × Int) × (List (Int × Int)))))))) : Option Int := p_impl_slotsFault FU x
def a_impl_slotsFault : Ann := (.node .leaf (.joinx [] [2, 4, 5, 6, 7, 8, 9, 10, 11, 12, 13, 14, 15, 16, 17] (.node .leaf (.loop [.slot 8 (.int .i64)] [2, 4, 5, 9, 10, 11, 12, 13, 14, 15, 16, 17] .leaf)) (.node .leaf (.node (.node (.reg 24 (.node .leaf (.node (.regj 7 [.slot 7 (.int .i64)] [] (.node .leaf (.node (.node .leaf (.loop [.slot 8 (.int .i64)] [4, 5, 9, 10, 11, 12, 13, 14, 15, 16, 17, 18] (.node .leaf (.node .leaf (.node (.node .leaf (.node (.regj 16 [.slot 16 .bool] [] .leaf .leaf) .leaf)) .leaf))))) .leaf)) .leaf) .leaf)) .leaf) .leaf) .leaf))))
def S_impl_slotsFault : FSpec := ⟨[.val (.sl none (.pair (.int .i64) (.pair (.int .i64) (.pair (.int .i64) (.pair (.pair (.int .i64) (.int .i64)) (.sl none (.pair (.int .i64) (.int .i64))))))))], [(.int .i64)], m_impl_slotsFault⟩

/-! impl.Vote] -/
def p_slices_Clone_impl_Vote_impl_Vote (n : Nat) (x : (List (Int × Int))) : Option (List (Int × Int)) :=
(cond (List.isEmpty x)
 (same
  (some [])
  (chk (Nat.ble ((([] : List (Int × Int)).length + x.length) * 16) maxBytes)
  (some (([] : List (Int × Int)) ++ x))))
 (chk (Nat.ble ((([] : List (Int × Int)).length + x.length) * 16) maxBytes)
 (some (([] : List (Int × Int)) ++ x))))
def m_slices_Clone_impl_Vote_impl_Vote (x : (List (Int × Int))) : Option (List (Int × Int)) := p_slices_Clone_impl_Vote_impl_Vote FU x
def a_slices_Clone_impl_Vote_impl_Vote : Ann := .leaf
def S_slices_Clone_impl_Vote_impl_Vote : FSpec := ⟨[.val (.sl none (.pair (.int .i64) (.int .i64)))], [(.sl (some 34) (.pair (.int .i64) (.int .i64)))], m_slices_Clone_impl_Vote_impl_Vote⟩

/-! impl.Vote] -/
def l_slices_Compact_impl_Vote_impl_Vote_1 (n : Nat) (x : (List (Int × Int))) (z77 : Int) (z0 : (Int × (Int × (List (Int × Int))))) : Option (Int × (List (Int × Int))) :=
(lp (fun rec146 (z145 : (Int × (Int × (List (Int × Int))))) =>
 (cond (decide (z145.2.1 < (((x.length - z77.toNat) : Nat) : Int)))
  ((geti ((z145.2.2.drop z77.toNat).take (x.length - z77.toNat)) z145.2.1).bind fun _ =>
  ((z145.2.2[(z77.toNat + z145.2.1.toNat)]?).bind fun y147 =>
  ((geti ((z145.2.2.drop z77.toNat).take (x.length - z77.toNat)) (IntKind.wrap .i64 (z145.2.1 - (1 : Int)))).bind fun _ =>
  ((z145.2.2[(z77.toNat + (IntKind.wrap .i64 (z145.2.1 - (1 : Int))).toNat)]?).bind fun y148 =>
  (cond (!((y147.1 == y148.1) && ((y147.2 == y148.2) && true)))
   ((geti ((z145.2.2.drop z77.toNat).take (x.length - z77.toNat)) z145.2.1).bind fun _ =>
   ((z145.2.2[(z77.toNat + z145.2.1.toNat)]?).bind fun y149 =>
   ((geti z145.2.2 z145.1).bind fun _ =>
   ((z145.2.2[z145.1.toNat]?).bind fun y150 =>
   rec146 (IntKind.wrap .i64 (z145.1 + (1 : Int)), IntKind.wrap .i64 (z145.2.1 + (1 : Int)), (z145.2.2.set z145.1.toNat y149))))))
   (rec146 (z145.1, IntKind.wrap .i64 (z145.2.1 + (1 : Int)), z145.2.2)))))))
  (some (z145.1, z145.2.2)))) n z0)
def l_slices_Compact_impl_Vote_impl_Vote_2 (n : Nat) (x : (List (Int × Int))) (z0 : Int) : Option ((List (Int × Int)) × Bool) :=
(lp (fun rec78 (z77 : Int) =>
 (cond (decide (z77 < (lenI x)))
  (Option.bind (α := (Unit ⊕ ((List (Int × Int)) × Bool)))
   ((geti x z77).bind fun _ =>
   ((x[z77.toNat]?).bind fun y116 =>
   ((geti x (IntKind.wrap .i64 (z77 - (1 : Int)))).bind fun _ =>
   ((x[(IntKind.wrap .i64 (z77 - (1 : Int))).toNat]?).bind fun y117 =>
   (cond ((y116.1 == y117.1) && ((y116.2 == y117.2) && true))
    (chk (bndB (some z77) none none x.length)
     (Option.bind (α := (Int × (List (Int × Int))))
      (l_slices_Compact_impl_Vote_impl_Vote_1 n x z77 (z77, (1 : Int), x)) fun j152 =>
     (chk (bndB (some j152.1) none none j152.2.length)
      (chk (bndB none (some j152.1) none (j152.2.take j152.1.toNat ++ List.replicate (j152.2.length - j152.1.toNat) ((0 : Int), (0 : Int)) ++ j152.2.drop (j152.1.toNat + (j152.2.length - j152.1.toNat))).length)
       (some (Sum.inr (((j152.2.take j152.1.toNat ++ List.replicate (j152.2.length - j152.1.toNat) ((0 : Int), (0 : Int)) ++ j152.2.drop (j152.1.toNat + (j152.2.length - j152.1.toNat))).take j152.1.toNat), true)))))))
    (some (Sum.inl ())))))))
   (Sum.elim (fun j153 =>
  rec78 (IntKind.wrap .i64 (z77 + (1 : Int)))) some))
  (some (x, true)))) n z0)
def p_slices_Compact_impl_Vote_impl_Vote (n : Nat) (x : (List (Int × Int))) : Option ((List (Int × Int)) × Bool) :=
(cond (decide ((lenI x) < (2 : Int)))
 (some (x, true))
 (l_slices_Compact_impl_Vote_impl_Vote_2 n x (1 : Int)))
def m_slices_Compact_impl_Vote_impl_Vote (x : (List (Int × Int))) : Option ((List (Int × Int)) × Bool) := p_slices_Compact_impl_Vote_impl_Vote FU x
def a_slices_Compact_impl_Vote_impl_Vote : Ann := (.node .leaf (.node .leaf (.node (.node .leaf (.loop [.slot 3 (.int .i64)] [2, 4, 5, 10, 11, 12, 13, 14, 15, 16, 17, 18, 19, 20, 21, 22, 23, 24, 25, 26, 27, 28, 29, 30, 31, 32, 33, 34, 35, 36, 37, 38, 39, 40, 41, 42, 43, 44, 45, 46, 47, 48, 49, 50, 51, 52, 53, 54, 55, 56, 57, 58, 59] (.node .leaf (.joinx [] [16, 17, 18, 19, 20, 21, 22, 23, 24, 25] (.node .leaf (.node (.node .leaf (.join [.slot 3 (.int .i64), .row 0 34 (.pair (.int .i64) (.int .i64))] [5, 29, 30, 31, 32, 33, 34, 35, 36, 37, 38, 39, 40, 41, 42, 43, 44, 45, 46, 47, 48, 49, 50, 51, 52, 53] (.node .leaf (.loop [.slot 3 (.int .i64), .slot 5 (.int .i64), .row 0 34 (.pair (.int .i64) (.int .i64))] [29, 30, 31, 32, 33, 34, 35, 36, 37, 38, 39, 40, 41, 42, 43, 44, 45, 46, 47, 48, 49, 50, 51, 52, 53] .leaf)) (.node .leaf (.node (.own 59 (.pair (.int .i64) (.int .i64)) .leaf) .leaf)))) .leaf)) .leaf)))) .leaf)))
def S_slices_Compact_impl_Vote_impl_Vote : FSpec := ⟨[.own 34 (.pair (.int .i64) (.int .i64))], [(.sl (some 34) (.pair (.int .i64) (.int .i64)))], m_slices_Compact_impl_Vote_impl_Vote⟩

/-! impl.quorum -/
def p_impl_quorum (n : Nat) (x : Int) : Option Int :=
(cond ((2 : Int) == 0) none
 (some (IntKind.wrap .i64 ((IntKind.wrap .i64 (Int.tdiv x (2 : Int))) + (1 : Int)))))
def m_impl_quorum (x : Int) : Option Int := p_impl_quorum FU x
def a_impl_quorum : Ann := .leaf
def S_impl_quorum : FSpec := ⟨[.val (.int .i64)], [(.int .i64)], m_impl_quorum⟩

/-! impl.Vote] -/
def p_slices_SortFunc_impl_Vote_impl_Vote (n : Nat) (x : ((List (Int × Int)) × Bool)) : Option (List (Int × Int)) :=
sortRun okVote ((0 : Int), (0 : Int)) rfl cfVote x.1
def m_slices_SortFunc_impl_Vote_impl_Vote (x : ((List (Int × Int)) × Bool)) : Option (List (Int × Int)) := p_slices_SortFunc_impl_Vote_impl_Vote FU x
def a_slices_SortFunc_impl_Vote_impl_Vote : Ann := .leaf
def S_slices_SortFunc_impl_Vote_impl_Vote : FSpec := ⟨[.row 34 (.pair (.int .i64) (.int .i64)), .fn 119], [], m_slices_SortFunc_impl_Vote_impl_Vote⟩

/-! impl.chosen -/
def l_impl_chosen_1 (n : Nat) (r171_1 : (List (Int × Int))) (x : (List (Int × (Int × (Int × ((Int × Int) × (List (Int × Int)))))))) (z0 : ((List (Int × Int)) × (Int × (List ((Int × Int) × Int))))) : Option ((List (Int × Int)) × (List ((Int × Int) × Int))) :=
(lp (fun rec179 (z178 : ((List (Int × Int)) × (Int × (List ((Int × Int) × Int))))) =>
 (cond (decide (z178.2.1 < (lenI r171_1)))
  ((geti r171_1 z178.2.1).bind fun _ =>
  ((r171_1[z178.2.1.toNat]?).bind fun y180 =>
  ((geti (mput (.pair (.int .i64) (.int .i64)) z178.2.2 y180) ((mfind (.pair (.int .i64) (.int .i64)) z178.2.2 y180 : Nat) : Int)).bind fun _ =>
  ((m_impl_quorum (lenI x)).bind fun r181 =>
  (cond ((mlook (.pair (.int .i64) (.int .i64)) (mset (.pair (.int .i64) (.int .i64)) (mput (.pair (.int .i64) (.int .i64)) z178.2.2 y180) ((mfind (.pair (.int .i64) (.int .i64)) z178.2.2 y180 : Nat) : Int).toNat (IntKind.wrap .i64 ((mlook (.pair (.int .i64) (.int .i64)) z178.2.2 y180) + (1 : Int)))) y180) == r181)
   (chk (Nat.ble ((z178.1.length + [y180].length) * 16) maxBytes)
   (rec179 ((z178.1 ++ [y180]), IntKind.wrap .i64 (z178.2.1 + (1 : Int)), (mset (.pair (.int .i64) (.int .i64)) (mput (.pair (.int .i64) (.int .i64)) z178.2.2 y180) ((mfind (.pair (.int .i64) (.int .i64)) z178.2.2 y180 : Nat) : Int).toNat (IntKind.wrap .i64 ((mlook (.pair (.int .i64) (.int .i64)) z178.2.2 y180) + (1 : Int)))))))
   (rec179 (z178.1, IntKind.wrap .i64 (z178.2.1 + (1 : Int)), (mset (.pair (.int .i64) (.int .i64)) (mput (.pair (.int .i64) (.int .i64)) z178.2.2 y180) ((mfind (.pair (.int .i64) (.int .i64)) z178.2.2 y180 : Nat) : Int).toNat (IntKind.wrap .i64 ((mlook (.pair (.int .i64) (.int .i64)) z178.2.2 y180) + (1 : Int)))))))))))
  (some (z178.1, z178.2.2)))) n z0)
def l_impl_chosen_2 (n : Nat) (x : (List (Int × (Int × (Int × ((Int × Int) × (List (Int × Int)))))))) (z0 : ((List (Int × Int)) × (Int × (List ((Int × Int) × Int))))) : Option ((List (Int × Int)) × (List ((Int × Int) × Int))) :=
(lp (fun rec154 (z153 : ((List (Int × Int)) × (Int × (List ((Int × Int) × Int))))) =>
 (cond (decide (z153.2.1 < (lenI x)))
  (Option.bind (α := ((List (Int × Int)) × (List ((Int × Int) × Int))))
   ((geti x z153.2.1).bind fun y169 =>
   ((m_slices_Clone_impl_Vote_impl_Vote y169.2.2.2.2).bind fun r170 =>
   ((m_slices_Compact_impl_Vote_impl_Vote r170).bind fun r171 =>
   (l_impl_chosen_1 n r171.1 x (z153.1, (0 : Int), z153.2.2))))) fun j183 =>
  rec154 (j183.1, IntKind.wrap .i64 (z153.2.1 + (1 : Int)), j183.2))
  (some (z153.1, z153.2.2)))) n z0)
def p_impl_chosen (n : Nat) (x : (List (Int × (Int × (Int × ((Int × Int) × (List (Int × Int)))))))) : Option (List (Int × Int)) :=
(Option.bind (α := ((List (Int × Int)) × (List ((Int × Int) × Int))))
 (l_impl_chosen_2 n x (([] : List (Int × Int)), (0 : Int), ([] : List ((Int × Int) × Int)))) fun j185 =>
((m_slices_SortFunc_impl_Vote_impl_Vote (j185.1, true)).bind fun r186 =>
some r186))
def m_impl_chosen (x : (List (Int × (Int × (Int × ((Int × Int) × (List (Int × Int)))))))) : Option (List (Int × Int)) := p_impl_chosen FU x
def a_impl_chosen : Ann := (.node .leaf (.node .leaf (.join [.slot 4 (.sl (some 34) (.pair (.int .i64) (.int .i64))), .map 0 (.pair (.int .i64) (.int .i64)) .i64] [6, 8, 11, 12, 13, 14, 15, 16, 17, 18, 19, 20, 21, 22, 23, 24, 25, 26, 27, 28, 29, 30, 31, 32, 33, 34, 35, 36, 37, 38, 39, 40, 41, 42, 43, 44] (.node .leaf (.loop [.slot 4 (.sl (some 34) (.pair (.int .i64) (.int .i64))), .slot 13 (.int .i64), .map 0 (.pair (.int .i64) (.int .i64)) .i64] [6, 8, 14, 15, 16, 17, 18, 19, 20, 21, 22, 23, 24, 25, 26, 27, 28, 29, 30, 31, 32, 33, 34, 35, 36, 37, 38, 39, 40, 41, 42, 43, 44] (.node .leaf (.node .leaf (.join [.slot 4 (.sl (some 34) (.pair (.int .i64) (.int .i64))), .map 0 (.pair (.int .i64) (.int .i64)) .i64] [6, 8, 15, 16, 17, 18, 19, 20, 21, 22, 23, 24, 25, 26, 27, 28, 29, 30, 31, 32, 33, 34, 35, 36, 37, 38, 39, 40, 41, 42, 43] (.node .leaf (.node .leaf (.loop [.slot 4 (.sl (some 34) (.pair (.int .i64) (.int .i64))), .slot 22 (.int .i64), .map 0 (.pair (.int .i64) (.int .i64)) .i64] [8, 23, 24, 25, 26, 27, 28, 29, 30, 31, 32, 33, 34, 35, 36, 37, 38, 39, 40, 41, 42, 43] .leaf))) .leaf))))) .leaf)))
def S_impl_chosen : FSpec := ⟨[.val (.sl none (.pair (.int .i64) (.pair (.int .i64) (.pair (.int .i64) (.pair (.pair (.int .i64) (.int .i64)) (.sl none (.pair (.int .i64) (.int .i64))))))))], [(.sl (some 34) (.pair (.int .i64) (.int .i64)))], m_impl_chosen⟩

/-! impl.ChosenIn -/
def p_impl_ChosenIn (n : Nat) (x : (List (Int × (Int × (Int × ((Int × Int) × (List (Int × Int)))))))) : Option (Int × (Int × Int)) :=
((m_impl_slotsFault x).bind fun r1 =>
(cond (!(r1 == (0 : Int)))
 (some (r1, ((0 : Int), (0 : Int))))
 ((m_impl_chosen x).bind fun r2 =>
 (cond ((lenI r2) == (0 : Int))
  (some ((4 : Int), ((0 : Int), (0 : Int))))
  ((geti r2 (0 : Int)).bind fun _ =>
  ((r2[(0 : Int).toNat]?).bind fun y3 =>
  some ((0 : Int), y3)))))))
def m_impl_ChosenIn (x : (List (Int × (Int × (Int × ((Int × Int) × (List (Int × Int)))))))) : Option (Int × (Int × Int)) := p_impl_ChosenIn FU x
def a_impl_ChosenIn : Ann := .leaf
def S_impl_ChosenIn : FSpec := ⟨[.val (.sl none (.pair (.int .i64) (.pair (.int .i64) (.pair (.int .i64) (.pair (.pair (.int .i64) (.int .i64)) (.sl none (.pair (.int .i64) (.int .i64))))))))], [(.pair (.int .i64) (.pair (.int .i64) (.int .i64)))], m_impl_ChosenIn⟩

/-! laws.eqVote -/
def p_laws_eqVote (n : Nat) (x : ((Int × Int) × (Int × Int))) : Option Bool :=
(cond (!(x.1.1 == x.2.1))
 (some false)
 (cond (!(x.1.2 == x.2.2))
  (some false)
  (some true)))
def m_laws_eqVote (x : ((Int × Int) × (Int × Int))) : Option Bool := p_laws_eqVote FU x
def a_laws_eqVote : Ann := .leaf
def S_laws_eqVote : FSpec := ⟨[.val (.pair (.int .i64) (.int .i64)), .val (.pair (.int .i64) (.int .i64))], [.bool], m_laws_eqVote⟩

/-! laws.eqVoteResult -/
def p_laws_eqVoteResult (n : Nat) (x : ((Int × (Int × Int)) × (Int × (Int × Int)))) : Option Bool :=
(cond (!(x.1.1 == x.2.1))
 (some false)
 ((m_laws_eqVote (x.1.2, x.2.2)).bind fun r1 =>
 (cond (!r1)
  (some false)
  (some true))))
def m_laws_eqVoteResult (x : ((Int × (Int × Int)) × (Int × (Int × Int)))) : Option Bool := p_laws_eqVoteResult FU x
def a_laws_eqVoteResult : Ann := .leaf
def S_laws_eqVoteResult : FSpec := ⟨[.val (.pair (.int .i64) (.pair (.int .i64) (.int .i64))), .val (.pair (.int .i64) (.pair (.int .i64) (.int .i64)))], [.bool], m_laws_eqVoteResult⟩

/-! laws.eqVoteS -/
def l_laws_eqVoteS_1 (n : Nat) (x_1 : (List (Int × Int))) (x_2 : (List (Int × Int))) (z0 : Int) : Option Bool :=
(lp (fun rec6 (z5 : Int) =>
 (cond (decide (z5 < (lenI x_1)))
  ((geti x_1 z5).bind fun y7 =>
  ((geti x_2 z5).bind fun y8 =>
  ((m_laws_eqVote (y7, y8)).bind fun r9 =>
  (cond (!r9)
   (some false)
   (rec6 (IntKind.wrap .i64 (z5 + (1 : Int))))))))
  (some true))) n z0)
def p_laws_eqVoteS (n : Nat) (x : ((List (Int × Int)) × (List (Int × Int)))) : Option Bool :=
(cond (!((lenI x.1) == (lenI x.2)))
 (some false)
 (l_laws_eqVoteS_1 n x.1 x.2 (0 : Int)))
def m_laws_eqVoteS (x : ((List (Int × Int)) × (List (Int × Int)))) : Option Bool := p_laws_eqVoteS FU x
def a_laws_eqVoteS : Ann := (.node .leaf (.node .leaf (.node (.node .leaf (.loop [.slot 5 (.int .i64)] [4, 11, 12, 13, 14, 15, 16, 17, 18, 19, 20, 21, 22, 23, 24, 25, 26] .leaf)) .leaf)))
def S_laws_eqVoteS : FSpec := ⟨[.val (.sl none (.pair (.int .i64) (.int .i64))), .val (.sl none (.pair (.int .i64) (.int .i64)))], [.bool], m_laws_eqVoteS⟩

/-! laws.eqSlot -/
def p_laws_eqSlot (n : Nat) (x : ((Int × (Int × (Int × ((Int × Int) × (List (Int × Int)))))) × (Int × (Int × (Int × ((Int × Int) × (List (Int × Int)))))))) : Option Bool :=
(cond (!(x.1.1 == x.2.1))
 (some false)
 (cond (!(x.1.2.1 == x.2.2.1))
  (some false)
  (cond (!(x.1.2.2.1 == x.2.2.2.1))
   (some false)
   ((m_laws_eqVote (x.1.2.2.2.1, x.2.2.2.2.1)).bind fun r1 =>
   (cond (!r1)
    (some false)
    ((m_laws_eqVoteS (x.1.2.2.2.2, x.2.2.2.2.2)).bind fun r2 =>
    (cond (!r2)
     (some false)
     (some true))))))))
def m_laws_eqSlot (x : ((Int × (Int × (Int × ((Int × Int) × (List (Int × Int)))))) × (Int × (Int × (Int × ((Int × Int) × (List (Int × Int)))))))) : Option Bool := p_laws_eqSlot FU x
def a_laws_eqSlot : Ann := .leaf
def S_laws_eqSlot : FSpec := ⟨[.val (.pair (.int .i64) (.pair (.int .i64) (.pair (.int .i64) (.pair (.pair (.int .i64) (.int .i64)) (.sl none (.pair (.int .i64) (.int .i64))))))), .val (.pair (.int .i64) (.pair (.int .i64) (.pair (.int .i64) (.pair (.pair (.int .i64) (.int .i64)) (.sl none (.pair (.int .i64) (.int .i64)))))))], [.bool], m_laws_eqSlot⟩

/-! laws.eqSlotS -/
def l_laws_eqSlotS_1 (n : Nat) (x_1 : (List (Int × (Int × (Int × ((Int × Int) × (List (Int × Int)))))))) (x_2 : (List (Int × (Int × (Int × ((Int × Int) × (List (Int × Int)))))))) (z0 : Int) : Option Bool :=
(lp (fun rec6 (z5 : Int) =>
 (cond (decide (z5 < (lenI x_1)))
  ((geti x_1 z5).bind fun y7 =>
  ((geti x_2 z5).bind fun y8 =>
  ((m_laws_eqSlot (y7, y8)).bind fun r9 =>
  (cond (!r9)
   (some false)
   (rec6 (IntKind.wrap .i64 (z5 + (1 : Int))))))))
  (some true))) n z0)
def p_laws_eqSlotS (n : Nat) (x : ((List (Int × (Int × (Int × ((Int × Int) × (List (Int × Int))))))) × (List (Int × (Int × (Int × ((Int × Int) × (List (Int × Int))))))))) : Option Bool :=
(cond (!((lenI x.1) == (lenI x.2)))
 (some false)
 (l_laws_eqSlotS_1 n x.1 x.2 (0 : Int)))
def m_laws_eqSlotS (x : ((List (Int × (Int × (Int × ((Int × Int) × (List (Int × Int))))))) × (List (Int × (Int × (Int × ((Int × Int) × (List (Int × Int))))))))) : Option Bool := p_laws_eqSlotS FU x
def a_laws_eqSlotS : Ann := (.node .leaf (.node .leaf (.node (.node .leaf (.loop [.slot 5 (.int .i64)] [4, 11, 12, 13, 14, 15, 16, 17, 18, 19, 20, 21, 22, 23, 24, 25, 26] .leaf)) .leaf)))
def S_laws_eqSlotS : FSpec := ⟨[.val (.sl none (.pair (.int .i64) (.pair (.int .i64) (.pair (.int .i64) (.pair (.pair (.int .i64) (.int .i64)) (.sl none (.pair (.int .i64) (.int .i64)))))))), .val (.sl none (.pair (.int .i64) (.pair (.int .i64) (.pair (.int .i64) (.pair (.pair (.int .i64) (.int .i64)) (.sl none (.pair (.int .i64) (.int .i64))))))))], [.bool], m_laws_eqSlotS⟩

/-! laws.FnExactChosenIn -/
def p_laws_FnExactChosenIn (n : Nat) (x : (List (Int × (Int × (Int × ((Int × Int) × (List (Int × Int)))))))) : Option Bool :=
((m_laws_szSlotS (x, (1048576 : Int))).bind fun r1 =>
(cond (decide (r1 < (0 : Int)))
 (some true)
 ((m_laws_toSlotS x).bind fun r2 =>
 ((m_spec_ChosenIn r2).bind fun r3 =>
 ((m_laws_toSlotS x).bind fun r4 =>
 ((m_impl_ChosenIn r4).bind fun r5 =>
 ((m_laws_eqVoteResult (r5, r3)).bind fun r6 =>
 (cond (!r6)
  (some false)
  ((m_laws_toSlotS x).bind fun r7 =>
  ((m_laws_eqSlotS (r4, r7)).bind fun r8 =>
  (cond (!r8)
   (some false)
   (some true))))))))))))
def m_laws_FnExactChosenIn (x : (List (Int × (Int × (Int × ((Int × Int) × (List (Int × Int)))))))) : Option Bool := p_laws_FnExactChosenIn FU x
def a_laws_FnExactChosenIn : Ann := .leaf
def S_laws_FnExactChosenIn : FSpec := ⟨[.val (.sl none (.pair (.int .i64) (.pair (.int .i64) (.pair (.int .i64) (.pair (.pair (.int .i64) (.int .i64)) (.sl none (.pair (.int .i64) (.int .i64))))))))], [.bool], m_laws_FnExactChosenIn⟩

def T : Tab := [
  (2, ⟨false, 1, 8, [], 0, [.int .i64 0], some (.int .i64), [0]⟩),
  (3, ⟨false, 1, 8, [], 0, [.int .i64 0], some (.int .i64), [0]⟩),
  (29, ⟨false, 1, 24, [], 34, [.nil], some (.sl none (.pair (.int .i64) (.int .i64))), []⟩),
  (34, ⟨true, 2, 16, [(0, 1, 2), (1, 1, 2)], 0, [.int .i64 0, .int .i64 0], some (.pair (.int .i64) (.int .i64)), [0, 0]⟩),
  (35, ⟨false, 1, 24, [], 48, [.nil], some (.sl none (.pair (.int .i64) (.int .i64))), []⟩),
  (41, ⟨true, 6, 64, [(0, 1, 2), (1, 1, 2), (2, 1, 2), (3, 2, 34), (5, 1, 29)], 0, [.int .i64 0, .int .i64 0, .int .i64 0, .int .i64 0, .int .i64 0, .nil], some (.pair (.int .i64) (.pair (.int .i64) (.pair (.int .i64) (.pair (.pair (.int .i64) (.int .i64)) (.sl none (.pair (.int .i64) (.int .i64))))))), []⟩),
  (48, ⟨true, 2, 16, [(0, 1, 2), (1, 1, 2)], 0, [.int .i64 0, .int .i64 0], some (.pair (.int .i64) (.int .i64)), [0, 0]⟩),
  (50, ⟨true, 6, 64, [(0, 1, 2), (1, 1, 2), (2, 1, 2), (3, 2, 48), (5, 1, 35)], 0, [.int .i64 0, .int .i64 0, .int .i64 0, .int .i64 0, .int .i64 0, .nil], some (.pair (.int .i64) (.pair (.int .i64) (.pair (.int .i64) (.pair (.pair (.int .i64) (.int .i64)) (.sl none (.pair (.int .i64) (.int .i64))))))), []⟩),
  (63, ⟨false, 1, 24, [], 50, [.nil], some (.sl none (.pair (.int .i64) (.pair (.int .i64) (.pair (.int .i64) (.pair (.pair (.int .i64) (.int .i64)) (.sl none (.pair (.int .i64) (.int .i64)))))))), []⟩),
  (66, ⟨false, 1, 24, [], 41, [.nil], some (.sl none (.pair (.int .i64) (.pair (.int .i64) (.pair (.int .i64) (.pair (.pair (.int .i64) (.int .i64)) (.sl none (.pair (.int .i64) (.int .i64)))))))), []⟩),
  (71, ⟨true, 3, 24, [(0, 1, 2), (1, 2, 34)], 0, [.int .i64 0, .int .i64 0, .int .i64 0], some (.pair (.int .i64) (.pair (.int .i64) (.int .i64))), [0, 0, 0]⟩),
  (132, ⟨false, 1, 8, [(34, 0, 3)], 0, [.undef], none, []⟩)]
def G_laws_szVoteS : Env := (22, S_laws_szVoteS) :: []
def G_laws_szSlot : Env := (30, S_laws_szSlot) :: G_laws_szVoteS
def G_laws_szSlotS : Env := (41, S_laws_szSlotS) :: G_laws_szSlot
def G_laws_toVote : Env := (80, S_laws_toVote) :: G_laws_szSlotS
def G_laws_toVoteS : Env := (23, S_laws_toVoteS) :: G_laws_toVote
def G_laws_toSlot : Env := (32, S_laws_toSlot) :: G_laws_toVoteS
def G_laws_toSlotS : Env := (43, S_laws_toSlotS) :: G_laws_toSlot
def G_spec_l1In : Env := (63, S_spec_l1In) :: G_laws_toSlotS
def G_spec_l1Id : Env := (82, S_spec_l1Id) :: G_spec_l1In
def G_spec_l8Ballot : Env := (77, S_spec_l8Ballot) :: G_spec_l1Id
def G_spec_l8Value : Env := (78, S_spec_l8Value) :: G_spec_l8Ballot
def G_spec_l8None : Env := (69, S_spec_l8None) :: G_spec_l8Value
def G_spec_l8Last : Env := (87, S_spec_l8Last) :: G_spec_l8None
def G_spec_SlotFault : Env := (31, S_spec_SlotFault) :: G_spec_l8Last
def G_spec_l8Asked : Env := (96, S_spec_l8Asked) :: G_spec_SlotFault
def G_spec_l8Cast : Env := (113, S_spec_l8Cast) :: G_spec_l8Asked
def G_spec_l8Quorum : Env := (64, S_spec_l8Quorum) :: G_spec_l8Cast
def G_spec_l8Chosen : Env := (97, S_spec_l8Chosen) :: G_spec_l8Quorum
def G_spec_ChosenIn : Env := (46, S_spec_ChosenIn) :: G_spec_l8Chosen
def G_impl_within : Env := (65, S_impl_within) :: G_spec_ChosenIn
def G_impl_isId : Env := (83, S_impl_isId) :: G_impl_within
def G_impl_isShard : Env := (84, S_impl_isShard) :: G_impl_isId
def G_impl_isBallot : Env := (91, S_impl_isBallot) :: G_impl_isShard
def G_impl_isValue : Env := (76, S_impl_isValue) :: G_impl_isBallot
def G_impl_isVote : Env := (75, S_impl_isVote) :: G_impl_isValue
def G_impl_castFault : Env := (88, S_impl_castFault) :: G_impl_isVote
def G_impl_noVote : Env := (74, S_impl_noVote) :: G_impl_castFault
def G_impl_lastCast : Env := (89, S_impl_lastCast) :: G_impl_noVote
def G_impl_SlotFault : Env := (33, S_impl_SlotFault) :: G_impl_lastCast
def G_impl_size_impl_Slot : Env := (114, S_impl_size_impl_Slot) :: G_impl_SlotFault
def G_impl_slotsFault : Env := (98, S_impl_slotsFault) :: G_impl_size_impl_Slot
def G_slices_Clone_impl_Vote_impl_Vote : Env := (112, S_slices_Clone_impl_Vote_impl_Vote) :: G_impl_slotsFault
def G_slices_Compact_impl_Vote_impl_Vote : Env := (117, S_slices_Compact_impl_Vote_impl_Vote) :: G_slices_Clone_impl_Vote_impl_Vote
def G_impl_quorum : Env := (66, S_impl_quorum) :: G_slices_Compact_impl_Vote_impl_Vote
def G_slices_SortFunc_impl_Vote_impl_Vote : Env := (118, S_slices_SortFunc_impl_Vote_impl_Vote) :: G_impl_quorum
def G_impl_chosen : Env := (99, S_impl_chosen) :: G_slices_SortFunc_impl_Vote_impl_Vote
def G_impl_ChosenIn : Env := (47, S_impl_ChosenIn) :: G_impl_chosen
def G_laws_eqVote : Env := (81, S_laws_eqVote) :: G_impl_ChosenIn
def G_laws_eqVoteResult : Env := (48, S_laws_eqVoteResult) :: G_laws_eqVote
def G_laws_eqVoteS : Env := (24, S_laws_eqVoteS) :: G_laws_eqVoteResult
def G_laws_eqSlot : Env := (34, S_laws_eqSlot) :: G_laws_eqVoteS
def G_laws_eqSlotS : Env := (45, S_laws_eqSlotS) :: G_laws_eqSlot
def G_laws_FnExactChosenIn : Env := (12, S_laws_FnExactChosenIn) :: G_laws_eqSlotS
end
end Go.RvP
