/- The plain functions that the evaluator comes to, for FnExactAcceptSlot. No condition. -/
import Derived.Test.YtekndmbpphncmaaRvL
namespace Go.RvP
open Go Go.Rv
noncomputable section
/-! laws.szVoteS -/
def p_laws_szVoteS (n : Nat) (x : ((List (Int × Int)) × Int)) : Option Int :=
(cond (decide ((IntKind.wrap .i64 (x.2 - (lenI x.1))) < (0 : Int)))
 (some (-1 : Int))
 (some (IntKind.wrap .i64 (x.2 - (lenI x.1)))))
def m_laws_szVoteS (x : ((List (Int × Int)) × Int)) : Option Int := p_laws_szVoteS FU x
def a_laws_szVoteS : Ann := .leaf
def S_laws_szVoteS : FSpec := ⟨[.val (.sl none (.pair (.int .i64) (.int .i64))), .val (.int .i64)], [(.int .i64)], m_laws_szVoteS⟩

/-! laws.szSlot -/
def p_laws_szSlot (n : Nat) (x : ((Int × (Int × (Int × ((Int × Int) × (List (Int × Int)))))) × Int)) : Option Int :=
((m_laws_szVoteS (x.1.2.2.2.2, x.2)).bind fun r1 =>
(cond (decide (r1 < (0 : Int)))
 (some (-1 : Int))
 (some r1)))
def m_laws_szSlot (x : ((Int × (Int × (Int × ((Int × Int) × (List (Int × Int)))))) × Int)) : Option Int := p_laws_szSlot FU x
def a_laws_szSlot : Ann := .leaf
def S_laws_szSlot : FSpec := ⟨[.val (.pair (.int .i64) (.pair (.int .i64) (.pair (.int .i64) (.pair (.pair (.int .i64) (.int .i64)) (.sl none (.pair (.int .i64) (.int .i64))))))), .val (.int .i64)], [(.int .i64)], m_laws_szSlot⟩

/-! laws.toVote -/
def p_laws_toVote (n : Nat) (x : (Int × Int)) : Option (Int × Int) :=
some x
def m_laws_toVote (x : (Int × Int)) : Option (Int × Int) := p_laws_toVote FU x
def a_laws_toVote : Ann := .leaf
def S_laws_toVote : FSpec := ⟨[.val (.pair (.int .i64) (.int .i64))], [(.pair (.int .i64) (.int .i64))], m_laws_toVote⟩

/-! laws.toVoteS -/
def l_laws_toVoteS_1 (n : Nat) (x : (List (Int × Int))) (z0 : (Int × (List (Int × Int)))) : Option (List (Int × Int)) :=
(lp (fun rec10 (z9 : (Int × (List (Int × Int)))) =>
 (cond (decide (z9.1 < (lenI x)))
  ((geti x z9.1).bind fun y11 =>
  ((m_laws_toVote y11).bind fun r12 =>
  ((geti z9.2 z9.1).bind fun _ =>
  ((z9.2[z9.1.toNat]?).bind fun y13 =>
  rec10 (IntKind.wrap .i64 (z9.1 + (1 : Int)), (z9.2.set z9.1.toNat r12))))))
  (some z9.2))) n z0)
def p_laws_toVoteS (n : Nat) (x : (List (Int × Int))) : Option (List (Int × Int)) :=
(if (lenI x) = (lenI x) then (if 0 ≤ (lenI x) then chk (Nat.ble (16 * (lenI x).toNat) maxBytes)
(l_laws_toVoteS_1 n x ((0 : Int), (List.replicate (lenI x).toNat ((0 : Int), (0 : Int))))) else none) else none)
def m_laws_toVoteS (x : (List (Int × Int))) : Option (List (Int × Int)) := p_laws_toVoteS FU x
def a_laws_toVoteS : Ann := (.node .leaf (.node .leaf (.node (.node .leaf (.loop [.slot 4 (.int .i64), .row 0 34 (.pair (.int .i64) (.int .i64))] [8, 9, 10, 11, 12, 13, 14, 15, 16, 17, 18, 19, 20, 21] .leaf)) .leaf)))
def S_laws_toVoteS : FSpec := ⟨[.val (.sl none (.pair (.int .i64) (.int .i64)))], [(.sl (some 34) (.pair (.int .i64) (.int .i64)))], m_laws_toVoteS⟩

/-! laws.toSlot -/
def p_laws_toSlot (n : Nat) (x : (Int × (Int × (Int × ((Int × Int) × (List (Int × Int))))))) : Option (Int × (Int × (Int × ((Int × Int) × (List (Int × Int)))))) :=
((m_laws_toVote x.2.2.2.1).bind fun r1 =>
((m_laws_toVoteS x.2.2.2.2).bind fun r2 =>
some (x.1, (x.2.1, (x.2.2.1, (r1, r2))))))
def m_laws_toSlot (x : (Int × (Int × (Int × ((Int × Int) × (List (Int × Int))))))) : Option (Int × (Int × (Int × ((Int × Int) × (List (Int × Int)))))) := p_laws_toSlot FU x
def a_laws_toSlot : Ann := .leaf
def S_laws_toSlot : FSpec := ⟨[.val (.pair (.int .i64) (.pair (.int .i64) (.pair (.int .i64) (.pair (.pair (.int .i64) (.int .i64)) (.sl none (.pair (.int .i64) (.int .i64)))))))], [(.pair (.int .i64) (.pair (.int .i64) (.pair (.int .i64) (.pair (.pair (.int .i64) (.int .i64)) (.sl (some 34) (.pair (.int .i64) (.int .i64)))))))], m_laws_toSlot⟩

/-! spec.l1In -/
def p_spec_l1In (n : Nat) (x : (Int × (Int × Int))) : Option Bool :=
(cond (decide (x.1 ≥ x.2.1))
 (some (decide (x.1 ≤ x.2.2)))
 (some false))
def m_spec_l1In (x : (Int × (Int × Int))) : Option Bool := p_spec_l1In FU x
def a_spec_l1In : Ann := .leaf
def S_spec_l1In : FSpec := ⟨[.val (.int .i64), .val (.int .i64), .val (.int .i64)], [.bool], m_spec_l1In⟩

/-! spec.l1Id -/
def p_spec_l1Id (n : Nat) (x : Int) : Option Bool :=
((m_spec_l1In (x, (1 : Int), (1000000000 : Int))).bind fun r1 =>
some r1)
def m_spec_l1Id (x : Int) : Option Bool := p_spec_l1Id FU x
def a_spec_l1Id : Ann := .leaf
def S_spec_l1Id : FSpec := ⟨[.val (.int .i64)], [.bool], m_spec_l1Id⟩

/-! spec.l8Ballot -/
def p_spec_l8Ballot (n : Nat) (x : Int) : Option Bool :=
((m_spec_l1In (x, (0 : Int), (1000 : Int))).bind fun r1 =>
some r1)
def m_spec_l8Ballot (x : Int) : Option Bool := p_spec_l8Ballot FU x
def a_spec_l8Ballot : Ann := .leaf
def S_spec_l8Ballot : FSpec := ⟨[.val (.int .i64)], [.bool], m_spec_l8Ballot⟩

/-! spec.l8Value -/
def p_spec_l8Value (n : Nat) (x : Int) : Option Bool :=
(cond (x == (1 : Int))
 (some true)
 (some (x == (2 : Int))))
def m_spec_l8Value (x : Int) : Option Bool := p_spec_l8Value FU x
def a_spec_l8Value : Ann := .leaf
def S_spec_l8Value : FSpec := ⟨[.val (.int .i64)], [.bool], m_spec_l8Value⟩

/-! spec.l8None -/
def p_spec_l8None (n : Nat) (x : Unit) : Option (Int × Int) :=
some ((-1 : Int), (0 : Int))
def m_spec_l8None (x : Unit) : Option (Int × Int) := p_spec_l8None FU x
def a_spec_l8None : Ann := .leaf
def S_spec_l8None : FSpec := ⟨[], [(.pair (.int .i64) (.int .i64))], m_spec_l8None⟩

/-! spec.l8Last -/
def p_spec_l8Last (n : Nat) (x : (Int × (Int × (Int × ((Int × Int) × (List (Int × Int))))))) : Option (Int × Int) :=
(cond ((lenI x.2.2.2.2) == (0 : Int))
 ((m_spec_l8None ()).bind fun r1 =>
 some r1)
 ((geti x.2.2.2.2 (IntKind.wrap .i64 ((lenI x.2.2.2.2) - (1 : Int)))).bind fun y2 =>
 some y2))
def m_spec_l8Last (x : (Int × (Int × (Int × ((Int × Int) × (List (Int × Int))))))) : Option (Int × Int) := p_spec_l8Last FU x
def a_spec_l8Last : Ann := .leaf
def S_spec_l8Last : FSpec := ⟨[.val (.pair (.int .i64) (.pair (.int .i64) (.pair (.int .i64) (.pair (.pair (.int .i64) (.int .i64)) (.sl none (.pair (.int .i64) (.int .i64)))))))], [(.pair (.int .i64) (.int .i64))], m_spec_l8Last⟩

/-! spec.SlotFault -/
def l_spec_SlotFault_1 (n : Nat) (x_2_2_2_2 : (List (Int × Int))) (z0 : Int) : Option (Unit ⊕ Int) :=
(lp (fun rec53 (z52 : Int) =>
 (cond (decide (z52 < (lenI x_2_2_2_2)))
  ((geti x_2_2_2_2 z52).bind fun y54 =>
  (Option.bind (α := Bool)
   ((m_spec_l8Ballot y54.1).bind fun r57 =>
   (cond (!r57)
    (some true)
    ((m_spec_l8Value y54.2).bind fun r58 =>
    some (!r58)))) fun j59 =>
  (cond j59
   (some (Sum.inr (3 : Int)))
   (Option.bind (α := Bool)
    (cond (decide (z52 > (0 : Int)))
     ((geti x_2_2_2_2 (IntKind.wrap .i64 (z52 - (1 : Int)))).bind fun y63 =>
     (cond (decide (y54.1 < y63.1))
      (some true)
      ((geti x_2_2_2_2 (IntKind.wrap .i64 (z52 - (1 : Int)))).bind fun y64 =>
      (cond (y54.1 == y64.1)
       ((geti x_2_2_2_2 (IntKind.wrap .i64 (z52 - (1 : Int)))).bind fun y65 =>
       some (!(y54.2 == y65.2)))
       (some false)))))
     (some false)) fun j66 =>
   (cond j66
    (some (Sum.inr (1 : Int)))
    (rec53 (IntKind.wrap .i64 (z52 + (1 : Int)))))))))
  (some (Sum.inl ())))) n z0)
def p_spec_SlotFault (n : Nat) (x : (Int × (Int × (Int × ((Int × Int) × (List (Int × Int))))))) : Option Int :=
(Option.bind (α := Bool)
 ((m_spec_l1Id x.1).bind fun r4 =>
 (cond (!r4)
  (some true)
  ((m_spec_l1In (x.2.1, (0 : Int), (2 : Int))).bind fun r5 =>
  (cond (!r5)
   (some true)
   ((m_spec_l1In (x.2.2.1, (-1 : Int), (1000 : Int))).bind fun r6 =>
   some (!r6)))))) fun j7 =>
(cond j7
 (some (3 : Int))
 (cond (decide ((lenI x.2.2.2.2) > (60 : Int)))
  (some (2 : Int))
  (Option.bind (α := (Unit ⊕ Int))
   (l_spec_SlotFault_1 n x.2.2.2.2 (0 : Int))
   (Sum.elim (fun j68 =>
  (Option.bind (α := Bool)
   ((m_spec_l8Last x).bind fun r70 =>
   (cond (!((x.2.2.2.1.1 == r70.1) && ((x.2.2.2.1.2 == r70.2) && true)))
    (some true)
    (some (decide (x.2.2.2.1.1 > x.2.2.1))))) fun j71 =>
  (cond j71
   (some (1 : Int))
   (some (0 : Int))))) some)))))
def m_spec_SlotFault (x : (Int × (Int × (Int × ((Int × Int) × (List (Int × Int))))))) : Option Int := p_spec_SlotFault FU x
def a_spec_SlotFault : Ann := (.node .leaf (.node (.join [.slot 20 .bool] [5, 6, 7, 8, 9, 10, 11, 12, 13, 14, 15, 16, 17, 18, 19] .leaf .leaf) (.node .leaf (.joinx [] [2, 3, 4, 25, 26, 27, 28, 29, 30, 31, 32, 33, 34, 35, 36, 37, 38, 39, 40, 41, 42, 43, 44, 45, 46, 47, 48, 49, 50, 51, 52, 53, 54, 55, 56, 57, 58, 59, 60, 61, 62, 63, 64, 65, 66, 67, 68, 69, 70, 71, 72, 73, 74, 75, 76, 77, 78, 79, 80, 81, 82, 83, 84] (.node .leaf (.loop [.slot 3 (.int .i64)] [2, 4, 25, 26, 27, 28, 29, 30, 31, 32, 33, 34, 35, 36, 37, 38, 39, 40, 41, 42, 43, 44, 45, 46, 47, 48, 49, 50, 51, 52, 53, 54, 55, 56, 57, 58, 59, 60, 61, 62, 63, 64, 65, 66, 67, 68, 69, 70, 71, 72, 73, 74, 75, 76, 77, 78, 79, 80, 81, 82, 83, 84] (.node .leaf (.node (.node .leaf (.node (.join [.slot 46 .bool] [37, 38, 39, 40, 41, 42, 43, 44, 45] .leaf .leaf) (.join [.slot 84 .bool] [47, 48, 49, 50, 51, 52, 53, 54, 55, 56, 57, 58, 59, 60, 61, 62, 63, 64, 65, 66, 67, 68, 69, 70, 71, 72, 73, 74, 75, 76, 77, 78, 79, 80, 81, 82, 83] .leaf .leaf))) .leaf)))) (.node (.join [.slot 97 .bool] [85, 86, 87, 88, 89, 90, 91, 92, 93, 94, 95, 96] .leaf .leaf) .leaf)))))
def S_spec_SlotFault : FSpec := ⟨[.val (.pair (.int .i64) (.pair (.int .i64) (.pair (.int .i64) (.pair (.pair (.int .i64) (.int .i64)) (.sl none (.pair (.int .i64) (.int .i64)))))))], [(.int .i64)], m_spec_SlotFault⟩

/-! spec.l8Copy -/
def p_spec_l8Copy (n : Nat) (x : (Int × (Int × (Int × ((Int × Int) × (List (Int × Int))))))) : Option (Int × (Int × (Int × ((Int × Int) × (List (Int × Int)))))) :=
(chk (Nat.ble ((([] : List (Int × Int)).length + x.2.2.2.2.length) * 16) maxBytes)
(some (x.1, (x.2.1, (x.2.2.1, (x.2.2.2.1, (([] : List (Int × Int)) ++ x.2.2.2.2)))))))
def m_spec_l8Copy (x : (Int × (Int × (Int × ((Int × Int) × (List (Int × Int))))))) : Option (Int × (Int × (Int × ((Int × Int) × (List (Int × Int)))))) := p_spec_l8Copy FU x
def a_spec_l8Copy : Ann := .leaf
def S_spec_l8Copy : FSpec := ⟨[.val (.pair (.int .i64) (.pair (.int .i64) (.pair (.int .i64) (.pair (.pair (.int .i64) (.int .i64)) (.sl none (.pair (.int .i64) (.int .i64)))))))], [(.pair (.int .i64) (.pair (.int .i64) (.pair (.int .i64) (.pair (.pair (.int .i64) (.int .i64)) (.sl (some 34) (.pair (.int .i64) (.int .i64)))))))], m_spec_l8Copy⟩

/-! spec.AcceptSlot -/
def p_spec_AcceptSlot (n : Nat) (x : ((Int × (Int × (Int × ((Int × Int) × (List (Int × Int)))))) × (Int × Int))) : Option (Int × ((Int × Int) × (Int × (Int × (Int × ((Int × Int) × (List (Int × Int)))))))) :=
((m_spec_SlotFault x.1).bind fun r1 =>
(cond (!(r1 == (0 : Int)))
 (some (r1, (((0 : Int), (0 : Int)), ((0 : Int), ((0 : Int), ((0 : Int), (((0 : Int), (0 : Int)), [])))))))
 (Option.bind (α := Bool)
  ((m_spec_l8Ballot x.2.1).bind fun r4 =>
  (cond (!r4)
   (some true)
   ((m_spec_l8Value x.2.2).bind fun r5 =>
   some (!r5)))) fun j6 =>
 (cond j6
  (some ((3 : Int), (((0 : Int), (0 : Int)), ((0 : Int), ((0 : Int), ((0 : Int), (((0 : Int), (0 : Int)), [])))))))
  (cond (decide (x.2.1 < x.1.2.2.1))
   (some ((8 : Int), (((0 : Int), (0 : Int)), ((0 : Int), ((0 : Int), ((0 : Int), (((0 : Int), (0 : Int)), [])))))))
   (Option.bind (α := Bool)
    (cond (x.2.1 == x.1.2.2.2.1.1)
     (some (!(x.2.2 == x.1.2.2.2.1.2)))
     (some false)) fun j7 =>
   (cond j7
    (some ((7 : Int), (((0 : Int), (0 : Int)), ((0 : Int), ((0 : Int), ((0 : Int), (((0 : Int), (0 : Int)), [])))))))
    ((m_spec_l8Copy x.1).bind fun r8 =>
    (Option.bind (α := ((Int × (Int × (Int × ((Int × Int) × (List (Int × Int)))))) ⊕ (Int × ((Int × Int) × (Int × (Int × (Int × ((Int × Int) × (List (Int × Int))))))))))
     (cond (!((x.2.1 == x.1.2.2.2.1.1) && ((x.2.2 == x.1.2.2.2.1.2) && true)))
      (cond (decide ((lenI x.1.2.2.2.2) ≥ (60 : Int)))
       (some (Sum.inr ((2 : Int), (((0 : Int), (0 : Int)), ((0 : Int), ((0 : Int), ((0 : Int), (((0 : Int), (0 : Int)), []))))))))
       (chk (Nat.ble ((r8.2.2.2.2.length + [x.2].length) * 16) maxBytes)
       (some (Sum.inl (r8.1, (r8.2.1, (x.2.1, (r8.2.2.2.1, (r8.2.2.2.2 ++ [x.2])))))))))
      (some (Sum.inl (r8.1, (r8.2.1, (x.2.1, r8.2.2.2))))))
     (Sum.elim (fun j9 =>
    some ((0 : Int), (x.1.2.2.2.1, (j9.1, (j9.2.1, (j9.2.2.1, (x.2, j9.2.2.2.2))))))) some))))))))))
def m_spec_AcceptSlot (x : ((Int × (Int × (Int × ((Int × Int) × (List (Int × Int)))))) × (Int × Int))) : Option (Int × ((Int × Int) × (Int × (Int × (Int × ((Int × Int) × (List (Int × Int)))))))) := p_spec_AcceptSlot FU x
def a_spec_AcceptSlot : Ann := (.node .leaf (.node .leaf (.node (.join [.slot 23 .bool] [16, 17, 18, 19, 20, 21, 22] .leaf .leaf) (.node (.reg 30 (.node .leaf (.node .leaf (.node (.join [.slot 26 .bool] [13, 14, 15, 16, 17, 18, 19, 20, 21, 22, 23, 24, 25] .leaf .leaf) (.node .leaf (.node .leaf (.joinx [.box 6 (.pair (.int .i64) (.pair (.int .i64) (.pair (.int .i64) (.pair (.pair (.int .i64) (.int .i64)) (.sl (some 34) (.pair (.int .i64) (.int .i64)))))))] [33, 34, 35, 36, 37, 38, 39, 40, 42, 43, 44, 45, 46, 47] .leaf .leaf)))))) .leaf) .leaf))))
def S_spec_AcceptSlot : FSpec := ⟨[.val (.pair (.int .i64) (.pair (.int .i64) (.pair (.int .i64) (.pair (.pair (.int .i64) (.int .i64)) (.sl none (.pair (.int .i64) (.int .i64))))))), .val (.int .i64), .val (.int .i64)], [(.pair (.int .i64) (.pair (.pair (.int .i64) (.int .i64)) (.pair (.int .i64) (.pair (.int .i64) (.pair (.int .i64) (.pair (.pair (.int .i64) (.int .i64)) (.sl (some 34) (.pair (.int .i64) (.int .i64)))))))))], m_spec_AcceptSlot⟩

/-! impl.within -/
def p_impl_within (n : Nat) (x : (Int × (Int × Int))) : Option Bool :=
(cond (decide (x.1 ≥ x.2.1))
 (some (decide (x.1 ≤ x.2.2)))
 (some false))
def m_impl_within (x : (Int × (Int × Int))) : Option Bool := p_impl_within FU x
def a_impl_within : Ann := .leaf
def S_impl_within : FSpec := ⟨[.val (.int .i64), .val (.int .i64), .val (.int .i64)], [.bool], m_impl_within⟩

/-! impl.isId -/
def p_impl_isId (n : Nat) (x : Int) : Option Bool :=
((m_impl_within (x, (1 : Int), (1000000000 : Int))).bind fun r1 =>
some r1)
def m_impl_isId (x : Int) : Option Bool := p_impl_isId FU x
def a_impl_isId : Ann := .leaf
def S_impl_isId : FSpec := ⟨[.val (.int .i64)], [.bool], m_impl_isId⟩

/-! impl.isShard -/
def p_impl_isShard (n : Nat) (x : Int) : Option Bool :=
((m_impl_within (x, (0 : Int), (2 : Int))).bind fun r1 =>
some r1)
def m_impl_isShard (x : Int) : Option Bool := p_impl_isShard FU x
def a_impl_isShard : Ann := .leaf
def S_impl_isShard : FSpec := ⟨[.val (.int .i64)], [.bool], m_impl_isShard⟩

/-! impl.isBallot -/
def p_impl_isBallot (n : Nat) (x : Int) : Option Bool :=
((m_impl_within (x, (0 : Int), (1000 : Int))).bind fun r1 =>
some r1)
def m_impl_isBallot (x : Int) : Option Bool := p_impl_isBallot FU x
def a_impl_isBallot : Ann := .leaf
def S_impl_isBallot : FSpec := ⟨[.val (.int .i64)], [.bool], m_impl_isBallot⟩

/-! impl.isValue -/
def p_impl_isValue (n : Nat) (x : Int) : Option Bool :=
(cond (x == (1 : Int))
 (some true)
 (some (x == (2 : Int))))
def m_impl_isValue (x : Int) : Option Bool := p_impl_isValue FU x
def a_impl_isValue : Ann := .leaf
def S_impl_isValue : FSpec := ⟨[.val (.int .i64)], [.bool], m_impl_isValue⟩

/-! impl.isVote -/
def p_impl_isVote (n : Nat) (x : (Int × Int)) : Option Bool :=
((m_impl_isBallot x.1).bind fun r1 =>
(cond r1
 ((m_impl_isValue x.2).bind fun r2 =>
 some r2)
 (some false)))
def m_impl_isVote (x : (Int × Int)) : Option Bool := p_impl_isVote FU x
def a_impl_isVote : Ann := .leaf
def S_impl_isVote : FSpec := ⟨[.val (.pair (.int .i64) (.int .i64))], [.bool], m_impl_isVote⟩

/-! impl.castFault -/
def l_impl_castFault_1 (n : Nat) (x : (List (Int × Int))) (z0 : Int) : Option Int :=
(lp (fun rec12 (z11 : Int) =>
 (cond (decide (z11 < (lenI x)))
  ((geti x z11).bind fun y13 =>
  ((m_impl_isVote y13).bind fun r14 =>
  (cond (!r14)
   (some (3 : Int))
   (Option.bind (α := Bool)
    (cond (decide (z11 > (0 : Int)))
     ((geti x (IntKind.wrap .i64 (z11 - (1 : Int)))).bind fun y18 =>
     (cond (decide (y13.1 < y18.1))
      (some true)
      ((geti x (IntKind.wrap .i64 (z11 - (1 : Int)))).bind fun y19 =>
      (cond (y13.1 == y19.1)
       ((geti x (IntKind.wrap .i64 (z11 - (1 : Int)))).bind fun y20 =>
       some (!(y13.2 == y20.2)))
       (some false)))))
     (some false)) fun j21 =>
   (cond j21
    (some (1 : Int))
    (rec12 (IntKind.wrap .i64 (z11 + (1 : Int)))))))))
  (some (0 : Int)))) n z0)
def p_impl_castFault (n : Nat) (x : (List (Int × Int))) : Option Int :=
(l_impl_castFault_1 n x (0 : Int))
def m_impl_castFault (x : (List (Int × Int))) : Option Int := p_impl_castFault FU x
def a_impl_castFault : Ann := (.node .leaf (.node (.node .leaf (.loop [.slot 7 (.int .i64)] [2, 3, 4, 8, 9, 10, 11, 12, 13, 14, 15, 16, 17, 18, 19, 20, 21, 22, 23, 24, 25, 26, 27, 28, 29, 30, 31, 32, 33, 34, 35, 36, 37, 38, 39, 40, 41, 42, 43, 44, 45, 46, 47, 48, 49, 50, 51, 52] (.node .leaf (.node .leaf (.node (.node .leaf (.node .leaf (.node .leaf (.join [.slot 16 .bool] [17, 18, 19, 20, 21, 22, 23, 24, 25, 26, 27, 28, 29, 30, 31, 32, 33, 34, 35, 36, 37, 38, 39, 40, 41, 42, 43, 44, 45, 46, 47, 48, 49, 50, 51] .leaf .leaf)))) .leaf))))) .leaf))
def S_impl_castFault : FSpec := ⟨[.val (.sl none (.pair (.int .i64) (.int .i64)))], [(.int .i64)], m_impl_castFault⟩

/-! impl.noVote -/
def p_impl_noVote (n : Nat) (x : Unit) : Option (Int × Int) :=
some ((-1 : Int), (0 : Int))
def m_impl_noVote (x : Unit) : Option (Int × Int) := p_impl_noVote FU x
def a_impl_noVote : Ann := .leaf
def S_impl_noVote : FSpec := ⟨[], [(.pair (.int .i64) (.int .i64))], m_impl_noVote⟩

/-! impl.lastCast -/
def p_impl_lastCast (n : Nat) (x : (List (Int × Int))) : Option (Int × Int) :=
(cond ((lenI x) == (0 : Int))
 ((m_impl_noVote ()).bind fun r1 =>
 some r1)
 ((geti x (IntKind.wrap .i64 ((lenI x) - (1 : Int)))).bind fun y2 =>
 some y2))
def m_impl_lastCast (x : (List (Int × Int))) : Option (Int × Int) := p_impl_lastCast FU x
def a_impl_lastCast : Ann := .leaf
def S_impl_lastCast : FSpec := ⟨[.val (.sl none (.pair (.int .i64) (.int .i64)))], [(.pair (.int .i64) (.int .i64))], m_impl_lastCast⟩

/-! impl.SlotFault -/
def p_impl_SlotFault (n : Nat) (x : (Int × (Int × (Int × ((Int × Int) × (List (Int × Int))))))) : Option Int :=
(Option.bind (α := Bool)
 ((m_impl_isId x.1).bind fun r4 =>
 (cond (!r4)
  (some true)
  ((m_impl_isShard x.2.1).bind fun r5 =>
  (cond (!r5)
   (some true)
   ((m_impl_within (x.2.2.1, (-1 : Int), (1000 : Int))).bind fun r6 =>
   some (!r6)))))) fun j7 =>
(cond j7
 (some (3 : Int))
 (cond (decide ((lenI x.2.2.2.2) > (60 : Int)))
  (some (2 : Int))
  ((m_impl_castFault x.2.2.2.2).bind fun r8 =>
  (cond (!(r8 == (0 : Int)))
   (some r8)
   (Option.bind (α := Bool)
    ((m_impl_lastCast x.2.2.2.2).bind fun r10 =>
    (cond (!((x.2.2.2.1.1 == r10.1) && ((x.2.2.2.1.2 == r10.2) && true)))
     (some true)
     (some (decide (x.2.2.2.1.1 > x.2.2.1))))) fun j11 =>
   (cond j11
    (some (1 : Int))
    (some (0 : Int)))))))))
def m_impl_SlotFault (x : (Int × (Int × (Int × ((Int × Int) × (List (Int × Int))))))) : Option Int := p_impl_SlotFault FU x
def a_impl_SlotFault : Ann := (.node .leaf (.node (.join [.slot 4 .bool] [5, 6, 7, 8, 9, 10, 11, 12, 13, 14, 15, 16, 17, 18, 19, 20] .leaf .leaf) (.node .leaf (.node (.join [.slot 45 .bool] [32, 33, 34, 35, 36, 37, 38, 39, 40, 41, 42, 43, 44] .leaf .leaf) .leaf))))
def S_impl_SlotFault : FSpec := ⟨[.val (.pair (.int .i64) (.pair (.int .i64) (.pair (.int .i64) (.pair (.pair (.int .i64) (.int .i64)) (.sl none (.pair (.int .i64) (.int .i64)))))))], [(.int .i64)], m_impl_SlotFault⟩

/-! impl.Vote] -/
def p_slices_Clone_impl_Vote_impl_Vote (n : Nat) (x : (List (Int × Int))) : Option (List (Int × Int)) :=
(cond (List.isEmpty x)
 (same
  (some [])
  (chk (Nat.ble ((([] : List (Int × Int)).length + x.length) * 16) maxBytes)
  (some (([] : List (Int × Int)) ++ x))))
 (chk (Nat.ble ((([] : List (Int × Int)).length + x.length) * 16) maxBytes)
 (some (([] : List (Int × Int)) ++ x))))
def m_slices_Clone_impl_Vote_impl_Vote (x : (List (Int × Int))) : Option (List (Int × Int)) := p_slices_Clone_impl_Vote_impl_Vote FU x
def a_slices_Clone_impl_Vote_impl_Vote : Ann := .leaf
def S_slices_Clone_impl_Vote_impl_Vote : FSpec := ⟨[.val (.sl none (.pair (.int .i64) (.int .i64)))], [(.sl (some 34) (.pair (.int .i64) (.int .i64)))], m_slices_Clone_impl_Vote_impl_Vote⟩

/-! impl.copySlot -/
def p_impl_copySlot (n : Nat) (x : (Int × (Int × (Int × ((Int × Int) × (List (Int × Int))))))) : Option (Int × (Int × (Int × ((Int × Int) × (List (Int × Int)))))) :=
((m_slices_Clone_impl_Vote_impl_Vote x.2.2.2.2).bind fun r1 =>
some (x.1, (x.2.1, (x.2.2.1, (x.2.2.2.1, r1)))))
def m_impl_copySlot (x : (Int × (Int × (Int × ((Int × Int) × (List (Int × Int))))))) : Option (Int × (Int × (Int × ((Int × Int) × (List (Int × Int)))))) := p_impl_copySlot FU x
def a_impl_copySlot : Ann := .leaf
def S_impl_copySlot : FSpec := ⟨[.val (.pair (.int .i64) (.pair (.int .i64) (.pair (.int .i64) (.pair (.pair (.int .i64) (.int .i64)) (.sl none (.pair (.int .i64) (.int .i64)))))))], [(.pair (.int .i64) (.pair (.int .i64) (.pair (.int .i64) (.pair (.pair (.int .i64) (.int .i64)) (.sl (some 34) (.pair (.int .i64) (.int .i64)))))))], m_impl_copySlot⟩

/-! impl.AcceptSlot -/
def p_impl_AcceptSlot (n : Nat) (x : ((Int × (Int × (Int × ((Int × Int) × (List (Int × Int)))))) × (Int × Int))) : Option (Int × ((Int × Int) × (Int × (Int × (Int × ((Int × Int) × (List (Int × Int)))))))) :=
((m_impl_SlotFault x.1).bind fun r1 =>
(cond (!(r1 == (0 : Int)))
 (some (r1, (((0 : Int), (0 : Int)), ((0 : Int), ((0 : Int), ((0 : Int), (((0 : Int), (0 : Int)), [])))))))
 ((m_impl_isVote x.2).bind fun r2 =>
 (cond (!r2)
  (some ((3 : Int), (((0 : Int), (0 : Int)), ((0 : Int), ((0 : Int), ((0 : Int), (((0 : Int), (0 : Int)), [])))))))
  (cond (decide (x.2.1 < x.1.2.2.1))
   (some ((8 : Int), (((0 : Int), (0 : Int)), ((0 : Int), ((0 : Int), ((0 : Int), (((0 : Int), (0 : Int)), [])))))))
   (Option.bind (α := Bool)
    (cond (x.2.1 == x.1.2.2.2.1.1)
     (some (!(x.2.2 == x.1.2.2.2.1.2)))
     (some false)) fun j3 =>
   (cond j3
    (some ((7 : Int), (((0 : Int), (0 : Int)), ((0 : Int), ((0 : Int), ((0 : Int), (((0 : Int), (0 : Int)), [])))))))
    (Option.bind (α := Bool)
     (cond (!((x.2.1 == x.1.2.2.2.1.1) && ((x.2.2 == x.1.2.2.2.1.2) && true)))
      (some ((lenI x.1.2.2.2.2) == (60 : Int)))
      (some false)) fun j4 =>
    (cond j4
     (some ((2 : Int), (((0 : Int), (0 : Int)), ((0 : Int), ((0 : Int), ((0 : Int), (((0 : Int), (0 : Int)), [])))))))
     ((m_impl_copySlot x.1).bind fun r5 =>
     (Option.bind (α := (Int × (Int × (Int × ((Int × Int) × (List (Int × Int)))))))
      (cond (!((x.2.1 == x.1.2.2.2.1.1) && ((x.2.2 == x.1.2.2.2.1.2) && true)))
       (chk (Nat.ble ((r5.2.2.2.2.length + [x.2].length) * 16) maxBytes)
       (some (r5.1, (r5.2.1, (x.2.1, (x.2, (r5.2.2.2.2 ++ [x.2])))))))
       (some (r5.1, (r5.2.1, (x.2.1, (x.2, r5.2.2.2.2)))))) fun j6 =>
     some ((0 : Int), (x.1.2.2.2.1, j6)))))))))))))
def m_impl_AcceptSlot (x : ((Int × (Int × (Int × ((Int × Int) × (List (Int × Int)))))) × (Int × Int))) : Option (Int × ((Int × Int) × (Int × (Int × (Int × ((Int × Int) × (List (Int × Int)))))))) := p_impl_AcceptSlot FU x
def a_impl_AcceptSlot : Ann := (.node .leaf (.node .leaf (.node .leaf (.node (.node .leaf (.node .leaf (.node .leaf (.node .leaf (.join [.slot 30 .bool] [31, 32, 33, 34, 35, 36, 37, 38, 39, 40, 41, 42] .leaf (.node .leaf (.join [.slot 44 .bool] [45, 46, 47, 48, 49, 50, 51, 52, 53, 54] .leaf .leaf))))))) (.node .leaf (.join [.box 4 (.pair (.int .i64) (.pair (.int .i64) (.pair (.int .i64) (.pair (.pair (.int .i64) (.int .i64)) (.sl (some 34) (.pair (.int .i64) (.int .i64)))))))] [58, 59, 60, 61, 62, 63, 64, 65, 66, 67, 68, 69, 70, 71] .leaf .leaf))))))
def S_impl_AcceptSlot : FSpec := ⟨[.val (.pair (.int .i64) (.pair (.int .i64) (.pair (.int .i64) (.pair (.pair (.int .i64) (.int .i64)) (.sl none (.pair (.int .i64) (.int .i64))))))), .val (.int .i64), .val (.int .i64)], [(.pair (.int .i64) (.pair (.pair (.int .i64) (.int .i64)) (.pair (.int .i64) (.pair (.int .i64) (.pair (.int .i64) (.pair (.pair (.int .i64) (.int .i64)) (.sl (some 34) (.pair (.int .i64) (.int .i64)))))))))], m_impl_AcceptSlot⟩

/-! laws.eqVote -/
def p_laws_eqVote (n : Nat) (x : ((Int × Int) × (Int × Int))) : Option Bool :=
(cond (!(x.1.1 == x.2.1))
 (some false)
 (cond (!(x.1.2 == x.2.2))
  (some false)
  (some true)))
def m_laws_eqVote (x : ((Int × Int) × (Int × Int))) : Option Bool := p_laws_eqVote FU x
def a_laws_eqVote : Ann := .leaf
def S_laws_eqVote : FSpec := ⟨[.val (.pair (.int .i64) (.int .i64)), .val (.pair (.int .i64) (.int .i64))], [.bool], m_laws_eqVote⟩

/-! laws.eqVoteS -/
def l_laws_eqVoteS_1 (n : Nat) (x_1 : (List (Int × Int))) (x_2 : (List (Int × Int))) (z0 : Int) : Option Bool :=
(lp (fun rec6 (z5 : Int) =>
 (cond (decide (z5 < (lenI x_1)))
  ((geti x_1 z5).bind fun y7 =>
  ((geti x_2 z5).bind fun y8 =>
  ((m_laws_eqVote (y7, y8)).bind fun r9 =>
  (cond (!r9)
   (some false)
   (rec6 (IntKind.wrap .i64 (z5 + (1 : Int))))))))
  (some true))) n z0)
def p_laws_eqVoteS (n : Nat) (x : ((List (Int × Int)) × (List (Int × Int)))) : Option Bool :=
(cond (!((lenI x.1) == (lenI x.2)))
 (some false)
 (l_laws_eqVoteS_1 n x.1 x.2 (0 : Int)))
def m_laws_eqVoteS (x : ((List (Int × Int)) × (List (Int × Int)))) : Option Bool := p_laws_eqVoteS FU x
def a_laws_eqVoteS : Ann := (.node .leaf (.node .leaf (.node (.node .leaf (.loop [.slot 5 (.int .i64)] [4, 11, 12, 13, 14, 15, 16, 17, 18, 19, 20, 21, 22, 23, 24, 25, 26] .leaf)) .leaf)))
def S_laws_eqVoteS : FSpec := ⟨[.val (.sl none (.pair (.int .i64) (.int .i64))), .val (.sl none (.pair (.int .i64) (.int .i64)))], [.bool], m_laws_eqVoteS⟩

/-! laws.eqSlot -/
def p_laws_eqSlot (n : Nat) (x : ((Int × (Int × (Int × ((Int × Int) × (List (Int × Int)))))) × (Int × (Int × (Int × ((Int × Int) × (List (Int × Int)))))))) : Option Bool :=
(cond (!(x.1.1 == x.2.1))
 (some false)
 (cond (!(x.1.2.1 == x.2.2.1))
  (some false)
  (cond (!(x.1.2.2.1 == x.2.2.2.1))
   (some false)
   ((m_laws_eqVote (x.1.2.2.2.1, x.2.2.2.2.1)).bind fun r1 =>
   (cond (!r1)
    (some false)
    ((m_laws_eqVoteS (x.1.2.2.2.2, x.2.2.2.2.2)).bind fun r2 =>
    (cond (!r2)
     (some false)
     (some true))))))))
def m_laws_eqSlot (x : ((Int × (Int × (Int × ((Int × Int) × (List (Int × Int)))))) × (Int × (Int × (Int × ((Int × Int) × (List (Int × Int)))))))) : Option Bool := p_laws_eqSlot FU x
def a_laws_eqSlot : Ann := .leaf
def S_laws_eqSlot : FSpec := ⟨[.val (.pair (.int .i64) (.pair (.int .i64) (.pair (.int .i64) (.pair (.pair (.int .i64) (.int .i64)) (.sl none (.pair (.int .i64) (.int .i64))))))), .val (.pair (.int .i64) (.pair (.int .i64) (.pair (.int .i64) (.pair (.pair (.int .i64) (.int .i64)) (.sl none (.pair (.int .i64) (.int .i64)))))))], [.bool], m_laws_eqSlot⟩

/-! laws.eqSlotResult -/
def p_laws_eqSlotResult (n : Nat) (x : ((Int × ((Int × Int) × (Int × (Int × (Int × ((Int × Int) × (List (Int × Int)))))))) × (Int × ((Int × Int) × (Int × (Int × (Int × ((Int × Int) × (List (Int × Int)))))))))) : Option Bool :=
(cond (!(x.1.1 == x.2.1))
 (some false)
 ((m_laws_eqVote (x.1.2.1, x.2.2.1)).bind fun r1 =>
 (cond (!r1)
  (some false)
  ((m_laws_eqSlot (x.1.2.2, x.2.2.2)).bind fun r2 =>
  (cond (!r2)
   (some false)
   (some true))))))
def m_laws_eqSlotResult (x : ((Int × ((Int × Int) × (Int × (Int × (Int × ((Int × Int) × (List (Int × Int)))))))) × (Int × ((Int × Int) × (Int × (Int × (Int × ((Int × Int) × (List (Int × Int)))))))))) : Option Bool := p_laws_eqSlotResult FU x
def a_laws_eqSlotResult : Ann := .leaf
def S_laws_eqSlotResult : FSpec := ⟨[.val (.pair (.int .i64) (.pair (.pair (.int .i64) (.int .i64)) (.pair (.int .i64) (.pair (.int .i64) (.pair (.int .i64) (.pair (.pair (.int .i64) (.int .i64)) (.sl none (.pair (.int .i64) (.int .i64))))))))), .val (.pair (.int .i64) (.pair (.pair (.int .i64) (.int .i64)) (.pair (.int .i64) (.pair (.int .i64) (.pair (.int .i64) (.pair (.pair (.int .i64) (.int .i64)) (.sl none (.pair (.int .i64) (.int .i64)))))))))], [.bool], m_laws_eqSlotResult⟩

/-! laws.heldVoteS -/
def l_laws_heldVoteS_1 (n : Nat) (x_1 : (List (Int × Int))) (z0 : (Int × Int)) : Option Int :=
(lp (fun rec5 (z4 : (Int × Int)) =>
 (cond (decide (z4.2 < (lenI x_1)))
  ((geti x_1 z4.2).bind fun y6 =>
  (cond (!(y6.1 == z4.1))
   (some (-1 : Int))
   ((geti x_1 z4.2).bind fun y7 =>
   (cond (!(y7.2 == (IntKind.wrap .i64 (z4.1 + (1 : Int)))))
    (some (-1 : Int))
    (rec5 (IntKind.wrap .i64 ((IntKind.wrap .i64 (z4.1 + (1 : Int))) + (1 : Int)), IntKind.wrap .i64 (z4.2 + (1 : Int))))))))
  (some z4.1))) n z0)
def p_laws_heldVoteS (n : Nat) (x : ((List (Int × Int)) × Int)) : Option Int :=
(l_laws_heldVoteS_1 n x.1 (x.2, (0 : Int)))
def m_laws_heldVoteS (x : ((List (Int × Int)) × Int)) : Option Int := p_laws_heldVoteS FU x
def a_laws_heldVoteS : Ann := (.node .leaf (.node (.node .leaf (.loop [.slot 1 (.int .i64), .slot 5 (.int .i64)] [4, 6, 7, 8, 9, 10, 11, 12, 13, 14, 15, 16, 17, 18, 19, 20, 21, 22, 23, 24, 25, 26, 27, 28, 29] .leaf)) .leaf))
def S_laws_heldVoteS : FSpec := ⟨[.val (.sl none (.pair (.int .i64) (.int .i64))), .val (.int .i64)], [(.int .i64)], m_laws_heldVoteS⟩

/-! laws.heldSlot -/
def p_laws_heldSlot (n : Nat) (x : ((Int × (Int × (Int × ((Int × Int) × (List (Int × Int)))))) × Int)) : Option Int :=
((m_laws_heldVoteS (x.1.2.2.2.2, x.2)).bind fun r1 =>
(cond (decide (r1 < (0 : Int)))
 (some (-1 : Int))
 (some r1)))
def m_laws_heldSlot (x : ((Int × (Int × (Int × ((Int × Int) × (List (Int × Int)))))) × Int)) : Option Int := p_laws_heldSlot FU x
def a_laws_heldSlot : Ann := .leaf
def S_laws_heldSlot : FSpec := ⟨[.val (.pair (.int .i64) (.pair (.int .i64) (.pair (.int .i64) (.pair (.pair (.int .i64) (.int .i64)) (.sl none (.pair (.int .i64) (.int .i64))))))), .val (.int .i64)], [(.int .i64)], m_laws_heldSlot⟩

/-! laws.heldSlotResult -/
def p_laws_heldSlotResult (n : Nat) (x : ((Int × ((Int × Int) × (Int × (Int × (Int × ((Int × Int) × (List (Int × Int)))))))) × Int)) : Option Int :=
((m_laws_heldSlot (x.1.2.2, x.2)).bind fun r1 =>
(cond (decide (r1 < (0 : Int)))
 (some (-1 : Int))
 (some r1)))
def m_laws_heldSlotResult (x : ((Int × ((Int × Int) × (Int × (Int × (Int × ((Int × Int) × (List (Int × Int)))))))) × Int)) : Option Int := p_laws_heldSlotResult FU x
def a_laws_heldSlotResult : Ann := .leaf
def S_laws_heldSlotResult : FSpec := ⟨[.val (.pair (.int .i64) (.pair (.pair (.int .i64) (.int .i64)) (.pair (.int .i64) (.pair (.int .i64) (.pair (.int .i64) (.pair (.pair (.int .i64) (.int .i64)) (.sl none (.pair (.int .i64) (.int .i64))))))))), .val (.int .i64)], [(.int .i64)], m_laws_heldSlotResult⟩

/-! laws.FnExactAcceptSlot -/
def l_laws_FnExactAcceptSlot_1 (n : Nat)  (z0 : (Int × (Int × (List (Int × Int))))) : Option (Int × (List (Int × Int))) :=
(lp (fun rec27 (z26 : (Int × (Int × (List (Int × Int))))) =>
 (cond (decide (z26.2.1 < (lenI z26.2.2)))
  ((geti z26.2.2 z26.2.1).bind fun _ =>
  ((z26.2.2[z26.2.1.toNat]?).bind fun y28 =>
  ((geti (z26.2.2.set z26.2.1.toNat (z26.1, y28.2)) z26.2.1).bind fun _ =>
  (((z26.2.2.set z26.2.1.toNat (z26.1, y28.2))[z26.2.1.toNat]?).bind fun y29 =>
  rec27 (IntKind.wrap .i64 ((IntKind.wrap .i64 (z26.1 + (1 : Int))) + (1 : Int)), IntKind.wrap .i64 (z26.2.1 + (1 : Int)), ((z26.2.2.set z26.2.1.toNat (z26.1, y28.2)).set z26.2.1.toNat (y29.1, IntKind.wrap .i64 (z26.1 + (1 : Int)))))))))
  (some (z26.1, z26.2.2)))) n z0)
def l_laws_FnExactAcceptSlot_2 (n : Nat)  (z0 : (Int × (Int × (List (Int × Int))))) : Option (Int × (List (Int × Int))) :=
(lp (fun rec53 (z52 : (Int × (Int × (List (Int × Int))))) =>
 (cond (decide (z52.2.1 < (lenI z52.2.2)))
  ((geti z52.2.2 z52.2.1).bind fun _ =>
  ((z52.2.2[z52.2.1.toNat]?).bind fun y54 =>
  ((geti (z52.2.2.set z52.2.1.toNat (z52.1, y54.2)) z52.2.1).bind fun _ =>
  (((z52.2.2.set z52.2.1.toNat (z52.1, y54.2))[z52.2.1.toNat]?).bind fun y55 =>
  rec53 (IntKind.wrap .i64 ((IntKind.wrap .i64 (z52.1 + (1 : Int))) + (1 : Int)), IntKind.wrap .i64 (z52.2.1 + (1 : Int)), ((z52.2.2.set z52.2.1.toNat (z52.1, y54.2)).set z52.2.1.toNat (y55.1, IntKind.wrap .i64 (z52.1 + (1 : Int)))))))))
  (some (z52.1, z52.2.2)))) n z0)
def p_laws_FnExactAcceptSlot (n : Nat) (x : ((Int × (Int × (Int × ((Int × Int) × (List (Int × Int)))))) × (Int × Int))) : Option Bool :=
((m_laws_szSlot (x.1, (1048576 : Int))).bind fun r1 =>
(cond (decide (r1 < (0 : Int)))
 (some true)
 ((m_laws_toSlot x.1).bind fun r2 =>
 ((m_spec_AcceptSlot (r2, x.2.1, x.2.2)).bind fun r3 =>
 ((m_laws_toSlot x.1).bind fun r4 =>
 ((m_impl_AcceptSlot (r4, x.2.1, x.2.2)).bind fun r5 =>
 ((m_laws_eqSlotResult (r5, r3)).bind fun r6 =>
 (cond (!r6)
  (some false)
  ((m_laws_toSlot x.1).bind fun r7 =>
  ((m_laws_eqSlot (r4, r7)).bind fun r8 =>
  (cond (!r8)
   (some false)
   (Option.bind (α := (Int × (List (Int × Int))))
    (l_laws_FnExactAcceptSlot_1 n  ((1 : Int), (0 : Int), r4.2.2.2.2)) fun j31 =>
   (Option.bind (α := Bool)
    (cond (decide (j31.1 < (0 : Int)))
     (some true)
     ((m_laws_eqSlotResult (r5, r3)).bind fun r33 =>
     some (!r33))) fun j34 =>
   (cond j34
    (some false)
    (Option.bind (α := (Int × (List (Int × Int))))
     (l_laws_FnExactAcceptSlot_2 n  ((1 : Int), (0 : Int), r5.2.2.2.2.2.2)) fun j57 =>
    ((m_laws_heldSlotResult ((r5.1, (r5.2.1, (r5.2.2.1, (r5.2.2.2.1, (r5.2.2.2.2.1, (r5.2.2.2.2.2.1, j57.2)))))), (1 : Int))).bind fun r58 =>
    (cond (decide (r58 < (0 : Int)))
     (some false)
     (cond (!(r58 == j57.1))
      (some false)
      ((m_laws_toSlot x.1).bind fun r59 =>
      ((m_impl_AcceptSlot (r59, x.2.1, x.2.2)).bind fun r60 =>
      ((m_laws_eqSlotResult (r60, r3)).bind fun r61 =>
      (cond (!r61)
       (some false)
       ((m_laws_heldSlotResult ((r5.1, (r5.2.1, (r5.2.2.1, (r5.2.2.2.1, (r5.2.2.2.2.1, (r5.2.2.2.2.2.1, j57.2)))))), (1 : Int))).bind fun r62 =>
       (cond (decide (r62 < (0 : Int)))
        (some false)
        (cond (!(r62 == j57.1))
         (some false)
         (some true))))))))))))))))))))))))))
def m_laws_FnExactAcceptSlot (x : ((Int × (Int × (Int × ((Int × Int) × (List (Int × Int)))))) × (Int × Int))) : Option Bool := p_laws_FnExactAcceptSlot FU x
def a_laws_FnExactAcceptSlot : Ann := (.node .leaf (.node .leaf (.node .leaf (.node .leaf (.node .leaf (.node .leaf (.node .leaf (.node .leaf (.node .leaf (.node .leaf (.node (.reg 42 (.node .leaf (.node (.regj 8 [.slot 8 (.int .i64), .row 4 34 (.pair (.int .i64) (.int .i64))] [] (.node .leaf (.node (.node .leaf (.loop [.slot 1 (.int .i64), .slot 5 (.int .i64), .row 4 34 (.pair (.int .i64) (.int .i64))] [6, 7, 8, 9, 10, 11, 12, 13, 14, 15, 16, 17, 18, 19, 20, 21, 22, 23, 24, 25] .leaf)) .leaf)) .leaf) .leaf)) .leaf) (.node (.join [.slot 50 .bool] [43, 44, 45, 46, 47, 48, 49] .leaf .leaf) (.node .leaf (.node (.reg 53 (.node .leaf (.node (.reg 8 (.node .leaf (.node (.regj 8 [.slot 8 (.int .i64), .row 6 34 (.pair (.int .i64) (.int .i64))] [] (.node .leaf (.node (.node .leaf (.loop [.slot 1 (.int .i64), .slot 5 (.int .i64), .row 6 34 (.pair (.int .i64) (.int .i64))] [6, 7, 8, 9, 10, 11, 12, 13, 14, 15, 16, 17, 18, 19, 20, 21, 22, 23, 24, 25] .leaf)) .leaf)) .leaf) .leaf)) .leaf) .leaf)) .leaf) .leaf))))))))))))))
def S_laws_FnExactAcceptSlot : FSpec := ⟨[.val (.pair (.int .i64) (.pair (.int .i64) (.pair (.int .i64) (.pair (.pair (.int .i64) (.int .i64)) (.sl none (.pair (.int .i64) (.int .i64))))))), .val (.int .i64), .val (.int .i64)], [.bool], m_laws_FnExactAcceptSlot⟩

def T : Tab := [
  (2, ⟨false, 1, 8, [], 0, [.int .i64 0], some (.int .i64), [0]⟩),
  (3, ⟨false, 1, 8, [], 0, [.int .i64 0], some (.int .i64), [0]⟩),
  (29, ⟨false, 1, 24, [], 34, [.nil], some (.sl none (.pair (.int .i64) (.int .i64))), []⟩),
  (34, ⟨true, 2, 16, [(0, 1, 2), (1, 1, 2)], 0, [.int .i64 0, .int .i64 0], some (.pair (.int .i64) (.int .i64)), [0, 0]⟩),
  (35, ⟨false, 1, 24, [], 48, [.nil], some (.sl none (.pair (.int .i64) (.int .i64))), []⟩),
  (41, ⟨true, 6, 64, [(0, 1, 2), (1, 1, 2), (2, 1, 2), (3, 2, 34), (5, 1, 29)], 0, [.int .i64 0, .int .i64 0, .int .i64 0, .int .i64 0, .int .i64 0, .nil], some (.pair (.int .i64) (.pair (.int .i64) (.pair (.int .i64) (.pair (.pair (.int .i64) (.int .i64)) (.sl none (.pair (.int .i64) (.int .i64))))))), []⟩),
  (43, ⟨true, 9, 88, [(0, 1, 2), (1, 2, 34), (3, 6, 41)], 0, [.int .i64 0, .int .i64 0, .int .i64 0, .int .i64 0, .int .i64 0, .int .i64 0, .int .i64 0, .int .i64 0, .nil], some (.pair (.int .i64) (.pair (.pair (.int .i64) (.int .i64)) (.pair (.int .i64) (.pair (.int .i64) (.pair (.int .i64) (.pair (.pair (.int .i64) (.int .i64)) (.sl none (.pair (.int .i64) (.int .i64))))))))), []⟩),
  (48, ⟨true, 2, 16, [(0, 1, 2), (1, 1, 2)], 0, [.int .i64 0, .int .i64 0], some (.pair (.int .i64) (.int .i64)), [0, 0]⟩),
  (50, ⟨true, 6, 64, [(0, 1, 2), (1, 1, 2), (2, 1, 2), (3, 2, 48), (5, 1, 35)], 0, [.int .i64 0, .int .i64 0, .int .i64 0, .int .i64 0, .int .i64 0, .nil], some (.pair (.int .i64) (.pair (.int .i64) (.pair (.int .i64) (.pair (.pair (.int .i64) (.int .i64)) (.sl none (.pair (.int .i64) (.int .i64))))))), []⟩)]
def G_laws_szVoteS : Env := (22, S_laws_szVoteS) :: []
def G_laws_szSlot : Env := (30, S_laws_szSlot) :: G_laws_szVoteS
def G_laws_toVote : Env := (80, S_laws_toVote) :: G_laws_szSlot
def G_laws_toVoteS : Env := (23, S_laws_toVoteS) :: G_laws_toVote
def G_laws_toSlot : Env := (32, S_laws_toSlot) :: G_laws_toVoteS
def G_spec_l1In : Env := (63, S_spec_l1In) :: G_laws_toSlot
def G_spec_l1Id : Env := (82, S_spec_l1Id) :: G_spec_l1In
def G_spec_l8Ballot : Env := (77, S_spec_l8Ballot) :: G_spec_l1Id
def G_spec_l8Value : Env := (78, S_spec_l8Value) :: G_spec_l8Ballot
def G_spec_l8None : Env := (69, S_spec_l8None) :: G_spec_l8Value
def G_spec_l8Last : Env := (87, S_spec_l8Last) :: G_spec_l8None
def G_spec_SlotFault : Env := (31, S_spec_SlotFault) :: G_spec_l8Last
def G_spec_l8Copy : Env := (93, S_spec_l8Copy) :: G_spec_SlotFault
def G_spec_AcceptSlot : Env := (39, S_spec_AcceptSlot) :: G_spec_l8Copy
def G_impl_within : Env := (65, S_impl_within) :: G_spec_AcceptSlot
def G_impl_isId : Env := (83, S_impl_isId) :: G_impl_within
def G_impl_isShard : Env := (84, S_impl_isShard) :: G_impl_isId
def G_impl_isBallot : Env := (91, S_impl_isBallot) :: G_impl_isShard
def G_impl_isValue : Env := (76, S_impl_isValue) :: G_impl_isBallot
def G_impl_isVote : Env := (75, S_impl_isVote) :: G_impl_isValue
def G_impl_castFault : Env := (88, S_impl_castFault) :: G_impl_isVote
def G_impl_noVote : Env := (74, S_impl_noVote) :: G_impl_castFault
def G_impl_lastCast : Env := (89, S_impl_lastCast) :: G_impl_noVote
def G_impl_SlotFault : Env := (33, S_impl_SlotFault) :: G_impl_lastCast
def G_slices_Clone_impl_Vote_impl_Vote : Env := (112, S_slices_Clone_impl_Vote_impl_Vote) :: G_impl_SlotFault
def G_impl_copySlot : Env := (92, S_impl_copySlot) :: G_slices_Clone_impl_Vote_impl_Vote
def G_impl_AcceptSlot : Env := (38, S_impl_AcceptSlot) :: G_impl_copySlot
def G_laws_eqVote : Env := (81, S_laws_eqVote) :: G_impl_AcceptSlot
def G_laws_eqVoteS : Env := (24, S_laws_eqVoteS) :: G_laws_eqVote
def G_laws_eqSlot : Env := (34, S_laws_eqSlot) :: G_laws_eqVoteS
def G_laws_eqSlotResult : Env := (27, S_laws_eqSlotResult) :: G_laws_eqSlot
def G_laws_heldVoteS : Env := (111, S_laws_heldVoteS) :: G_laws_eqSlotResult
def G_laws_heldSlot : Env := (86, S_laws_heldSlot) :: G_laws_heldVoteS
def G_laws_heldSlotResult : Env := (29, S_laws_heldSlotResult) :: G_laws_heldSlot
def G_laws_FnExactAcceptSlot : Env := (10, S_laws_FnExactAcceptSlot) :: G_laws_heldSlotResult
end
end Go.RvP
