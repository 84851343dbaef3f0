/- The plain functions that the evaluator comes to, for FnPromises. No condition. -/
import Derived.Test.YtekndmbpphncmaaRvL
namespace Go.RvP
open Go Go.Rv
noncomputable section
/-! laws.lwBig -/
def p_laws_lwBig (n : Nat) (x : (List Int)) : Option Bool :=
some (decide ((lenI x) > (1048576 : Int)))
def m_laws_lwBig (x : (List Int)) : Option Bool := p_laws_lwBig FU x
def a_laws_lwBig : Ann := .leaf
def S_laws_lwBig : FSpec := ⟨[.val (.sl none (.int .u8))], [.bool], m_laws_lwBig⟩

/-! spec.l1Next -/
def p_spec_l1Next (n : Nat) (x : (((List Int) × Int) × Int)) : Option (Int × ((List Int) × Int)) :=
(cond (decide (x.2 < (1 : Int)))
 (some ((0 : Int), (x.1.1, IntKind.wrap .i64 (x.1.2 + (1 : Int)))))
 (cond ((lenI x.1.1) == (0 : Int))
  (cond (x.2 == 0) none
   (some (Int.tmod (IntKind.wrap .i64 ((IntKind.wrap .i64 ((IntKind.wrap .i64 (x.1.2 + (1 : Int))) - (1 : Int))) * (7 : Int))) x.2, (x.1.1, IntKind.wrap .i64 (x.1.2 + (1 : Int))))))
  (cond ((lenI x.1.1) == 0) none
   ((geti x.1.1 (Int.tmod (IntKind.wrap .i64 ((IntKind.wrap .i64 (x.1.2 + (1 : Int))) - (1 : Int))) (lenI x.1.1))).bind fun y1 =>
   (cond ((lenI x.1.1) == 0) none
    (cond (decide (x.2 > (200 : Int)))
     (cond ((lenI x.1.1) == 0) none
      ((geti x.1.1 (Int.tmod (IntKind.wrap .i64 ((IntKind.wrap .i64 ((IntKind.wrap .i64 (x.1.2 + (1 : Int))) - (1 : Int))) + (1 : Int))) (lenI x.1.1))).bind fun y2 =>
      (cond (x.2 == 0) none
       (some (Int.tmod (IntKind.wrap .i64 ((IntKind.wrap .i64 ((IntKind.wrap .i64 ((IntKind.wrap .i64 ((IntKind.wrap .i64 y1) + (IntKind.wrap .i64 ((IntKind.wrap .i64 (Int.tdiv (IntKind.wrap .i64 ((IntKind.wrap .i64 (x.1.2 + (1 : Int))) - (1 : Int))) (lenI x.1.1))) * (37 : Int))))) * (251 : Int))) + (IntKind.wrap .i64 ((IntKind.wrap .i64 y2) * (13 : Int))))) + (IntKind.wrap .i64 ((IntKind.wrap .i64 (x.1.2 + (1 : Int))) - (1 : Int))))) x.2, (x.1.1, IntKind.wrap .i64 (x.1.2 + (1 : Int))))))))
     (cond (x.2 == 0) none
      (some (Int.tmod (IntKind.wrap .i64 ((IntKind.wrap .i64 y1) + (IntKind.wrap .i64 ((IntKind.wrap .i64 (Int.tdiv (IntKind.wrap .i64 ((IntKind.wrap .i64 (x.1.2 + (1 : Int))) - (1 : Int))) (lenI x.1.1))) * (37 : Int))))) x.2, (x.1.1, IntKind.wrap .i64 (x.1.2 + (1 : Int))))))))))))
def m_spec_l1Next (x : (((List Int) × Int) × Int)) : Option (Int × ((List Int) × Int)) := p_spec_l1Next FU x
def a_spec_l1Next : Ann := .leaf
def S_spec_l1Next : FSpec := ⟨[.box (.pair (.sl none (.int .u8)) (.int .i64)), .val (.int .i64)], [(.int .i64)], m_spec_l1Next⟩

/-! spec.l1In -/
def p_spec_l1In (n : Nat) (x : (Int × (Int × Int))) : Option Bool :=
(cond (decide (x.1 ≥ x.2.1))
 (some (decide (x.1 ≤ x.2.2)))
 (some false))
def m_spec_l1In (x : (Int × (Int × Int))) : Option Bool := p_spec_l1In FU x
def a_spec_l1In : Ann := .leaf
def S_spec_l1In : FSpec := ⟨[.val (.int .i64), .val (.int .i64), .val (.int .i64)], [.bool], m_spec_l1In⟩

/-! spec.l1Id -/
def p_spec_l1Id (n : Nat) (x : Int) : Option Bool :=
((m_spec_l1In (x, (1 : Int), (1000000000 : Int))).bind fun r1 =>
some r1)
def m_spec_l1Id (x : Int) : Option Bool := p_spec_l1Id FU x
def a_spec_l1Id : Ann := .leaf
def S_spec_l1Id : FSpec := ⟨[.val (.int .i64)], [.bool], m_spec_l1Id⟩

/-! spec.l8None -/
def p_spec_l8None (n : Nat) (x : Unit) : Option (Int × Int) :=
some ((-1 : Int), (0 : Int))
def m_spec_l8None (x : Unit) : Option (Int × Int) := p_spec_l8None FU x
def a_spec_l8None : Ann := .leaf
def S_spec_l8None : FSpec := ⟨[], [(.pair (.int .i64) (.int .i64))], m_spec_l8None⟩

/-! spec.NewSlot -/
def p_spec_NewSlot (n : Nat) (x : (Int × Int)) : Option (Int × ((Int × Int) × (Int × (Int × (Int × ((Int × Int) × (List (Int × Int)))))))) :=
(Option.bind (α := Bool)
 ((m_spec_l1Id x.1).bind fun r3 =>
 (cond (!r3)
  (some true)
  ((m_spec_l1In (x.2, (0 : Int), (2 : Int))).bind fun r4 =>
  some (!r4)))) fun j5 =>
(cond j5
 (some ((3 : Int), (((0 : Int), (0 : Int)), ((0 : Int), ((0 : Int), ((0 : Int), (((0 : Int), (0 : Int)), [])))))))
 ((m_spec_l8None ()).bind fun r6 =>
 some ((0 : Int), (((0 : Int), (0 : Int)), (x.1, (x.2, ((-1 : Int), (r6, [])))))))))
def m_spec_NewSlot (x : (Int × Int)) : Option (Int × ((Int × Int) × (Int × (Int × (Int × ((Int × Int) × (List (Int × Int)))))))) := p_spec_NewSlot FU x
def a_spec_NewSlot : Ann := (.node .leaf (.node (.join [.slot 12 .bool] [5, 6, 7, 8, 9, 10, 11] .leaf .leaf) .leaf))
def S_spec_NewSlot : FSpec := ⟨[.val (.int .i64), .val (.int .i64)], [(.pair (.int .i64) (.pair (.pair (.int .i64) (.int .i64)) (.pair (.int .i64) (.pair (.int .i64) (.pair (.int .i64) (.pair (.pair (.int .i64) (.int .i64)) (.sl (some 34) (.pair (.int .i64) (.int .i64)))))))))], m_spec_NewSlot⟩

/-! spec.l8Ballot -/
def p_spec_l8Ballot (n : Nat) (x : Int) : Option Bool :=
((m_spec_l1In (x, (0 : Int), (1000 : Int))).bind fun r1 =>
some r1)
def m_spec_l8Ballot (x : Int) : Option Bool := p_spec_l8Ballot FU x
def a_spec_l8Ballot : Ann := .leaf
def S_spec_l8Ballot : FSpec := ⟨[.val (.int .i64)], [.bool], m_spec_l8Ballot⟩

/-! spec.l8Value -/
def p_spec_l8Value (n : Nat) (x : Int) : Option Bool :=
(cond (x == (1 : Int))
 (some true)
 (some (x == (2 : Int))))
def m_spec_l8Value (x : Int) : Option Bool := p_spec_l8Value FU x
def a_spec_l8Value : Ann := .leaf
def S_spec_l8Value : FSpec := ⟨[.val (.int .i64)], [.bool], m_spec_l8Value⟩

/-! spec.l8Last -/
def p_spec_l8Last (n : Nat) (x : (Int × (Int × (Int × ((Int × Int) × (List (Int × Int))))))) : Option (Int × Int) :=
(cond ((lenI x.2.2.2.2) == (0 : Int))
 ((m_spec_l8None ()).bind fun r1 =>
 some r1)
 ((geti x.2.2.2.2 (IntKind.wrap .i64 ((lenI x.2.2.2.2) - (1 : Int)))).bind fun y2 =>
 some y2))
def m_spec_l8Last (x : (Int × (Int × (Int × ((Int × Int) × (List (Int × Int))))))) : Option (Int × Int) := p_spec_l8Last FU x
def a_spec_l8Last : Ann := .leaf
def S_spec_l8Last : FSpec := ⟨[.val (.pair (.int .i64) (.pair (.int .i64) (.pair (.int .i64) (.pair (.pair (.int .i64) (.int .i64)) (.sl none (.pair (.int .i64) (.int .i64)))))))], [(.pair (.int .i64) (.int .i64))], m_spec_l8Last⟩

/-! spec.SlotFault -/
def l_spec_SlotFault_1 (n : Nat) (x_2_2_2_2 : (List (Int × Int))) (z0 : Int) : Option (Unit ⊕ Int) :=
(lp (fun rec53 (z52 : Int) =>
 (cond (decide (z52 < (lenI x_2_2_2_2)))
  ((geti x_2_2_2_2 z52).bind fun y54 =>
  (Option.bind (α := Bool)
   ((m_spec_l8Ballot y54.1).bind fun r57 =>
   (cond (!r57)
    (some true)
    ((m_spec_l8Value y54.2).bind fun r58 =>
    some (!r58)))) fun j59 =>
  (cond j59
   (some (Sum.inr (3 : Int)))
   (Option.bind (α := Bool)
    (cond (decide (z52 > (0 : Int)))
     ((geti x_2_2_2_2 (IntKind.wrap .i64 (z52 - (1 : Int)))).bind fun y63 =>
     (cond (decide (y54.1 < y63.1))
      (some true)
      ((geti x_2_2_2_2 (IntKind.wrap .i64 (z52 - (1 : Int)))).bind fun y64 =>
      (cond (y54.1 == y64.1)
       ((geti x_2_2_2_2 (IntKind.wrap .i64 (z52 - (1 : Int)))).bind fun y65 =>
       some (!(y54.2 == y65.2)))
       (some false)))))
     (some false)) fun j66 =>
   (cond j66
    (some (Sum.inr (1 : Int)))
    (rec53 (IntKind.wrap .i64 (z52 + (1 : Int)))))))))
  (some (Sum.inl ())))) n z0)
def p_spec_SlotFault (n : Nat) (x : (Int × (Int × (Int × ((Int × Int) × (List (Int × Int))))))) : Option Int :=
(Option.bind (α := Bool)
 ((m_spec_l1Id x.1).bind fun r4 =>
 (cond (!r4)
  (some true)
  ((m_spec_l1In (x.2.1, (0 : Int), (2 : Int))).bind fun r5 =>
  (cond (!r5)
   (some true)
   ((m_spec_l1In (x.2.2.1, (-1 : Int), (1000 : Int))).bind fun r6 =>
   some (!r6)))))) fun j7 =>
(cond j7
 (some (3 : Int))
 (cond (decide ((lenI x.2.2.2.2) > (60 : Int)))
  (some (2 : Int))
  (Option.bind (α := (Unit ⊕ Int))
   (l_spec_SlotFault_1 n x.2.2.2.2 (0 : Int))
   (Sum.elim (fun j68 =>
  (Option.bind (α := Bool)
   ((m_spec_l8Last x).bind fun r70 =>
   (cond (!((x.2.2.2.1.1 == r70.1) && ((x.2.2.2.1.2 == r70.2) && true)))
    (some true)
    (some (decide (x.2.2.2.1.1 > x.2.2.1))))) fun j71 =>
  (cond j71
   (some (1 : Int))
   (some (0 : Int))))) some)))))
def m_spec_SlotFault (x : (Int × (Int × (Int × ((Int × Int) × (List (Int × Int))))))) : Option Int := p_spec_SlotFault FU x
def a_spec_SlotFault : Ann := (.node .leaf (.node (.join [.slot 20 .bool] [5, 6, 7, 8, 9, 10, 11, 12, 13, 14, 15, 16, 17, 18, 19] .leaf .leaf) (.node .leaf (.joinx [] [2, 3, 4, 25, 26, 27, 28, 29, 30, 31, 32, 33, 34, 35, 36, 37, 38, 39, 40, 41, 42, 43, 44, 45, 46, 47, 48, 49, 50, 51, 52, 53, 54, 55, 56, 57, 58, 59, 60, 61, 62, 63, 64, 65, 66, 67, 68, 69, 70, 71, 72, 73, 74, 75, 76, 77, 78, 79, 80, 81, 82, 83, 84] (.node .leaf (.loop [.slot 3 (.int .i64)] [2, 4, 25, 26, 27, 28, 29, 30, 31, 32, 33, 34, 35, 36, 37, 38, 39, 40, 41, 42, 43, 44, 45, 46, 47, 48, 49, 50, 51, 52, 53, 54, 55, 56, 57, 58, 59, 60, 61, 62, 63, 64, 65, 66, 67, 68, 69, 70, 71, 72, 73, 74, 75, 76, 77, 78, 79, 80, 81, 82, 83, 84] (.node .leaf (.node (.node .leaf (.node (.join [.slot 46 .bool] [37, 38, 39, 40, 41, 42, 43, 44, 45] .leaf .leaf) (.join [.slot 84 .bool] [47, 48, 49, 50, 51, 52, 53, 54, 55, 56, 57, 58, 59, 60, 61, 62, 63, 64, 65, 66, 67, 68, 69, 70, 71, 72, 73, 74, 75, 76, 77, 78, 79, 80, 81, 82, 83] .leaf .leaf))) .leaf)))) (.node (.join [.slot 97 .bool] [85, 86, 87, 88, 89, 90, 91, 92, 93, 94, 95, 96] .leaf .leaf) .leaf)))))
def S_spec_SlotFault : FSpec := ⟨[.val (.pair (.int .i64) (.pair (.int .i64) (.pair (.int .i64) (.pair (.pair (.int .i64) (.int .i64)) (.sl none (.pair (.int .i64) (.int .i64)))))))], [(.int .i64)], m_spec_SlotFault⟩

/-! spec.l8Copy -/
def p_spec_l8Copy (n : Nat) (x : (Int × (Int × (Int × ((Int × Int) × (List (Int × Int))))))) : Option (Int × (Int × (Int × ((Int × Int) × (List (Int × Int)))))) :=
(chk (Nat.ble ((([] : List (Int × Int)).length + x.2.2.2.2.length) * 16) maxBytes)
(some (x.1, (x.2.1, (x.2.2.1, (x.2.2.2.1, (([] : List (Int × Int)) ++ x.2.2.2.2)))))))
def m_spec_l8Copy (x : (Int × (Int × (Int × ((Int × Int) × (List (Int × Int))))))) : Option (Int × (Int × (Int × ((Int × Int) × (List (Int × Int)))))) := p_spec_l8Copy FU x
def a_spec_l8Copy : Ann := .leaf
def S_spec_l8Copy : FSpec := ⟨[.val (.pair (.int .i64) (.pair (.int .i64) (.pair (.int .i64) (.pair (.pair (.int .i64) (.int .i64)) (.sl none (.pair (.int .i64) (.int .i64)))))))], [(.pair (.int .i64) (.pair (.int .i64) (.pair (.int .i64) (.pair (.pair (.int .i64) (.int .i64)) (.sl (some 34) (.pair (.int .i64) (.int .i64)))))))], m_spec_l8Copy⟩

/-! spec.PromiseSlot -/
def p_spec_PromiseSlot (n : Nat) (x : ((Int × (Int × (Int × ((Int × Int) × (List (Int × Int)))))) × Int)) : Option (Int × ((Int × Int) × (Int × (Int × (Int × ((Int × Int) × (List (Int × Int)))))))) :=
((m_spec_SlotFault x.1).bind fun r1 =>
(cond (!(r1 == (0 : Int)))
 (some (r1, (((0 : Int), (0 : Int)), ((0 : Int), ((0 : Int), ((0 : Int), (((0 : Int), (0 : Int)), [])))))))
 ((m_spec_l8Ballot x.2).bind fun r2 =>
 (cond (!r2)
  (some ((3 : Int), (((0 : Int), (0 : Int)), ((0 : Int), ((0 : Int), ((0 : Int), (((0 : Int), (0 : Int)), [])))))))
  (cond (decide (x.2 < x.1.2.2.1))
   (some ((8 : Int), (((0 : Int), (0 : Int)), ((0 : Int), ((0 : Int), ((0 : Int), (((0 : Int), (0 : Int)), [])))))))
   ((m_spec_l8Copy x.1).bind fun r3 =>
   some ((0 : Int), (x.1.2.2.2.1, (r3.1, (r3.2.1, (x.2, r3.2.2.2)))))))))))
def m_spec_PromiseSlot (x : ((Int × (Int × (Int × ((Int × Int) × (List (Int × Int)))))) × Int)) : Option (Int × ((Int × Int) × (Int × (Int × (Int × ((Int × Int) × (List (Int × Int)))))))) := p_spec_PromiseSlot FU x
def a_spec_PromiseSlot : Ann := .leaf
def S_spec_PromiseSlot : FSpec := ⟨[.val (.pair (.int .i64) (.pair (.int .i64) (.pair (.int .i64) (.pair (.pair (.int .i64) (.int .i64)) (.sl none (.pair (.int .i64) (.int .i64))))))), .val (.int .i64)], [(.pair (.int .i64) (.pair (.pair (.int .i64) (.int .i64)) (.pair (.int .i64) (.pair (.int .i64) (.pair (.int .i64) (.pair (.pair (.int .i64) (.int .i64)) (.sl (some 34) (.pair (.int .i64) (.int .i64)))))))))], m_spec_PromiseSlot⟩

/-! spec.l1Chance -/
def p_spec_l1Chance (n : Nat) (x : (((List Int) × Int) × Int)) : Option (Bool × ((List Int) × Int)) :=
((m_spec_l1Next (x.1, x.2)).bind fun r1 =>
some ((r1.1 == (0 : Int)), r1.2))
def m_spec_l1Chance (x : (((List Int) × Int) × Int)) : Option (Bool × ((List Int) × Int)) := p_spec_l1Chance FU x
def a_spec_l1Chance : Ann := .leaf
def S_spec_l1Chance : FSpec := ⟨[.box (.pair (.sl none (.int .u8)) (.int .i64)), .val (.int .i64)], [.bool], m_spec_l1Chance⟩

/-! spec.AcceptSlot -/
def p_spec_AcceptSlot (n : Nat) (x : ((Int × (Int × (Int × ((Int × Int) × (List (Int × Int)))))) × (Int × Int))) : Option (Int × ((Int × Int) × (Int × (Int × (Int × ((Int × Int) × (List (Int × Int)))))))) :=
((m_spec_SlotFault x.1).bind fun r1 =>
(cond (!(r1 == (0 : Int)))
 (some (r1, (((0 : Int), (0 : Int)), ((0 : Int), ((0 : Int), ((0 : Int), (((0 : Int), (0 : Int)), [])))))))
 (Option.bind (α := Bool)
  ((m_spec_l8Ballot x.2.1).bind fun r4 =>
  (cond (!r4)
   (some true)
   ((m_spec_l8Value x.2.2).bind fun r5 =>
   some (!r5)))) fun j6 =>
 (cond j6
  (some ((3 : Int), (((0 : Int), (0 : Int)), ((0 : Int), ((0 : Int), ((0 : Int), (((0 : Int), (0 : Int)), [])))))))
  (cond (decide (x.2.1 < x.1.2.2.1))
   (some ((8 : Int), (((0 : Int), (0 : Int)), ((0 : Int), ((0 : Int), ((0 : Int), (((0 : Int), (0 : Int)), [])))))))
   (Option.bind (α := Bool)
    (cond (x.2.1 == x.1.2.2.2.1.1)
     (some (!(x.2.2 == x.1.2.2.2.1.2)))
     (some false)) fun j7 =>
   (cond j7
    (some ((7 : Int), (((0 : Int), (0 : Int)), ((0 : Int), ((0 : Int), ((0 : Int), (((0 : Int), (0 : Int)), [])))))))
    ((m_spec_l8Copy x.1).bind fun r8 =>
    (Option.bind (α := ((Int × (Int × (Int × ((Int × Int) × (List (Int × Int)))))) ⊕ (Int × ((Int × Int) × (Int × (Int × (Int × ((Int × Int) × (List (Int × Int))))))))))
     (cond (!((x.2.1 == x.1.2.2.2.1.1) && ((x.2.2 == x.1.2.2.2.1.2) && true)))
      (cond (decide ((lenI x.1.2.2.2.2) ≥ (60 : Int)))
       (some (Sum.inr ((2 : Int), (((0 : Int), (0 : Int)), ((0 : Int), ((0 : Int), ((0 : Int), (((0 : Int), (0 : Int)), []))))))))
       (chk (Nat.ble ((r8.2.2.2.2.length + [x.2].length) * 16) maxBytes)
       (some (Sum.inl (r8.1, (r8.2.1, (x.2.1, (r8.2.2.2.1, (r8.2.2.2.2 ++ [x.2])))))))))
      (some (Sum.inl (r8.1, (r8.2.1, (x.2.1, r8.2.2.2))))))
     (Sum.elim (fun j9 =>
    some ((0 : Int), (x.1.2.2.2.1, (j9.1, (j9.2.1, (j9.2.2.1, (x.2, j9.2.2.2.2))))))) some))))))))))
def m_spec_AcceptSlot (x : ((Int × (Int × (Int × ((Int × Int) × (List (Int × Int)))))) × (Int × Int))) : Option (Int × ((Int × Int) × (Int × (Int × (Int × ((Int × Int) × (List (Int × Int)))))))) := p_spec_AcceptSlot FU x
def a_spec_AcceptSlot : Ann := (.node .leaf (.node .leaf (.node (.join [.slot 23 .bool] [16, 17, 18, 19, 20, 21, 22] .leaf .leaf) (.node (.reg 30 (.node .leaf (.node .leaf (.node (.join [.slot 26 .bool] [13, 14, 15, 16, 17, 18, 19, 20, 21, 22, 23, 24, 25] .leaf .leaf) (.node .leaf (.node .leaf (.joinx [.box 6 (.pair (.int .i64) (.pair (.int .i64) (.pair (.int .i64) (.pair (.pair (.int .i64) (.int .i64)) (.sl (some 34) (.pair (.int .i64) (.int .i64)))))))] [33, 34, 35, 36, 37, 38, 39, 40, 42, 43, 44, 45, 46, 47] .leaf .leaf)))))) .leaf) .leaf))))
def S_spec_AcceptSlot : FSpec := ⟨[.val (.pair (.int .i64) (.pair (.int .i64) (.pair (.int .i64) (.pair (.pair (.int .i64) (.int .i64)) (.sl none (.pair (.int .i64) (.int .i64))))))), .val (.int .i64), .val (.int .i64)], [(.pair (.int .i64) (.pair (.pair (.int .i64) (.int .i64)) (.pair (.int .i64) (.pair (.int .i64) (.pair (.int .i64) (.pair (.pair (.int .i64) (.int .i64)) (.sl (some 34) (.pair (.int .i64) (.int .i64)))))))))], m_spec_AcceptSlot⟩

/-! spec.l1Pick -/
def p_spec_l1Pick (n : Nat) (x : (((List Int) × Int) × (List Int))) : Option (Int × ((List Int) × Int)) :=
((m_spec_l1Next (x.1, lenI x.2)).bind fun r1 =>
((geti x.2 r1.1).bind fun y2 =>
some (y2, r1.2)))
def m_spec_l1Pick (x : (((List Int) × Int) × (List Int))) : Option (Int × ((List Int) × Int)) := p_spec_l1Pick FU x
def a_spec_l1Pick : Ann := .leaf
def S_spec_l1Pick : FSpec := ⟨[.box (.pair (.sl none (.int .u8)) (.int .i64)), .val (.sl none (.int .i64))], [(.int .i64)], m_spec_l1Pick⟩

/-! spec.l8Slot -/
def l_spec_l8Slot_1 (n : Nat)  (z0 : (Int × (((List Int) × Int) × (Int × (Int × (Int × ((Int × Int) × (List (Int × Int))))))))) : Option (((List Int) × Int) × (Int × (Int × (Int × ((Int × Int) × (List (Int × Int))))))) :=
(lp (fun rec59 (z58 : (Int × (((List Int) × Int) × (Int × (Int × (Int × ((Int × Int) × (List (Int × Int))))))))) =>
 (cond (decide (z58.1 > (0 : Int)))
  ((m_spec_l1Next (z58.2.1, (8 : Int))).bind fun r60 =>
  ((m_spec_PromiseSlot (z58.2.2, r60.1)).bind fun r61 =>
  (Option.bind (α := (((List Int) × Int) × (Int × ((Int × Int) × (Int × (Int × (Int × ((Int × Int) × (List (Int × Int))))))))))
   ((m_spec_l1Chance (r60.2, (2 : Int))).bind fun r65 =>
   (cond r65.1
    ((m_spec_l1Next (r65.2, (2 : Int))).bind fun r66 =>
    ((m_spec_AcceptSlot (z58.2.2, r60.1, IntKind.wrap .i64 ((1 : Int) + r66.1))).bind fun r67 =>
    some (r66.2, r67)))
    (some (r65.2, r61)))) fun j68 =>
  (cond (j68.2.1 == (0 : Int))
   (rec59 (IntKind.wrap .i64 (z58.1 - (1 : Int)), j68.1, j68.2.2.2))
   (rec59 (IntKind.wrap .i64 (z58.1 - (1 : Int)), j68.1, z58.2.2))))))
  (some (z58.2.1, z58.2.2)))) n z0)
def p_spec_l8Slot (n : Nat) (x : ((List Int) × Int)) : Option ((Int × (Int × (Int × ((Int × Int) × (List (Int × Int)))))) × ((List Int) × Int)) :=
((m_spec_l1Next (x, (2 : Int))).bind fun r1 =>
((m_spec_l1Next (r1.2, (2 : Int))).bind fun r2 =>
((m_spec_NewSlot (IntKind.wrap .i64 ((1 : Int) + r1.1), r2.1)).bind fun r3 =>
(Option.bind (α := (((List Int) × Int) × (Int × (Int × (Int × ((Int × Int) × (List (Int × Int))))))))
 ((m_spec_l1Next (r2.2, (7 : Int))).bind fun r37 =>
 (l_spec_l8Slot_1 n  (r37.1, r37.2, r3.2.2))) fun j70 =>
((m_spec_l1Next (j70.1, (24 : Int))).bind fun r71 =>
(cond (r71.1 == (0 : Int))
 ((m_spec_l1Pick (r71.2, [(0 : Int), (-1 : Int), (1000000001 : Int)])).bind fun r72 =>
 some ((r72.1, j70.2.2), r72.2))
 (cond (r71.1 == (1 : Int))
  ((m_spec_l1Pick (r71.2, [(-1 : Int), (3 : Int)])).bind fun r73 =>
  some ((j70.2.1, (r73.1, j70.2.2.2)), r73.2))
  (cond (r71.1 == (2 : Int))
   ((m_spec_l1Pick (r71.2, [(-2 : Int), (-1 : Int), (1000 : Int), (1001 : Int)])).bind fun r74 =>
   some ((j70.2.1, (j70.2.2.1, (r74.1, j70.2.2.2.2))), r74.2))
   (cond (r71.1 == (3 : Int))
    (some ((j70.2.1, (j70.2.2.1, (j70.2.2.2.1, (((3 : Int), (1 : Int)), j70.2.2.2.2.2)))), r71.2))
    (cond (r71.1 == (4 : Int))
     ((m_spec_l1Pick (r71.2, [(0 : Int), (-1 : Int), (2000 : Int)])).bind fun r75 =>
     ((m_spec_l1Pick (r75.2, [(1 : Int), (2 : Int), (0 : Int), (3 : Int)])).bind fun r76 =>
     (chk (Nat.ble ((j70.2.2.2.2.2.length + [(r75.1, r76.1)].length) * 16) maxBytes)
     (some ((j70.2.1, (j70.2.2.1, (j70.2.2.2.1, (j70.2.2.2.2.1, (j70.2.2.2.2.2 ++ [(r75.1, r76.1)]))))), r76.2)))))
     (cond (r71.1 == (5 : Int))
      (if (61 : Int) = (61 : Int) then (if 0 ≤ (61 : Int) then chk (Nat.ble (16 * (61 : Int).toNat) maxBytes)
      (some ((j70.2.1, (j70.2.2.1, (j70.2.2.2.1, (j70.2.2.2.2.1, (List.replicate (61 : Int).toNat ((0 : Int), (0 : Int))))))), r71.2)) else none) else none)
      (some (j70.2, r71.2)))))))))))))
def m_spec_l8Slot (x : ((List Int) × Int)) : Option ((Int × (Int × (Int × ((Int × Int) × (List (Int × Int)))))) × ((List Int) × Int)) := p_spec_l8Slot FU x
def a_spec_l8Slot : Ann := (.node .leaf (.node .leaf (.join [.box 0 (.pair (.sl none (.int .u8)) (.int .i64)), .box 3 (.pair (.int .i64) (.pair (.int .i64) (.pair (.int .i64) (.pair (.pair (.int .i64) (.int .i64)) (.sl (some 34) (.pair (.int .i64) (.int .i64)))))))] [4, 5, 6, 14, 15, 16, 17, 18, 19, 20, 21, 22, 23, 24, 25, 26, 27, 28, 29, 30, 31, 32, 33, 34, 35, 36, 37] (.node .leaf (.loop [.slot 4 (.int .i64), .box 0 (.pair (.sl none (.int .u8)) (.int .i64)), .box 3 (.pair (.int .i64) (.pair (.int .i64) (.pair (.int .i64) (.pair (.pair (.int .i64) (.int .i64)) (.sl (some 34) (.pair (.int .i64) (.int .i64)))))))] [5, 6, 16, 17, 18, 19, 20, 21, 22, 23, 24, 25, 26, 27, 28, 29, 30, 31, 32, 33, 34, 35, 36, 37] (.node .leaf (.node (.node .leaf (.node .leaf (.join [.box 0 (.pair (.sl none (.int .u8)) (.int .i64)), .box 6 (.pair (.int .i64) (.pair (.pair (.int .i64) (.int .i64)) (.pair (.int .i64) (.pair (.int .i64) (.pair (.int .i64) (.pair (.pair (.int .i64) (.int .i64)) (.sl (some 34) (.pair (.int .i64) (.int .i64)))))))))] [25, 26, 27, 28, 29, 30, 31, 32] .leaf .leaf))) .leaf)))) (.node (.node .leaf (.node .leaf (.node .leaf (.node .leaf (.node .leaf (.node .leaf (.node .leaf (.node .leaf (.node .leaf (.node .leaf (.node (.lazy 73 (.lazy 70 (.lazy 67 .leaf))) .leaf))))))))))) .leaf))))
def S_spec_l8Slot : FSpec := ⟨[.box (.pair (.sl none (.int .u8)) (.int .i64))], [(.pair (.int .i64) (.pair (.int .i64) (.pair (.int .i64) (.pair (.pair (.int .i64) (.int .i64)) (.sl (some 34) (.pair (.int .i64) (.int .i64)))))))], m_spec_l8Slot⟩

/-! spec.DrawPromiseSlot -/
def p_spec_DrawPromiseSlot (n : Nat) (x : (List Int)) : Option ((Int × (Int × (Int × ((Int × Int) × (List (Int × Int)))))) × Int) :=
((m_spec_l8Slot (x, (0 : Int))).bind fun r1 =>
((m_spec_l1Next (r1.2, (9 : Int))).bind fun r2 =>
((m_spec_l1Next (r2.2, (9 : Int))).bind fun r3 =>
((m_spec_l1Pick (r3.2, [r2.1, r3.1, (1000 : Int), (1001 : Int), (-1 : Int)])).bind fun r4 =>
some (r1.1, r4.1)))))
def m_spec_DrawPromiseSlot (x : (List Int)) : Option ((Int × (Int × (Int × ((Int × Int) × (List (Int × Int)))))) × Int) := p_spec_DrawPromiseSlot FU x
def a_spec_DrawPromiseSlot : Ann := (.node .leaf (.node .leaf (.node .leaf (.node (.lazy 16 .leaf) .leaf))))
def S_spec_DrawPromiseSlot : FSpec := ⟨[.val (.sl none (.int .u8))], [(.pair (.int .i64) (.pair (.int .i64) (.pair (.int .i64) (.pair (.pair (.int .i64) (.int .i64)) (.sl (some 34) (.pair (.int .i64) (.int .i64))))))), (.int .i64)], m_spec_DrawPromiseSlot⟩

/-! impl.within -/
def p_impl_within (n : Nat) (x : (Int × (Int × Int))) : Option Bool :=
(cond (decide (x.1 ≥ x.2.1))
 (some (decide (x.1 ≤ x.2.2)))
 (some false))
def m_impl_within (x : (Int × (Int × Int))) : Option Bool := p_impl_within FU x
def a_impl_within : Ann := .leaf
def S_impl_within : FSpec := ⟨[.val (.int .i64), .val (.int .i64), .val (.int .i64)], [.bool], m_impl_within⟩

/-! impl.isId -/
def p_impl_isId (n : Nat) (x : Int) : Option Bool :=
((m_impl_within (x, (1 : Int), (1000000000 : Int))).bind fun r1 =>
some r1)
def m_impl_isId (x : Int) : Option Bool := p_impl_isId FU x
def a_impl_isId : Ann := .leaf
def S_impl_isId : FSpec := ⟨[.val (.int .i64)], [.bool], m_impl_isId⟩

/-! impl.isShard -/
def p_impl_isShard (n : Nat) (x : Int) : Option Bool :=
((m_impl_within (x, (0 : Int), (2 : Int))).bind fun r1 =>
some r1)
def m_impl_isShard (x : Int) : Option Bool := p_impl_isShard FU x
def a_impl_isShard : Ann := .leaf
def S_impl_isShard : FSpec := ⟨[.val (.int .i64)], [.bool], m_impl_isShard⟩

/-! impl.isBallot -/
def p_impl_isBallot (n : Nat) (x : Int) : Option Bool :=
((m_impl_within (x, (0 : Int), (1000 : Int))).bind fun r1 =>
some r1)
def m_impl_isBallot (x : Int) : Option Bool := p_impl_isBallot FU x
def a_impl_isBallot : Ann := .leaf
def S_impl_isBallot : FSpec := ⟨[.val (.int .i64)], [.bool], m_impl_isBallot⟩

/-! impl.isValue -/
def p_impl_isValue (n : Nat) (x : Int) : Option Bool :=
(cond (x == (1 : Int))
 (some true)
 (some (x == (2 : Int))))
def m_impl_isValue (x : Int) : Option Bool := p_impl_isValue FU x
def a_impl_isValue : Ann := .leaf
def S_impl_isValue : FSpec := ⟨[.val (.int .i64)], [.bool], m_impl_isValue⟩

/-! impl.isVote -/
def p_impl_isVote (n : Nat) (x : (Int × Int)) : Option Bool :=
((m_impl_isBallot x.1).bind fun r1 =>
(cond r1
 ((m_impl_isValue x.2).bind fun r2 =>
 some r2)
 (some false)))
def m_impl_isVote (x : (Int × Int)) : Option Bool := p_impl_isVote FU x
def a_impl_isVote : Ann := .leaf
def S_impl_isVote : FSpec := ⟨[.val (.pair (.int .i64) (.int .i64))], [.bool], m_impl_isVote⟩

/-! impl.castFault -/
def l_impl_castFault_1 (n : Nat) (x : (List (Int × Int))) (z0 : Int) : Option Int :=
(lp (fun rec12 (z11 : Int) =>
 (cond (decide (z11 < (lenI x)))
  ((geti x z11).bind fun y13 =>
  ((m_impl_isVote y13).bind fun r14 =>
  (cond (!r14)
   (some (3 : Int))
   (Option.bind (α := Bool)
    (cond (decide (z11 > (0 : Int)))
     ((geti x (IntKind.wrap .i64 (z11 - (1 : Int)))).bind fun y18 =>
     (cond (decide (y13.1 < y18.1))
      (some true)
      ((geti x (IntKind.wrap .i64 (z11 - (1 : Int)))).bind fun y19 =>
      (cond (y13.1 == y19.1)
       ((geti x (IntKind.wrap .i64 (z11 - (1 : Int)))).bind fun y20 =>
       some (!(y13.2 == y20.2)))
       (some false)))))
     (some false)) fun j21 =>
   (cond j21
    (some (1 : Int))
    (rec12 (IntKind.wrap .i64 (z11 + (1 : Int)))))))))
  (some (0 : Int)))) n z0)
def p_impl_castFault (n : Nat) (x : (List (Int × Int))) : Option Int :=
(l_impl_castFault_1 n x (0 : Int))
def m_impl_castFault (x : (List (Int × Int))) : Option Int := p_impl_castFault FU x
def a_impl_castFault : Ann := (.node .leaf (.node (.node .leaf (.loop [.slot 7 (.int .i64)] [2, 3, 4, 8, 9, 10, 11, 12, 13, 14, 15, 16, 17, 18, 19, 20, 21, 22, 23, 24, 25, 26, 27, 28, 29, 30, 31, 32, 33, 34, 35, 36, 37, 38, 39, 40, 41, 42, 43, 44, 45, 46, 47, 48, 49, 50, 51, 52] (.node .leaf (.node .leaf (.node (.node .leaf (.node .leaf (.node .leaf (.join [.slot 16 .bool] [17, 18, 19, 20, 21, 22, 23, 24, 25, 26, 27, 28, 29, 30, 31, 32, 33, 34, 35, 36, 37, 38, 39, 40, 41, 42, 43, 44, 45, 46, 47, 48, 49, 50, 51] .leaf .leaf)))) .leaf))))) .leaf))
def S_impl_castFault : FSpec := ⟨[.val (.sl none (.pair (.int .i64) (.int .i64)))], [(.int .i64)], m_impl_castFault⟩

/-! impl.noVote -/
def p_impl_noVote (n : Nat) (x : Unit) : Option (Int × Int) :=
some ((-1 : Int), (0 : Int))
def m_impl_noVote (x : Unit) : Option (Int × Int) := p_impl_noVote FU x
def a_impl_noVote : Ann := .leaf
def S_impl_noVote : FSpec := ⟨[], [(.pair (.int .i64) (.int .i64))], m_impl_noVote⟩

/-! impl.lastCast -/
def p_impl_lastCast (n : Nat) (x : (List (Int × Int))) : Option (Int × Int) :=
(cond ((lenI x) == (0 : Int))
 ((m_impl_noVote ()).bind fun r1 =>
 some r1)
 ((geti x (IntKind.wrap .i64 ((lenI x) - (1 : Int)))).bind fun y2 =>
 some y2))
def m_impl_lastCast (x : (List (Int × Int))) : Option (Int × Int) := p_impl_lastCast FU x
def a_impl_lastCast : Ann := .leaf
def S_impl_lastCast : FSpec := ⟨[.val (.sl none (.pair (.int .i64) (.int .i64)))], [(.pair (.int .i64) (.int .i64))], m_impl_lastCast⟩

/-! impl.SlotFault -/
def p_impl_SlotFault (n : Nat) (x : (Int × (Int × (Int × ((Int × Int) × (List (Int × Int))))))) : Option Int :=
(Option.bind (α := Bool)
 ((m_impl_isId x.1).bind fun r4 =>
 (cond (!r4)
  (some true)
  ((m_impl_isShard x.2.1).bind fun r5 =>
  (cond (!r5)
   (some true)
   ((m_impl_within (x.2.2.1, (-1 : Int), (1000 : Int))).bind fun r6 =>
   some (!r6)))))) fun j7 =>
(cond j7
 (some (3 : Int))
 (cond (decide ((lenI x.2.2.2.2) > (60 : Int)))
  (some (2 : Int))
  ((m_impl_castFault x.2.2.2.2).bind fun r8 =>
  (cond (!(r8 == (0 : Int)))
   (some r8)
   (Option.bind (α := Bool)
    ((m_impl_lastCast x.2.2.2.2).bind fun r10 =>
    (cond (!((x.2.2.2.1.1 == r10.1) && ((x.2.2.2.1.2 == r10.2) && true)))
     (some true)
     (some (decide (x.2.2.2.1.1 > x.2.2.1))))) fun j11 =>
   (cond j11
    (some (1 : Int))
    (some (0 : Int)))))))))
def m_impl_SlotFault (x : (Int × (Int × (Int × ((Int × Int) × (List (Int × Int))))))) : Option Int := p_impl_SlotFault FU x
def a_impl_SlotFault : Ann := (.node .leaf (.node (.join [.slot 4 .bool] [5, 6, 7, 8, 9, 10, 11, 12, 13, 14, 15, 16, 17, 18, 19, 20] .leaf .leaf) (.node .leaf (.node (.join [.slot 45 .bool] [32, 33, 34, 35, 36, 37, 38, 39, 40, 41, 42, 43, 44] .leaf .leaf) .leaf))))
def S_impl_SlotFault : FSpec := ⟨[.val (.pair (.int .i64) (.pair (.int .i64) (.pair (.int .i64) (.pair (.pair (.int .i64) (.int .i64)) (.sl none (.pair (.int .i64) (.int .i64)))))))], [(.int .i64)], m_impl_SlotFault⟩

/-! impl.Vote] -/
def p_slices_Clone_impl_Vote_impl_Vote (n : Nat) (x : (List (Int × Int))) : Option (List (Int × Int)) :=
(cond (List.isEmpty x)
 (same
  (some [])
  (chk (Nat.ble ((([] : List (Int × Int)).length + x.length) * 16) maxBytes)
  (some (([] : List (Int × Int)) ++ x))))
 (chk (Nat.ble ((([] : List (Int × Int)).length + x.length) * 16) maxBytes)
 (some (([] : List (Int × Int)) ++ x))))
def m_slices_Clone_impl_Vote_impl_Vote (x : (List (Int × Int))) : Option (List (Int × Int)) := p_slices_Clone_impl_Vote_impl_Vote FU x
def a_slices_Clone_impl_Vote_impl_Vote : Ann := .leaf
def S_slices_Clone_impl_Vote_impl_Vote : FSpec := ⟨[.val (.sl none (.pair (.int .i64) (.int .i64)))], [(.sl (some 34) (.pair (.int .i64) (.int .i64)))], m_slices_Clone_impl_Vote_impl_Vote⟩

/-! impl.copySlot -/
def p_impl_copySlot (n : Nat) (x : (Int × (Int × (Int × ((Int × Int) × (List (Int × Int))))))) : Option (Int × (Int × (Int × ((Int × Int) × (List (Int × Int)))))) :=
((m_slices_Clone_impl_Vote_impl_Vote x.2.2.2.2).bind fun r1 =>
some (x.1, (x.2.1, (x.2.2.1, (x.2.2.2.1, r1)))))
def m_impl_copySlot (x : (Int × (Int × (Int × ((Int × Int) × (List (Int × Int))))))) : Option (Int × (Int × (Int × ((Int × Int) × (List (Int × Int)))))) := p_impl_copySlot FU x
def a_impl_copySlot : Ann := .leaf
def S_impl_copySlot : FSpec := ⟨[.val (.pair (.int .i64) (.pair (.int .i64) (.pair (.int .i64) (.pair (.pair (.int .i64) (.int .i64)) (.sl none (.pair (.int .i64) (.int .i64)))))))], [(.pair (.int .i64) (.pair (.int .i64) (.pair (.int .i64) (.pair (.pair (.int .i64) (.int .i64)) (.sl (some 34) (.pair (.int .i64) (.int .i64)))))))], m_impl_copySlot⟩

/-! impl.PromiseSlot -/
def p_impl_PromiseSlot (n : Nat) (x : ((Int × (Int × (Int × ((Int × Int) × (List (Int × Int)))))) × Int)) : Option (Int × ((Int × Int) × (Int × (Int × (Int × ((Int × Int) × (List (Int × Int)))))))) :=
((m_impl_SlotFault x.1).bind fun r1 =>
(cond (!(r1 == (0 : Int)))
 (some (r1, (((0 : Int), (0 : Int)), ((0 : Int), ((0 : Int), ((0 : Int), (((0 : Int), (0 : Int)), [])))))))
 ((m_impl_isBallot x.2).bind fun r2 =>
 (cond (!r2)
  (some ((3 : Int), (((0 : Int), (0 : Int)), ((0 : Int), ((0 : Int), ((0 : Int), (((0 : Int), (0 : Int)), [])))))))
  (cond (decide (x.2 < x.1.2.2.1))
   (some ((8 : Int), (((0 : Int), (0 : Int)), ((0 : Int), ((0 : Int), ((0 : Int), (((0 : Int), (0 : Int)), [])))))))
   ((m_impl_copySlot x.1).bind fun r3 =>
   some ((0 : Int), (x.1.2.2.2.1, (r3.1, (r3.2.1, (x.2, r3.2.2.2)))))))))))
def m_impl_PromiseSlot (x : ((Int × (Int × (Int × ((Int × Int) × (List (Int × Int)))))) × Int)) : Option (Int × ((Int × Int) × (Int × (Int × (Int × ((Int × Int) × (List (Int × Int)))))))) := p_impl_PromiseSlot FU x
def a_impl_PromiseSlot : Ann := .leaf
def S_impl_PromiseSlot : FSpec := ⟨[.val (.pair (.int .i64) (.pair (.int .i64) (.pair (.int .i64) (.pair (.pair (.int .i64) (.int .i64)) (.sl none (.pair (.int .i64) (.int .i64))))))), .val (.int .i64)], [(.pair (.int .i64) (.pair (.pair (.int .i64) (.int .i64)) (.pair (.int .i64) (.pair (.int .i64) (.pair (.int .i64) (.pair (.pair (.int .i64) (.int .i64)) (.sl (some 34) (.pair (.int .i64) (.int .i64)))))))))], m_impl_PromiseSlot⟩

/-! impl.AcceptSlot -/
def p_impl_AcceptSlot (n : Nat) (x : ((Int × (Int × (Int × ((Int × Int) × (List (Int × Int)))))) × (Int × Int))) : Option (Int × ((Int × Int) × (Int × (Int × (Int × ((Int × Int) × (List (Int × Int)))))))) :=
((m_impl_SlotFault x.1).bind fun r1 =>
(cond (!(r1 == (0 : Int)))
 (some (r1, (((0 : Int), (0 : Int)), ((0 : Int), ((0 : Int), ((0 : Int), (((0 : Int), (0 : Int)), [])))))))
 ((m_impl_isVote x.2).bind fun r2 =>
 (cond (!r2)
  (some ((3 : Int), (((0 : Int), (0 : Int)), ((0 : Int), ((0 : Int), ((0 : Int), (((0 : Int), (0 : Int)), [])))))))
  (cond (decide (x.2.1 < x.1.2.2.1))
   (some ((8 : Int), (((0 : Int), (0 : Int)), ((0 : Int), ((0 : Int), ((0 : Int), (((0 : Int), (0 : Int)), [])))))))
   (Option.bind (α := Bool)
    (cond (x.2.1 == x.1.2.2.2.1.1)
     (some (!(x.2.2 == x.1.2.2.2.1.2)))
     (some false)) fun j3 =>
   (cond j3
    (some ((7 : Int), (((0 : Int), (0 : Int)), ((0 : Int), ((0 : Int), ((0 : Int), (((0 : Int), (0 : Int)), [])))))))
    (Option.bind (α := Bool)
     (cond (!((x.2.1 == x.1.2.2.2.1.1) && ((x.2.2 == x.1.2.2.2.1.2) && true)))
      (some ((lenI x.1.2.2.2.2) == (60 : Int)))
      (some false)) fun j4 =>
    (cond j4
     (some ((2 : Int), (((0 : Int), (0 : Int)), ((0 : Int), ((0 : Int), ((0 : Int), (((0 : Int), (0 : Int)), [])))))))
     ((m_impl_copySlot x.1).bind fun r5 =>
     (Option.bind (α := (Int × (Int × (Int × ((Int × Int) × (List (Int × Int)))))))
      (cond (!((x.2.1 == x.1.2.2.2.1.1) && ((x.2.2 == x.1.2.2.2.1.2) && true)))
       (chk (Nat.ble ((r5.2.2.2.2.length + [x.2].length) * 16) maxBytes)
       (some (r5.1, (r5.2.1, (x.2.1, (x.2, (r5.2.2.2.2 ++ [x.2])))))))
       (some (r5.1, (r5.2.1, (x.2.1, (x.2, r5.2.2.2.2)))))) fun j6 =>
     some ((0 : Int), (x.1.2.2.2.1, j6)))))))))))))
def m_impl_AcceptSlot (x : ((Int × (Int × (Int × ((Int × Int) × (List (Int × Int)))))) × (Int × Int))) : Option (Int × ((Int × Int) × (Int × (Int × (Int × ((Int × Int) × (List (Int × Int)))))))) := p_impl_AcceptSlot FU x
def a_impl_AcceptSlot : Ann := (.node .leaf (.node .leaf (.node .leaf (.node (.node .leaf (.node .leaf (.node .leaf (.node .leaf (.join [.slot 30 .bool] [31, 32, 33, 34, 35, 36, 37, 38, 39, 40, 41, 42] .leaf (.node .leaf (.join [.slot 44 .bool] [45, 46, 47, 48, 49, 50, 51, 52, 53, 54] .leaf .leaf))))))) (.node .leaf (.join [.box 4 (.pair (.int .i64) (.pair (.int .i64) (.pair (.int .i64) (.pair (.pair (.int .i64) (.int .i64)) (.sl (some 34) (.pair (.int .i64) (.int .i64)))))))] [58, 59, 60, 61, 62, 63, 64, 65, 66, 67, 68, 69, 70, 71] .leaf .leaf))))))
def S_impl_AcceptSlot : FSpec := ⟨[.val (.pair (.int .i64) (.pair (.int .i64) (.pair (.int .i64) (.pair (.pair (.int .i64) (.int .i64)) (.sl none (.pair (.int .i64) (.int .i64))))))), .val (.int .i64), .val (.int .i64)], [(.pair (.int .i64) (.pair (.pair (.int .i64) (.int .i64)) (.pair (.int .i64) (.pair (.int .i64) (.pair (.int .i64) (.pair (.pair (.int .i64) (.int .i64)) (.sl (some 34) (.pair (.int .i64) (.int .i64)))))))))], m_impl_AcceptSlot⟩

/-! laws.FnPromises -/
def p_laws_FnPromises (n : Nat) (x : (List Int)) : Option Bool :=
((m_laws_lwBig x).bind fun r1 =>
(cond r1
 (some true)
 ((m_spec_DrawPromiseSlot x).bind fun r2 =>
 ((m_impl_PromiseSlot (r2.1, r2.2)).bind fun r3 =>
 (cond (!(r3.1 == (0 : Int)))
  ((m_spec_PromiseSlot (r2.1, r2.2)).bind fun r4 =>
  some (r4.1 == r3.1))
  (Option.bind (α := Bool)
   (cond (!((r3.2.1.1 == r2.1.2.2.2.1.1) && ((r3.2.1.2 == r2.1.2.2.2.1.2) && true)))
    (some true)
    ((m_impl_SlotFault r3.2.2).bind fun r6 =>
    (cond (!(r6 == (0 : Int)))
     (some true)
     (some (!(r3.2.2.2.2.1 == r2.2)))))) fun j7 =>
  (cond j7
   (some false)
   (Option.bind (α := Bool)
    (cond (decide (r2.2 > (0 : Int)))
     ((m_impl_AcceptSlot (r3.2.2, IntKind.wrap .i64 (r2.2 - (1 : Int)), (1 : Int))).bind fun r9 =>
     some (!(r9.1 == (8 : Int))))
     (some false)) fun j10 =>
   (cond j10
    (some false)
    ((m_impl_AcceptSlot (r3.2.2, r2.2, (2 : Int))).bind fun r11 =>
    (cond (!(r11.1 == (0 : Int)))
     ((m_spec_AcceptSlot (r3.2.2, r2.2, (2 : Int))).bind fun r12 =>
     some (r12.1 == r11.1))
     (cond ((r11.2.2.2.2.2.1.1 == r2.2) && ((r11.2.2.2.2.2.1.2 == (2 : Int)) && true))
      ((m_impl_SlotFault r11.2.2).bind fun r13 =>
      (cond (r13 == (0 : Int))
       ((m_impl_AcceptSlot (r11.2.2, r2.2, (1 : Int))).bind fun r14 =>
       (cond (r14.1 == (7 : Int))
        ((m_impl_AcceptSlot (r11.2.2, r2.2, (2 : Int))).bind fun r15 =>
        some (r15.1 == (0 : Int)))
        (some false)))
       (some false)))
      (some false)))))))))))))
def m_laws_FnPromises (x : (List Int)) : Option Bool := p_laws_FnPromises FU x
def a_laws_FnPromises : Ann := (.node .leaf (.node .leaf (.node .leaf (.node .leaf (.node .leaf (.node (.join [.slot 44 .bool] [27, 28, 29, 30, 31, 32, 33, 34, 35, 36, 37, 38, 39, 40, 41, 42, 43] .leaf .leaf) (.node (.join [.slot 55 .bool] [45, 46, 47, 48, 49, 50, 51, 52, 53, 54] .leaf .leaf) .leaf)))))))
def S_laws_FnPromises : FSpec := ⟨[.val (.sl none (.int .u8))], [.bool], m_laws_FnPromises⟩

def T : Tab := [
  (2, ⟨false, 1, 8, [], 0, [.int .i64 0], some (.int .i64), [0]⟩),
  (3, ⟨false, 1, 8, [], 0, [.int .i64 0], some (.int .i64), [0]⟩),
  (5, ⟨false, 1, 1, [], 0, [.int .u8 0], some (.int .u8), [0]⟩),
  (27, ⟨false, 1, 24, [], 5, [.nil], some (.sl none (.int .u8)), []⟩),
  (29, ⟨false, 1, 24, [], 34, [.nil], some (.sl none (.pair (.int .i64) (.int .i64))), []⟩),
  (34, ⟨true, 2, 16, [(0, 1, 2), (1, 1, 2)], 0, [.int .i64 0, .int .i64 0], some (.pair (.int .i64) (.int .i64)), [0, 0]⟩),
  (41, ⟨true, 6, 64, [(0, 1, 2), (1, 1, 2), (2, 1, 2), (3, 2, 34), (5, 1, 29)], 0, [.int .i64 0, .int .i64 0, .int .i64 0, .int .i64 0, .int .i64 0, .nil], some (.pair (.int .i64) (.pair (.int .i64) (.pair (.int .i64) (.pair (.pair (.int .i64) (.int .i64)) (.sl none (.pair (.int .i64) (.int .i64))))))), []⟩),
  (43, ⟨true, 9, 88, [(0, 1, 2), (1, 2, 34), (3, 6, 41)], 0, [.int .i64 0, .int .i64 0, .int .i64 0, .int .i64 0, .int .i64 0, .int .i64 0, .int .i64 0, .int .i64 0, .nil], some (.pair (.int .i64) (.pair (.pair (.int .i64) (.int .i64)) (.pair (.int .i64) (.pair (.int .i64) (.pair (.int .i64) (.pair (.pair (.int .i64) (.int .i64)) (.sl none (.pair (.int .i64) (.int .i64))))))))), []⟩),
  (125, ⟨true, 2, 32, [(0, 1, 27), (1, 1, 2)], 0, [.nil, .int .i64 0], some (.pair (.sl none (.int .u8)) (.int .i64)), []⟩),
  (126, ⟨false, 1, 24, [], 2, [.nil], some (.sl none (.int .i64)), []⟩)]
def G_laws_lwBig : Env := (18, S_laws_lwBig) :: []
def G_spec_l1Next : Env := (71, S_spec_l1Next) :: G_laws_lwBig
def G_spec_l1In : Env := (63, S_spec_l1In) :: G_spec_l1Next
def G_spec_l1Id : Env := (82, S_spec_l1Id) :: G_spec_l1In
def G_spec_l8None : Env := (69, S_spec_l8None) :: G_spec_l1Id
def G_spec_NewSlot : Env := (25, S_spec_NewSlot) :: G_spec_l8None
def G_spec_l8Ballot : Env := (77, S_spec_l8Ballot) :: G_spec_NewSlot
def G_spec_l8Value : Env := (78, S_spec_l8Value) :: G_spec_l8Ballot
def G_spec_l8Last : Env := (87, S_spec_l8Last) :: G_spec_l8Value
def G_spec_SlotFault : Env := (31, S_spec_SlotFault) :: G_spec_l8Last
def G_spec_l8Copy : Env := (93, S_spec_l8Copy) :: G_spec_SlotFault
def G_spec_PromiseSlot : Env := (37, S_spec_PromiseSlot) :: G_spec_l8Copy
def G_spec_l1Chance : Env := (70, S_spec_l1Chance) :: G_spec_PromiseSlot
def G_spec_AcceptSlot : Env := (39, S_spec_AcceptSlot) :: G_spec_l1Chance
def G_spec_l1Pick : Env := (68, S_spec_l1Pick) :: G_spec_AcceptSlot
def G_spec_l8Slot : Env := (90, S_spec_l8Slot) :: G_spec_l1Pick
def G_spec_DrawPromiseSlot : Env := (35, S_spec_DrawPromiseSlot) :: G_spec_l8Slot
def G_impl_within : Env := (65, S_impl_within) :: G_spec_DrawPromiseSlot
def G_impl_isId : Env := (83, S_impl_isId) :: G_impl_within
def G_impl_isShard : Env := (84, S_impl_isShard) :: G_impl_isId
def G_impl_isBallot : Env := (91, S_impl_isBallot) :: G_impl_isShard
def G_impl_isValue : Env := (76, S_impl_isValue) :: G_impl_isBallot
def G_impl_isVote : Env := (75, S_impl_isVote) :: G_impl_isValue
def G_impl_castFault : Env := (88, S_impl_castFault) :: G_impl_isVote
def G_impl_noVote : Env := (74, S_impl_noVote) :: G_impl_castFault
def G_impl_lastCast : Env := (89, S_impl_lastCast) :: G_impl_noVote
def G_impl_SlotFault : Env := (33, S_impl_SlotFault) :: G_impl_lastCast
def G_slices_Clone_impl_Vote_impl_Vote : Env := (112, S_slices_Clone_impl_Vote_impl_Vote) :: G_impl_SlotFault
def G_impl_copySlot : Env := (92, S_impl_copySlot) :: G_slices_Clone_impl_Vote_impl_Vote
def G_impl_PromiseSlot : Env := (36, S_impl_PromiseSlot) :: G_impl_copySlot
def G_impl_AcceptSlot : Env := (38, S_impl_AcceptSlot) :: G_impl_PromiseSlot
def G_laws_FnPromises : Env := (8, S_laws_FnPromises) :: G_impl_AcceptSlot
end
end Go.RvP
