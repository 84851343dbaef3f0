/- The plain functions that the evaluator comes to, for FnAgrees. No condition. -/
import Derived.Test.YtccghpomkikjoaaRvL
import Derived.Test.YtccghpomkikjoaaRvY
import Derived.Test.YtccghpomkikjoaaRvS
namespace Go.RvP
open Go Go.Rv
noncomputable section
/-! laws.lwBig -/
def p_laws_lwBig (n : Nat) (x : (List Int)) : Option Bool :=
some (decide ((lenI x) > (1048576 : Int)))
def m_laws_lwBig (x : (List Int)) : Option Bool := p_laws_lwBig FU x
def a_laws_lwBig : Ann := .leaf
def S_laws_lwBig : FSpec := ⟨[.val (.sl none (.int .u8))], [.bool], m_laws_lwBig⟩

/-! laws.lwAt -/
def p_laws_lwAt (n : Nat) (x : ((List Int) × (Int × Int))) : Option Int :=
(cond (decide (x.2.2 ≤ (1 : Int)))
 (some (0 : Int))
 (cond ((lenI x.1) == (0 : Int))
  (cond (x.2.2 == 0) none
   (some (Int.tmod (IntKind.wrap .i64 (x.2.1 * (7 : Int))) x.2.2)))
  (cond ((lenI x.1) == 0) none
   ((geti x.1 (Int.tmod x.2.1 (lenI x.1))).bind fun y1 =>
   (cond ((lenI x.1) == 0) none
    (cond (decide (x.2.2 > (200 : Int)))
     (cond ((lenI x.1) == 0) none
      ((geti x.1 (Int.tmod (IntKind.wrap .i64 (x.2.1 + (1 : Int))) (lenI x.1))).bind fun y2 =>
      (cond (x.2.2 == 0) none
       (some (Int.tmod (IntKind.wrap .i64 ((IntKind.wrap .i64 ((IntKind.wrap .i64 ((IntKind.wrap .i64 y1) + (IntKind.wrap .i64 ((IntKind.wrap .i64 (Int.tdiv x.2.1 (lenI x.1))) * (3 : Int))))) * (251 : Int))) + (IntKind.wrap .i64 y2))) x.2.2)))))
     (cond (x.2.2 == 0) none
      (some (Int.tmod (IntKind.wrap .i64 ((IntKind.wrap .i64 y1) + (IntKind.wrap .i64 ((IntKind.wrap .i64 (Int.tdiv x.2.1 (lenI x.1))) * (3 : Int))))) x.2.2)))))))))
def m_laws_lwAt (x : ((List Int) × (Int × Int))) : Option Int := p_laws_lwAt FU x
def a_laws_lwAt : Ann := .leaf
def S_laws_lwAt : FSpec := ⟨[.val (.sl none (.int .u8)), .val (.int .i64), .val (.int .i64)], [(.int .i64)], m_laws_lwAt⟩

/-! laws.lwReached -/
def l_laws_lwReached_1 (n : Nat) (x_1 : (List Int)) (x_2_1 : Int) (x_2_2 : Int) (z0 : ((List Int) × Int)) : Option (List Int) :=
(lp (fun rec4 (z3 : ((List Int) × Int)) =>
 (cond (decide (z3.2 < x_2_2))
  ((m_laws_lwAt (x_1, IntKind.wrap .i64 ((IntKind.wrap .i64 (x_2_1 * (7 : Int))) + z3.2), (3 : Int))).bind fun r5 =>
  (cond (decide (r5 > (0 : Int)))
   (chk (Nat.ble ((z3.1.length + [z3.2].length) * 8) maxBytes)
   (rec4 ((z3.1 ++ [z3.2]), IntKind.wrap .i64 (z3.2 + (1 : Int)))))
   (rec4 (z3.1, IntKind.wrap .i64 (z3.2 + (1 : Int))))))
  (some z3.1))) n z0)
def p_laws_lwReached (n : Nat) (x : ((List Int) × (Int × Int))) : Option (List Int) :=
(l_laws_lwReached_1 n x.1 x.2.1 x.2.2 (([] : List Int), (0 : Int)))
def m_laws_lwReached (x : ((List Int) × (Int × Int))) : Option (List Int) := p_laws_lwReached FU x
def a_laws_lwReached : Ann := (.node .leaf (.node .leaf (.node (.node .leaf (.loop [.slot 7 (.sl (some 2) (.int .i64)), .slot 8 (.int .i64)] [10, 11, 12, 13, 14, 15, 16, 17, 18, 19, 20, 21, 22, 23, 24, 25] .leaf)) .leaf)))
def S_laws_lwReached : FSpec := ⟨[.val (.sl none (.int .u8)), .val (.int .i64), .val (.int .i64)], [(.sl (some 2) (.int .i64))], m_laws_lwReached⟩

/-! impl.Acceptor] -/
def p_impl_size_impl_Acceptor (n : Nat) (x : (List (List (Int × (Int × (Int × ((Int × Int) × (List (Int × Int))))))))) : Option Int :=
some (lenI x)
def m_impl_size_impl_Acceptor (x : (List (List (Int × (Int × (Int × ((Int × Int) × (List (Int × Int))))))))) : Option Int := p_impl_size_impl_Acceptor FU x
def a_impl_size_impl_Acceptor : Ann := .leaf
def S_impl_size_impl_Acceptor : FSpec := ⟨[.val (.sl none (.one (.sl none (.pair (.int .i64) (.pair (.int .i64) (.pair (.int .i64) (.pair (.pair (.int .i64) (.int .i64)) (.sl none (.pair (.int .i64) (.int .i64))))))))))], [(.int .i64)], m_impl_size_impl_Acceptor⟩

/-! impl.within -/
def p_impl_within (n : Nat) (x : (Int × (Int × Int))) : Option Bool :=
(cond (decide (x.1 ≥ x.2.1))
 (some (decide (x.1 ≤ x.2.2)))
 (some false))
def m_impl_within (x : (Int × (Int × Int))) : Option Bool := p_impl_within FU x
def a_impl_within : Ann := .leaf
def S_impl_within : FSpec := ⟨[.val (.int .i64), .val (.int .i64), .val (.int .i64)], [.bool], m_impl_within⟩

/-! impl.isId -/
def p_impl_isId (n : Nat) (x : Int) : Option Bool :=
((m_impl_within (x, (1 : Int), (1000000000 : Int))).bind fun r1 =>
some r1)
def m_impl_isId (x : Int) : Option Bool := p_impl_isId FU x
def a_impl_isId : Ann := .leaf
def S_impl_isId : FSpec := ⟨[.val (.int .i64)], [.bool], m_impl_isId⟩

/-! impl.isShard -/
def p_impl_isShard (n : Nat) (x : Int) : Option Bool :=
((m_impl_within (x, (0 : Int), (2 : Int))).bind fun r1 =>
some r1)
def m_impl_isShard (x : Int) : Option Bool := p_impl_isShard FU x
def a_impl_isShard : Ann := .leaf
def S_impl_isShard : FSpec := ⟨[.val (.int .i64)], [.bool], m_impl_isShard⟩

/-! impl.isBallot -/
def p_impl_isBallot (n : Nat) (x : Int) : Option Bool :=
((m_impl_within (x, (0 : Int), (1000 : Int))).bind fun r1 =>
some r1)
def m_impl_isBallot (x : Int) : Option Bool := p_impl_isBallot FU x
def a_impl_isBallot : Ann := .leaf
def S_impl_isBallot : FSpec := ⟨[.val (.int .i64)], [.bool], m_impl_isBallot⟩

/-! impl.isValue -/
def p_impl_isValue (n : Nat) (x : Int) : Option Bool :=
(cond (x == (1 : Int))
 (some true)
 (some (x == (2 : Int))))
def m_impl_isValue (x : Int) : Option Bool := p_impl_isValue FU x
def a_impl_isValue : Ann := .leaf
def S_impl_isValue : FSpec := ⟨[.val (.int .i64)], [.bool], m_impl_isValue⟩

/-! impl.isVote -/
def p_impl_isVote (n : Nat) (x : (Int × Int)) : Option Bool :=
((m_impl_isBallot x.1).bind fun r1 =>
(cond r1
 ((m_impl_isValue x.2).bind fun r2 =>
 some r2)
 (some false)))
def m_impl_isVote (x : (Int × Int)) : Option Bool := p_impl_isVote FU x
def a_impl_isVote : Ann := .leaf
def S_impl_isVote : FSpec := ⟨[.val (.pair (.int .i64) (.int .i64))], [.bool], m_impl_isVote⟩

/-! impl.castFault -/
def l_impl_castFault_1 (n : Nat) (x : (List (Int × Int))) (z0 : Int) : Option Int :=
(lp (fun rec12 (z11 : Int) =>
 (cond (decide (z11 < (lenI x)))
  ((geti x z11).bind fun y13 =>
  ((m_impl_isVote y13).bind fun r14 =>
  (cond (!r14)
   (some (3 : Int))
   (Option.bind (α := Bool)
    (cond (decide (z11 > (0 : Int)))
     ((geti x (IntKind.wrap .i64 (z11 - (1 : Int)))).bind fun y18 =>
     (cond (decide (y13.1 < y18.1))
      (some true)
      ((geti x (IntKind.wrap .i64 (z11 - (1 : Int)))).bind fun y19 =>
      (cond (y13.1 == y19.1)
       ((geti x (IntKind.wrap .i64 (z11 - (1 : Int)))).bind fun y20 =>
       some (!(y13.2 == y20.2)))
       (some false)))))
     (some false)) fun j21 =>
   (cond j21
    (some (1 : Int))
    (rec12 (IntKind.wrap .i64 (z11 + (1 : Int)))))))))
  (some (0 : Int)))) n z0)
def p_impl_castFault (n : Nat) (x : (List (Int × Int))) : Option Int :=
(l_impl_castFault_1 n x (0 : Int))
def m_impl_castFault (x : (List (Int × Int))) : Option Int := p_impl_castFault FU x
def a_impl_castFault : Ann := (.node .leaf (.node (.node .leaf (.loop [.slot 7 (.int .i64)] [2, 3, 4, 8, 9, 10, 11, 12, 13, 14, 15, 16, 17, 18, 19, 20, 21, 22, 23, 24, 25, 26, 27, 28, 29, 30, 31, 32, 33, 34, 35, 36, 37, 38, 39, 40, 41, 42, 43, 44, 45, 46, 47, 48, 49, 50, 51, 52] (.node .leaf (.node .leaf (.node (.node .leaf (.node .leaf (.node .leaf (.join [.slot 16 .bool] [17, 18, 19, 20, 21, 22, 23, 24, 25, 26, 27, 28, 29, 30, 31, 32, 33, 34, 35, 36, 37, 38, 39, 40, 41, 42, 43, 44, 45, 46, 47, 48, 49, 50, 51] .leaf .leaf)))) .leaf))))) .leaf))
def S_impl_castFault : FSpec := ⟨[.val (.sl none (.pair (.int .i64) (.int .i64)))], [(.int .i64)], m_impl_castFault⟩

/-! impl.noVote -/
def p_impl_noVote (n : Nat) (x : Unit) : Option (Int × Int) :=
some ((-1 : Int), (0 : Int))
def m_impl_noVote (x : Unit) : Option (Int × Int) := p_impl_noVote FU x
def a_impl_noVote : Ann := .leaf
def S_impl_noVote : FSpec := ⟨[], [(.pair (.int .i64) (.int .i64))], m_impl_noVote⟩

/-! impl.lastCast -/
def p_impl_lastCast (n : Nat) (x : (List (Int × Int))) : Option (Int × Int) :=
(cond ((lenI x) == (0 : Int))
 ((m_impl_noVote ()).bind fun r1 =>
 some r1)
 ((geti x (IntKind.wrap .i64 ((lenI x) - (1 : Int)))).bind fun y2 =>
 some y2))
def m_impl_lastCast (x : (List (Int × Int))) : Option (Int × Int) := p_impl_lastCast FU x
def a_impl_lastCast : Ann := .leaf
def S_impl_lastCast : FSpec := ⟨[.val (.sl none (.pair (.int .i64) (.int .i64)))], [(.pair (.int .i64) (.int .i64))], m_impl_lastCast⟩

/-! impl.SlotFault -/
def p_impl_SlotFault (n : Nat) (x : (Int × (Int × (Int × ((Int × Int) × (List (Int × Int))))))) : Option Int :=
(Option.bind (α := Bool)
 ((m_impl_isId x.1).bind fun r4 =>
 (cond (!r4)
  (some true)
  ((m_impl_isShard x.2.1).bind fun r5 =>
  (cond (!r5)
   (some true)
   ((m_impl_within (x.2.2.1, (-1 : Int), (1000 : Int))).bind fun r6 =>
   some (!r6)))))) fun j7 =>
(cond j7
 (some (3 : Int))
 (cond (decide ((lenI x.2.2.2.2) > (60 : Int)))
  (some (2 : Int))
  ((m_impl_castFault x.2.2.2.2).bind fun r8 =>
  (cond (!(r8 == (0 : Int)))
   (some r8)
   (Option.bind (α := Bool)
    ((m_impl_lastCast x.2.2.2.2).bind fun r10 =>
    (cond (!((x.2.2.2.1.1 == r10.1) && ((x.2.2.2.1.2 == r10.2) && true)))
     (some true)
     (some (decide (x.2.2.2.1.1 > x.2.2.1))))) fun j11 =>
   (cond j11
    (some (1 : Int))
    (some (0 : Int)))))))))
def m_impl_SlotFault (x : (Int × (Int × (Int × ((Int × Int) × (List (Int × Int))))))) : Option Int := p_impl_SlotFault FU x
def a_impl_SlotFault : Ann := (.node .leaf (.node (.join [.slot 4 .bool] [5, 6, 7, 8, 9, 10, 11, 12, 13, 14, 15, 16, 17, 18, 19, 20] .leaf .leaf) (.node .leaf (.node (.join [.slot 45 .bool] [32, 33, 34, 35, 36, 37, 38, 39, 40, 41, 42, 43, 44] .leaf .leaf) .leaf))))
def S_impl_SlotFault : FSpec := ⟨[.val (.pair (.int .i64) (.pair (.int .i64) (.pair (.int .i64) (.pair (.pair (.int .i64) (.int .i64)) (.sl none (.pair (.int .i64) (.int .i64)))))))], [(.int .i64)], m_impl_SlotFault⟩

/-! cmp.isNaN[int64] -/
def p_cmp_isNaN_int64 (n : Nat) (x : Int) : Option Bool :=
some (!(x == x))
def m_cmp_isNaN_int64 (x : Int) : Option Bool := p_cmp_isNaN_int64 FU x
def a_cmp_isNaN_int64 : Ann := .leaf
def S_cmp_isNaN_int64 : FSpec := ⟨[.val (.int .i64)], [.bool], m_cmp_isNaN_int64⟩

/-! cmp.Compare[int64] -/
def p_cmp_Compare_int64 (n : Nat) (x : (Int × Int)) : Option Int :=
((m_cmp_isNaN_int64 x.1).bind fun r1 =>
((m_cmp_isNaN_int64 x.2).bind fun r2 =>
(cond r1
 (cond r2
  (some (0 : Int))
  (some (-1 : Int)))
 (cond r2
  (some (1 : Int))
  (cond (decide (x.1 < x.2))
   (some (-1 : Int))
   (cond (decide (x.1 > x.2))
    (some (1 : Int))
    (some (0 : Int))))))))
def m_cmp_Compare_int64 (x : (Int × Int)) : Option Int := p_cmp_Compare_int64 FU x
def a_cmp_Compare_int64 : Ann := .leaf
def S_cmp_Compare_int64 : FSpec := ⟨[.val (.int .i64), .val (.int .i64)], [(.int .i64)], m_cmp_Compare_int64⟩

/-! cmp.Or[int] -/
def l_cmp_Or_int_1 (n : Nat) (x : (List Int)) (z0 : Int) : Option Int :=
(lp (fun rec4 (z3 : Int) =>
 (cond (decide (z3 < (lenI x)))
  ((geti x z3).bind fun y5 =>
  (cond (!(y5 == (0 : Int)))
   (some y5)
   (rec4 (IntKind.wrap .i64 (z3 + (1 : Int))))))
  (some (0 : Int)))) n z0)
def p_cmp_Or_int (n : Nat) (x : (List Int)) : Option Int :=
(l_cmp_Or_int_1 n x (0 : Int))
def m_cmp_Or_int (x : (List Int)) : Option Int := p_cmp_Or_int FU x
def a_cmp_Or_int : Ann := (.node .leaf (.node .leaf (.node (.node .leaf (.loop [.slot 8 (.int .i64)] [2, 5, 9, 10, 11, 12, 13, 14, 15, 16] .leaf)) .leaf)))
def S_cmp_Or_int : FSpec := ⟨[.val (.sl none (.int .i64))], [(.int .i64)], m_cmp_Or_int⟩

/-! impl.compareSlots -/
def p_impl_compareSlots (n : Nat) (x : ((Int × (Int × (Int × ((Int × Int) × (List (Int × Int)))))) × (Int × (Int × (Int × ((Int × Int) × (List (Int × Int)))))))) : Option Int :=
((m_cmp_Compare_int64 (x.1.1, x.2.1)).bind fun r1 =>
((m_cmp_Compare_int64 (x.1.2.1, x.2.2.1)).bind fun r2 =>
((m_cmp_Or_int [r1, r2]).bind fun r3 =>
some r3)))
def m_impl_compareSlots (x : ((Int × (Int × (Int × ((Int × Int) × (List (Int × Int)))))) × (Int × (Int × (Int × ((Int × Int) × (List (Int × Int)))))))) : Option Int := p_impl_compareSlots FU x
def a_impl_compareSlots : Ann := (.node .leaf (.node (.lazy 15 .leaf) .leaf))
def S_impl_compareSlots : FSpec := ⟨[.val (.pair (.int .i64) (.pair (.int .i64) (.pair (.int .i64) (.pair (.pair (.int .i64) (.int .i64)) (.sl none (.pair (.int .i64) (.int .i64))))))), .val (.pair (.int .i64) (.pair (.int .i64) (.pair (.int .i64) (.pair (.pair (.int .i64) (.int .i64)) (.sl none (.pair (.int .i64) (.int .i64)))))))], [(.int .i64)], m_impl_compareSlots⟩

/-! impl.AcceptorFault -/
def l_impl_AcceptorFault_1 (n : Nat) (x : (List (Int × (Int × (Int × ((Int × Int) × (List (Int × Int)))))))) (z0 : Int) : Option Int :=
(lp (fun rec10 (z9 : Int) =>
 (cond (decide (z9 < (lenI x)))
  ((geti x z9).bind fun y11 =>
  ((m_impl_SlotFault y11).bind fun r12 =>
  (cond (!(r12 == (0 : Int)))
   (some r12)
   (Option.bind (α := Bool)
    (cond (decide (z9 > (0 : Int)))
     ((geti x (IntKind.wrap .i64 (z9 - (1 : Int)))).bind fun y15 =>
     ((m_impl_compareSlots (y15, y11)).bind fun r16 =>
     some (decide (r16 ≥ (0 : Int)))))
     (some false)) fun j17 =>
   (cond j17
    (some (1 : Int))
    (rec10 (IntKind.wrap .i64 (z9 + (1 : Int)))))))))
  (some (0 : Int)))) n z0)
def p_impl_AcceptorFault (n : Nat) (x : (List (Int × (Int × (Int × ((Int × Int) × (List (Int × Int)))))))) : Option Int :=
(cond (decide ((lenI x) > (60 : Int)))
 (some (2 : Int))
 (l_impl_AcceptorFault_1 n x (0 : Int)))
def m_impl_AcceptorFault (x : (List (Int × (Int × (Int × ((Int × Int) × (List (Int × Int)))))))) : Option Int := p_impl_AcceptorFault FU x
def a_impl_AcceptorFault : Ann := (.node .leaf (.node .leaf (.node (.node .leaf (.loop [.slot 13 (.int .i64)] [2, 3, 4, 5, 14, 15, 16, 17, 18, 19, 20, 21, 22, 23, 24, 25, 26, 27, 28, 29, 30, 31, 32, 33, 34, 35, 36] (.node .leaf (.node .leaf (.node (.node .leaf (.node .leaf (.join [.slot 35 .bool] [23, 24, 25, 26, 27, 28, 29, 30, 31, 32, 33, 34] .leaf .leaf))) .leaf))))) .leaf)))
def S_impl_AcceptorFault : FSpec := ⟨[.val (.one (.sl none (.pair (.int .i64) (.pair (.int .i64) (.pair (.int .i64) (.pair (.pair (.int .i64) (.int .i64)) (.sl none (.pair (.int .i64) (.int .i64)))))))))], [(.int .i64)], m_impl_AcceptorFault⟩

/-! impl.listFault -/
def l_impl_listFault_1 (n : Nat) (x : (List (List (Int × (Int × (Int × ((Int × Int) × (List (Int × Int))))))))) (z0 : Int) : Option Int :=
(lp (fun rec7 (z6 : Int) =>
 (cond (decide (z6 < (lenI x)))
  ((geti x z6).bind fun y8 =>
  ((m_impl_AcceptorFault y8).bind fun r9 =>
  (cond (!(r9 == (0 : Int)))
   (some r9)
   (rec7 (IntKind.wrap .i64 (z6 + (1 : Int)))))))
  (some (0 : Int)))) n z0)
def p_impl_listFault (n : Nat) (x : (List (List (Int × (Int × (Int × ((Int × Int) × (List (Int × Int))))))))) : Option Int :=
((m_impl_size_impl_Acceptor x).bind fun r1 =>
((m_impl_within (r1, (1 : Int), (5 : Int))).bind fun r2 =>
(cond (!r2)
 (some (2 : Int))
 (l_impl_listFault_1 n x (0 : Int)))))
def m_impl_listFault (x : (List (List (Int × (Int × (Int × ((Int × Int) × (List (Int × Int))))))))) : Option Int := p_impl_listFault FU x
def a_impl_listFault : Ann := (.node .leaf (.node .leaf (.node (.node .leaf (.loop [.slot 12 (.int .i64)] [2, 4, 5, 13, 14, 15, 16, 17, 18, 19, 20, 21] .leaf)) .leaf)))
def S_impl_listFault : FSpec := ⟨[.val (.sl none (.one (.sl none (.pair (.int .i64) (.pair (.int .i64) (.pair (.int .i64) (.pair (.pair (.int .i64) (.int .i64)) (.sl none (.pair (.int .i64) (.int .i64))))))))))], [(.int .i64)], m_impl_listFault⟩

/-! impl.newSlot -/
def p_impl_newSlot (n : Nat) (x : (Int × Int)) : Option (Int × (Int × (Int × ((Int × Int) × (List (Int × Int)))))) :=
((m_impl_noVote ()).bind fun r1 =>
some (x.1, (x.2, ((-1 : Int), (r1, [])))))
def m_impl_newSlot (x : (Int × Int)) : Option (Int × (Int × (Int × ((Int × Int) × (List (Int × Int)))))) := p_impl_newSlot FU x
def a_impl_newSlot : Ann := .leaf
def S_impl_newSlot : FSpec := ⟨[.val (.int .i64), .val (.int .i64)], [(.pair (.int .i64) (.pair (.int .i64) (.pair (.int .i64) (.pair (.pair (.int .i64) (.int .i64)) (.sl (some 70) (.pair (.int .i64) (.int .i64)))))))], m_impl_newSlot⟩

/-! impl.NewSlot -/
def p_impl_NewSlot (n : Nat) (x : (Int × Int)) : Option (Int × ((Int × Int) × (Int × (Int × (Int × ((Int × Int) × (List (Int × Int)))))))) :=
(Option.bind (α := Bool)
 ((m_impl_isId x.1).bind fun r3 =>
 (cond (!r3)
  (some true)
  ((m_impl_isShard x.2).bind fun r4 =>
  some (!r4)))) fun j5 =>
(cond j5
 (some ((3 : Int), (((0 : Int), (0 : Int)), ((0 : Int), ((0 : Int), ((0 : Int), (((0 : Int), (0 : Int)), [])))))))
 ((m_impl_newSlot (x.1, x.2)).bind fun r6 =>
 some ((0 : Int), (((0 : Int), (0 : Int)), r6)))))
def m_impl_NewSlot (x : (Int × Int)) : Option (Int × ((Int × Int) × (Int × (Int × (Int × ((Int × Int) × (List (Int × Int)))))))) := p_impl_NewSlot FU x
def a_impl_NewSlot : Ann := (.node .leaf (.node (.join [.slot 12 .bool] [5, 6, 7, 8, 9, 10, 11] .leaf .leaf) .leaf))
def S_impl_NewSlot : FSpec := ⟨[.val (.int .i64), .val (.int .i64)], [(.pair (.int .i64) (.pair (.pair (.int .i64) (.int .i64)) (.pair (.int .i64) (.pair (.int .i64) (.pair (.int .i64) (.pair (.pair (.int .i64) (.int .i64)) (.sl (some 70) (.pair (.int .i64) (.int .i64)))))))))], m_impl_NewSlot⟩

/-! impl.firstOf -/
def l_impl_firstOf_1 (n : Nat) (x : (List Int)) (z0 : Int) : Option Int :=
(lp (fun rec4 (z3 : Int) =>
 (cond (decide (z3 < (lenI x)))
  ((geti x z3).bind fun y5 =>
  (cond (!(y5 == (0 : Int)))
   (some y5)
   (rec4 (IntKind.wrap .i64 (z3 + (1 : Int))))))
  (some (0 : Int)))) n z0)
def p_impl_firstOf (n : Nat) (x : (List Int)) : Option Int :=
(l_impl_firstOf_1 n x (0 : Int))
def m_impl_firstOf (x : (List Int)) : Option Int := p_impl_firstOf FU x
def a_impl_firstOf : Ann := (.node .leaf (.node (.node .leaf (.loop [.slot 7 (.int .i64)] [2, 4, 8, 9, 10, 11, 12, 13, 14] .leaf)) .leaf))
def S_impl_firstOf : FSpec := ⟨[.val (.sl none (.int .i64))], [(.int .i64)], m_impl_firstOf⟩

/-! impl.reachedFault -/
def l_impl_reachedFault_1 (n : Nat) (x_1 : (List Int)) (x_2 : Int) (z0 : Int) : Option Int :=
(lp (fun rec13 (z12 : Int) =>
 (cond (decide (z12 < (lenI x_1)))
  ((geti x_1 z12).bind fun y14 =>
  ((m_impl_within (y14, (0 : Int), IntKind.wrap .i64 (x_2 - (1 : Int)))).bind fun r15 =>
  (cond (!r15)
   (some z12)
   (rec13 (IntKind.wrap .i64 (z12 + (1 : Int)))))))
  (some (-1 : Int)))) n z0)
def l_impl_reachedFault_2 (n : Nat) (x_1 : (List Int)) (z0 : Int) : Option Int :=
(lp (fun rec22 (z21 : Int) =>
 (cond (decide (z21 < (lenI x_1)))
  ((geti x_1 (IntKind.wrap .i64 (z21 - (1 : Int)))).bind fun y23 =>
  ((geti x_1 z21).bind fun y24 =>
  (cond (decide (y23 ≥ y24))
   (some (7 : Int))
   (rec22 (IntKind.wrap .i64 (z21 + (1 : Int)))))))
  (some (0 : Int)))) n z0)
def p_impl_reachedFault (n : Nat) (x : ((List Int) × Int)) : Option Int :=
(Option.bind (α := Int)
 (l_impl_reachedFault_1 n x.1 x.2 (0 : Int)) fun j17 =>
(cond (decide (j17 ≥ (0 : Int)))
 (some (3 : Int))
 (l_impl_reachedFault_2 n x.1 (1 : Int))))
def m_impl_reachedFault (x : ((List Int) × Int)) : Option Int := p_impl_reachedFault FU x
def a_impl_reachedFault : Ann := (.node .leaf (.node (.node (.reg 8 (.node .leaf (.node (.regj 7 [.slot 7 (.int .i64)] [] (.node .leaf (.node (.node .leaf (.loop [.slot 8 (.int .i64)] [4, 5, 9, 10, 11, 12, 13, 14, 15, 16, 17, 18] .leaf)) .leaf)) .leaf) .leaf)) .leaf) .leaf) (.node (.node .leaf (.loop [.slot 5 (.int .i64)] [4, 9, 10, 11, 12, 13, 14, 15, 16, 17, 18, 19, 20, 21, 22, 23, 24] .leaf)) .leaf)))
def S_impl_reachedFault : FSpec := ⟨[.val (.sl none (.int .i64)), .val (.int .i64)], [(.int .i64)], m_impl_reachedFault⟩

/-! impl.Vote] -/
def p_slices_Clone_impl_Vote_impl_Vote (n : Nat) (x : (List (Int × Int))) : Option (List (Int × Int)) :=
(cond (List.isEmpty x)
 (same
  (some [])
  (chk (Nat.ble ((([] : List (Int × Int)).length + x.length) * 16) maxBytes)
  (some (([] : List (Int × Int)) ++ x))))
 (chk (Nat.ble ((([] : List (Int × Int)).length + x.length) * 16) maxBytes)
 (some (([] : List (Int × Int)) ++ x))))
def m_slices_Clone_impl_Vote_impl_Vote (x : (List (Int × Int))) : Option (List (Int × Int)) := p_slices_Clone_impl_Vote_impl_Vote FU x
def a_slices_Clone_impl_Vote_impl_Vote : Ann := .leaf
def S_slices_Clone_impl_Vote_impl_Vote : FSpec := ⟨[.val (.sl none (.pair (.int .i64) (.int .i64)))], [(.sl (some 70) (.pair (.int .i64) (.int .i64)))], m_slices_Clone_impl_Vote_impl_Vote⟩

/-! impl.copySlot -/
def p_impl_copySlot (n : Nat) (x : (Int × (Int × (Int × ((Int × Int) × (List (Int × Int))))))) : Option (Int × (Int × (Int × ((Int × Int) × (List (Int × Int)))))) :=
((m_slices_Clone_impl_Vote_impl_Vote x.2.2.2.2).bind fun r1 =>
some (x.1, (x.2.1, (x.2.2.1, (x.2.2.2.1, r1)))))
def m_impl_copySlot (x : (Int × (Int × (Int × ((Int × Int) × (List (Int × Int))))))) : Option (Int × (Int × (Int × ((Int × Int) × (List (Int × Int)))))) := p_impl_copySlot FU x
def a_impl_copySlot : Ann := .leaf
def S_impl_copySlot : FSpec := ⟨[.val (.pair (.int .i64) (.pair (.int .i64) (.pair (.int .i64) (.pair (.pair (.int .i64) (.int .i64)) (.sl none (.pair (.int .i64) (.int .i64)))))))], [(.pair (.int .i64) (.pair (.int .i64) (.pair (.int .i64) (.pair (.pair (.int .i64) (.int .i64)) (.sl (some 70) (.pair (.int .i64) (.int .i64)))))))], m_impl_copySlot⟩

/-! impl.copyAcceptor -/
def l_impl_copyAcceptor_1 (n : Nat) (x : (List (Int × (Int × (Int × ((Int × Int) × (List (Int × Int)))))))) (z0 : (Int × (List (Int × (Int × (Int × ((Int × Int) × (List (Int × Int))))))))) : Option (List (Int × (Int × (Int × ((Int × Int) × (List (Int × Int))))))) :=
(lp (fun rec8 (z7 : (Int × (List (Int × (Int × (Int × ((Int × Int) × (List (Int × Int))))))))) =>
 (cond (decide (z7.1 < (lenI x)))
  ((geti x z7.1).bind fun y9 =>
  ((m_impl_copySlot y9).bind fun r10 =>
  (chk (Nat.ble ((z7.2.length + [r10].length) * 64) maxBytes)
  (rec8 (IntKind.wrap .i64 (z7.1 + (1 : Int)), (z7.2 ++ [r10]))))))
  (some z7.2))) n z0)
def p_impl_copyAcceptor (n : Nat) (x : (List (Int × (Int × (Int × ((Int × Int) × (List (Int × Int)))))))) : Option (List (Int × (Int × (Int × ((Int × Int) × (List (Int × Int))))))) :=
(l_impl_copyAcceptor_1 n x ((0 : Int), []))
def m_impl_copyAcceptor (x : (List (Int × (Int × (Int × ((Int × Int) × (List (Int × Int)))))))) : Option (List (Int × (Int × (Int × ((Int × Int) × (List (Int × Int))))))) := p_impl_copyAcceptor FU x
def a_impl_copyAcceptor : Ann := (.node .leaf (.node .leaf (.node (.node .leaf (.loop [.slot 10 (.int .i64), .box 2 (.one (.sl (some 73) (.pair (.int .i64) (.pair (.int .i64) (.pair (.int .i64) (.pair (.pair (.int .i64) (.int .i64)) (.sl (some 70) (.pair (.int .i64) (.int .i64)))))))))] [5, 11, 12, 13, 14, 15, 16, 17, 18, 19, 20, 21] (.node .leaf (.node .leaf (.node (.node .leaf (.own 18 (.pair (.int .i64) (.pair (.int .i64) (.pair (.int .i64) (.pair (.pair (.int .i64) (.int .i64)) (.sl (some 70) (.pair (.int .i64) (.int .i64))))))) .leaf)) .leaf))))) .leaf)))
def S_impl_copyAcceptor : FSpec := ⟨[.val (.one (.sl none (.pair (.int .i64) (.pair (.int .i64) (.pair (.int .i64) (.pair (.pair (.int .i64) (.int .i64)) (.sl none (.pair (.int .i64) (.int .i64)))))))))], [(.one (.sl (some 73) (.pair (.int .i64) (.pair (.int .i64) (.pair (.int .i64) (.pair (.pair (.int .i64) (.int .i64)) (.sl (some 70) (.pair (.int .i64) (.int .i64)))))))))], m_impl_copyAcceptor⟩

/-! impl.copyAcceptors -/
def l_impl_copyAcceptors_1 (n : Nat) (x : (List (List (Int × (Int × (Int × ((Int × Int) × (List (Int × Int))))))))) (z0 : ((List (List (Int × (Int × (Int × ((Int × Int) × (List (Int × Int)))))))) × Int)) : Option (List (List (Int × (Int × (Int × ((Int × Int) × (List (Int × Int)))))))) :=
(lp (fun rec5 (z4 : ((List (List (Int × (Int × (Int × ((Int × Int) × (List (Int × Int)))))))) × Int)) =>
 (cond (decide (z4.2 < (lenI x)))
  ((geti x z4.2).bind fun y6 =>
  ((m_impl_copyAcceptor y6).bind fun r7 =>
  (chk (Nat.ble ((z4.1.length + [r7].length) * 24) maxBytes)
  (rec5 ((z4.1 ++ [r7]), IntKind.wrap .i64 (z4.2 + (1 : Int)))))))
  (some z4.1))) n z0)
def p_impl_copyAcceptors (n : Nat) (x : (List (List (Int × (Int × (Int × ((Int × Int) × (List (Int × Int))))))))) : Option (List (List (Int × (Int × (Int × ((Int × Int) × (List (Int × Int)))))))) :=
(l_impl_copyAcceptors_1 n x (([] : List (List (Int × (Int × (Int × ((Int × Int) × (List (Int × Int)))))))), (0 : Int)))
def m_impl_copyAcceptors (x : (List (List (Int × (Int × (Int × ((Int × Int) × (List (Int × Int))))))))) : Option (List (List (Int × (Int × (Int × ((Int × Int) × (List (Int × Int)))))))) := p_impl_copyAcceptors FU x
def a_impl_copyAcceptors : Ann := (.node .leaf (.node (.own 6 (.one (.sl (some 73) (.pair (.int .i64) (.pair (.int .i64) (.pair (.int .i64) (.pair (.pair (.int .i64) (.int .i64)) (.sl (some 70) (.pair (.int .i64) (.int .i64))))))))) .leaf) (.node (.node .leaf (.loop [.slot 3 (.sl (some 80) (.one (.sl (some 73) (.pair (.int .i64) (.pair (.int .i64) (.pair (.int .i64) (.pair (.pair (.int .i64) (.int .i64)) (.sl (some 70) (.pair (.int .i64) (.int .i64)))))))))), .slot 9 (.int .i64)] [5, 10, 11, 12, 13, 14, 15, 16, 17, 18] (.node .leaf (.node .leaf (.node (.node .leaf (.own 16 (.one (.sl (some 73) (.pair (.int .i64) (.pair (.int .i64) (.pair (.int .i64) (.pair (.pair (.int .i64) (.int .i64)) (.sl (some 70) (.pair (.int .i64) (.int .i64))))))))) .leaf)) .leaf))))) .leaf)))
def S_impl_copyAcceptors : FSpec := ⟨[.val (.sl none (.one (.sl none (.pair (.int .i64) (.pair (.int .i64) (.pair (.int .i64) (.pair (.pair (.int .i64) (.int .i64)) (.sl none (.pair (.int .i64) (.int .i64))))))))))], [(.sl (some 80) (.one (.sl (some 73) (.pair (.int .i64) (.pair (.int .i64) (.pair (.int .i64) (.pair (.pair (.int .i64) (.int .i64)) (.sl (some 70) (.pair (.int .i64) (.int .i64))))))))))], m_impl_copyAcceptors⟩

/-! impl.Acceptor).slotAt -/
def l_impl_Acceptor_slotAt_1 (n : Nat) (x_1 : (List (Int × (Int × (Int × ((Int × Int) × (List (Int × Int)))))))) (x_2_1 : Int) (x_2_2 : Int) (z0 : (Int × Int)) : Option Int :=
(lp (fun rec13 (z12 : (Int × Int)) =>
 (cond (decide (z12.1 < z12.2))
  (chk (decide (0 ≤ (1 : Int)))
   ((geti x_1 (IntKind.wrap .i64 (Int.fdiv (IntKind.wrap .u64 (IntKind.wrap .i64 (z12.1 + z12.2))) (2 ^ (min (1 : Int).toNat 64))))).bind fun y14 =>
   ((m_impl_compareSlots (y14, (x_2_1, (x_2_2, ((0 : Int), (((0 : Int), (0 : Int)), [])))))).bind fun r15 =>
   (cond (decide (r15 < (0 : Int)))
    (rec13 (IntKind.wrap .i64 ((IntKind.wrap .i64 (Int.fdiv (IntKind.wrap .u64 (IntKind.wrap .i64 (z12.1 + z12.2))) (2 ^ (min (1 : Int).toNat 64)))) + (1 : Int)), z12.2))
    (rec13 (z12.1, IntKind.wrap .i64 (Int.fdiv (IntKind.wrap .u64 (IntKind.wrap .i64 (z12.1 + z12.2))) (2 ^ (min (1 : Int).toNat 64)))))))))
  (some z12.1))) n z0)
def p_impl_Acceptor_slotAt (n : Nat) (x : ((List (Int × (Int × (Int × ((Int × Int) × (List (Int × Int))))))) × (Int × Int))) : Option (Int × Bool) :=
(Option.bind (α := Int)
 (l_impl_Acceptor_slotAt_1 n x.1 x.2.1 x.2.2 ((0 : Int), lenI x.1)) fun j17 =>
(cond (decide (j17 < (lenI x.1)))
 ((geti x.1 j17).bind fun y18 =>
 ((m_impl_compareSlots (y18, (x.2.1, (x.2.2, ((0 : Int), (((0 : Int), (0 : Int)), [])))))).bind fun r19 =>
 some (j17, (r19 == (0 : Int)))))
 (some (j17, false))))
def m_impl_Acceptor_slotAt (x : ((List (Int × (Int × (Int × ((Int × Int) × (List (Int × Int))))))) × (Int × Int))) : Option (Int × Bool) := p_impl_Acceptor_slotAt FU x
def a_impl_Acceptor_slotAt : Ann := (.node .leaf (.node (.reg 13 (.node .leaf (.node .leaf (.node .leaf (.join [.slot 9 (.int .i64)] [10, 11, 15, 16, 17, 18, 19, 20, 21, 22, 23, 24, 25, 26, 27, 28, 29, 30, 31, 32, 33, 34] (.loop [.slot 9 (.int .i64), .slot 10 (.int .i64)] [11, 15, 16, 17, 18, 19, 20, 21, 22, 23, 24, 25, 26, 27, 28, 29, 30, 31, 32, 33, 34] .leaf) .leaf)))) .leaf) .leaf))
def S_impl_Acceptor_slotAt : FSpec := ⟨[.val (.one (.sl none (.pair (.int .i64) (.pair (.int .i64) (.pair (.int .i64) (.pair (.pair (.int .i64) (.int .i64)) (.sl none (.pair (.int .i64) (.int .i64))))))))), .val (.int .i64), .val (.int .i64)], [(.int .i64), .bool], m_impl_Acceptor_slotAt⟩

/-! impl.Acceptor).slot -/
def p_impl_Acceptor_slot (n : Nat) (x : ((List (Int × (Int × (Int × ((Int × Int) × (List (Int × Int))))))) × (Int × Int))) : Option (Int × (Int × (Int × ((Int × Int) × (List (Int × Int)))))) :=
((m_impl_Acceptor_slotAt (x.1, x.2.1, x.2.2)).bind fun r1 =>
(cond (!r1.2)
 ((m_impl_newSlot (x.2.1, x.2.2)).bind fun r2 =>
 some r2)
 ((geti x.1 r1.1).bind fun y3 =>
 ((m_impl_copySlot y3).bind fun r4 =>
 some r4))))
def m_impl_Acceptor_slot (x : ((List (Int × (Int × (Int × ((Int × Int) × (List (Int × Int))))))) × (Int × Int))) : Option (Int × (Int × (Int × ((Int × Int) × (List (Int × Int)))))) := p_impl_Acceptor_slot FU x
def a_impl_Acceptor_slot : Ann := .leaf
def S_impl_Acceptor_slot : FSpec := ⟨[.val (.one (.sl none (.pair (.int .i64) (.pair (.int .i64) (.pair (.int .i64) (.pair (.pair (.int .i64) (.int .i64)) (.sl none (.pair (.int .i64) (.int .i64))))))))), .val (.int .i64), .val (.int .i64)], [(.pair (.int .i64) (.pair (.int .i64) (.pair (.int .i64) (.pair (.pair (.int .i64) (.int .i64)) (.sl (some 70) (.pair (.int .i64) (.int .i64)))))))], m_impl_Acceptor_slot⟩

/-! impl.PromiseSlot -/
def p_impl_PromiseSlot (n : Nat) (x : ((Int × (Int × (Int × ((Int × Int) × (List (Int × Int)))))) × Int)) : Option (Int × ((Int × Int) × (Int × (Int × (Int × ((Int × Int) × (List (Int × Int)))))))) :=
((m_impl_SlotFault x.1).bind fun r1 =>
(cond (!(r1 == (0 : Int)))
 (some (r1, (((0 : Int), (0 : Int)), ((0 : Int), ((0 : Int), ((0 : Int), (((0 : Int), (0 : Int)), [])))))))
 ((m_impl_isBallot x.2).bind fun r2 =>
 (cond (!r2)
  (some ((3 : Int), (((0 : Int), (0 : Int)), ((0 : Int), ((0 : Int), ((0 : Int), (((0 : Int), (0 : Int)), [])))))))
  (cond (decide (x.2 < x.1.2.2.1))
   (some ((8 : Int), (((0 : Int), (0 : Int)), ((0 : Int), ((0 : Int), ((0 : Int), (((0 : Int), (0 : Int)), [])))))))
   ((m_impl_copySlot x.1).bind fun r3 =>
   some ((0 : Int), (x.1.2.2.2.1, (r3.1, (r3.2.1, (x.2, r3.2.2.2)))))))))))
def m_impl_PromiseSlot (x : ((Int × (Int × (Int × ((Int × Int) × (List (Int × Int)))))) × Int)) : Option (Int × ((Int × Int) × (Int × (Int × (Int × ((Int × Int) × (List (Int × Int)))))))) := p_impl_PromiseSlot FU x
def a_impl_PromiseSlot : Ann := .leaf
def S_impl_PromiseSlot : FSpec := ⟨[.val (.pair (.int .i64) (.pair (.int .i64) (.pair (.int .i64) (.pair (.pair (.int .i64) (.int .i64)) (.sl none (.pair (.int .i64) (.int .i64))))))), .val (.int .i64)], [(.pair (.int .i64) (.pair (.pair (.int .i64) (.int .i64)) (.pair (.int .i64) (.pair (.int .i64) (.pair (.int .i64) (.pair (.pair (.int .i64) (.int .i64)) (.sl (some 70) (.pair (.int .i64) (.int .i64)))))))))], m_impl_PromiseSlot⟩

/-! impl.Slot] -/
def p_slices_Insert_impl_Slot_impl_Slot (n : Nat) (x : ((List (Int × (Int × (Int × ((Int × Int) × (List (Int × Int))))))) × (Int × (List (Int × (Int × (Int × ((Int × Int) × (List (Int × Int)))))))))) : Option ((List (Int × (Int × (Int × ((Int × Int) × (List (Int × Int))))))) × (Bool × Bool)) :=
(insRun 64 x).map fun y => (y, (true, true))
def m_slices_Insert_impl_Slot_impl_Slot (x : ((List (Int × (Int × (Int × ((Int × Int) × (List (Int × Int))))))) × (Int × (List (Int × (Int × (Int × ((Int × Int) × (List (Int × Int)))))))))) : Option ((List (Int × (Int × (Int × ((Int × Int) × (List (Int × Int))))))) × (Bool × Bool)) := p_slices_Insert_impl_Slot_impl_Slot FU x
def a_slices_Insert_impl_Slot_impl_Slot : Ann := .leaf
def S_slices_Insert_impl_Slot_impl_Slot : FSpec := ⟨[.own 73 (.pair (.int .i64) (.pair (.int .i64) (.pair (.int .i64) (.pair (.pair (.int .i64) (.int .i64)) (.sl (some 70) (.pair (.int .i64) (.int .i64))))))), .val (.int .i64), .own 73 (.pair (.int .i64) (.pair (.int .i64) (.pair (.int .i64) (.pair (.pair (.int .i64) (.int .i64)) (.sl (some 70) (.pair (.int .i64) (.int .i64)))))))], [(.sl (some 73) (.pair (.int .i64) (.pair (.int .i64) (.pair (.int .i64) (.pair (.pair (.int .i64) (.int .i64)) (.sl (some 70) (.pair (.int .i64) (.int .i64))))))))], m_slices_Insert_impl_Slot_impl_Slot⟩

/-! impl.Acceptor).promise -/
def p_impl_Acceptor_promise (n : Nat) (x : ((List (Int × (Int × (Int × ((Int × Int) × (List (Int × Int))))))) × (Int × (Int × Int)))) : Option (Int × ((Int × Int) × (List (Int × (Int × (Int × ((Int × Int) × (List (Int × Int))))))))) :=
(Option.bind (α := (Int × ((Int × Int) × (List (Int × (Int × (Int × ((Int × Int) × (List (Int × Int))))))))))
 ((m_impl_Acceptor_slot (x.1, x.2.1, x.2.2.1)).bind fun r6 =>
 ((m_impl_PromiseSlot (r6, x.2.2.2)).bind fun r7 =>
 (cond (!(r7.1 == (0 : Int)))
  (some (r7.1, (((0 : Int), (0 : Int)), [])))
  ((m_impl_copyAcceptor x.1).bind fun r8 =>
  ((m_impl_Acceptor_slotAt (r8, x.2.1, x.2.2.1)).bind fun r9 =>
  (cond r9.2
   ((geti r8 r9.1).bind fun _ =>
   ((r8[r9.1.toNat]?).bind fun _ =>
   some ((0 : Int), (r7.2.1, (r8.set r9.1.toNat r7.2.2)))))
   (cond ((lenI r8) == (60 : Int))
    (some ((2 : Int), (((0 : Int), (0 : Int)), [])))
    ((m_slices_Insert_impl_Slot_impl_Slot (r8, r9.1, [r7.2.2])).bind fun r10 =>
    some ((0 : Int), (r7.2.1, r10.1)))))))))) fun j11 =>
some j11)
def m_impl_Acceptor_promise (x : ((List (Int × (Int × (Int × ((Int × Int) × (List (Int × Int))))))) × (Int × (Int × Int)))) : Option (Int × ((Int × Int) × (List (Int × (Int × (Int × ((Int × Int) × (List (Int × Int))))))))) := p_impl_Acceptor_promise FU x
def a_impl_Acceptor_promise : Ann := (.node .leaf (.node (.regj 13 [.slot 13 (.pair (.int .i64) (.pair (.pair (.int .i64) (.int .i64)) (.one (.sl (some 73) (.pair (.int .i64) (.pair (.int .i64) (.pair (.int .i64) (.pair (.pair (.int .i64) (.int .i64)) (.sl (some 70) (.pair (.int .i64) (.int .i64)))))))))))] [] (.node .leaf (.node .leaf (.node .leaf (.node .leaf (.node .leaf (.node (.node .leaf (.node .leaf (.node .leaf (.node .leaf (.own 39 (.pair (.int .i64) (.pair (.int .i64) (.pair (.int .i64) (.pair (.pair (.int .i64) (.int .i64)) (.sl (some 70) (.pair (.int .i64) (.int .i64))))))) .leaf))))) .leaf)))))) .leaf) .leaf))
def S_impl_Acceptor_promise : FSpec := ⟨[.val (.one (.sl none (.pair (.int .i64) (.pair (.int .i64) (.pair (.int .i64) (.pair (.pair (.int .i64) (.int .i64)) (.sl none (.pair (.int .i64) (.int .i64))))))))), .val (.int .i64), .val (.int .i64), .val (.int .i64)], [(.pair (.int .i64) (.pair (.pair (.int .i64) (.int .i64)) (.one (.sl (some 73) (.pair (.int .i64) (.pair (.int .i64) (.pair (.int .i64) (.pair (.pair (.int .i64) (.int .i64)) (.sl (some 70) (.pair (.int .i64) (.int .i64)))))))))))], m_impl_Acceptor_promise⟩

/-! impl.quorum -/
def p_impl_quorum (n : Nat) (x : Int) : Option Int :=
(cond ((2 : Int) == 0) none
 (some (IntKind.wrap .i64 ((IntKind.wrap .i64 (Int.tdiv x (2 : Int))) + (1 : Int)))))
def m_impl_quorum (x : Int) : Option Int := p_impl_quorum FU x
def a_impl_quorum : Ann := .leaf
def S_impl_quorum : FSpec := ⟨[.val (.int .i64)], [(.int .i64)], m_impl_quorum⟩

/-! impl.PickValue$1 -/
def p_impl_PickValue_1 (n : Nat) (x : (Int × Int)) : Option Bool :=
((m_impl_noVote ()).bind fun r1 =>
(cond (!((x.1 == r1.1) && ((x.2 == r1.2) && true)))
 ((m_impl_isVote x).bind fun r2 =>
 some (!r2))
 (some false)))
def m_impl_PickValue_1 (x : (Int × Int)) : Option Bool := p_impl_PickValue_1 FU x
def a_impl_PickValue_1 : Ann := .leaf
def S_impl_PickValue_1 : FSpec := ⟨[.val (.pair (.int .i64) (.int .i64))], [.bool], m_impl_PickValue_1⟩

/-! impl.PickValue -/
def l_impl_PickValue_1 (n : Nat) (x_1 : (List (Int × Int))) (z0 : Int) : Option Int :=
(lp (fun rec31 (z30 : Int) =>
 (cond (decide (z30 < (lenI x_1)))
  ((geti x_1 z30).bind fun y32 =>
  ((m_impl_PickValue_1 y32).bind fun r33 =>
  (cond r33
   (some z30)
   (rec31 (IntKind.wrap .i64 (z30 + (1 : Int)))))))
  (some (-1 : Int)))) n z0)
def l_impl_PickValue_2 (n : Nat) (x_1 : (List (Int × Int))) (z0 : (Int × (Int × Int))) : Option (Int × Int) :=
(lp (fun rec43 (z42 : (Int × (Int × Int))) =>
 (cond (decide (z42.1 < (lenI x_1)))
  ((geti x_1 z42.1).bind fun y44 =>
  (cond (decide (y44.1 > z42.2.1))
   (rec43 (IntKind.wrap .i64 (z42.1 + (1 : Int)), y44))
   (rec43 (IntKind.wrap .i64 (z42.1 + (1 : Int)), z42.2))))
  (some ((0 : Int), z42.2.2)))) n z0)
def p_impl_PickValue (n : Nat) (x : ((List (Int × Int)) × Int)) : Option (Int × Int) :=
(cond (decide ((lenI x.1) > (9 : Int)))
 (some ((2 : Int), (0 : Int)))
 (Option.bind (α := Bool)
  (Option.bind (α := Int)
   (l_impl_PickValue_1 n x.1 (0 : Int)) fun j35 =>
  (cond (decide (j35 ≥ (0 : Int)))
   (some true)
   ((m_impl_isValue x.2).bind fun r36 =>
   some (!r36)))) fun j37 =>
 (cond j37
  (some ((3 : Int), (0 : Int)))
  (l_impl_PickValue_2 n x.1 ((0 : Int), ((-1 : Int), x.2))))))
def m_impl_PickValue (x : ((List (Int × Int)) × Int)) : Option (Int × Int) := p_impl_PickValue FU x
def a_impl_PickValue : Ann := (.node .leaf (.node (.node .leaf (.node .leaf (.join [.slot 13 .bool] [14, 15, 16, 17, 18, 19, 20] (.reg 15 (.node .leaf (.node (.regj 7 [.slot 7 (.int .i64)] [] (.node .leaf (.node (.node .leaf (.loop [.slot 8 (.int .i64)] [4, 5, 9, 10, 11, 12, 13, 14, 15, 16, 17, 18] .leaf)) .leaf)) .leaf) .leaf)) .leaf) .leaf))) (.node .leaf (.node (.node .leaf (.loop [.slot 26 (.int .i64), .box 1 (.pair (.int .i64) (.int .i64))] [7, 27, 28, 29, 30, 31, 32, 33, 34, 35, 36] .leaf)) .leaf))))
def S_impl_PickValue : FSpec := ⟨[.val (.sl none (.pair (.int .i64) (.int .i64))), .val (.int .i64)], [(.pair (.int .i64) (.int .i64))], m_impl_PickValue⟩

/-! impl.AcceptSlot -/
def p_impl_AcceptSlot (n : Nat) (x : ((Int × (Int × (Int × ((Int × Int) × (List (Int × Int)))))) × (Int × Int))) : Option (Int × ((Int × Int) × (Int × (Int × (Int × ((Int × Int) × (List (Int × Int)))))))) :=
((m_impl_SlotFault x.1).bind fun r1 =>
(cond (!(r1 == (0 : Int)))
 (some (r1, (((0 : Int), (0 : Int)), ((0 : Int), ((0 : Int), ((0 : Int), (((0 : Int), (0 : Int)), [])))))))
 ((m_impl_isVote x.2).bind fun r2 =>
 (cond (!r2)
  (some ((3 : Int), (((0 : Int), (0 : Int)), ((0 : Int), ((0 : Int), ((0 : Int), (((0 : Int), (0 : Int)), [])))))))
  (cond (decide (x.2.1 < x.1.2.2.1))
   (some ((8 : Int), (((0 : Int), (0 : Int)), ((0 : Int), ((0 : Int), ((0 : Int), (((0 : Int), (0 : Int)), [])))))))
   (Option.bind (α := Bool)
    (cond (x.2.1 == x.1.2.2.2.1.1)
     (some (!(x.2.2 == x.1.2.2.2.1.2)))
     (some false)) fun j3 =>
   (cond j3
    (some ((7 : Int), (((0 : Int), (0 : Int)), ((0 : Int), ((0 : Int), ((0 : Int), (((0 : Int), (0 : Int)), [])))))))
    (Option.bind (α := Bool)
     (cond (!((x.2.1 == x.1.2.2.2.1.1) && ((x.2.2 == x.1.2.2.2.1.2) && true)))
      (some ((lenI x.1.2.2.2.2) == (60 : Int)))
      (some false)) fun j4 =>
    (cond j4
     (some ((2 : Int), (((0 : Int), (0 : Int)), ((0 : Int), ((0 : Int), ((0 : Int), (((0 : Int), (0 : Int)), [])))))))
     ((m_impl_copySlot x.1).bind fun r5 =>
     (Option.bind (α := (Int × (Int × (Int × ((Int × Int) × (List (Int × Int)))))))
      (cond (!((x.2.1 == x.1.2.2.2.1.1) && ((x.2.2 == x.1.2.2.2.1.2) && true)))
       (chk (Nat.ble ((r5.2.2.2.2.length + [x.2].length) * 16) maxBytes)
       (some (r5.1, (r5.2.1, (x.2.1, (x.2, (r5.2.2.2.2 ++ [x.2])))))))
       (some (r5.1, (r5.2.1, (x.2.1, (x.2, r5.2.2.2.2)))))) fun j6 =>
     some ((0 : Int), (x.1.2.2.2.1, j6)))))))))))))
def m_impl_AcceptSlot (x : ((Int × (Int × (Int × ((Int × Int) × (List (Int × Int)))))) × (Int × Int))) : Option (Int × ((Int × Int) × (Int × (Int × (Int × ((Int × Int) × (List (Int × Int)))))))) := p_impl_AcceptSlot FU x
def a_impl_AcceptSlot : Ann := (.node .leaf (.node .leaf (.node .leaf (.node (.node .leaf (.node .leaf (.node .leaf (.node .leaf (.join [.slot 30 .bool] [31, 32, 33, 34, 35, 36, 37, 38, 39, 40, 41, 42] .leaf (.node .leaf (.join [.slot 44 .bool] [45, 46, 47, 48, 49, 50, 51, 52, 53, 54] .leaf .leaf))))))) (.node .leaf (.join [.box 4 (.pair (.int .i64) (.pair (.int .i64) (.pair (.int .i64) (.pair (.pair (.int .i64) (.int .i64)) (.sl (some 70) (.pair (.int .i64) (.int .i64)))))))] [58, 59, 60, 61, 62, 63, 64, 65, 66, 67, 68, 69, 70, 71] .leaf .leaf))))))
def S_impl_AcceptSlot : FSpec := ⟨[.val (.pair (.int .i64) (.pair (.int .i64) (.pair (.int .i64) (.pair (.pair (.int .i64) (.int .i64)) (.sl none (.pair (.int .i64) (.int .i64))))))), .val (.int .i64), .val (.int .i64)], [(.pair (.int .i64) (.pair (.pair (.int .i64) (.int .i64)) (.pair (.int .i64) (.pair (.int .i64) (.pair (.int .i64) (.pair (.pair (.int .i64) (.int .i64)) (.sl (some 70) (.pair (.int .i64) (.int .i64)))))))))], m_impl_AcceptSlot⟩

/-! impl.Acceptor).accept -/
def p_impl_Acceptor_accept (n : Nat) (x : ((List (Int × (Int × (Int × ((Int × Int) × (List (Int × Int))))))) × (Int × (Int × (Int × Int))))) : Option (Int × ((Int × Int) × (List (Int × (Int × (Int × ((Int × Int) × (List (Int × Int))))))))) :=
(Option.bind (α := (Int × ((Int × Int) × (List (Int × (Int × (Int × ((Int × Int) × (List (Int × Int))))))))))
 ((m_impl_Acceptor_slot (x.1, x.2.1, x.2.2.1)).bind fun r6 =>
 ((m_impl_AcceptSlot (r6, x.2.2.2.1, x.2.2.2.2)).bind fun r7 =>
 (cond (!(r7.1 == (0 : Int)))
  (some (r7.1, (((0 : Int), (0 : Int)), [])))
  ((m_impl_copyAcceptor x.1).bind fun r8 =>
  ((m_impl_Acceptor_slotAt (r8, x.2.1, x.2.2.1)).bind fun r9 =>
  (cond r9.2
   ((geti r8 r9.1).bind fun _ =>
   ((r8[r9.1.toNat]?).bind fun _ =>
   some ((0 : Int), (r7.2.1, (r8.set r9.1.toNat r7.2.2)))))
   (cond ((lenI r8) == (60 : Int))
    (some ((2 : Int), (((0 : Int), (0 : Int)), [])))
    ((m_slices_Insert_impl_Slot_impl_Slot (r8, r9.1, [r7.2.2])).bind fun r10 =>
    some ((0 : Int), (r7.2.1, r10.1)))))))))) fun j11 =>
some j11)
def m_impl_Acceptor_accept (x : ((List (Int × (Int × (Int × ((Int × Int) × (List (Int × Int))))))) × (Int × (Int × (Int × Int))))) : Option (Int × ((Int × Int) × (List (Int × (Int × (Int × ((Int × Int) × (List (Int × Int))))))))) := p_impl_Acceptor_accept FU x
def a_impl_Acceptor_accept : Ann := (.node .leaf (.node (.regj 15 [.slot 15 (.pair (.int .i64) (.pair (.pair (.int .i64) (.int .i64)) (.one (.sl (some 73) (.pair (.int .i64) (.pair (.int .i64) (.pair (.int .i64) (.pair (.pair (.int .i64) (.int .i64)) (.sl (some 70) (.pair (.int .i64) (.int .i64)))))))))))] [] (.node .leaf (.node .leaf (.node .leaf (.node .leaf (.node .leaf (.node (.node .leaf (.node .leaf (.node .leaf (.node .leaf (.own 39 (.pair (.int .i64) (.pair (.int .i64) (.pair (.int .i64) (.pair (.pair (.int .i64) (.int .i64)) (.sl (some 70) (.pair (.int .i64) (.int .i64))))))) .leaf))))) .leaf)))))) .leaf) .leaf))
def S_impl_Acceptor_accept : FSpec := ⟨[.val (.one (.sl none (.pair (.int .i64) (.pair (.int .i64) (.pair (.int .i64) (.pair (.pair (.int .i64) (.int .i64)) (.sl none (.pair (.int .i64) (.int .i64))))))))), .val (.int .i64), .val (.int .i64), .val (.int .i64), .val (.int .i64)], [(.pair (.int .i64) (.pair (.pair (.int .i64) (.int .i64)) (.one (.sl (some 73) (.pair (.int .i64) (.pair (.int .i64) (.pair (.int .i64) (.pair (.pair (.int .i64) (.int .i64)) (.sl (some 70) (.pair (.int .i64) (.int .i64)))))))))))], m_impl_Acceptor_accept⟩

/-! impl.RunBallot -/
def l_impl_RunBallot_1 (n : Nat) (x_2_1 : (List Int)) (x_2_2_1 : Int) (x_2_2_2_1 : Int) (x_2_2_2_2_1 : Int) (z0 : ((List Int) × ((List (Int × Int)) × (Int × (List (List (Int × (Int × (Int × ((Int × Int) × (List (Int × Int)))))))))))) : Option ((List Int) × ((List (Int × Int)) × (List (List (Int × (Int × (Int × ((Int × Int) × (List (Int × Int)))))))))) :=
(lp (fun rec40 (z39 : ((List Int) × ((List (Int × Int)) × (Int × (List (List (Int × (Int × (Int × ((Int × Int) × (List (Int × Int)))))))))))) =>
 (cond (decide (z39.2.2.1 < (lenI x_2_1)))
  ((geti x_2_1 z39.2.2.1).bind fun y41 =>
  ((geti z39.2.2.2 y41).bind fun _ =>
  ((z39.2.2.2[y41.toNat]?).bind fun y42 =>
  ((z39.2.2.2[y41.toNat]?).bind fun y43 =>
  ((m_impl_Acceptor_promise (y43, x_2_2_1, x_2_2_2_1, x_2_2_2_2_1)).bind fun r44 =>
  (cond (r44.1 == (0 : Int))
   (chk (Nat.ble ((z39.1.length + [y41].length) * 8) maxBytes)
   (chk (Nat.ble ((z39.2.1.length + [r44.2.1].length) * 16) maxBytes)
   ((geti z39.2.2.2 y41).bind fun _ =>
   ((z39.2.2.2[y41.toNat]?).bind fun _ =>
   rec40 ((z39.1 ++ [y41]), (z39.2.1 ++ [r44.2.1]), IntKind.wrap .i64 (z39.2.2.1 + (1 : Int)), (z39.2.2.2.set y41.toNat r44.2.2))))))
   (rec40 (z39.1, z39.2.1, IntKind.wrap .i64 (z39.2.2.1 + (1 : Int)), z39.2.2.2))))))))
  (some (z39.1, z39.2.1, z39.2.2.2)))) n z0)
def l_impl_RunBallot_2 (n : Nat) (j46_1 : (List Int)) (x_2_2_1 : Int) (x_2_2_2_1 : Int) (x_2_2_2_2_1 : Int) (r48_2 : Int) (z0 : (Int × (List (List (Int × (Int × (Int × ((Int × Int) × (List (Int × Int)))))))))) : Option (Int × (Int × (List (List (Int × (Int × (Int × ((Int × Int) × (List (Int × Int)))))))))) :=
(lp (fun rec60 (z59 : (Int × (List (List (Int × (Int × (Int × ((Int × Int) × (List (Int × Int)))))))))) =>
 (cond (decide (z59.1 < (lenI j46_1)))
  ((geti j46_1 z59.1).bind fun _ =>
  ((j46_1[z59.1.toNat]?).bind fun y61 =>
  ((geti z59.2 y61).bind fun _ =>
  ((z59.2[y61.toNat]?).bind fun y62 =>
  ((z59.2[y61.toNat]?).bind fun y63 =>
  ((m_impl_Acceptor_accept (y63, x_2_2_1, x_2_2_2_1, x_2_2_2_2_1, r48_2)).bind fun r64 =>
  (cond (r64.1 == (0 : Int))
   ((geti z59.2 y61).bind fun _ =>
   ((z59.2[y61.toNat]?).bind fun _ =>
   rec60 (IntKind.wrap .i64 (z59.1 + (1 : Int)), (z59.2.set y61.toNat r64.2.2))))
   (rec60 (IntKind.wrap .i64 (z59.1 + (1 : Int)), z59.2)))))))))
  (some ((0 : Int), (r48_2, z59.2))))) n z0)
def p_impl_RunBallot (n : Nat) (x : ((List (List (Int × (Int × (Int × ((Int × Int) × (List (Int × Int)))))))) × ((List Int) × (Int × (Int × (Int × Int)))))) : Option (Int × (Int × (List (List (Int × (Int × (Int × ((Int × Int) × (List (Int × Int)))))))))) :=
((m_impl_listFault x.1).bind fun r1 =>
((m_impl_NewSlot (x.2.2.1, x.2.2.2.1)).bind fun r2 =>
((m_impl_firstOf [r1, r2.1]).bind fun r3 =>
(cond (!(r3 == (0 : Int)))
 (some (r3, ((0 : Int), [])))
 (Option.bind (α := Bool)
  ((m_impl_isBallot x.2.2.2.2.1).bind fun r6 =>
  (cond (!r6)
   (some true)
   ((m_impl_isValue x.2.2.2.2.2).bind fun r7 =>
   some (!r7)))) fun j8 =>
 (cond j8
  (some ((3 : Int), ((0 : Int), [])))
  ((m_impl_size_impl_Acceptor x.1).bind fun r9 =>
  ((m_impl_reachedFault (x.2.1, r9)).bind fun r10 =>
  (cond (!(r10 == (0 : Int)))
   (some (r10, ((0 : Int), [])))
   ((m_impl_copyAcceptors x.1).bind fun r11 =>
   (Option.bind (α := ((List Int) × ((List (Int × Int)) × (List (List (Int × (Int × (Int × ((Int × Int) × (List (Int × Int)))))))))))
    (l_impl_RunBallot_1 n x.2.1 x.2.2.1 x.2.2.2.1 x.2.2.2.2.1 (([] : List Int), ([] : List (Int × Int)), (0 : Int), r11)) fun j46 =>
   ((m_impl_quorum (lenI x.1)).bind fun r47 =>
   (cond (decide ((lenI j46.1) < r47))
    (some ((4 : Int), ((0 : Int), j46.2.2)))
    ((m_impl_PickValue (j46.2.1, x.2.2.2.2.2)).bind fun r48 =>
    (l_impl_RunBallot_2 n j46.1 x.2.2.1 x.2.2.2.1 x.2.2.2.2.1 r48.2 ((0 : Int), j46.2.2))))))))))))))))
def m_impl_RunBallot (x : ((List (List (Int × (Int × (Int × ((Int × Int) × (List (Int × Int)))))))) × ((List Int) × (Int × (Int × (Int × Int)))))) : Option (Int × (Int × (List (List (Int × (Int × (Int × ((Int × Int) × (List (Int × Int)))))))))) := p_impl_RunBallot FU x
def a_impl_RunBallot : Ann := (.node .leaf (.node .leaf (.node (.join [.slot 44 .bool] [37, 38, 39, 40, 41, 42, 43] .leaf .leaf) (.node .leaf (.node .leaf (.join [.slot 16 (.sl (some 2) (.int .i64)), .slot 17 (.sl (some 70) (.pair (.int .i64) (.int .i64))), .row 3 80 (.one (.sl (some 73) (.pair (.int .i64) (.pair (.int .i64) (.pair (.int .i64) (.pair (.pair (.int .i64) (.int .i64)) (.sl (some 70) (.pair (.int .i64) (.int .i64)))))))))] [19, 20, 58, 59, 60, 61, 62, 63, 64, 65, 66, 67, 68, 69, 70, 71, 72, 73, 74, 75, 76, 77, 78, 79, 80, 81, 82, 83, 84, 85, 86, 87, 88, 89] (.node .leaf (.loop [.slot 16 (.sl (some 2) (.int .i64)), .slot 17 (.sl (some 70) (.pair (.int .i64) (.int .i64))), .slot 60 (.int .i64), .row 3 80 (.one (.sl (some 73) (.pair (.int .i64) (.pair (.int .i64) (.pair (.int .i64) (.pair (.pair (.int .i64) (.int .i64)) (.sl (some 70) (.pair (.int .i64) (.int .i64)))))))))] [19, 20, 61, 62, 63, 64, 65, 66, 67, 68, 69, 70, 71, 72, 73, 74, 75, 76, 77, 78, 79, 80, 81, 82, 83, 84, 85, 86, 87, 88, 89] (.node .leaf (.node .leaf (.node (.node .leaf (.node .leaf (.node .leaf (.node (.lazy 86 (.lazy 81 .leaf)) .leaf)))) .leaf))))) (.node .leaf (.node .leaf (.node (.node .leaf (.loop [.slot 104 (.int .i64), .row 3 80 (.one (.sl (some 73) (.pair (.int .i64) (.pair (.int .i64) (.pair (.int .i64) (.pair (.pair (.int .i64) (.int .i64)) (.sl (some 70) (.pair (.int .i64) (.int .i64)))))))))] [23, 24, 105, 106, 107, 108, 109, 110, 111, 112, 113, 114, 115, 116, 117, 118, 119, 120, 121, 122, 123, 124, 125] .leaf)) .leaf)))))))))
def S_impl_RunBallot : FSpec := ⟨[.val (.sl none (.one (.sl none (.pair (.int .i64) (.pair (.int .i64) (.pair (.int .i64) (.pair (.pair (.int .i64) (.int .i64)) (.sl none (.pair (.int .i64) (.int .i64)))))))))), .val (.sl none (.int .i64)), .val (.int .i64), .val (.int .i64), .val (.int .i64), .val (.int .i64)], [(.pair (.int .i64) (.pair (.int .i64) (.sl (some 80) (.one (.sl (some 73) (.pair (.int .i64) (.pair (.int .i64) (.pair (.int .i64) (.pair (.pair (.int .i64) (.int .i64)) (.sl (some 70) (.pair (.int .i64) (.int .i64))))))))))))], m_impl_RunBallot⟩

/-! impl.slotsFor -/
def l_impl_slotsFor_1 (n : Nat) (x_1 : (List (List (Int × (Int × (Int × ((Int × Int) × (List (Int × Int))))))))) (x_2_1 : Int) (x_2_2 : Int) (z0 : ((List (Int × (Int × (Int × ((Int × Int) × (List (Int × Int))))))) × Int)) : Option (List (Int × (Int × (Int × ((Int × Int) × (List (Int × Int))))))) :=
(lp (fun rec5 (z4 : ((List (Int × (Int × (Int × ((Int × Int) × (List (Int × Int))))))) × Int)) =>
 (cond (decide (z4.2 < (lenI x_1)))
  ((geti x_1 z4.2).bind fun y6 =>
  ((m_impl_Acceptor_slot (y6, x_2_1, x_2_2)).bind fun r7 =>
  (chk (Nat.ble ((z4.1.length + [r7].length) * 64) maxBytes)
  (rec5 ((z4.1 ++ [r7]), IntKind.wrap .i64 (z4.2 + (1 : Int)))))))
  (some z4.1))) n z0)
def p_impl_slotsFor (n : Nat) (x : ((List (List (Int × (Int × (Int × ((Int × Int) × (List (Int × Int)))))))) × (Int × Int))) : Option (List (Int × (Int × (Int × ((Int × Int) × (List (Int × Int))))))) :=
(l_impl_slotsFor_1 n x.1 x.2.1 x.2.2 (([] : List (Int × (Int × (Int × ((Int × Int) × (List (Int × Int))))))), (0 : Int)))
def m_impl_slotsFor (x : ((List (List (Int × (Int × (Int × ((Int × Int) × (List (Int × Int)))))))) × (Int × Int))) : Option (List (Int × (Int × (Int × ((Int × Int) × (List (Int × Int))))))) := p_impl_slotsFor FU x
def a_impl_slotsFor : Ann := (.node .leaf (.node (.own 10 (.pair (.int .i64) (.pair (.int .i64) (.pair (.int .i64) (.pair (.pair (.int .i64) (.int .i64)) (.sl (some 70) (.pair (.int .i64) (.int .i64))))))) .leaf) (.node (.node .leaf (.loop [.slot 7 (.sl (some 73) (.pair (.int .i64) (.pair (.int .i64) (.pair (.int .i64) (.pair (.pair (.int .i64) (.int .i64)) (.sl (some 70) (.pair (.int .i64) (.int .i64)))))))), .slot 13 (.int .i64)] [9, 14, 15, 16, 17, 18, 19, 20, 21, 22, 23, 24] (.node .leaf (.node .leaf (.node (.node .leaf (.own 22 (.pair (.int .i64) (.pair (.int .i64) (.pair (.int .i64) (.pair (.pair (.int .i64) (.int .i64)) (.sl (some 70) (.pair (.int .i64) (.int .i64))))))) .leaf)) .leaf))))) .leaf)))
def S_impl_slotsFor : FSpec := ⟨[.val (.sl none (.one (.sl none (.pair (.int .i64) (.pair (.int .i64) (.pair (.int .i64) (.pair (.pair (.int .i64) (.int .i64)) (.sl none (.pair (.int .i64) (.int .i64)))))))))), .val (.int .i64), .val (.int .i64)], [(.sl (some 73) (.pair (.int .i64) (.pair (.int .i64) (.pair (.int .i64) (.pair (.pair (.int .i64) (.int .i64)) (.sl (some 70) (.pair (.int .i64) (.int .i64))))))))], m_impl_slotsFor⟩

/-! impl.SlotsFor -/
def p_impl_SlotsFor (n : Nat) (x : ((List (List (Int × (Int × (Int × ((Int × Int) × (List (Int × Int)))))))) × (Int × Int))) : Option (Int × (List (Int × (Int × (Int × ((Int × Int) × (List (Int × Int)))))))) :=
((m_impl_listFault x.1).bind fun r1 =>
((m_impl_NewSlot (x.2.1, x.2.2)).bind fun r2 =>
((m_impl_firstOf [r1, r2.1]).bind fun r3 =>
(cond (!(r3 == (0 : Int)))
 (some (r3, []))
 ((m_impl_slotsFor (x.1, x.2.1, x.2.2)).bind fun r4 =>
 some ((0 : Int), r4))))))
def m_impl_SlotsFor (x : ((List (List (Int × (Int × (Int × ((Int × Int) × (List (Int × Int)))))))) × (Int × Int))) : Option (Int × (List (Int × (Int × (Int × ((Int × Int) × (List (Int × Int)))))))) := p_impl_SlotsFor FU x
def a_impl_SlotsFor : Ann := .leaf
def S_impl_SlotsFor : FSpec := ⟨[.val (.sl none (.one (.sl none (.pair (.int .i64) (.pair (.int .i64) (.pair (.int .i64) (.pair (.pair (.int .i64) (.int .i64)) (.sl none (.pair (.int .i64) (.int .i64)))))))))), .val (.int .i64), .val (.int .i64)], [(.pair (.int .i64) (.sl (some 73) (.pair (.int .i64) (.pair (.int .i64) (.pair (.int .i64) (.pair (.pair (.int .i64) (.int .i64)) (.sl (some 70) (.pair (.int .i64) (.int .i64)))))))))], m_impl_SlotsFor⟩

/-! impl.Slot] -/
def p_impl_size_impl_Slot (n : Nat) (x : (List (Int × (Int × (Int × ((Int × Int) × (List (Int × Int)))))))) : Option Int :=
some (lenI x)
def m_impl_size_impl_Slot (x : (List (Int × (Int × (Int × ((Int × Int) × (List (Int × Int)))))))) : Option Int := p_impl_size_impl_Slot FU x
def a_impl_size_impl_Slot : Ann := .leaf
def S_impl_size_impl_Slot : FSpec := ⟨[.val (.sl none (.pair (.int .i64) (.pair (.int .i64) (.pair (.int .i64) (.pair (.pair (.int .i64) (.int .i64)) (.sl none (.pair (.int .i64) (.int .i64))))))))], [(.int .i64)], m_impl_size_impl_Slot⟩

/-! impl.slotsFault -/
def l_impl_slotsFault_1 (n : Nat) (x : (List (Int × (Int × (Int × ((Int × Int) × (List (Int × Int)))))))) (z0 : Int) : Option (Unit ⊕ Int) :=
(lp (fun rec13 (z12 : Int) =>
 (cond (decide (z12 < (lenI x)))
  ((geti x z12).bind fun y14 =>
  ((m_impl_SlotFault y14).bind fun r15 =>
  (cond (!(r15 == (0 : Int)))
   (some (Sum.inr r15))
   (rec13 (IntKind.wrap .i64 (z12 + (1 : Int)))))))
  (some (Sum.inl ())))) n z0)
def l_impl_slotsFault_2 (n : Nat) (x : (List (Int × (Int × (Int × ((Int × Int) × (List (Int × Int)))))))) (z0 : Int) : Option Int :=
(lp (fun rec44 (z43 : Int) =>
 (cond (decide (z43 < (lenI x)))
  ((geti x z43).bind fun y45 =>
  (Option.bind (α := Bool)
   ((geti x (0 : Int)).bind fun y48 =>
   (cond (!(y45.1 == y48.1))
    (some true)
    ((geti x (0 : Int)).bind fun y49 =>
    some (!(y45.2.1 == y49.2.1))))) fun j50 =>
  (cond j50
   (some z43)
   (rec44 (IntKind.wrap .i64 (z43 + (1 : Int)))))))
  (some (-1 : Int)))) n z0)
def p_impl_slotsFault (n : Nat) (x : (List (Int × (Int × (Int × ((Int × Int) × (List (Int × Int)))))))) : Option Int :=
(Option.bind (α := (Unit ⊕ Int))
 (l_impl_slotsFault_1 n x (0 : Int))
 (Sum.elim (fun j17 =>
((m_impl_size_impl_Slot x).bind fun r18 =>
((m_impl_within (r18, (1 : Int), (9 : Int))).bind fun r19 =>
(cond (!r19)
 (some (2 : Int))
 (Option.bind (α := Int)
  (l_impl_slotsFault_2 n x (0 : Int)) fun j52 =>
 (cond (decide (j52 ≥ (0 : Int)))
  (some (1 : Int))
  (some (0 : Int)))))))) some))
def m_impl_slotsFault (x : (List (Int × (Int × (Int × ((Int × Int) × (List (Int × Int)))))))) : Option Int := p_impl_slotsFault FU x
def a_impl_slotsFault : Ann := (.node .leaf (.joinx [] [2, 4, 5, 6, 7, 8, 9, 10, 11, 12, 13, 14, 15, 16, 17] (.node .leaf (.loop [.slot 8 (.int .i64)] [2, 4, 5, 9, 10, 11, 12, 13, 14, 15, 16, 17] .leaf)) (.node .leaf (.node (.node (.reg 24 (.node .leaf (.node (.regj 7 [.slot 7 (.int .i64)] [] (.node .leaf (.node (.node .leaf (.loop [.slot 8 (.int .i64)] [4, 5, 9, 10, 11, 12, 13, 14, 15, 16, 17, 18] (.node .leaf (.node .leaf (.node (.node .leaf (.node (.regj 16 [.slot 16 .bool] [] .leaf .leaf) .leaf)) .leaf))))) .leaf)) .leaf) .leaf)) .leaf) .leaf) .leaf))))
def S_impl_slotsFault : FSpec := ⟨[.val (.sl none (.pair (.int .i64) (.pair (.int .i64) (.pair (.int .i64) (.pair (.pair (.int .i64) (.int .i64)) (.sl none (.pair (.int .i64) (.int .i64))))))))], [(.int .i64)], m_impl_slotsFault⟩

/-! impl.Vote] -/
def l_slices_Compact_impl_Vote_impl_Vote_1 (n : Nat) (x : (List (Int × Int))) (z77 : Int) (z0 : (Int × (Int × (List (Int × Int))))) : Option (Int × (List (Int × Int))) :=
(lp (fun rec146 (z145 : (Int × (Int × (List (Int × Int))))) =>
 (cond (decide (z145.2.1 < (((x.length - z77.toNat) : Nat) : Int)))
  ((geti ((z145.2.2.drop z77.toNat).take (x.length - z77.toNat)) z145.2.1).bind fun _ =>
  ((z145.2.2[(z77.toNat + z145.2.1.toNat)]?).bind fun y147 =>
  ((geti ((z145.2.2.drop z77.toNat).take (x.length - z77.toNat)) (IntKind.wrap .i64 (z145.2.1 - (1 : Int)))).bind fun _ =>
  ((z145.2.2[(z77.toNat + (IntKind.wrap .i64 (z145.2.1 - (1 : Int))).toNat)]?).bind fun y148 =>
  (cond (!((y147.1 == y148.1) && ((y147.2 == y148.2) && true)))
   ((geti ((z145.2.2.drop z77.toNat).take (x.length - z77.toNat)) z145.2.1).bind fun _ =>
   ((z145.2.2[(z77.toNat + z145.2.1.toNat)]?).bind fun y149 =>
   ((geti z145.2.2 z145.1).bind fun _ =>
   ((z145.2.2[z145.1.toNat]?).bind fun y150 =>
   rec146 (IntKind.wrap .i64 (z145.1 + (1 : Int)), IntKind.wrap .i64 (z145.2.1 + (1 : Int)), (z145.2.2.set z145.1.toNat y149))))))
   (rec146 (z145.1, IntKind.wrap .i64 (z145.2.1 + (1 : Int)), z145.2.2)))))))
  (some (z145.1, z145.2.2)))) n z0)
def l_slices_Compact_impl_Vote_impl_Vote_2 (n : Nat) (x : (List (Int × Int))) (z0 : Int) : Option ((List (Int × Int)) × Bool) :=
(lp (fun rec78 (z77 : Int) =>
 (cond (decide (z77 < (lenI x)))
  (Option.bind (α := (Unit ⊕ ((List (Int × Int)) × Bool)))
   ((geti x z77).bind fun _ =>
   ((x[z77.toNat]?).bind fun y116 =>
   ((geti x (IntKind.wrap .i64 (z77 - (1 : Int)))).bind fun _ =>
   ((x[(IntKind.wrap .i64 (z77 - (1 : Int))).toNat]?).bind fun y117 =>
   (cond ((y116.1 == y117.1) && ((y116.2 == y117.2) && true))
    (chk (bndB (some z77) none none x.length)
     (Option.bind (α := (Int × (List (Int × Int))))
      (l_slices_Compact_impl_Vote_impl_Vote_1 n x z77 (z77, (1 : Int), x)) fun j152 =>
     (chk (bndB (some j152.1) none none j152.2.length)
      (chk (bndB none (some j152.1) none (j152.2.take j152.1.toNat ++ List.replicate (j152.2.length - j152.1.toNat) ((0 : Int), (0 : Int)) ++ j152.2.drop (j152.1.toNat + (j152.2.length - j152.1.toNat))).length)
       (some (Sum.inr (((j152.2.take j152.1.toNat ++ List.replicate (j152.2.length - j152.1.toNat) ((0 : Int), (0 : Int)) ++ j152.2.drop (j152.1.toNat + (j152.2.length - j152.1.toNat))).take j152.1.toNat), true)))))))
    (some (Sum.inl ())))))))
   (Sum.elim (fun j153 =>
  rec78 (IntKind.wrap .i64 (z77 + (1 : Int)))) some))
  (some (x, true)))) n z0)
def p_slices_Compact_impl_Vote_impl_Vote (n : Nat) (x : (List (Int × Int))) : Option ((List (Int × Int)) × Bool) :=
(cond (decide ((lenI x) < (2 : Int)))
 (some (x, true))
 (l_slices_Compact_impl_Vote_impl_Vote_2 n x (1 : Int)))
def m_slices_Compact_impl_Vote_impl_Vote (x : (List (Int × Int))) : Option ((List (Int × Int)) × Bool) := p_slices_Compact_impl_Vote_impl_Vote FU x
def a_slices_Compact_impl_Vote_impl_Vote : Ann := (.node .leaf (.node .leaf (.node (.node .leaf (.loop [.slot 3 (.int .i64)] [2, 4, 5, 10, 11, 12, 13, 14, 15, 16, 17, 18, 19, 20, 21, 22, 23, 24, 25, 26, 27, 28, 29, 30, 31, 32, 33, 34, 35, 36, 37, 38, 39, 40, 41, 42, 43, 44, 45, 46, 47, 48, 49, 50, 51, 52, 53, 54, 55, 56, 57, 58, 59] (.node .leaf (.joinx [] [16, 17, 18, 19, 20, 21, 22, 23, 24, 25] (.node .leaf (.node (.node .leaf (.join [.slot 3 (.int .i64), .row 0 70 (.pair (.int .i64) (.int .i64))] [5, 29, 30, 31, 32, 33, 34, 35, 36, 37, 38, 39, 40, 41, 42, 43, 44, 45, 46, 47, 48, 49, 50, 51, 52, 53] (.node .leaf (.loop [.slot 3 (.int .i64), .slot 5 (.int .i64), .row 0 70 (.pair (.int .i64) (.int .i64))] [29, 30, 31, 32, 33, 34, 35, 36, 37, 38, 39, 40, 41, 42, 43, 44, 45, 46, 47, 48, 49, 50, 51, 52, 53] .leaf)) (.node .leaf (.node (.own 59 (.pair (.int .i64) (.int .i64)) .leaf) .leaf)))) .leaf)) .leaf)))) .leaf)))
def S_slices_Compact_impl_Vote_impl_Vote : FSpec := ⟨[.own 70 (.pair (.int .i64) (.int .i64))], [(.sl (some 70) (.pair (.int .i64) (.int .i64)))], m_slices_Compact_impl_Vote_impl_Vote⟩

/-! impl.Vote] -/
def p_slices_SortFunc_impl_Vote_impl_Vote (n : Nat) (x : ((List (Int × Int)) × Bool)) : Option (List (Int × Int)) :=
sortRun okVote ((0 : Int), (0 : Int)) rfl cfVote x.1
def m_slices_SortFunc_impl_Vote_impl_Vote (x : ((List (Int × Int)) × Bool)) : Option (List (Int × Int)) := p_slices_SortFunc_impl_Vote_impl_Vote FU x
def a_slices_SortFunc_impl_Vote_impl_Vote : Ann := .leaf
def S_slices_SortFunc_impl_Vote_impl_Vote : FSpec := ⟨[.row 70 (.pair (.int .i64) (.int .i64)), .fn 86], [], m_slices_SortFunc_impl_Vote_impl_Vote⟩

/-! impl.chosen -/
def l_impl_chosen_1 (n : Nat) (r171_1 : (List (Int × Int))) (x : (List (Int × (Int × (Int × ((Int × Int) × (List (Int × Int)))))))) (z0 : ((List (Int × Int)) × (Int × (List ((Int × Int) × Int))))) : Option ((List (Int × Int)) × (List ((Int × Int) × Int))) :=
(lp (fun rec179 (z178 : ((List (Int × Int)) × (Int × (List ((Int × Int) × Int))))) =>
 (cond (decide (z178.2.1 < (lenI r171_1)))
  ((geti r171_1 z178.2.1).bind fun _ =>
  ((r171_1[z178.2.1.toNat]?).bind fun y180 =>
  ((geti (mput (.pair (.int .i64) (.int .i64)) z178.2.2 y180) ((mfind (.pair (.int .i64) (.int .i64)) z178.2.2 y180 : Nat) : Int)).bind fun _ =>
  ((m_impl_quorum (lenI x)).bind fun r181 =>
  (cond ((mlook (.pair (.int .i64) (.int .i64)) (mset (.pair (.int .i64) (.int .i64)) (mput (.pair (.int .i64) (.int .i64)) z178.2.2 y180) ((mfind (.pair (.int .i64) (.int .i64)) z178.2.2 y180 : Nat) : Int).toNat (IntKind.wrap .i64 ((mlook (.pair (.int .i64) (.int .i64)) z178.2.2 y180) + (1 : Int)))) y180) == r181)
   (chk (Nat.ble ((z178.1.length + [y180].length) * 16) maxBytes)
   (rec179 ((z178.1 ++ [y180]), IntKind.wrap .i64 (z178.2.1 + (1 : Int)), (mset (.pair (.int .i64) (.int .i64)) (mput (.pair (.int .i64) (.int .i64)) z178.2.2 y180) ((mfind (.pair (.int .i64) (.int .i64)) z178.2.2 y180 : Nat) : Int).toNat (IntKind.wrap .i64 ((mlook (.pair (.int .i64) (.int .i64)) z178.2.2 y180) + (1 : Int)))))))
   (rec179 (z178.1, IntKind.wrap .i64 (z178.2.1 + (1 : Int)), (mset (.pair (.int .i64) (.int .i64)) (mput (.pair (.int .i64) (.int .i64)) z178.2.2 y180) ((mfind (.pair (.int .i64) (.int .i64)) z178.2.2 y180 : Nat) : Int).toNat (IntKind.wrap .i64 ((mlook (.pair (.int .i64) (.int .i64)) z178.2.2 y180) + (1 : Int)))))))))))
  (some (z178.1, z178.2.2)))) n z0)
def l_impl_chosen_2 (n : Nat) (x : (List (Int × (Int × (Int × ((Int × Int) × (List (Int × Int)))))))) (z0 : ((List (Int × Int)) × (Int × (List ((Int × Int) × Int))))) : Option ((List (Int × Int)) × (List ((Int × Int) × Int))) :=
(lp (fun rec154 (z153 : ((List (Int × Int)) × (Int × (List ((Int × Int) × Int))))) =>
 (cond (decide (z153.2.1 < (lenI x)))
  (Option.bind (α := ((List (Int × Int)) × (List ((Int × Int) × Int))))
   ((geti x z153.2.1).bind fun y169 =>
   ((m_slices_Clone_impl_Vote_impl_Vote y169.2.2.2.2).bind fun r170 =>
   ((m_slices_Compact_impl_Vote_impl_Vote r170).bind fun r171 =>
   (l_impl_chosen_1 n r171.1 x (z153.1, (0 : Int), z153.2.2))))) fun j183 =>
  rec154 (j183.1, IntKind.wrap .i64 (z153.2.1 + (1 : Int)), j183.2))
  (some (z153.1, z153.2.2)))) n z0)
def p_impl_chosen (n : Nat) (x : (List (Int × (Int × (Int × ((Int × Int) × (List (Int × Int)))))))) : Option (List (Int × Int)) :=
(Option.bind (α := ((List (Int × Int)) × (List ((Int × Int) × Int))))
 (l_impl_chosen_2 n x (([] : List (Int × Int)), (0 : Int), ([] : List ((Int × Int) × Int)))) fun j185 =>
((m_slices_SortFunc_impl_Vote_impl_Vote (j185.1, true)).bind fun r186 =>
some r186))
def m_impl_chosen (x : (List (Int × (Int × (Int × ((Int × Int) × (List (Int × Int)))))))) : Option (List (Int × Int)) := p_impl_chosen FU x
def a_impl_chosen : Ann := (.node .leaf (.node .leaf (.join [.slot 4 (.sl (some 70) (.pair (.int .i64) (.int .i64))), .map 0 (.pair (.int .i64) (.int .i64)) .i64] [6, 8, 11, 12, 13, 14, 15, 16, 17, 18, 19, 20, 21, 22, 23, 24, 25, 26, 27, 28, 29, 30, 31, 32, 33, 34, 35, 36, 37, 38, 39, 40, 41, 42, 43, 44] (.node .leaf (.loop [.slot 4 (.sl (some 70) (.pair (.int .i64) (.int .i64))), .slot 13 (.int .i64), .map 0 (.pair (.int .i64) (.int .i64)) .i64] [6, 8, 14, 15, 16, 17, 18, 19, 20, 21, 22, 23, 24, 25, 26, 27, 28, 29, 30, 31, 32, 33, 34, 35, 36, 37, 38, 39, 40, 41, 42, 43, 44] (.node .leaf (.node .leaf (.join [.slot 4 (.sl (some 70) (.pair (.int .i64) (.int .i64))), .map 0 (.pair (.int .i64) (.int .i64)) .i64] [6, 8, 15, 16, 17, 18, 19, 20, 21, 22, 23, 24, 25, 26, 27, 28, 29, 30, 31, 32, 33, 34, 35, 36, 37, 38, 39, 40, 41, 42, 43] (.node .leaf (.node .leaf (.loop [.slot 4 (.sl (some 70) (.pair (.int .i64) (.int .i64))), .slot 22 (.int .i64), .map 0 (.pair (.int .i64) (.int .i64)) .i64] [8, 23, 24, 25, 26, 27, 28, 29, 30, 31, 32, 33, 34, 35, 36, 37, 38, 39, 40, 41, 42, 43] .leaf))) .leaf))))) .leaf)))
def S_impl_chosen : FSpec := ⟨[.val (.sl none (.pair (.int .i64) (.pair (.int .i64) (.pair (.int .i64) (.pair (.pair (.int .i64) (.int .i64)) (.sl none (.pair (.int .i64) (.int .i64))))))))], [(.sl (some 70) (.pair (.int .i64) (.int .i64)))], m_impl_chosen⟩

/-! impl.ChosenIn -/
def p_impl_ChosenIn (n : Nat) (x : (List (Int × (Int × (Int × ((Int × Int) × (List (Int × Int)))))))) : Option (Int × (Int × Int)) :=
((m_impl_slotsFault x).bind fun r1 =>
(cond (!(r1 == (0 : Int)))
 (some (r1, ((0 : Int), (0 : Int))))
 ((m_impl_chosen x).bind fun r2 =>
 (cond ((lenI r2) == (0 : Int))
  (some ((4 : Int), ((0 : Int), (0 : Int))))
  ((geti r2 (0 : Int)).bind fun _ =>
  ((r2[(0 : Int).toNat]?).bind fun y3 =>
  some ((0 : Int), y3)))))))
def m_impl_ChosenIn (x : (List (Int × (Int × (Int × ((Int × Int) × (List (Int × Int)))))))) : Option (Int × (Int × Int)) := p_impl_ChosenIn FU x
def a_impl_ChosenIn : Ann := .leaf
def S_impl_ChosenIn : FSpec := ⟨[.val (.sl none (.pair (.int .i64) (.pair (.int .i64) (.pair (.int .i64) (.pair (.pair (.int .i64) (.int .i64)) (.sl none (.pair (.int .i64) (.int .i64))))))))], [(.pair (.int .i64) (.pair (.int .i64) (.int .i64)))], m_impl_ChosenIn⟩

/-! impl.ChosenAt -/
def p_impl_ChosenAt (n : Nat) (x : ((List (List (Int × (Int × (Int × ((Int × Int) × (List (Int × Int)))))))) × (Int × Int))) : Option (Int × Int) :=
((m_impl_SlotsFor (x.1, x.2.1, x.2.2)).bind fun r1 =>
(cond (!(r1.1 == (0 : Int)))
 (some (r1.1, (0 : Int)))
 ((m_impl_ChosenIn r1.2).bind fun r2 =>
 some (r2.1, r2.2.2))))
def m_impl_ChosenAt (x : ((List (List (Int × (Int × (Int × ((Int × Int) × (List (Int × Int)))))))) × (Int × Int))) : Option (Int × Int) := p_impl_ChosenAt FU x
def a_impl_ChosenAt : Ann := .leaf
def S_impl_ChosenAt : FSpec := ⟨[.val (.sl none (.one (.sl none (.pair (.int .i64) (.pair (.int .i64) (.pair (.int .i64) (.pair (.pair (.int .i64) (.int .i64)) (.sl none (.pair (.int .i64) (.int .i64)))))))))), .val (.int .i64), .val (.int .i64)], [(.pair (.int .i64) (.int .i64))], m_impl_ChosenAt⟩

/-! impl.AgreeSlots -/
def l_impl_AgreeSlots_1 (n : Nat) (r2 : (List (Int × Int))) (z0 : Int) : Option Int :=
(lp (fun rec15 (z14 : Int) =>
 (cond (decide (z14 < (lenI r2)))
  ((geti r2 z14).bind fun _ =>
  ((r2[z14.toNat]?).bind fun y16 =>
  ((geti r2 (0 : Int)).bind fun _ =>
  ((r2[(0 : Int).toNat]?).bind fun y17 =>
  (cond (!(y16.2 == y17.2))
   (some z14)
   (rec15 (IntKind.wrap .i64 (z14 + (1 : Int)))))))))
  (some (-1 : Int)))) n z0)
def p_impl_AgreeSlots (n : Nat) (x : (List (Int × (Int × (Int × ((Int × Int) × (List (Int × Int)))))))) : Option Bool :=
((m_impl_slotsFault x).bind fun r1 =>
(cond (!(r1 == (0 : Int)))
 (some false)
 ((m_impl_chosen x).bind fun r2 =>
 (Option.bind (α := Int)
  (l_impl_AgreeSlots_1 n r2 (0 : Int)) fun j19 =>
 some (!(decide (j19 ≥ (0 : Int))))))))
def m_impl_AgreeSlots (x : (List (Int × (Int × (Int × ((Int × Int) × (List (Int × Int)))))))) : Option Bool := p_impl_AgreeSlots FU x
def a_impl_AgreeSlots : Ann := (.node .leaf (.node .leaf (.node .leaf (.node (.reg 11 (.node .leaf (.node (.regj 7 [.slot 7 (.int .i64)] [] (.node .leaf (.node (.node .leaf (.loop [.slot 8 (.int .i64)] [4, 5, 9, 10, 11, 12, 13, 14, 15, 16, 17, 18] .leaf)) .leaf)) .leaf) .leaf)) .leaf) .leaf))))
def S_impl_AgreeSlots : FSpec := ⟨[.val (.sl none (.pair (.int .i64) (.pair (.int .i64) (.pair (.int .i64) (.pair (.pair (.int .i64) (.int .i64)) (.sl none (.pair (.int .i64) (.int .i64))))))))], [.bool], m_impl_AgreeSlots⟩

/-! laws.FnAgrees -/
def l_laws_FnAgrees_1 (n : Nat) (x : (List Int)) (r2 : Int) (z0 : ((List (List (Int × (Int × (Int × ((Int × Int) × (List (Int × Int)))))))) × (Int × Int))) : Option (((List (List (Int × (Int × (Int × ((Int × Int) × (List (Int × Int)))))))) × Int) ⊕ Bool) :=
(lp (fun rec39 (z38 : ((List (List (Int × (Int × (Int × ((Int × Int) × (List (Int × Int)))))))) × (Int × Int))) =>
 (cond (decide (z38.2.2 < (12 : Int)))
  ((m_laws_lwReached (x, IntKind.wrap .i64 (z38.2.2 + (1 : Int)), IntKind.wrap .i64 ((1 : Int) + (IntKind.wrap .i64 ((2 : Int) * r2))))).bind fun r40 =>
  ((m_laws_lwAt (x, IntKind.wrap .i64 (z38.2.2 + (90 : Int)), (9 : Int))).bind fun r41 =>
  ((m_laws_lwAt (x, IntKind.wrap .i64 (z38.2.2 + (60 : Int)), (2 : Int))).bind fun r42 =>
  ((m_impl_RunBallot (z38.1, r40, (7 : Int), (1 : Int), r41, IntKind.wrap .i64 ((1 : Int) + r42))).bind fun r43 =>
  (Option.bind (α := Bool)
   (cond (!(r43.1 == (0 : Int)))
    (cond (!(r43.1 == (4 : Int)))
     (some true)
     (some (!((lenI r43.2.2) == (IntKind.wrap .i64 ((1 : Int) + (IntKind.wrap .i64 ((2 : Int) * r2))))))))
    (some (!((lenI r43.2.2) == (IntKind.wrap .i64 ((1 : Int) + (IntKind.wrap .i64 ((2 : Int) * r2)))))))) fun j44 =>
  (cond j44
   (some (Sum.inr false))
   ((m_impl_SlotsFor (r43.2.2, (7 : Int), (1 : Int))).bind fun r45 =>
   ((m_impl_ChosenAt (r43.2.2, (7 : Int), (1 : Int))).bind fun r46 =>
   (Option.bind (α := Bool)
    (cond (!(r45.1 == (0 : Int)))
     (some true)
     ((m_impl_AgreeSlots r45.2).bind fun r48 =>
     (cond (!r48)
      (some true)
      (cond (!(z38.2.1 == (0 : Int)))
       (cond (!(r46.2 == z38.2.1))
        (some true)
        (cond (!(r43.2.1 == (0 : Int)))
         (cond (r43.1 == (0 : Int))
          (some (!(r46.2 == r43.2.1)))
          (some false))
         (some false)))
       (cond (!(r43.2.1 == (0 : Int)))
        (cond (r43.1 == (0 : Int))
         (some (!(r46.2 == r43.2.1)))
         (some false))
        (some false)))))) fun j49 =>
   (cond j49
    (some (Sum.inr false))
    (rec39 (r43.2.2, r46.2, IntKind.wrap .i64 (z38.2.2 + (1 : Int))))))))))))))
  (some (Sum.inl (z38.1, z38.2.1))))) n z0)
def p_laws_FnAgrees (n : Nat) (x : (List Int)) : Option Bool :=
((m_laws_lwBig x).bind fun r1 =>
(cond r1
 (some true)
 ((m_laws_lwAt (x, (0 : Int), (3 : Int))).bind fun r2 =>
 (if (IntKind.wrap .i64 ((1 : Int) + (IntKind.wrap .i64 ((2 : Int) * r2)))) = (IntKind.wrap .i64 ((1 : Int) + (IntKind.wrap .i64 ((2 : Int) * r2)))) then (if 0 ≤ (IntKind.wrap .i64 ((1 : Int) + (IntKind.wrap .i64 ((2 : Int) * r2)))) then chk (Nat.ble (24 * (IntKind.wrap .i64 ((1 : Int) + (IntKind.wrap .i64 ((2 : Int) * r2)))).toNat) maxBytes)
 (Option.bind (α := (((List (List (Int × (Int × (Int × ((Int × Int) × (List (Int × Int)))))))) × Int) ⊕ Bool))
  (l_laws_FnAgrees_1 n x r2 ((List.replicate (IntKind.wrap .i64 ((1 : Int) + (IntKind.wrap .i64 ((2 : Int) * r2)))).toNat []), (0 : Int), (0 : Int)))
  (Sum.elim (fun j51 =>
 (chk (bndB none (some (IntKind.wrap .i64 ((1 : Int) + (IntKind.wrap .i64 ((2 : Int) * r2))))) none [(0 : Int), (1 : Int), (2 : Int), (3 : Int), (4 : Int)].length)
  ((m_impl_RunBallot (j51.1, (([(0 : Int), (1 : Int), (2 : Int), (3 : Int), (4 : Int)].drop 0).take ((IntKind.wrap .i64 ((1 : Int) + (IntKind.wrap .i64 ((2 : Int) * r2)))).toNat)), (7 : Int), (1 : Int), (500 : Int), (2 : Int))).bind fun r52 =>
  (cond (r52.1 == (0 : Int))
   ((m_impl_ChosenAt (r52.2.2, (7 : Int), (1 : Int))).bind fun r53 =>
   (cond (r53.2 == r52.2.1)
    (cond (j51.2 == (0 : Int))
     (some true)
     (some (r52.2.1 == j51.2)))
    (some false)))
   (some false))))) some)) else none) else none))))
def m_laws_FnAgrees (x : (List Int)) : Option Bool := p_laws_FnAgrees FU x
def a_laws_FnAgrees : Ann := (.node .leaf (.node .leaf (.node .leaf (.node (.own 18 (.one (.sl (some 73) (.pair (.int .i64) (.pair (.int .i64) (.pair (.int .i64) (.pair (.pair (.int .i64) (.int .i64)) (.sl (some 70) (.pair (.int .i64) (.int .i64))))))))) .leaf) (.node .leaf (.joinx [.slot 4 (.sl (some 80) (.one (.sl (some 73) (.pair (.int .i64) (.pair (.int .i64) (.pair (.int .i64) (.pair (.pair (.int .i64) (.int .i64)) (.sl (some 70) (.pair (.int .i64) (.int .i64)))))))))), .slot 5 (.int .i64)] [2, 6, 7, 8, 9, 19, 20, 21, 22, 23, 24, 25, 26, 27, 28, 29, 30, 31, 32, 33, 34, 35, 36, 37, 38, 39, 40, 41, 42, 43, 44, 45, 46, 47, 48, 49, 50, 51, 52, 53, 54, 55, 56, 57, 58, 59, 60, 61, 62, 63, 64, 65, 66, 67, 68, 69, 70, 71, 72, 73, 74, 75, 76, 77, 78, 79, 80, 81, 82, 83, 84, 85, 86, 87, 88, 89, 90, 91, 92, 93, 94, 95, 96, 97] (.node .leaf (.loop [.slot 4 (.sl (some 80) (.one (.sl (some 73) (.pair (.int .i64) (.pair (.int .i64) (.pair (.int .i64) (.pair (.pair (.int .i64) (.int .i64)) (.sl (some 70) (.pair (.int .i64) (.int .i64)))))))))), .slot 5 (.int .i64), .slot 6 (.int .i64)] [2, 7, 8, 9, 19, 20, 21, 22, 23, 24, 25, 26, 27, 28, 29, 30, 31, 32, 33, 34, 35, 36, 37, 38, 39, 40, 41, 42, 43, 44, 45, 46, 47, 48, 49, 50, 51, 52, 53, 54, 55, 56, 57, 58, 59, 60, 61, 62, 63, 64, 65, 66, 67, 68, 69, 70, 71, 72, 73, 74, 75, 76, 77, 78, 79, 80, 81, 82, 83, 84, 85, 86, 87, 88, 89, 90, 91, 92, 93, 94, 95, 96, 97] (.node .leaf (.node (.node .leaf (.node (.join [.slot 53 .bool] [39, 40, 41, 42, 43, 44, 45, 46, 47, 48, 49, 50, 51, 52] .leaf .leaf) (.node .leaf (.node .leaf (.node .leaf (.node (.join [.slot 95 .bool] [60, 61, 62, 63, 64, 65, 66, 67, 68, 69, 70, 71, 72, 73, 74, 75, 76, 77, 78, 79, 80, 81, 82, 83, 84, 85, 86, 87, 88, 89, 90, 91, 92, 93, 94] .leaf .leaf) .leaf)))))) .leaf)))) .leaf))))))
def S_laws_FnAgrees : FSpec := ⟨[.val (.sl none (.int .u8))], [.bool], m_laws_FnAgrees⟩

def T : Tab := [
  (2, ⟨false, 1, 8, [], 0, [.int .i64 0], some (.int .i64), [0]⟩),
  (3, ⟨false, 1, 8, [], 0, [.int .i64 0], some (.int .i64), [0]⟩),
  (5, ⟨false, 1, 1, [], 0, [.int .u8 0], some (.int .u8), [0]⟩),
  (22, ⟨false, 1, 24, [], 5, [.nil], some (.sl none (.int .u8)), []⟩),
  (25, ⟨false, 1, 24, [], 80, [.nil], some (.sl none (.one (.sl none (.pair (.int .i64) (.pair (.int .i64) (.pair (.int .i64) (.pair (.pair (.int .i64) (.int .i64)) (.sl none (.pair (.int .i64) (.int .i64)))))))))), []⟩),
  (27, ⟨true, 3, 40, [(0, 1, 2), (1, 1, 2), (2, 1, 25)], 0, [.int .i64 0, .int .i64 0, .nil], some (.pair (.int .i64) (.pair (.int .i64) (.sl none (.one (.sl none (.pair (.int .i64) (.pair (.int .i64) (.pair (.int .i64) (.pair (.pair (.int .i64) (.int .i64)) (.sl none (.pair (.int .i64) (.int .i64)))))))))))), []⟩),
  (29, ⟨false, 1, 24, [], 2, [.nil], some (.sl none (.int .i64)), []⟩),
  (31, ⟨false, 1, 24, [], 73, [.nil], some (.sl none (.pair (.int .i64) (.pair (.int .i64) (.pair (.int .i64) (.pair (.pair (.int .i64) (.int .i64)) (.sl none (.pair (.int .i64) (.int .i64)))))))), []⟩),
  (33, ⟨true, 2, 32, [(0, 1, 2), (1, 1, 31)], 0, [.int .i64 0, .nil], some (.pair (.int .i64) (.sl none (.pair (.int .i64) (.pair (.int .i64) (.pair (.int .i64) (.pair (.pair (.int .i64) (.int .i64)) (.sl none (.pair (.int .i64) (.int .i64))))))))), []⟩),
  (36, ⟨true, 2, 16, [(0, 1, 2), (1, 1, 2)], 0, [.int .i64 0, .int .i64 0], some (.pair (.int .i64) (.int .i64)), [0, 0]⟩),
  (70, ⟨true, 2, 16, [(0, 1, 2), (1, 1, 2)], 0, [.int .i64 0, .int .i64 0], some (.pair (.int .i64) (.int .i64)), [0, 0]⟩),
  (71, ⟨false, 1, 24, [], 70, [.nil], some (.sl none (.pair (.int .i64) (.int .i64))), []⟩),
  (73, ⟨true, 6, 64, [(0, 1, 2), (1, 1, 2), (2, 1, 2), (3, 2, 70), (5, 1, 71)], 0, [.int .i64 0, .int .i64 0, .int .i64 0, .int .i64 0, .int .i64 0, .nil], some (.pair (.int .i64) (.pair (.int .i64) (.pair (.int .i64) (.pair (.pair (.int .i64) (.int .i64)) (.sl none (.pair (.int .i64) (.int .i64))))))), []⟩),
  (75, ⟨true, 9, 88, [(0, 1, 2), (1, 2, 70), (3, 6, 73)], 0, [.int .i64 0, .int .i64 0, .int .i64 0, .int .i64 0, .int .i64 0, .int .i64 0, .int .i64 0, .int .i64 0, .nil], some (.pair (.int .i64) (.pair (.pair (.int .i64) (.int .i64)) (.pair (.int .i64) (.pair (.int .i64) (.pair (.int .i64) (.pair (.pair (.int .i64) (.int .i64)) (.sl none (.pair (.int .i64) (.int .i64))))))))), []⟩),
  (80, ⟨true, 1, 24, [(0, 1, 31)], 0, [.nil], some (.one (.sl none (.pair (.int .i64) (.pair (.int .i64) (.pair (.int .i64) (.pair (.pair (.int .i64) (.int .i64)) (.sl none (.pair (.int .i64) (.int .i64))))))))), []⟩),
  (83, ⟨true, 4, 48, [(0, 1, 2), (1, 2, 70), (3, 1, 80)], 0, [.int .i64 0, .int .i64 0, .int .i64 0, .nil], some (.pair (.int .i64) (.pair (.pair (.int .i64) (.int .i64)) (.one (.sl none (.pair (.int .i64) (.pair (.int .i64) (.pair (.int .i64) (.pair (.pair (.int .i64) (.int .i64)) (.sl none (.pair (.int .i64) (.int .i64))))))))))), []⟩),
  (90, ⟨true, 3, 24, [(0, 1, 2), (1, 2, 70)], 0, [.int .i64 0, .int .i64 0, .int .i64 0], some (.pair (.int .i64) (.pair (.int .i64) (.int .i64))), [0, 0, 0]⟩),
  (133, ⟨false, 1, 8, [(70, 0, 3)], 0, [.undef], none, []⟩),
  (169, ⟨false, 1, 8, [], 0, [.int .u64 0], some (.int .u64), [0]⟩),
  (238, ⟨false, 1, 24, [], 3, [.nil], some (.sl none (.int .i64)), []⟩)]
def G_laws_lwBig : Env := (6, S_laws_lwBig) :: []
def G_laws_lwAt : Env := (7, S_laws_lwAt) :: G_laws_lwBig
def G_laws_lwReached : Env := (9, S_laws_lwReached) :: G_laws_lwAt
def G_impl_size_impl_Acceptor : Env := (33, S_impl_size_impl_Acceptor) :: G_laws_lwReached
def G_impl_within : Env := (56, S_impl_within) :: G_impl_size_impl_Acceptor
def G_impl_isId : Env := (64, S_impl_isId) :: G_impl_within
def G_impl_isShard : Env := (65, S_impl_isShard) :: G_impl_isId
def G_impl_isBallot : Env := (30, S_impl_isBallot) :: G_impl_isShard
def G_impl_isValue : Env := (31, S_impl_isValue) :: G_impl_isBallot
def G_impl_isVote : Env := (75, S_impl_isVote) :: G_impl_isValue
def G_impl_castFault : Env := (122, S_impl_castFault) :: G_impl_isVote
def G_impl_noVote : Env := (74, S_impl_noVote) :: G_impl_castFault
def G_impl_lastCast : Env := (123, S_impl_lastCast) :: G_impl_noVote
def G_impl_SlotFault : Env := (79, S_impl_SlotFault) :: G_impl_lastCast
def G_cmp_isNaN_int64 : Env := (189, S_cmp_isNaN_int64) :: G_impl_SlotFault
def G_cmp_Compare_int64 : Env := (159, S_cmp_Compare_int64) :: G_cmp_isNaN_int64
def G_cmp_Or_int : Env := (158, S_cmp_Or_int) :: G_cmp_Compare_int64
def G_impl_compareSlots : Env := (117, S_impl_compareSlots) :: G_cmp_Or_int
def G_impl_AcceptorFault : Env := (63, S_impl_AcceptorFault) :: G_impl_compareSlots
def G_impl_listFault : Env := (28, S_impl_listFault) :: G_impl_AcceptorFault
def G_impl_newSlot : Env := (66, S_impl_newSlot) :: G_impl_listFault
def G_impl_NewSlot : Env := (29, S_impl_NewSlot) :: G_impl_newSlot
def G_impl_firstOf : Env := (27, S_impl_firstOf) :: G_impl_NewSlot
def G_impl_reachedFault : Env := (32, S_impl_reachedFault) :: G_impl_firstOf
def G_slices_Clone_impl_Vote_impl_Vote : Env := (84, S_slices_Clone_impl_Vote_impl_Vote) :: G_impl_reachedFault
def G_impl_copySlot : Env := (119, S_impl_copySlot) :: G_slices_Clone_impl_Vote_impl_Vote
def G_impl_copyAcceptor : Env := (69, S_impl_copyAcceptor) :: G_impl_copySlot
def G_impl_copyAcceptors : Env := (34, S_impl_copyAcceptors) :: G_impl_copyAcceptor
def G_impl_Acceptor_slotAt : Env := (120, S_impl_Acceptor_slotAt) :: G_impl_copyAcceptors
def G_impl_Acceptor_slot : Env := (78, S_impl_Acceptor_slot) :: G_impl_Acceptor_slotAt
def G_impl_PromiseSlot : Env := (72, S_impl_PromiseSlot) :: G_impl_Acceptor_slot
def G_slices_Insert_impl_Slot_impl_Slot : Env := (121, S_slices_Insert_impl_Slot_impl_Slot) :: G_impl_PromiseSlot
def G_impl_Acceptor_promise : Env := (35, S_impl_Acceptor_promise) :: G_slices_Insert_impl_Slot_impl_Slot
def G_impl_quorum : Env := (36, S_impl_quorum) :: G_impl_Acceptor_promise
def G_impl_PickValue_1 : Env := (73, S_impl_PickValue_1) :: G_impl_quorum
def G_impl_PickValue : Env := (37, S_impl_PickValue) :: G_impl_PickValue_1
def G_impl_AcceptSlot : Env := (77, S_impl_AcceptSlot) :: G_impl_PickValue
def G_impl_Acceptor_accept : Env := (38, S_impl_Acceptor_accept) :: G_impl_AcceptSlot
def G_impl_RunBallot : Env := (8, S_impl_RunBallot) :: G_impl_Acceptor_accept
def G_impl_slotsFor : Env := (39, S_impl_slotsFor) :: G_impl_RunBallot
def G_impl_SlotsFor : Env := (10, S_impl_SlotsFor) :: G_impl_slotsFor
def G_impl_size_impl_Slot : Env := (80, S_impl_size_impl_Slot) :: G_impl_SlotsFor
def G_impl_slotsFault : Env := (41, S_impl_slotsFault) :: G_impl_size_impl_Slot
def G_slices_Compact_impl_Vote_impl_Vote : Env := (83, S_slices_Compact_impl_Vote_impl_Vote) :: G_impl_slotsFault
def G_slices_SortFunc_impl_Vote_impl_Vote : Env := (85, S_slices_SortFunc_impl_Vote_impl_Vote) :: G_slices_Compact_impl_Vote_impl_Vote
def G_impl_chosen : Env := (42, S_impl_chosen) :: G_slices_SortFunc_impl_Vote_impl_Vote
def G_impl_ChosenIn : Env := (40, S_impl_ChosenIn) :: G_impl_chosen
def G_impl_ChosenAt : Env := (11, S_impl_ChosenAt) :: G_impl_ChosenIn
def G_impl_AgreeSlots : Env := (12, S_impl_AgreeSlots) :: G_impl_ChosenAt
def G_laws_FnAgrees : Env := (3, S_laws_FnAgrees) :: G_impl_AgreeSlots
end
end Go.RvP
