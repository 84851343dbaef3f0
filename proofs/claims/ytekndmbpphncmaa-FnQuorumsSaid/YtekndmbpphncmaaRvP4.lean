/- The plain functions that the evaluator comes to, for FnQuorums. No condition. -/
import Derived.Test.YtekndmbpphncmaaRvL
namespace Go.RvP
open Go Go.Rv
/-! laws.lwBig -/
def p_laws_lwBig (n : Nat) (x : (List Int)) : Option Bool :=
some (decide ((lenI x) > (1048576 : Int)))
def m_laws_lwBig (x : (List Int)) : Option Bool := p_laws_lwBig FU x
def a_laws_lwBig : Ann := .leaf
def S_laws_lwBig : FSpec := ⟨[.val (.sl none (.int .u8))], [.bool], m_laws_lwBig⟩

/-! impl.within -/
def p_impl_within (n : Nat) (x : (Int × (Int × Int))) : Option Bool :=
(cond (decide (x.1 ≥ x.2.1))
 (some (decide (x.1 ≤ x.2.2)))
 (some false))
def m_impl_within (x : (Int × (Int × Int))) : Option Bool := p_impl_within FU x
def a_impl_within : Ann := .leaf
def S_impl_within : FSpec := ⟨[.val (.int .i64), .val (.int .i64), .val (.int .i64)], [.bool], m_impl_within⟩

/-! impl.quorum -/
def p_impl_quorum (n : Nat) (x : Int) : Option Int :=
(cond ((2 : Int) == 0) none
 (some (IntKind.wrap .i64 ((IntKind.wrap .i64 (Int.tdiv x (2 : Int))) + (1 : Int)))))
def m_impl_quorum (x : Int) : Option Int := p_impl_quorum FU x
def a_impl_quorum : Ann := .leaf
def S_impl_quorum : FSpec := ⟨[.val (.int .i64)], [(.int .i64)], m_impl_quorum⟩

/-! impl.QuorumOf -/
def p_impl_QuorumOf (n : Nat) (x : Int) : Option (Int × Int) :=
((m_impl_within (x, (1 : Int), (9 : Int))).bind fun r1 =>
(cond (!r1)
 (some ((3 : Int), (0 : Int)))
 ((m_impl_quorum x).bind fun r2 =>
 some ((0 : Int), r2))))
def m_impl_QuorumOf (x : Int) : Option (Int × Int) := p_impl_QuorumOf FU x
def a_impl_QuorumOf : Ann := .leaf
def S_impl_QuorumOf : FSpec := ⟨[.val (.int .i64)], [(.pair (.int .i64) (.int .i64))], m_impl_QuorumOf⟩

/-! spec.l1Next -/
def p_spec_l1Next (n : Nat) (x : (((List Int) × Int) × Int)) : Option (Int × ((List Int) × Int)) :=
(cond (decide (x.2 < (1 : Int)))
 (some ((0 : Int), (x.1.1, IntKind.wrap .i64 (x.1.2 + (1 : Int)))))
 (cond ((lenI x.1.1) == (0 : Int))
  (cond (x.2 == 0) none
   (some (Int.tmod (IntKind.wrap .i64 ((IntKind.wrap .i64 ((IntKind.wrap .i64 (x.1.2 + (1 : Int))) - (1 : Int))) * (7 : Int))) x.2, (x.1.1, IntKind.wrap .i64 (x.1.2 + (1 : Int))))))
  (cond ((lenI x.1.1) == 0) none
   ((geti x.1.1 (Int.tmod (IntKind.wrap .i64 ((IntKind.wrap .i64 (x.1.2 + (1 : Int))) - (1 : Int))) (lenI x.1.1))).bind fun y1 =>
   (cond ((lenI x.1.1) == 0) none
    (cond (decide (x.2 > (200 : Int)))
     (cond ((lenI x.1.1) == 0) none
      ((geti x.1.1 (Int.tmod (IntKind.wrap .i64 ((IntKind.wrap .i64 ((IntKind.wrap .i64 (x.1.2 + (1 : Int))) - (1 : Int))) + (1 : Int))) (lenI x.1.1))).bind fun y2 =>
      (cond (x.2 == 0) none
       (some (Int.tmod (IntKind.wrap .i64 ((IntKind.wrap .i64 ((IntKind.wrap .i64 ((IntKind.wrap .i64 ((IntKind.wrap .i64 y1) + (IntKind.wrap .i64 ((IntKind.wrap .i64 (Int.tdiv (IntKind.wrap .i64 ((IntKind.wrap .i64 (x.1.2 + (1 : Int))) - (1 : Int))) (lenI x.1.1))) * (37 : Int))))) * (251 : Int))) + (IntKind.wrap .i64 ((IntKind.wrap .i64 y2) * (13 : Int))))) + (IntKind.wrap .i64 ((IntKind.wrap .i64 (x.1.2 + (1 : Int))) - (1 : Int))))) x.2, (x.1.1, IntKind.wrap .i64 (x.1.2 + (1 : Int))))))))
     (cond (x.2 == 0) none
      (some (Int.tmod (IntKind.wrap .i64 ((IntKind.wrap .i64 y1) + (IntKind.wrap .i64 ((IntKind.wrap .i64 (Int.tdiv (IntKind.wrap .i64 ((IntKind.wrap .i64 (x.1.2 + (1 : Int))) - (1 : Int))) (lenI x.1.1))) * (37 : Int))))) x.2, (x.1.1, IntKind.wrap .i64 (x.1.2 + (1 : Int))))))))))))
def m_spec_l1Next (x : (((List Int) × Int) × Int)) : Option (Int × ((List Int) × Int)) := p_spec_l1Next FU x
def a_spec_l1Next : Ann := .leaf
def S_spec_l1Next : FSpec := ⟨[.box (.pair (.sl none (.int .u8)) (.int .i64)), .val (.int .i64)], [(.int .i64)], m_spec_l1Next⟩

/-! spec.l1Pick -/
def p_spec_l1Pick (n : Nat) (x : (((List Int) × Int) × (List Int))) : Option (Int × ((List Int) × Int)) :=
((m_spec_l1Next (x.1, lenI x.2)).bind fun r1 =>
((geti x.2 r1.1).bind fun y2 =>
some (y2, r1.2)))
def m_spec_l1Pick (x : (((List Int) × Int) × (List Int))) : Option (Int × ((List Int) × Int)) := p_spec_l1Pick FU x
def a_spec_l1Pick : Ann := .leaf
def S_spec_l1Pick : FSpec := ⟨[.box (.pair (.sl none (.int .u8)) (.int .i64)), .val (.sl none (.int .i64))], [(.int .i64)], m_spec_l1Pick⟩

/-! spec.l8None -/
def p_spec_l8None (n : Nat) (x : Unit) : Option (Int × Int) :=
some ((-1 : Int), (0 : Int))
def m_spec_l8None (x : Unit) : Option (Int × Int) := p_spec_l8None FU x
def a_spec_l8None : Ann := .leaf
def S_spec_l8None : FSpec := ⟨[], [(.pair (.int .i64) (.int .i64))], m_spec_l8None⟩

/-! spec.l1Chance -/
def p_spec_l1Chance (n : Nat) (x : (((List Int) × Int) × Int)) : Option (Bool × ((List Int) × Int)) :=
((m_spec_l1Next (x.1, x.2)).bind fun r1 =>
some ((r1.1 == (0 : Int)), r1.2))
def m_spec_l1Chance (x : (((List Int) × Int) × Int)) : Option (Bool × ((List Int) × Int)) := p_spec_l1Chance FU x
def a_spec_l1Chance : Ann := .leaf
def S_spec_l1Chance : FSpec := ⟨[.box (.pair (.sl none (.int .u8)) (.int .i64)), .val (.int .i64)], [.bool], m_spec_l1Chance⟩

/-! spec.DrawPickValue -/
def l_spec_DrawPickValue_1 (n : Nat)  (z0 : ((List (Int × Int)) × (Int × ((List Int) × Int)))) : Option ((List (Int × Int)) × ((List Int) × Int)) :=
(lp (fun rec42 (z41 : ((List (Int × Int)) × (Int × ((List Int) × Int)))) =>
 (cond (decide (z41.2.1 > (0 : Int)))
  ((m_spec_l8None ()).bind fun r43 =>
  (Option.bind (α := (((List Int) × Int) × (Int × Int)))
   ((m_spec_l1Chance (z41.2.2, (3 : Int))).bind fun r47 =>
   (cond (!r47.1)
    ((m_spec_l1Next (r47.2, (6 : Int))).bind fun r48 =>
    ((m_spec_l1Next (r48.2, (2 : Int))).bind fun r49 =>
    some (r49.2, (r48.1, IntKind.wrap .i64 ((1 : Int) + r49.1)))))
    (some (r47.2, r43)))) fun j50 =>
  (Option.bind (α := (((List Int) × Int) × (Int × Int)))
   ((m_spec_l1Chance (j50.1, (30 : Int))).bind fun r52 =>
   (cond r52.1
    (some (r52.2, (j50.2.1, (3 : Int))))
    (some (r52.2, j50.2)))) fun j53 =>
  (chk (Nat.ble ((z41.1.length + [j53.2].length) * 16) maxBytes)
  (rec42 ((z41.1 ++ [j53.2]), IntKind.wrap .i64 (z41.2.1 - (1 : Int)), j53.1))))))
  (some (z41.1, z41.2.2)))) n z0)
def p_spec_DrawPickValue (n : Nat) (x : (List Int)) : Option ((List (Int × Int)) × Int) :=
(Option.bind (α := ((List (Int × Int)) × ((List Int) × Int)))
 ((m_spec_l1Pick ((x, (0 : Int)), [(2 : Int), (3 : Int), (1 : Int), (0 : Int), (9 : Int), (10 : Int)])).bind fun r28 =>
 (l_spec_DrawPickValue_1 n  ([], r28.1, r28.2))) fun j55 =>
((m_spec_l1Pick (j55.2, [(1 : Int), (2 : Int), (2 : Int), (0 : Int)])).bind fun r56 =>
some (j55.1, r56.1)))
def m_spec_DrawPickValue (x : (List Int)) : Option ((List (Int × Int)) × Int) := p_spec_DrawPickValue FU x
def a_spec_DrawPickValue : Ann := (.node .leaf (.node .leaf (.node .leaf (.join [.slot 5 (.sl (some 34) (.pair (.int .i64) (.int .i64))), .box 0 (.pair (.sl none (.int .u8)) (.int .i64))] [6, 7, 11, 12, 13, 14, 15, 16, 17, 18, 19, 20, 21, 22, 23, 24, 25, 26, 27, 28, 29, 30, 31, 32, 33, 34] (.node .leaf (.loop [.slot 5 (.sl (some 34) (.pair (.int .i64) (.int .i64))), .slot 6 (.int .i64), .box 0 (.pair (.sl none (.int .u8)) (.int .i64))] [7, 14, 15, 16, 17, 18, 19, 20, 21, 22, 23, 24, 25, 26, 27, 28, 29, 30, 31, 32, 33, 34] (.node .leaf (.node (.node .leaf (.join [.box 0 (.pair (.sl none (.int .u8)) (.int .i64)), .box 4 (.pair (.int .i64) (.int .i64))] [19, 20, 21, 22, 23, 24, 25, 26, 27] .leaf (.join [.box 0 (.pair (.sl none (.int .u8)) (.int .i64)), .box 4 (.pair (.int .i64) (.int .i64))] [28, 29, 30] .leaf .leaf))) .leaf)))) .leaf))))
def S_spec_DrawPickValue : FSpec := ⟨[.val (.sl none (.int .u8))], [(.sl (some 34) (.pair (.int .i64) (.int .i64))), (.int .i64)], m_spec_DrawPickValue⟩

/-! impl.noVote -/
def p_impl_noVote (n : Nat) (x : Unit) : Option (Int × Int) :=
some ((-1 : Int), (0 : Int))
def m_impl_noVote (x : Unit) : Option (Int × Int) := p_impl_noVote FU x
def a_impl_noVote : Ann := .leaf
def S_impl_noVote : FSpec := ⟨[], [(.pair (.int .i64) (.int .i64))], m_impl_noVote⟩

/-! impl.isBallot -/
def p_impl_isBallot (n : Nat) (x : Int) : Option Bool :=
((m_impl_within (x, (0 : Int), (1000 : Int))).bind fun r1 =>
some r1)
def m_impl_isBallot (x : Int) : Option Bool := p_impl_isBallot FU x
def a_impl_isBallot : Ann := .leaf
def S_impl_isBallot : FSpec := ⟨[.val (.int .i64)], [.bool], m_impl_isBallot⟩

/-! impl.isValue -/
def p_impl_isValue (n : Nat) (x : Int) : Option Bool :=
(cond (x == (1 : Int))
 (some true)
 (some (x == (2 : Int))))
def m_impl_isValue (x : Int) : Option Bool := p_impl_isValue FU x
def a_impl_isValue : Ann := .leaf
def S_impl_isValue : FSpec := ⟨[.val (.int .i64)], [.bool], m_impl_isValue⟩

/-! impl.isVote -/
def p_impl_isVote (n : Nat) (x : (Int × Int)) : Option Bool :=
((m_impl_isBallot x.1).bind fun r1 =>
(cond r1
 ((m_impl_isValue x.2).bind fun r2 =>
 some r2)
 (some false)))
def m_impl_isVote (x : (Int × Int)) : Option Bool := p_impl_isVote FU x
def a_impl_isVote : Ann := .leaf
def S_impl_isVote : FSpec := ⟨[.val (.pair (.int .i64) (.int .i64))], [.bool], m_impl_isVote⟩

/-! impl.PickValue$1 -/
def p_impl_PickValue_1 (n : Nat) (x : (Int × Int)) : Option Bool :=
((m_impl_noVote ()).bind fun r1 =>
(cond (!((x.1 == r1.1) && ((x.2 == r1.2) && true)))
 ((m_impl_isVote x).bind fun r2 =>
 some (!r2))
 (some false)))
def m_impl_PickValue_1 (x : (Int × Int)) : Option Bool := p_impl_PickValue_1 FU x
def a_impl_PickValue_1 : Ann := .leaf
def S_impl_PickValue_1 : FSpec := ⟨[.val (.pair (.int .i64) (.int .i64))], [.bool], m_impl_PickValue_1⟩

/-! impl.PickValue -/
def l_impl_PickValue_1 (n : Nat) (x_1 : (List (Int × Int))) (z0 : Int) : Option Int :=
(lp (fun rec31 (z30 : Int) =>
 (cond (decide (z30 < (lenI x_1)))
  ((geti x_1 z30).bind fun y32 =>
  ((m_impl_PickValue_1 y32).bind fun r33 =>
  (cond r33
   (some z30)
   (rec31 (IntKind.wrap .i64 (z30 + (1 : Int)))))))
  (some (-1 : Int)))) n z0)
def l_impl_PickValue_2 (n : Nat) (x_1 : (List (Int × Int))) (z0 : (Int × (Int × Int))) : Option (Int × Int) :=
(lp (fun rec41 (z40 : (Int × (Int × Int))) =>
 (cond (decide (z40.1 < (lenI x_1)))
  ((geti x_1 z40.1).bind fun y42 =>
  (cond (decide (y42.1 > z40.2.1))
   (rec41 (IntKind.wrap .i64 (z40.1 + (1 : Int)), y42))
   (rec41 (IntKind.wrap .i64 (z40.1 + (1 : Int)), z40.2))))
  (some ((0 : Int), z40.2.2)))) n z0)
def p_impl_PickValue (n : Nat) (x : ((List (Int × Int)) × Int)) : Option (Int × Int) :=
(cond (decide ((lenI x.1) > (9 : Int)))
 (some ((2 : Int), (0 : Int)))
 (Option.bind (α := Bool)
  (Option.bind (α := Int)
   (l_impl_PickValue_1 n x.1 (0 : Int)) fun j35 =>
  (cond (decide (j35 ≥ (0 : Int)))
   (some true)
   ((m_impl_isValue x.2).bind fun r36 =>
   some (!r36)))) fun j37 =>
 (cond j37
  (some ((3 : Int), (0 : Int)))
  (l_impl_PickValue_2 n x.1 ((0 : Int), ((-1 : Int), x.2))))))
def m_impl_PickValue (x : ((List (Int × Int)) × Int)) : Option (Int × Int) := p_impl_PickValue FU x
def a_impl_PickValue : Ann := (.node .leaf (.node (.node .leaf (.node .leaf (.join [.slot 13 .bool] [14, 15, 16, 17, 18, 19, 20] (.reg 15 (.node .leaf (.node (.regj 7 [.slot 7 (.int .i64)] [] (.node .leaf (.node (.node .leaf (.loop [.slot 8 (.int .i64)] [4, 5, 9, 10, 11, 12, 13, 14, 15, 16, 17, 18] .leaf)) .leaf)) .leaf) .leaf)) .leaf) .leaf))) (.node .leaf (.node (.node .leaf (.loop [.slot 26 (.int .i64), .box 1 (.pair (.int .i64) (.int .i64))] [7, 27, 28, 29, 30, 31, 32, 33, 34, 35, 36] .leaf)) .leaf))))
def S_impl_PickValue : FSpec := ⟨[.val (.sl none (.pair (.int .i64) (.int .i64))), .val (.int .i64)], [(.pair (.int .i64) (.int .i64))], m_impl_PickValue⟩

/-! spec.l1In -/
def p_spec_l1In (n : Nat) (x : (Int × (Int × Int))) : Option Bool :=
(cond (decide (x.1 ≥ x.2.1))
 (some (decide (x.1 ≤ x.2.2)))
 (some false))
def m_spec_l1In (x : (Int × (Int × Int))) : Option Bool := p_spec_l1In FU x
def a_spec_l1In : Ann := .leaf
def S_spec_l1In : FSpec := ⟨[.val (.int .i64), .val (.int .i64), .val (.int .i64)], [.bool], m_spec_l1In⟩

/-! spec.l8Ballot -/
def p_spec_l8Ballot (n : Nat) (x : Int) : Option Bool :=
((m_spec_l1In (x, (0 : Int), (1000 : Int))).bind fun r1 =>
some r1)
def m_spec_l8Ballot (x : Int) : Option Bool := p_spec_l8Ballot FU x
def a_spec_l8Ballot : Ann := .leaf
def S_spec_l8Ballot : FSpec := ⟨[.val (.int .i64)], [.bool], m_spec_l8Ballot⟩

/-! spec.l8Value -/
def p_spec_l8Value (n : Nat) (x : Int) : Option Bool :=
(cond (x == (1 : Int))
 (some true)
 (some (x == (2 : Int))))
def m_spec_l8Value (x : Int) : Option Bool := p_spec_l8Value FU x
def a_spec_l8Value : Ann := .leaf
def S_spec_l8Value : FSpec := ⟨[.val (.int .i64)], [.bool], m_spec_l8Value⟩

/-! spec.l8Pick -/
def l_spec_l8Pick_1 (n : Nat) (x_1 : (List (Int × Int))) (z0 : (Int × (Int × Int))) : Option (Int × Int) :=
(lp (fun rec14 (z13 : (Int × (Int × Int))) =>
 (cond (decide (z13.1 < (lenI x_1)))
  ((geti x_1 z13.1).bind fun y15 =>
  (cond (decide (y15.1 > z13.2.1))
   ((geti x_1 z13.1).bind fun y16 =>
   rec14 (IntKind.wrap .i64 (z13.1 + (1 : Int)), y16))
   (rec14 (IntKind.wrap .i64 (z13.1 + (1 : Int)), z13.2))))
  (some z13.2))) n z0)
def p_spec_l8Pick (n : Nat) (x : ((List (Int × Int)) × Int)) : Option Int :=
((m_spec_l8None ()).bind fun r1 =>
(Option.bind (α := (Int × Int))
 (l_spec_l8Pick_1 n x.1 ((0 : Int), r1)) fun j18 =>
(cond (decide (j18.1 < (0 : Int)))
 (some x.2)
 (some j18.2))))
def m_spec_l8Pick (x : ((List (Int × Int)) × Int)) : Option Int := p_spec_l8Pick FU x
def a_spec_l8Pick : Ann := (.node .leaf (.node .leaf (.join [.box 0 (.pair (.int .i64) (.int .i64))] [6, 8, 9, 10, 11, 12, 13, 14, 15, 16, 17, 18, 19, 20, 21, 22, 23, 24, 25] (.node .leaf (.loop [.slot 6 (.int .i64), .box 0 (.pair (.int .i64) (.int .i64))] [8, 9, 10, 11, 12, 13, 14, 15, 16, 17, 18, 19, 20, 21, 22, 23, 24, 25] .leaf)) .leaf)))
def S_spec_l8Pick : FSpec := ⟨[.val (.sl none (.pair (.int .i64) (.int .i64))), .val (.int .i64)], [(.int .i64)], m_spec_l8Pick⟩

/-! spec.PickValue -/
def l_spec_PickValue_1 (n : Nat) (x_1 : (List (Int × Int))) (z0 : Int) : Option (Unit ⊕ (Int × Int)) :=
(lp (fun rec46 (z45 : Int) =>
 (cond (decide (z45 < (lenI x_1)))
  (Option.bind (α := Bool)
   ((geti x_1 z45).bind fun y53 =>
   ((m_spec_l8None ()).bind fun r54 =>
   (cond (!((y53.1 == r54.1) && ((y53.2 == r54.2) && true)))
    ((geti x_1 z45).bind fun y55 =>
    ((m_spec_l8Ballot y55.1).bind fun r56 =>
    (cond (!r56)
     (some true)
     ((geti x_1 z45).bind fun y57 =>
     ((m_spec_l8Value y57.2).bind fun r58 =>
     some (!r58))))))
    (some false)))) fun j59 =>
  (cond j59
   (some (Sum.inr ((3 : Int), (0 : Int))))
   (rec46 (IntKind.wrap .i64 (z45 + (1 : Int))))))
  (some (Sum.inl ())))) n z0)
def p_spec_PickValue (n : Nat) (x : ((List (Int × Int)) × Int)) : Option (Int × Int) :=
(cond (decide ((lenI x.1) > (9 : Int)))
 (some ((2 : Int), (0 : Int)))
 (Option.bind (α := (Unit ⊕ (Int × Int)))
  (l_spec_PickValue_1 n x.1 (0 : Int))
  (Sum.elim (fun j61 =>
 ((m_spec_l8Value x.2).bind fun r62 =>
 (cond (!r62)
  (some ((3 : Int), (0 : Int)))
  ((m_spec_l8Pick (x.1, x.2)).bind fun r63 =>
  some ((0 : Int), r63))))) some)))
def m_spec_PickValue (x : ((List (Int × Int)) × Int)) : Option (Int × Int) := p_spec_PickValue FU x
def a_spec_PickValue : Ann := (.node .leaf (.node .leaf (.joinx [] [5, 10, 11, 12, 13, 14, 15, 16, 17, 18, 19, 20, 21, 22, 23, 24, 25, 26, 27, 28, 29, 30, 31, 32, 33, 34, 35, 36, 37, 38, 39, 40] (.node .leaf (.loop [.slot 5 (.int .i64)] [10, 11, 12, 13, 14, 15, 16, 17, 18, 19, 20, 21, 22, 23, 24, 25, 26, 27, 28, 29, 30, 31, 32, 33, 34, 35, 36, 37, 38, 39, 40] (.node .leaf (.node (.join [.slot 39 .bool] [16, 17, 18, 19, 20, 21, 22, 23, 24, 25, 26, 27, 28, 29, 30, 31, 32, 33, 34, 35, 36, 37, 38] .leaf .leaf) .leaf)))) .leaf)))
def S_spec_PickValue : FSpec := ⟨[.val (.sl none (.pair (.int .i64) (.int .i64))), .val (.int .i64)], [(.pair (.int .i64) (.int .i64))], m_spec_PickValue⟩

/-! laws.FnQuorums -/
def l_laws_FnQuorums_1 (n : Nat)  (z0 : Int) : Option (Unit ⊕ Bool) :=
(lp (fun rec14 (z13 : Int) =>
 (cond (decide (z13 < (10 : Int)))
  ((m_impl_QuorumOf z13).bind fun r15 =>
  (Option.bind (α := Bool)
   (cond (!(r15.1 == (0 : Int)))
    (some true)
    (cond (decide ((IntKind.wrap .i64 ((2 : Int) * r15.2)) ≤ z13))
     (some true)
     (some (decide ((IntKind.wrap .i64 ((2 : Int) * (IntKind.wrap .i64 (r15.2 - (1 : Int))))) > z13))))) fun j16 =>
  (cond j16
   (some (Sum.inr false))
   (rec14 (IntKind.wrap .i64 (z13 + (1 : Int)))))))
  (some (Sum.inl ())))) n z0)
def l_laws_FnQuorums_2 (n : Nat) (r19_1 : (List (Int × Int))) (z0 : (Int × Int)) : Option Int :=
(lp (fun rec34 (z33 : (Int × Int)) =>
 (cond (decide (z33.2 < (lenI r19_1)))
  ((geti r19_1 z33.2).bind fun _ =>
  ((r19_1[z33.2.toNat]?).bind fun y35 =>
  (cond (decide (y35.1 > z33.1))
   ((geti r19_1 z33.2).bind fun _ =>
   ((r19_1[z33.2.toNat]?).bind fun y36 =>
   rec34 (y36.1, IntKind.wrap .i64 (z33.2 + (1 : Int)))))
   (rec34 (z33.1, IntKind.wrap .i64 (z33.2 + (1 : Int)))))))
  (some z33.1))) n z0)
def l_laws_FnQuorums_3 (n : Nat) (r19_1 : (List (Int × Int))) (j38 : Int) (r20_2 : Int) (z0 : Int) : Option (Unit ⊕ Bool) :=
(lp (fun rec60 (z59 : Int) =>
 (cond (decide (z59 < (lenI r19_1)))
  (Option.bind (α := Bool)
   (cond (decide (j38 ≥ (0 : Int)))
    ((geti r19_1 z59).bind fun _ =>
    ((r19_1[z59.toNat]?).bind fun y63 =>
    (cond (y63.1 == j38)
     ((geti r19_1 z59).bind fun _ =>
     ((r19_1[z59.toNat]?).bind fun y64 =>
     some (y64.2 == r20_2)))
     (some false))))
    (some false)) fun j65 =>
  (cond j65
   (some (Sum.inr true))
   (rec60 (IntKind.wrap .i64 (z59 + (1 : Int))))))
  (some (Sum.inl ())))) n z0)
def p_laws_FnQuorums (n : Nat) (x : (List Int)) : Option Bool :=
((m_laws_lwBig x).bind fun r1 =>
(cond r1
 (some true)
 (Option.bind (α := (Unit ⊕ Bool))
  (l_laws_FnQuorums_1 n  (1 : Int))
  (Sum.elim (fun j18 =>
 ((m_spec_DrawPickValue x).bind fun r19 =>
 ((m_impl_PickValue (r19.1, r19.2)).bind fun r20 =>
 (cond (!(r20.1 == (0 : Int)))
  ((m_spec_PickValue (r19.1, r19.2)).bind fun r21 =>
  some (r21.1 == r20.1))
  (Option.bind (α := Int)
   (l_laws_FnQuorums_2 n r19.1 ((-1 : Int), (0 : Int))) fun j38 =>
  (Option.bind (α := (Unit ⊕ Bool))
   (l_laws_FnQuorums_3 n r19.1 j38 r20.2 (0 : Int))
   (Sum.elim (fun j67 =>
  (cond (decide (j38 < (0 : Int)))
   (some (r20.2 == r19.2))
   (some false))) some))))))) some))))
def m_laws_FnQuorums (x : (List Int)) : Option Bool := p_laws_FnQuorums FU x
def a_laws_FnQuorums : Ann := (.node .leaf (.node .leaf (.joinx [] [2, 3, 4, 13, 14, 15, 16, 17, 18, 19, 20, 21, 22, 23, 24, 25, 26, 27, 28, 29, 30, 31, 32, 33, 34, 35, 36] (.node .leaf (.loop [.slot 3 (.int .i64)] [2, 4, 13, 14, 15, 16, 17, 18, 19, 20, 21, 22, 23, 24, 25, 26, 27, 28, 29, 30, 31, 32, 33, 34, 35, 36] (.node .leaf (.node (.node .leaf (.join [.slot 36 .bool] [19, 20, 21, 22, 23, 24, 25, 26, 27, 28, 29, 30, 31, 32, 33, 34, 35] .leaf .leaf)) .leaf)))) (.node .leaf (.node .leaf (.node .leaf (.node .leaf (.join [.slot 8 (.int .i64)] [9, 55, 56, 57, 58, 59, 60, 61, 62, 63, 64, 65, 66, 67, 68, 69, 70, 71, 72] (.node .leaf (.loop [.slot 8 (.int .i64), .slot 9 (.int .i64)] [55, 56, 57, 58, 59, 60, 61, 62, 63, 64, 65, 66, 67, 68, 69, 70, 71, 72] .leaf)) (.joinx [] [2, 10, 73, 74, 75, 76, 77, 78, 79, 80, 81, 82, 83, 84, 85, 86, 87, 88, 89, 90, 91, 92, 93, 94, 95, 96, 97, 98, 99] (.node .leaf (.loop [.slot 10 (.int .i64)] [2, 73, 74, 75, 76, 77, 78, 79, 80, 81, 82, 83, 84, 85, 86, 87, 88, 89, 90, 91, 92, 93, 94, 95, 96, 97, 98, 99] (.node .leaf (.node (.join [.slot 99 .bool] [79, 80, 81, 82, 83, 84, 85, 86, 87, 88, 89, 90, 91, 92, 93, 94, 95, 96, 97, 98] .leaf .leaf) .leaf)))) .leaf)))))))))
def S_laws_FnQuorums : FSpec := ⟨[.val (.sl none (.int .u8))], [.bool], m_laws_FnQuorums⟩

def T : Tab := [
  (2, ⟨false, 1, 8, [], 0, [.int .i64 0], some (.int .i64), [0]⟩),
  (3, ⟨false, 1, 8, [], 0, [.int .i64 0], some (.int .i64), [0]⟩),
  (5, ⟨false, 1, 1, [], 0, [.int .u8 0], some (.int .u8), [0]⟩),
  (23, ⟨true, 2, 16, [(0, 1, 2), (1, 1, 2)], 0, [.int .i64 0, .int .i64 0], some (.pair (.int .i64) (.int .i64)), [0, 0]⟩),
  (27, ⟨false, 1, 24, [], 5, [.nil], some (.sl none (.int .u8)), []⟩),
  (29, ⟨false, 1, 24, [], 34, [.nil], some (.sl none (.pair (.int .i64) (.int .i64))), []⟩),
  (34, ⟨true, 2, 16, [(0, 1, 2), (1, 1, 2)], 0, [.int .i64 0, .int .i64 0], some (.pair (.int .i64) (.int .i64)), [0, 0]⟩),
  (125, ⟨true, 2, 32, [(0, 1, 27), (1, 1, 2)], 0, [.nil, .int .i64 0], some (.pair (.sl none (.int .u8)) (.int .i64)), []⟩),
  (126, ⟨false, 1, 24, [], 2, [.nil], some (.sl none (.int .i64)), []⟩)]
def G_laws_lwBig : Env := (18, S_laws_lwBig) :: []
def G_impl_within : Env := (65, S_impl_within) :: G_laws_lwBig
def G_impl_quorum : Env := (66, S_impl_quorum) :: G_impl_within
def G_impl_QuorumOf : Env := (16, S_impl_QuorumOf) :: G_impl_quorum
def G_spec_l1Next : Env := (71, S_spec_l1Next) :: G_impl_QuorumOf
def G_spec_l1Pick : Env := (68, S_spec_l1Pick) :: G_spec_l1Next
def G_spec_l8None : Env := (69, S_spec_l8None) :: G_spec_l1Pick
def G_spec_l1Chance : Env := (70, S_spec_l1Chance) :: G_spec_l8None
def G_spec_DrawPickValue : Env := (19, S_spec_DrawPickValue) :: G_spec_l1Chance
def G_impl_noVote : Env := (74, S_impl_noVote) :: G_spec_DrawPickValue
def G_impl_isBallot : Env := (91, S_impl_isBallot) :: G_impl_noVote
def G_impl_isValue : Env := (76, S_impl_isValue) :: G_impl_isBallot
def G_impl_isVote : Env := (75, S_impl_isVote) :: G_impl_isValue
def G_impl_PickValue_1 : Env := (73, S_impl_PickValue_1) :: G_impl_isVote
def G_impl_PickValue : Env := (20, S_impl_PickValue) :: G_impl_PickValue_1
def G_spec_l1In : Env := (63, S_spec_l1In) :: G_impl_PickValue
def G_spec_l8Ballot : Env := (77, S_spec_l8Ballot) :: G_spec_l1In
def G_spec_l8Value : Env := (78, S_spec_l8Value) :: G_spec_l8Ballot
def G_spec_l8Pick : Env := (79, S_spec_l8Pick) :: G_spec_l8Value
def G_spec_PickValue : Env := (21, S_spec_PickValue) :: G_spec_l8Pick
def G_laws_FnQuorums : Env := (4, S_laws_FnQuorums) :: G_spec_PickValue
end Go.RvP
