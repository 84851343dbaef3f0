/- The plain functions that the evaluator comes to, for FnExactNewSlot. No condition. -/
import Derived.Test.YtekndmbpphncmaaRvL
namespace Go.RvP
open Go Go.Rv
noncomputable section
/-! spec.l1In -/
def p_spec_l1In (n : Nat) (x : (Int × (Int × Int))) : Option Bool :=
(cond (decide (x.1 ≥ x.2.1))
 (some (decide (x.1 ≤ x.2.2)))
 (some false))
def m_spec_l1In (x : (Int × (Int × Int))) : Option Bool := p_spec_l1In FU x
def a_spec_l1In : Ann := .leaf
def S_spec_l1In : FSpec := ⟨[.val (.int .i64), .val (.int .i64), .val (.int .i64)], [.bool], m_spec_l1In⟩

/-! spec.l1Id -/
def p_spec_l1Id (n : Nat) (x : Int) : Option Bool :=
((m_spec_l1In (x, (1 : Int), (1000000000 : Int))).bind fun r1 =>
some r1)
def m_spec_l1Id (x : Int) : Option Bool := p_spec_l1Id FU x
def a_spec_l1Id : Ann := .leaf
def S_spec_l1Id : FSpec := ⟨[.val (.int .i64)], [.bool], m_spec_l1Id⟩

/-! spec.l8None -/
def p_spec_l8None (n : Nat) (x : Unit) : Option (Int × Int) :=
some ((-1 : Int), (0 : Int))
def m_spec_l8None (x : Unit) : Option (Int × Int) := p_spec_l8None FU x
def a_spec_l8None : Ann := .leaf
def S_spec_l8None : FSpec := ⟨[], [(.pair (.int .i64) (.int .i64))], m_spec_l8None⟩

/-! spec.NewSlot -/
def p_spec_NewSlot (n : Nat) (x : (Int × Int)) : Option (Int × ((Int × Int) × (Int × (Int × (Int × ((Int × Int) × (List (Int × Int)))))))) :=
(Option.bind (α := Bool)
 ((m_spec_l1Id x.1).bind fun r3 =>
 (cond (!r3)
  (some true)
  ((m_spec_l1In (x.2, (0 : Int), (2 : Int))).bind fun r4 =>
  some (!r4)))) fun j5 =>
(cond j5
 (some ((3 : Int), (((0 : Int), (0 : Int)), ((0 : Int), ((0 : Int), ((0 : Int), (((0 : Int), (0 : Int)), [])))))))
 ((m_spec_l8None ()).bind fun r6 =>
 some ((0 : Int), (((0 : Int), (0 : Int)), (x.1, (x.2, ((-1 : Int), (r6, [])))))))))
def m_spec_NewSlot (x : (Int × Int)) : Option (Int × ((Int × Int) × (Int × (Int × (Int × ((Int × Int) × (List (Int × Int)))))))) := p_spec_NewSlot FU x
def a_spec_NewSlot : Ann := (.node .leaf (.node (.join [.slot 12 .bool] [5, 6, 7, 8, 9, 10, 11] .leaf .leaf) .leaf))
def S_spec_NewSlot : FSpec := ⟨[.val (.int .i64), .val (.int .i64)], [(.pair (.int .i64) (.pair (.pair (.int .i64) (.int .i64)) (.pair (.int .i64) (.pair (.int .i64) (.pair (.int .i64) (.pair (.pair (.int .i64) (.int .i64)) (.sl (some 34) (.pair (.int .i64) (.int .i64)))))))))], m_spec_NewSlot⟩

/-! impl.within -/
def p_impl_within (n : Nat) (x : (Int × (Int × Int))) : Option Bool :=
(cond (decide (x.1 ≥ x.2.1))
 (some (decide (x.1 ≤ x.2.2)))
 (some false))
def m_impl_within (x : (Int × (Int × Int))) : Option Bool := p_impl_within FU x
def a_impl_within : Ann := .leaf
def S_impl_within : FSpec := ⟨[.val (.int .i64), .val (.int .i64), .val (.int .i64)], [.bool], m_impl_within⟩

/-! impl.isId -/
def p_impl_isId (n : Nat) (x : Int) : Option Bool :=
((m_impl_within (x, (1 : Int), (1000000000 : Int))).bind fun r1 =>
some r1)
def m_impl_isId (x : Int) : Option Bool := p_impl_isId FU x
def a_impl_isId : Ann := .leaf
def S_impl_isId : FSpec := ⟨[.val (.int .i64)], [.bool], m_impl_isId⟩

/-! impl.isShard -/
def p_impl_isShard (n : Nat) (x : Int) : Option Bool :=
((m_impl_within (x, (0 : Int), (2 : Int))).bind fun r1 =>
some r1)
def m_impl_isShard (x : Int) : Option Bool := p_impl_isShard FU x
def a_impl_isShard : Ann := .leaf
def S_impl_isShard : FSpec := ⟨[.val (.int .i64)], [.bool], m_impl_isShard⟩

/-! impl.noVote -/
def p_impl_noVote (n : Nat) (x : Unit) : Option (Int × Int) :=
some ((-1 : Int), (0 : Int))
def m_impl_noVote (x : Unit) : Option (Int × Int) := p_impl_noVote FU x
def a_impl_noVote : Ann := .leaf
def S_impl_noVote : FSpec := ⟨[], [(.pair (.int .i64) (.int .i64))], m_impl_noVote⟩

/-! impl.newSlot -/
def p_impl_newSlot (n : Nat) (x : (Int × Int)) : Option (Int × (Int × (Int × ((Int × Int) × (List (Int × Int)))))) :=
((m_impl_noVote ()).bind fun r1 =>
some (x.1, (x.2, ((-1 : Int), (r1, [])))))
def m_impl_newSlot (x : (Int × Int)) : Option (Int × (Int × (Int × ((Int × Int) × (List (Int × Int)))))) := p_impl_newSlot FU x
def a_impl_newSlot : Ann := .leaf
def S_impl_newSlot : FSpec := ⟨[.val (.int .i64), .val (.int .i64)], [(.pair (.int .i64) (.pair (.int .i64) (.pair (.int .i64) (.pair (.pair (.int .i64) (.int .i64)) (.sl (some 34) (.pair (.int .i64) (.int .i64)))))))], m_impl_newSlot⟩

/-! impl.NewSlot -/
def p_impl_NewSlot (n : Nat) (x : (Int × Int)) : Option (Int × ((Int × Int) × (Int × (Int × (Int × ((Int × Int) × (List (Int × Int)))))))) :=
(Option.bind (α := Bool)
 ((m_impl_isId x.1).bind fun r3 =>
 (cond (!r3)
  (some true)
  ((m_impl_isShard x.2).bind fun r4 =>
  some (!r4)))) fun j5 =>
(cond j5
 (some ((3 : Int), (((0 : Int), (0 : Int)), ((0 : Int), ((0 : Int), ((0 : Int), (((0 : Int), (0 : Int)), [])))))))
 ((m_impl_newSlot (x.1, x.2)).bind fun r6 =>
 some ((0 : Int), (((0 : Int), (0 : Int)), r6)))))
def m_impl_NewSlot (x : (Int × Int)) : Option (Int × ((Int × Int) × (Int × (Int × (Int × ((Int × Int) × (List (Int × Int)))))))) := p_impl_NewSlot FU x
def a_impl_NewSlot : Ann := (.node .leaf (.node (.join [.slot 12 .bool] [5, 6, 7, 8, 9, 10, 11] .leaf .leaf) .leaf))
def S_impl_NewSlot : FSpec := ⟨[.val (.int .i64), .val (.int .i64)], [(.pair (.int .i64) (.pair (.pair (.int .i64) (.int .i64)) (.pair (.int .i64) (.pair (.int .i64) (.pair (.int .i64) (.pair (.pair (.int .i64) (.int .i64)) (.sl (some 34) (.pair (.int .i64) (.int .i64)))))))))], m_impl_NewSlot⟩

/-! laws.eqVote -/
def p_laws_eqVote (n : Nat) (x : ((Int × Int) × (Int × Int))) : Option Bool :=
(cond (!(x.1.1 == x.2.1))
 (some false)
 (cond (!(x.1.2 == x.2.2))
  (some false)
  (some true)))
def m_laws_eqVote (x : ((Int × Int) × (Int × Int))) : Option Bool := p_laws_eqVote FU x
def a_laws_eqVote : Ann := .leaf
def S_laws_eqVote : FSpec := ⟨[.val (.pair (.int .i64) (.int .i64)), .val (.pair (.int .i64) (.int .i64))], [.bool], m_laws_eqVote⟩

/-! laws.eqVoteS -/
def l_laws_eqVoteS_1 (n : Nat) (x_2 : (List (Int × Int))) (x_1 : (List (Int × Int))) (z0 : Int) : Option Bool :=
(lp (fun rec6 (z5 : Int) =>
 (cond (decide (z5 < (lenI x_1)))
  ((geti x_1 z5).bind fun y7 =>
  ((geti x_2 z5).bind fun y8 =>
  ((m_laws_eqVote (y7, y8)).bind fun r9 =>
  (cond (!r9)
   (some false)
   (rec6 (IntKind.wrap .i64 (z5 + (1 : Int))))))))
  (some true))) n z0)
def p_laws_eqVoteS (n : Nat) (x : ((List (Int × Int)) × (List (Int × Int)))) : Option Bool :=
(cond (!((lenI x.1) == (lenI x.2)))
 (some false)
 (l_laws_eqVoteS_1 n x.2 x.1 (0 : Int)))
def m_laws_eqVoteS (x : ((List (Int × Int)) × (List (Int × Int)))) : Option Bool := p_laws_eqVoteS FU x
def a_laws_eqVoteS : Ann := (.node .leaf (.node .leaf (.node (.node .leaf (.loop [.slot 5 (.int .i64)] [4, 11, 12, 13, 14, 15, 16, 17, 18, 19, 20, 21, 22, 23, 24, 25, 26] .leaf)) .leaf)))
def S_laws_eqVoteS : FSpec := ⟨[.val (.sl none (.pair (.int .i64) (.int .i64))), .val (.sl none (.pair (.int .i64) (.int .i64)))], [.bool], m_laws_eqVoteS⟩

/-! laws.eqSlot -/
def p_laws_eqSlot (n : Nat) (x : ((Int × (Int × (Int × ((Int × Int) × (List (Int × Int)))))) × (Int × (Int × (Int × ((Int × Int) × (List (Int × Int)))))))) : Option Bool :=
(cond (!(x.1.1 == x.2.1))
 (some false)
 (cond (!(x.1.2.1 == x.2.2.1))
  (some false)
  (cond (!(x.1.2.2.1 == x.2.2.2.1))
   (some false)
   ((m_laws_eqVote (x.1.2.2.2.1, x.2.2.2.2.1)).bind fun r1 =>
   (cond (!r1)
    (some false)
    ((m_laws_eqVoteS (x.1.2.2.2.2, x.2.2.2.2.2)).bind fun r2 =>
    (cond (!r2)
     (some false)
     (some true))))))))
def m_laws_eqSlot (x : ((Int × (Int × (Int × ((Int × Int) × (List (Int × Int)))))) × (Int × (Int × (Int × ((Int × Int) × (List (Int × Int)))))))) : Option Bool := p_laws_eqSlot FU x
def a_laws_eqSlot : Ann := .leaf
def S_laws_eqSlot : FSpec := ⟨[.val (.pair (.int .i64) (.pair (.int .i64) (.pair (.int .i64) (.pair (.pair (.int .i64) (.int .i64)) (.sl none (.pair (.int .i64) (.int .i64))))))), .val (.pair (.int .i64) (.pair (.int .i64) (.pair (.int .i64) (.pair (.pair (.int .i64) (.int .i64)) (.sl none (.pair (.int .i64) (.int .i64)))))))], [.bool], m_laws_eqSlot⟩

/-! laws.eqSlotResult -/
def p_laws_eqSlotResult (n : Nat) (x : ((Int × ((Int × Int) × (Int × (Int × (Int × ((Int × Int) × (List (Int × Int)))))))) × (Int × ((Int × Int) × (Int × (Int × (Int × ((Int × Int) × (List (Int × Int)))))))))) : Option Bool :=
(cond (!(x.1.1 == x.2.1))
 (some false)
 ((m_laws_eqVote (x.1.2.1, x.2.2.1)).bind fun r1 =>
 (cond (!r1)
  (some false)
  ((m_laws_eqSlot (x.1.2.2, x.2.2.2)).bind fun r2 =>
  (cond (!r2)
   (some false)
   (some true))))))
def m_laws_eqSlotResult (x : ((Int × ((Int × Int) × (Int × (Int × (Int × ((Int × Int) × (List (Int × Int)))))))) × (Int × ((Int × Int) × (Int × (Int × (Int × ((Int × Int) × (List (Int × Int)))))))))) : Option Bool := p_laws_eqSlotResult FU x
def a_laws_eqSlotResult : Ann := .leaf
def S_laws_eqSlotResult : FSpec := ⟨[.val (.pair (.int .i64) (.pair (.pair (.int .i64) (.int .i64)) (.pair (.int .i64) (.pair (.int .i64) (.pair (.int .i64) (.pair (.pair (.int .i64) (.int .i64)) (.sl none (.pair (.int .i64) (.int .i64))))))))), .val (.pair (.int .i64) (.pair (.pair (.int .i64) (.int .i64)) (.pair (.int .i64) (.pair (.int .i64) (.pair (.int .i64) (.pair (.pair (.int .i64) (.int .i64)) (.sl none (.pair (.int .i64) (.int .i64)))))))))], [.bool], m_laws_eqSlotResult⟩

/-! laws.heldVoteS -/
def l_laws_heldVoteS_1 (n : Nat) (x_1 : (List (Int × Int))) (z0 : (Int × Int)) : Option Int :=
(lp (fun rec5 (z4 : (Int × Int)) =>
 (cond (decide (z4.2 < (lenI x_1)))
  ((geti x_1 z4.2).bind fun y6 =>
  (cond (!(y6.1 == z4.1))
   (some (-1 : Int))
   ((geti x_1 z4.2).bind fun y7 =>
   (cond (!(y7.2 == (IntKind.wrap .i64 (z4.1 + (1 : Int)))))
    (some (-1 : Int))
    (rec5 (IntKind.wrap .i64 ((IntKind.wrap .i64 (z4.1 + (1 : Int))) + (1 : Int)), IntKind.wrap .i64 (z4.2 + (1 : Int))))))))
  (some z4.1))) n z0)
def p_laws_heldVoteS (n : Nat) (x : ((List (Int × Int)) × Int)) : Option Int :=
(l_laws_heldVoteS_1 n x.1 (x.2, (0 : Int)))
def m_laws_heldVoteS (x : ((List (Int × Int)) × Int)) : Option Int := p_laws_heldVoteS FU x
def a_laws_heldVoteS : Ann := (.node .leaf (.node (.node .leaf (.loop [.slot 1 (.int .i64), .slot 5 (.int .i64)] [4, 6, 7, 8, 9, 10, 11, 12, 13, 14, 15, 16, 17, 18, 19, 20, 21, 22, 23, 24, 25, 26, 27, 28, 29] .leaf)) .leaf))
def S_laws_heldVoteS : FSpec := ⟨[.val (.sl none (.pair (.int .i64) (.int .i64))), .val (.int .i64)], [(.int .i64)], m_laws_heldVoteS⟩

/-! laws.heldSlot -/
def p_laws_heldSlot (n : Nat) (x : ((Int × (Int × (Int × ((Int × Int) × (List (Int × Int)))))) × Int)) : Option Int :=
((m_laws_heldVoteS (x.1.2.2.2.2, x.2)).bind fun r1 =>
(cond (decide (r1 < (0 : Int)))
 (some (-1 : Int))
 (some r1)))
def m_laws_heldSlot (x : ((Int × (Int × (Int × ((Int × Int) × (List (Int × Int)))))) × Int)) : Option Int := p_laws_heldSlot FU x
def a_laws_heldSlot : Ann := .leaf
def S_laws_heldSlot : FSpec := ⟨[.val (.pair (.int .i64) (.pair (.int .i64) (.pair (.int .i64) (.pair (.pair (.int .i64) (.int .i64)) (.sl none (.pair (.int .i64) (.int .i64))))))), .val (.int .i64)], [(.int .i64)], m_laws_heldSlot⟩

/-! laws.heldSlotResult -/
def p_laws_heldSlotResult (n : Nat) (x : ((Int × ((Int × Int) × (Int × (Int × (Int × ((Int × Int) × (List (Int × Int)))))))) × Int)) : Option Int :=
((m_laws_heldSlot (x.1.2.2, x.2)).bind fun r1 =>
(cond (decide (r1 < (0 : Int)))
 (some (-1 : Int))
 (some r1)))
def m_laws_heldSlotResult (x : ((Int × ((Int × Int) × (Int × (Int × (Int × ((Int × Int) × (List (Int × Int)))))))) × Int)) : Option Int := p_laws_heldSlotResult FU x
def a_laws_heldSlotResult : Ann := .leaf
def S_laws_heldSlotResult : FSpec := ⟨[.val (.pair (.int .i64) (.pair (.pair (.int .i64) (.int .i64)) (.pair (.int .i64) (.pair (.int .i64) (.pair (.int .i64) (.pair (.pair (.int .i64) (.int .i64)) (.sl none (.pair (.int .i64) (.int .i64))))))))), .val (.int .i64)], [(.int .i64)], m_laws_heldSlotResult⟩

/-! laws.FnExactNewSlot -/
def l_laws_FnExactNewSlot_1 (n : Nat)  (z0 : (Int × (Int × (List (Int × Int))))) : Option (Int × (List (Int × Int))) :=
(lp (fun rec22 (z21 : (Int × (Int × (List (Int × Int))))) =>
 (cond (decide (z21.2.1 < (lenI z21.2.2)))
  ((geti z21.2.2 z21.2.1).bind fun _ =>
  ((z21.2.2[z21.2.1.toNat]?).bind fun y23 =>
  ((geti (z21.2.2.set z21.2.1.toNat (z21.1, y23.2)) z21.2.1).bind fun _ =>
  (((z21.2.2.set z21.2.1.toNat (z21.1, y23.2))[z21.2.1.toNat]?).bind fun y24 =>
  rec22 (IntKind.wrap .i64 ((IntKind.wrap .i64 (z21.1 + (1 : Int))) + (1 : Int)), IntKind.wrap .i64 (z21.2.1 + (1 : Int)), ((z21.2.2.set z21.2.1.toNat (z21.1, y23.2)).set z21.2.1.toNat (y24.1, IntKind.wrap .i64 (z21.1 + (1 : Int)))))))))
  (some (z21.1, z21.2.2)))) n z0)
def p_laws_FnExactNewSlot (n : Nat) (x : (Int × Int)) : Option Bool :=
((m_spec_NewSlot (x.1, x.2)).bind fun r1 =>
((m_impl_NewSlot (x.1, x.2)).bind fun r2 =>
((m_laws_eqSlotResult (r2, r1)).bind fun r3 =>
(cond (!r3)
 (some false)
 (Option.bind (α := (Int × (List (Int × Int))))
  (l_laws_FnExactNewSlot_1 n  ((1 : Int), (0 : Int), r2.2.2.2.2.2.2)) fun j26 =>
 ((m_laws_heldSlotResult ((r2.1, (r2.2.1, (r2.2.2.1, (r2.2.2.2.1, (r2.2.2.2.2.1, (r2.2.2.2.2.2.1, j26.2)))))), (1 : Int))).bind fun r27 =>
 (cond (decide (r27 < (0 : Int)))
  (some false)
  (cond (!(r27 == j26.1))
   (some false)
   ((m_impl_NewSlot (x.1, x.2)).bind fun r28 =>
   ((m_laws_eqSlotResult (r28, r1)).bind fun r29 =>
   (cond (!r29)
    (some false)
    ((m_laws_heldSlotResult ((r2.1, (r2.2.1, (r2.2.2.1, (r2.2.2.2.1, (r2.2.2.2.2.1, (r2.2.2.2.2.2.1, j26.2)))))), (1 : Int))).bind fun r30 =>
    (cond (decide (r30 < (0 : Int)))
     (some false)
     (cond (!(r30 == j26.1))
      (some false)
      (some true)))))))))))))))
def m_laws_FnExactNewSlot (x : (Int × Int)) : Option Bool := p_laws_FnExactNewSlot FU x
def a_laws_FnExactNewSlot : Ann := (.node .leaf (.node .leaf (.node .leaf (.node .leaf (.node .leaf (.node (.reg 22 (.node .leaf (.node (.reg 8 (.node .leaf (.node (.regj 8 [.slot 8 (.int .i64), .row 2 34 (.pair (.int .i64) (.int .i64))] [] (.node .leaf (.node (.node .leaf (.loop [.slot 1 (.int .i64), .slot 5 (.int .i64), .row 2 34 (.pair (.int .i64) (.int .i64))] [6, 7, 8, 9, 10, 11, 12, 13, 14, 15, 16, 17, 18, 19, 20, 21, 22, 23, 24, 25] .leaf)) .leaf)) .leaf) .leaf)) .leaf) .leaf)) .leaf) .leaf))))))
def S_laws_FnExactNewSlot : FSpec := ⟨[.val (.int .i64), .val (.int .i64)], [.bool], m_laws_FnExactNewSlot⟩

def T : Tab := [
  (2, ⟨false, 1, 8, [], 0, [.int .i64 0], some (.int .i64), [0]⟩),
  (3, ⟨false, 1, 8, [], 0, [.int .i64 0], some (.int .i64), [0]⟩),
  (29, ⟨false, 1, 24, [], 34, [.nil], some (.sl none (.pair (.int .i64) (.int .i64))), []⟩),
  (34, ⟨true, 2, 16, [(0, 1, 2), (1, 1, 2)], 0, [.int .i64 0, .int .i64 0], some (.pair (.int .i64) (.int .i64)), [0, 0]⟩),
  (41, ⟨true, 6, 64, [(0, 1, 2), (1, 1, 2), (2, 1, 2), (3, 2, 34), (5, 1, 29)], 0, [.int .i64 0, .int .i64 0, .int .i64 0, .int .i64 0, .int .i64 0, .nil], some (.pair (.int .i64) (.pair (.int .i64) (.pair (.int .i64) (.pair (.pair (.int .i64) (.int .i64)) (.sl none (.pair (.int .i64) (.int .i64))))))), []⟩),
  (43, ⟨true, 9, 88, [(0, 1, 2), (1, 2, 34), (3, 6, 41)], 0, [.int .i64 0, .int .i64 0, .int .i64 0, .int .i64 0, .int .i64 0, .int .i64 0, .int .i64 0, .int .i64 0, .nil], some (.pair (.int .i64) (.pair (.pair (.int .i64) (.int .i64)) (.pair (.int .i64) (.pair (.int .i64) (.pair (.int .i64) (.pair (.pair (.int .i64) (.int .i64)) (.sl none (.pair (.int .i64) (.int .i64))))))))), []⟩)]
def G_spec_l1In : Env := (63, S_spec_l1In) :: []
def G_spec_l1Id : Env := (82, S_spec_l1Id) :: G_spec_l1In
def G_spec_l8None : Env := (69, S_spec_l8None) :: G_spec_l1Id
def G_spec_NewSlot : Env := (25, S_spec_NewSlot) :: G_spec_l8None
def G_impl_within : Env := (65, S_impl_within) :: G_spec_NewSlot
def G_impl_isId : Env := (83, S_impl_isId) :: G_impl_within
def G_impl_isShard : Env := (84, S_impl_isShard) :: G_impl_isId
def G_impl_noVote : Env := (74, S_impl_noVote) :: G_impl_isShard
def G_impl_newSlot : Env := (85, S_impl_newSlot) :: G_impl_noVote
def G_impl_NewSlot : Env := (26, S_impl_NewSlot) :: G_impl_newSlot
def G_laws_eqVote : Env := (81, S_laws_eqVote) :: G_impl_NewSlot
def G_laws_eqVoteS : Env := (24, S_laws_eqVoteS) :: G_laws_eqVote
def G_laws_eqSlot : Env := (34, S_laws_eqSlot) :: G_laws_eqVoteS
def G_laws_eqSlotResult : Env := (27, S_laws_eqSlotResult) :: G_laws_eqSlot
def G_laws_heldVoteS : Env := (111, S_laws_heldVoteS) :: G_laws_eqSlotResult
def G_laws_heldSlot : Env := (86, S_laws_heldSlot) :: G_laws_heldVoteS
def G_laws_heldSlotResult : Env := (29, S_laws_heldSlotResult) :: G_laws_heldSlot
def G_laws_FnExactNewSlot : Env := (6, S_laws_FnExactNewSlot) :: G_laws_heldSlotResult
end
end Go.RvP
