/- The plain functions that the evaluator comes to, for FnExactPickValue. No condition. -/
import Derived.Test.YtekndmbpphncmaaRvL
namespace Go.RvP
open Go Go.Rv
/-! laws.szVoteS -/
def p_laws_szVoteS (n : Nat) (x : ((List (Int × Int)) × Int)) : Option Int :=
(cond (decide ((IntKind.wrap .i64 (x.2 - (lenI x.1))) < (0 : Int)))
 (some (-1 : Int))
 (some (IntKind.wrap .i64 (x.2 - (lenI x.1)))))
def m_laws_szVoteS (x : ((List (Int × Int)) × Int)) : Option Int := p_laws_szVoteS FU x
def a_laws_szVoteS : Ann := .leaf
def S_laws_szVoteS : FSpec := ⟨[.val (.sl none (.pair (.int .i64) (.int .i64))), .val (.int .i64)], [(.int .i64)], m_laws_szVoteS⟩

/-! laws.toVote -/
def p_laws_toVote (n : Nat) (x : (Int × Int)) : Option (Int × Int) :=
some x
def m_laws_toVote (x : (Int × Int)) : Option (Int × Int) := p_laws_toVote FU x
def a_laws_toVote : Ann := .leaf
def S_laws_toVote : FSpec := ⟨[.val (.pair (.int .i64) (.int .i64))], [(.pair (.int .i64) (.int .i64))], m_laws_toVote⟩

/-! laws.toVoteS -/
def l_laws_toVoteS_1 (n : Nat) (x : (List (Int × Int))) (z0 : (Int × (List (Int × Int)))) : Option (List (Int × Int)) :=
(lp (fun rec6 (z5 : (Int × (List (Int × Int)))) =>
 (cond (decide (z5.1 < (lenI x)))
  ((geti x z5.1).bind fun y7 =>
  ((m_laws_toVote y7).bind fun r8 =>
  ((geti z5.2 z5.1).bind fun _ =>
  ((z5.2[z5.1.toNat]?).bind fun y9 =>
  rec6 (IntKind.wrap .i64 (z5.1 + (1 : Int)), (z5.2.set z5.1.toNat r8))))))
  (some z5.2))) n z0)
def p_laws_toVoteS (n : Nat) (x : (List (Int × Int))) : Option (List (Int × Int)) :=
(if (lenI x) = (lenI x) then (if 0 ≤ (lenI x) then chk (Nat.ble (16 * (lenI x).toNat) maxBytes)
(l_laws_toVoteS_1 n x ((0 : Int), (List.replicate (lenI x).toNat ((0 : Int), (0 : Int))))) else none) else none)
def m_laws_toVoteS (x : (List (Int × Int))) : Option (List (Int × Int)) := p_laws_toVoteS FU x
def a_laws_toVoteS : Ann := (.node .leaf (.node .leaf (.node (.node .leaf (.loop [.slot 4 (.int .i64), .row 0 34 (.pair (.int .i64) (.int .i64))] [8, 9, 10, 11, 12, 13, 14, 15, 16, 17, 18, 19, 20, 21] .leaf)) .leaf)))
def S_laws_toVoteS : FSpec := ⟨[.val (.sl none (.pair (.int .i64) (.int .i64)))], [(.sl (some 34) (.pair (.int .i64) (.int .i64)))], m_laws_toVoteS⟩

/-! spec.l8None -/
def p_spec_l8None (n : Nat) (x : Unit) : Option (Int × Int) :=
some ((-1 : Int), (0 : Int))
def m_spec_l8None (x : Unit) : Option (Int × Int) := p_spec_l8None FU x
def a_spec_l8None : Ann := .leaf
def S_spec_l8None : FSpec := ⟨[], [(.pair (.int .i64) (.int .i64))], m_spec_l8None⟩

/-! spec.l1In -/
def p_spec_l1In (n : Nat) (x : (Int × (Int × Int))) : Option Bool :=
(cond (decide (x.1 ≥ x.2.1))
 (some (decide (x.1 ≤ x.2.2)))
 (some false))
def m_spec_l1In (x : (Int × (Int × Int))) : Option Bool := p_spec_l1In FU x
def a_spec_l1In : Ann := .leaf
def S_spec_l1In : FSpec := ⟨[.val (.int .i64), .val (.int .i64), .val (.int .i64)], [.bool], m_spec_l1In⟩

/-! spec.l8Ballot -/
def p_spec_l8Ballot (n : Nat) (x : Int) : Option Bool :=
((m_spec_l1In (x, (0 : Int), (1000 : Int))).bind fun r1 =>
some r1)
def m_spec_l8Ballot (x : Int) : Option Bool := p_spec_l8Ballot FU x
def a_spec_l8Ballot : Ann := .leaf
def S_spec_l8Ballot : FSpec := ⟨[.val (.int .i64)], [.bool], m_spec_l8Ballot⟩

/-! spec.l8Value -/
def p_spec_l8Value (n : Nat) (x : Int) : Option Bool :=
(cond (x == (1 : Int))
 (some true)
 (some (x == (2 : Int))))
def m_spec_l8Value (x : Int) : Option Bool := p_spec_l8Value FU x
def a_spec_l8Value : Ann := .leaf
def S_spec_l8Value : FSpec := ⟨[.val (.int .i64)], [.bool], m_spec_l8Value⟩

/-! spec.l8Pick -/
def l_spec_l8Pick_1 (n : Nat) (x_1 : (List (Int × Int))) (z0 : (Int × (Int × Int))) : Option (Int × Int) :=
(lp (fun rec14 (z13 : (Int × (Int × Int))) =>
 (cond (decide (z13.1 < (lenI x_1)))
  ((geti x_1 z13.1).bind fun y15 =>
  (cond (decide (y15.1 > z13.2.1))
   ((geti x_1 z13.1).bind fun y16 =>
   rec14 (IntKind.wrap .i64 (z13.1 + (1 : Int)), y16))
   (rec14 (IntKind.wrap .i64 (z13.1 + (1 : Int)), z13.2))))
  (some z13.2))) n z0)
def p_spec_l8Pick (n : Nat) (x : ((List (Int × Int)) × Int)) : Option Int :=
((m_spec_l8None ()).bind fun r1 =>
(Option.bind (α := (Int × Int))
 (l_spec_l8Pick_1 n x.1 ((0 : Int), r1)) fun j18 =>
(cond (decide (j18.1 < (0 : Int)))
 (some x.2)
 (some j18.2))))
def m_spec_l8Pick (x : ((List (Int × Int)) × Int)) : Option Int := p_spec_l8Pick FU x
def a_spec_l8Pick : Ann := (.node .leaf (.node .leaf (.join [.box 0 (.pair (.int .i64) (.int .i64))] [6, 8, 9, 10, 11, 12, 13, 14, 15, 16, 17, 18, 19, 20, 21, 22, 23, 24, 25] (.node .leaf (.loop [.slot 6 (.int .i64), .box 0 (.pair (.int .i64) (.int .i64))] [8, 9, 10, 11, 12, 13, 14, 15, 16, 17, 18, 19, 20, 21, 22, 23, 24, 25] .leaf)) .leaf)))
def S_spec_l8Pick : FSpec := ⟨[.val (.sl none (.pair (.int .i64) (.int .i64))), .val (.int .i64)], [(.int .i64)], m_spec_l8Pick⟩

/-! spec.PickValue -/
def l_spec_PickValue_1 (n : Nat) (x_1 : (List (Int × Int))) (z0 : Int) : Option (Unit ⊕ (Int × Int)) :=
(lp (fun rec46 (z45 : Int) =>
 (cond (decide (z45 < (lenI x_1)))
  (Option.bind (α := Bool)
   ((geti x_1 z45).bind fun y53 =>
   ((m_spec_l8None ()).bind fun r54 =>
   (cond (!((y53.1 == r54.1) && ((y53.2 == r54.2) && true)))
    ((geti x_1 z45).bind fun y55 =>
    ((m_spec_l8Ballot y55.1).bind fun r56 =>
    (cond (!r56)
     (some true)
     ((geti x_1 z45).bind fun y57 =>
     ((m_spec_l8Value y57.2).bind fun r58 =>
     some (!r58))))))
    (some false)))) fun j59 =>
  (cond j59
   (some (Sum.inr ((3 : Int), (0 : Int))))
   (rec46 (IntKind.wrap .i64 (z45 + (1 : Int))))))
  (some (Sum.inl ())))) n z0)
def p_spec_PickValue (n : Nat) (x : ((List (Int × Int)) × Int)) : Option (Int × Int) :=
(cond (decide ((lenI x.1) > (9 : Int)))
 (some ((2 : Int), (0 : Int)))
 (Option.bind (α := (Unit ⊕ (Int × Int)))
  (l_spec_PickValue_1 n x.1 (0 : Int))
  (Sum.elim (fun j61 =>
 ((m_spec_l8Value x.2).bind fun r62 =>
 (cond (!r62)
  (some ((3 : Int), (0 : Int)))
  ((m_spec_l8Pick (x.1, x.2)).bind fun r63 =>
  some ((0 : Int), r63))))) some)))
def m_spec_PickValue (x : ((List (Int × Int)) × Int)) : Option (Int × Int) := p_spec_PickValue FU x
def a_spec_PickValue : Ann := (.node .leaf (.node .leaf (.joinx [] [5, 10, 11, 12, 13, 14, 15, 16, 17, 18, 19, 20, 21, 22, 23, 24, 25, 26, 27, 28, 29, 30, 31, 32, 33, 34, 35, 36, 37, 38, 39, 40] (.node .leaf (.loop [.slot 5 (.int .i64)] [10, 11, 12, 13, 14, 15, 16, 17, 18, 19, 20, 21, 22, 23, 24, 25, 26, 27, 28, 29, 30, 31, 32, 33, 34, 35, 36, 37, 38, 39, 40] (.node .leaf (.node (.join [.slot 39 .bool] [16, 17, 18, 19, 20, 21, 22, 23, 24, 25, 26, 27, 28, 29, 30, 31, 32, 33, 34, 35, 36, 37, 38] .leaf .leaf) .leaf)))) .leaf)))
def S_spec_PickValue : FSpec := ⟨[.val (.sl none (.pair (.int .i64) (.int .i64))), .val (.int .i64)], [(.pair (.int .i64) (.int .i64))], m_spec_PickValue⟩

/-! impl.noVote -/
def p_impl_noVote (n : Nat) (x : Unit) : Option (Int × Int) :=
some ((-1 : Int), (0 : Int))
def m_impl_noVote (x : Unit) : Option (Int × Int) := p_impl_noVote FU x
def a_impl_noVote : Ann := .leaf
def S_impl_noVote : FSpec := ⟨[], [(.pair (.int .i64) (.int .i64))], m_impl_noVote⟩

/-! impl.within -/
def p_impl_within (n : Nat) (x : (Int × (Int × Int))) : Option Bool :=
(cond (decide (x.1 ≥ x.2.1))
 (some (decide (x.1 ≤ x.2.2)))
 (some false))
def m_impl_within (x : (Int × (Int × Int))) : Option Bool := p_impl_within FU x
def a_impl_within : Ann := .leaf
def S_impl_within : FSpec := ⟨[.val (.int .i64), .val (.int .i64), .val (.int .i64)], [.bool], m_impl_within⟩

/-! impl.isBallot -/
def p_impl_isBallot (n : Nat) (x : Int) : Option Bool :=
((m_impl_within (x, (0 : Int), (1000 : Int))).bind fun r1 =>
some r1)
def m_impl_isBallot (x : Int) : Option Bool := p_impl_isBallot FU x
def a_impl_isBallot : Ann := .leaf
def S_impl_isBallot : FSpec := ⟨[.val (.int .i64)], [.bool], m_impl_isBallot⟩

/-! impl.isValue -/
def p_impl_isValue (n : Nat) (x : Int) : Option Bool :=
(cond (x == (1 : Int))
 (some true)
 (some (x == (2 : Int))))
def m_impl_isValue (x : Int) : Option Bool := p_impl_isValue FU x
def a_impl_isValue : Ann := .leaf
def S_impl_isValue : FSpec := ⟨[.val (.int .i64)], [.bool], m_impl_isValue⟩

/-! impl.isVote -/
def p_impl_isVote (n : Nat) (x : (Int × Int)) : Option Bool :=
((m_impl_isBallot x.1).bind fun r1 =>
(cond r1
 ((m_impl_isValue x.2).bind fun r2 =>
 some r2)
 (some false)))
def m_impl_isVote (x : (Int × Int)) : Option Bool := p_impl_isVote FU x
def a_impl_isVote : Ann := .leaf
def S_impl_isVote : FSpec := ⟨[.val (.pair (.int .i64) (.int .i64))], [.bool], m_impl_isVote⟩

/-! impl.PickValue$1 -/
def p_impl_PickValue_1 (n : Nat) (x : (Int × Int)) : Option Bool :=
((m_impl_noVote ()).bind fun r1 =>
(cond (!((x.1 == r1.1) && ((x.2 == r1.2) && true)))
 ((m_impl_isVote x).bind fun r2 =>
 some (!r2))
 (some false)))
def m_impl_PickValue_1 (x : (Int × Int)) : Option Bool := p_impl_PickValue_1 FU x
def a_impl_PickValue_1 : Ann := .leaf
def S_impl_PickValue_1 : FSpec := ⟨[.val (.pair (.int .i64) (.int .i64))], [.bool], m_impl_PickValue_1⟩

/-! impl.PickValue -/
def l_impl_PickValue_1 (n : Nat) (x_1 : (List (Int × Int))) (z0 : Int) : Option Int :=
(lp (fun rec31 (z30 : Int) =>
 (cond (decide (z30 < (lenI x_1)))
  ((geti x_1 z30).bind fun y32 =>
  ((m_impl_PickValue_1 y32).bind fun r33 =>
  (cond r33
   (some z30)
   (rec31 (IntKind.wrap .i64 (z30 + (1 : Int)))))))
  (some (-1 : Int)))) n z0)
def l_impl_PickValue_2 (n : Nat) (x_1 : (List (Int × Int))) (z0 : (Int × (Int × Int))) : Option (Int × Int) :=
(lp (fun rec41 (z40 : (Int × (Int × Int))) =>
 (cond (decide (z40.1 < (lenI x_1)))
  ((geti x_1 z40.1).bind fun y42 =>
  (cond (decide (y42.1 > z40.2.1))
   (rec41 (IntKind.wrap .i64 (z40.1 + (1 : Int)), y42))
   (rec41 (IntKind.wrap .i64 (z40.1 + (1 : Int)), z40.2))))
  (some ((0 : Int), z40.2.2)))) n z0)
def p_impl_PickValue (n : Nat) (x : ((List (Int × Int)) × Int)) : Option (Int × Int) :=
(cond (decide ((lenI x.1) > (9 : Int)))
 (some ((2 : Int), (0 : Int)))
 (Option.bind (α := Bool)
  (Option.bind (α := Int)
   (l_impl_PickValue_1 n x.1 (0 : Int)) fun j35 =>
  (cond (decide (j35 ≥ (0 : Int)))
   (some true)
   ((m_impl_isValue x.2).bind fun r36 =>
   some (!r36)))) fun j37 =>
 (cond j37
  (some ((3 : Int), (0 : Int)))
  (l_impl_PickValue_2 n x.1 ((0 : Int), ((-1 : Int), x.2))))))
def m_impl_PickValue (x : ((List (Int × Int)) × Int)) : Option (Int × Int) := p_impl_PickValue FU x
def a_impl_PickValue : Ann := (.node .leaf (.node (.node .leaf (.node .leaf (.join [.slot 13 .bool] [14, 15, 16, 17, 18, 19, 20] (.reg 15 (.node .leaf (.node (.regj 7 [.slot 7 (.int .i64)] [] (.node .leaf (.node (.node .leaf (.loop [.slot 8 (.int .i64)] [4, 5, 9, 10, 11, 12, 13, 14, 15, 16, 17, 18] .leaf)) .leaf)) .leaf) .leaf)) .leaf) .leaf))) (.node .leaf (.node (.node .leaf (.loop [.slot 26 (.int .i64), .box 1 (.pair (.int .i64) (.int .i64))] [7, 27, 28, 29, 30, 31, 32, 33, 34, 35, 36] .leaf)) .leaf))))
def S_impl_PickValue : FSpec := ⟨[.val (.sl none (.pair (.int .i64) (.int .i64))), .val (.int .i64)], [(.pair (.int .i64) (.int .i64))], m_impl_PickValue⟩

/-! laws.eqIntResult -/
def p_laws_eqIntResult (n : Nat) (x : ((Int × Int) × (Int × Int))) : Option Bool :=
(cond (!(x.1.1 == x.2.1))
 (some false)
 (cond (!(x.1.2 == x.2.2))
  (some false)
  (some true)))
def m_laws_eqIntResult (x : ((Int × Int) × (Int × Int))) : Option Bool := p_laws_eqIntResult FU x
def a_laws_eqIntResult : Ann := .leaf
def S_laws_eqIntResult : FSpec := ⟨[.val (.pair (.int .i64) (.int .i64)), .val (.pair (.int .i64) (.int .i64))], [.bool], m_laws_eqIntResult⟩

/-! laws.eqVote -/
def p_laws_eqVote (n : Nat) (x : ((Int × Int) × (Int × Int))) : Option Bool :=
(cond (!(x.1.1 == x.2.1))
 (some false)
 (cond (!(x.1.2 == x.2.2))
  (some false)
  (some true)))
def m_laws_eqVote (x : ((Int × Int) × (Int × Int))) : Option Bool := p_laws_eqVote FU x
def a_laws_eqVote : Ann := .leaf
def S_laws_eqVote : FSpec := ⟨[.val (.pair (.int .i64) (.int .i64)), .val (.pair (.int .i64) (.int .i64))], [.bool], m_laws_eqVote⟩

/-! laws.eqVoteS -/
def l_laws_eqVoteS_1 (n : Nat) (x_2 : (List (Int × Int))) (x_1 : (List (Int × Int))) (z0 : Int) : Option Bool :=
(lp (fun rec6 (z5 : Int) =>
 (cond (decide (z5 < (lenI x_1)))
  ((geti x_1 z5).bind fun y7 =>
  ((geti x_2 z5).bind fun y8 =>
  ((m_laws_eqVote (y7, y8)).bind fun r9 =>
  (cond (!r9)
   (some false)
   (rec6 (IntKind.wrap .i64 (z5 + (1 : Int))))))))
  (some true))) n z0)
def p_laws_eqVoteS (n : Nat) (x : ((List (Int × Int)) × (List (Int × Int)))) : Option Bool :=
(cond (!((lenI x.1) == (lenI x.2)))
 (some false)
 (l_laws_eqVoteS_1 n x.2 x.1 (0 : Int)))
def m_laws_eqVoteS (x : ((List (Int × Int)) × (List (Int × Int)))) : Option Bool := p_laws_eqVoteS FU x
def a_laws_eqVoteS : Ann := (.node .leaf (.node .leaf (.node (.node .leaf (.loop [.slot 5 (.int .i64)] [4, 11, 12, 13, 14, 15, 16, 17, 18, 19, 20, 21, 22, 23, 24, 25, 26] .leaf)) .leaf)))
def S_laws_eqVoteS : FSpec := ⟨[.val (.sl none (.pair (.int .i64) (.int .i64))), .val (.sl none (.pair (.int .i64) (.int .i64)))], [.bool], m_laws_eqVoteS⟩

/-! laws.FnExactPickValue -/
def p_laws_FnExactPickValue (n : Nat) (x : ((List (Int × Int)) × Int)) : Option Bool :=
((m_laws_szVoteS (x.1, (1048576 : Int))).bind fun r1 =>
(cond (decide (r1 < (0 : Int)))
 (some true)
 ((m_laws_toVoteS x.1).bind fun r2 =>
 ((m_spec_PickValue (r2, x.2)).bind fun r3 =>
 ((m_laws_toVoteS x.1).bind fun r4 =>
 ((m_impl_PickValue (r4, x.2)).bind fun r5 =>
 ((m_laws_eqIntResult (r5, r3)).bind fun r6 =>
 (cond (!r6)
  (some false)
  ((m_laws_toVoteS x.1).bind fun r7 =>
  ((m_laws_eqVoteS (r4, r7)).bind fun r8 =>
  (cond (!r8)
   (some false)
   (some true))))))))))))
def m_laws_FnExactPickValue (x : ((List (Int × Int)) × Int)) : Option Bool := p_laws_FnExactPickValue FU x
def a_laws_FnExactPickValue : Ann := .leaf
def S_laws_FnExactPickValue : FSpec := ⟨[.val (.sl none (.pair (.int .i64) (.int .i64))), .val (.int .i64)], [.bool], m_laws_FnExactPickValue⟩

def T : Tab := [
  (2, ⟨false, 1, 8, [], 0, [.int .i64 0], some (.int .i64), [0]⟩),
  (3, ⟨false, 1, 8, [], 0, [.int .i64 0], some (.int .i64), [0]⟩),
  (23, ⟨true, 2, 16, [(0, 1, 2), (1, 1, 2)], 0, [.int .i64 0, .int .i64 0], some (.pair (.int .i64) (.int .i64)), [0, 0]⟩),
  (29, ⟨false, 1, 24, [], 34, [.nil], some (.sl none (.pair (.int .i64) (.int .i64))), []⟩),
  (34, ⟨true, 2, 16, [(0, 1, 2), (1, 1, 2)], 0, [.int .i64 0, .int .i64 0], some (.pair (.int .i64) (.int .i64)), [0, 0]⟩),
  (35, ⟨false, 1, 24, [], 48, [.nil], some (.sl none (.pair (.int .i64) (.int .i64))), []⟩),
  (48, ⟨true, 2, 16, [(0, 1, 2), (1, 1, 2)], 0, [.int .i64 0, .int .i64 0], some (.pair (.int .i64) (.int .i64)), [0, 0]⟩)]
def G_laws_szVoteS : Env := (22, S_laws_szVoteS) :: []
def G_laws_toVote : Env := (80, S_laws_toVote) :: G_laws_szVoteS
def G_laws_toVoteS : Env := (23, S_laws_toVoteS) :: G_laws_toVote
def G_spec_l8None : Env := (69, S_spec_l8None) :: G_laws_toVoteS
def G_spec_l1In : Env := (63, S_spec_l1In) :: G_spec_l8None
def G_spec_l8Ballot : Env := (77, S_spec_l8Ballot) :: G_spec_l1In
def G_spec_l8Value : Env := (78, S_spec_l8Value) :: G_spec_l8Ballot
def G_spec_l8Pick : Env := (79, S_spec_l8Pick) :: G_spec_l8Value
def G_spec_PickValue : Env := (21, S_spec_PickValue) :: G_spec_l8Pick
def G_impl_noVote : Env := (74, S_impl_noVote) :: G_spec_PickValue
def G_impl_within : Env := (65, S_impl_within) :: G_impl_noVote
def G_impl_isBallot : Env := (91, S_impl_isBallot) :: G_impl_within
def G_impl_isValue : Env := (76, S_impl_isValue) :: G_impl_isBallot
def G_impl_isVote : Env := (75, S_impl_isVote) :: G_impl_isValue
def G_impl_PickValue_1 : Env := (73, S_impl_PickValue_1) :: G_impl_isVote
def G_impl_PickValue : Env := (20, S_impl_PickValue) :: G_impl_PickValue_1
def G_laws_eqIntResult : Env := (17, S_laws_eqIntResult) :: G_impl_PickValue
def G_laws_eqVote : Env := (81, S_laws_eqVote) :: G_laws_eqIntResult
def G_laws_eqVoteS : Env := (24, S_laws_eqVoteS) :: G_laws_eqVote
def G_laws_FnExactPickValue : Env := (5, S_laws_FnExactPickValue) :: G_laws_eqVoteS
end Go.RvP
