/- The plain functions that the evaluator comes to, for FnExactSlotFault. No condition. -/
import Derived.Test.YtekndmbpphncmaaRvL
namespace Go.RvP
open Go Go.Rv
/-! laws.szVoteS -/
def p22 (n : Nat) (x : ((List (Int × Int)) × Int)) : Option Int :=
(cond (decide ((IntKind.wrap .i64 (x.2 - (lenI x.1))) < (0 : Int)))
 (some (-1 : Int))
 (some (IntKind.wrap .i64 (x.2 - (lenI x.1)))))
def m22 (x : ((List (Int × Int)) × Int)) : Option Int := p22 FU x
def a22 : Ann := .leaf
def S22 : FSpec := ⟨[.val (.sl none (.pair (.int .i64) (.int .i64))), .val (.int .i64)], [(.int .i64)], m22⟩

/-! laws.szSlot -/
def p30 (n : Nat) (x : ((Int × (Int × (Int × ((Int × Int) × (List (Int × Int)))))) × Int)) : Option Int :=
((m22 (x.1.2.2.2.2, x.2)).bind fun r1 =>
(cond (decide (r1 < (0 : Int)))
 (some (-1 : Int))
 (some r1)))
def m30 (x : ((Int × (Int × (Int × ((Int × Int) × (List (Int × Int)))))) × Int)) : Option Int := p30 FU x
def a30 : Ann := .leaf
def S30 : FSpec := ⟨[.val (.pair (.int .i64) (.pair (.int .i64) (.pair (.int .i64) (.pair (.pair (.int .i64) (.int .i64)) (.sl none (.pair (.int .i64) (.int .i64))))))), .val (.int .i64)], [(.int .i64)], m30⟩

/-! laws.toVote -/
def p80 (n : Nat) (x : (Int × Int)) : Option (Int × Int) :=
some x
def m80 (x : (Int × Int)) : Option (Int × Int) := p80 FU x
def a80 : Ann := .leaf
def S80 : FSpec := ⟨[.val (.pair (.int .i64) (.int .i64))], [(.pair (.int .i64) (.int .i64))], m80⟩

/-! laws.toVoteS -/
def p23 (n : Nat) (x : (List (Int × Int))) : Option (List (Int × Int)) :=
(if (lenI x) = (lenI x) then (if 0 ≤ (lenI x) then chk (Nat.ble (16 * (lenI x).toNat) maxBytes)
(lp (fun rec6 (z5 : ((List (Int × Int)) × Int)) =>
 (cond (decide (z5.2 < (lenI x)))
  ((geti x z5.2).bind fun y7 =>
  ((m80 y7).bind fun r8 =>
  ((geti z5.1 z5.2).bind fun _ =>
  ((z5.1[z5.2.toNat]?).bind fun y9 =>
  rec6 ((z5.1.set z5.2.toNat r8), IntKind.wrap .i64 (z5.2 + (1 : Int)))))))
  (some z5.1))) n ((List.replicate (lenI x).toNat ((0 : Int), (0 : Int))), (0 : Int))) else none) else none)
def m23 (x : (List (Int × Int))) : Option (List (Int × Int)) := p23 FU x
def a23 : Ann := (.node .leaf (.node .leaf (.node (.node .leaf (.loop [.slot 3 (.sl (some 34) (.pair (.int .i64) (.int .i64))), .slot 4 (.int .i64)] [8, 9, 10, 11, 12, 13, 14, 15, 16, 17, 18, 19, 20, 21] .leaf)) .leaf)))
def S23 : FSpec := ⟨[.val (.sl none (.pair (.int .i64) (.int .i64)))], [(.sl (some 34) (.pair (.int .i64) (.int .i64)))], m23⟩

/-! laws.toSlot -/
def p32 (n : Nat) (x : (Int × (Int × (Int × ((Int × Int) × (List (Int × Int))))))) : Option (Int × (Int × (Int × ((Int × Int) × (List (Int × Int)))))) :=
((m80 x.2.2.2.1).bind fun r1 =>
((m23 x.2.2.2.2).bind fun r2 =>
some (x.1, (x.2.1, (x.2.2.1, (r1, r2))))))
def m32 (x : (Int × (Int × (Int × ((Int × Int) × (List (Int × Int))))))) : Option (Int × (Int × (Int × ((Int × Int) × (List (Int × Int)))))) := p32 FU x
def a32 : Ann := .leaf
def S32 : FSpec := ⟨[.val (.pair (.int .i64) (.pair (.int .i64) (.pair (.int .i64) (.pair (.pair (.int .i64) (.int .i64)) (.sl none (.pair (.int .i64) (.int .i64)))))))], [(.pair (.int .i64) (.pair (.int .i64) (.pair (.int .i64) (.pair (.pair (.int .i64) (.int .i64)) (.sl (some 34) (.pair (.int .i64) (.int .i64)))))))], m32⟩

/-! spec.l1In -/
def p63 (n : Nat) (x : (Int × (Int × Int))) : Option Bool :=
(cond (decide (x.1 ≥ x.2.1))
 (some (decide (x.1 ≤ x.2.2)))
 (some false))
def m63 (x : (Int × (Int × Int))) : Option Bool := p63 FU x
def a63 : Ann := .leaf
def S63 : FSpec := ⟨[.val (.int .i64), .val (.int .i64), .val (.int .i64)], [.bool], m63⟩

/-! spec.l1Id -/
def p82 (n : Nat) (x : Int) : Option Bool :=
((m63 (x, (1 : Int), (1000000000 : Int))).bind fun r1 =>
some r1)
def m82 (x : Int) : Option Bool := p82 FU x
def a82 : Ann := .leaf
def S82 : FSpec := ⟨[.val (.int .i64)], [.bool], m82⟩

/-! spec.l8Ballot -/
def p77 (n : Nat) (x : Int) : Option Bool :=
((m63 (x, (0 : Int), (1000 : Int))).bind fun r1 =>
some r1)
def m77 (x : Int) : Option Bool := p77 FU x
def a77 : Ann := .leaf
def S77 : FSpec := ⟨[.val (.int .i64)], [.bool], m77⟩

/-! spec.l8Value -/
def p78 (n : Nat) (x : Int) : Option Bool :=
(cond (x == (1 : Int))
 (some true)
 (some (x == (2 : Int))))
def m78 (x : Int) : Option Bool := p78 FU x
def a78 : Ann := .leaf
def S78 : FSpec := ⟨[.val (.int .i64)], [.bool], m78⟩

/-! spec.l8None -/
def p69 (n : Nat) (x : Unit) : Option (Int × Int) :=
some ((-1 : Int), (0 : Int))
def m69 (x : Unit) : Option (Int × Int) := p69 FU x
def a69 : Ann := .leaf
def S69 : FSpec := ⟨[], [(.pair (.int .i64) (.int .i64))], m69⟩

/-! spec.l8Last -/
def p87 (n : Nat) (x : (Int × (Int × (Int × ((Int × Int) × (List (Int × Int))))))) : Option (Int × Int) :=
(cond ((lenI x.2.2.2.2) == (0 : Int))
 ((m69 ()).bind fun r1 =>
 some r1)
 ((geti x.2.2.2.2 (IntKind.wrap .i64 ((lenI x.2.2.2.2) - (1 : Int)))).bind fun y2 =>
 some y2))
def m87 (x : (Int × (Int × (Int × ((Int × Int) × (List (Int × Int))))))) : Option (Int × Int) := p87 FU x
def a87 : Ann := .leaf
def S87 : FSpec := ⟨[.val (.pair (.int .i64) (.pair (.int .i64) (.pair (.int .i64) (.pair (.pair (.int .i64) (.int .i64)) (.sl none (.pair (.int .i64) (.int .i64)))))))], [(.pair (.int .i64) (.int .i64))], m87⟩

/-! spec.SlotFault -/
def p31 (n : Nat) (x : (Int × (Int × (Int × ((Int × Int) × (List (Int × Int))))))) : Option Int :=
((m82 x.1).bind fun r1 =>
(cond (!r1)
 (some (3 : Int))
 ((m63 (x.2.1, (0 : Int), (2 : Int))).bind fun r2 =>
 (cond (!r2)
  (some (3 : Int))
  ((m63 (x.2.2.1, (-1 : Int), (1000 : Int))).bind fun r3 =>
  (cond (!r3)
   (some (3 : Int))
   (cond (decide ((lenI x.2.2.2.2) > (60 : Int)))
    (some (2 : Int))
    (lp (fun rec12 (z11 : Int) =>
     (cond (decide (z11 < (lenI x.2.2.2.2)))
      ((geti x.2.2.2.2 z11).bind fun y13 =>
      ((m77 y13.1).bind fun r14 =>
      (cond (!r14)
       (some (3 : Int))
       ((m78 y13.2).bind fun r15 =>
       (cond (!r15)
        (some (3 : Int))
        (cond (decide (z11 > (0 : Int)))
         ((geti x.2.2.2.2 (IntKind.wrap .i64 (z11 - (1 : Int)))).bind fun y16 =>
         (cond (decide (y13.1 < y16.1))
          (some (1 : Int))
          ((geti x.2.2.2.2 (IntKind.wrap .i64 (z11 - (1 : Int)))).bind fun y17 =>
          (cond (y13.1 == y17.1)
           ((geti x.2.2.2.2 (IntKind.wrap .i64 (z11 - (1 : Int)))).bind fun y18 =>
           (cond (!(y13.2 == y18.2))
            (some (1 : Int))
            (rec12 (IntKind.wrap .i64 (z11 + (1 : Int))))))
           (rec12 (IntKind.wrap .i64 (z11 + (1 : Int))))))))
         (rec12 (IntKind.wrap .i64 (z11 + (1 : Int))))))))))
      ((m87 x).bind fun r19 =>
      (cond (!((x.2.2.2.1.1 == r19.1) && ((x.2.2.2.1.2 == r19.2) && true)))
       (some (1 : Int))
       (cond (decide (x.2.2.2.1.1 > x.2.2.1))
        (some (1 : Int))
        (some (0 : Int))))))) n (0 : Int)))))))))
def m31 (x : (Int × (Int × (Int × ((Int × Int) × (List (Int × Int))))))) : Option Int := p31 FU x
def a31 : Ann := (.node .leaf (.node .leaf (.node .leaf (.node (.node .leaf (.loop [.slot 3 (.int .i64)] [2, 4, 25, 26, 27, 28, 29, 30, 31, 32, 33, 34, 35, 36, 37, 38, 39, 40, 41, 42, 43, 44, 45, 46, 47, 48, 49, 50, 51, 52, 53, 54, 55, 56, 57, 58, 59, 60, 61, 62, 63, 64, 65, 66, 67, 68, 69, 70, 71, 72, 73, 74, 75, 76, 77, 78, 79, 80, 81, 82, 83, 84] .leaf)) .leaf))))
def S31 : FSpec := ⟨[.val (.pair (.int .i64) (.pair (.int .i64) (.pair (.int .i64) (.pair (.pair (.int .i64) (.int .i64)) (.sl none (.pair (.int .i64) (.int .i64)))))))], [(.int .i64)], m31⟩

/-! impl.within -/
def p65 (n : Nat) (x : (Int × (Int × Int))) : Option Bool :=
(cond (decide (x.1 ≥ x.2.1))
 (some (decide (x.1 ≤ x.2.2)))
 (some false))
def m65 (x : (Int × (Int × Int))) : Option Bool := p65 FU x
def a65 : Ann := .leaf
def S65 : FSpec := ⟨[.val (.int .i64), .val (.int .i64), .val (.int .i64)], [.bool], m65⟩

/-! impl.isId -/
def p83 (n : Nat) (x : Int) : Option Bool :=
((m65 (x, (1 : Int), (1000000000 : Int))).bind fun r1 =>
some r1)
def m83 (x : Int) : Option Bool := p83 FU x
def a83 : Ann := .leaf
def S83 : FSpec := ⟨[.val (.int .i64)], [.bool], m83⟩

/-! impl.isShard -/
def p84 (n : Nat) (x : Int) : Option Bool :=
((m65 (x, (0 : Int), (2 : Int))).bind fun r1 =>
some r1)
def m84 (x : Int) : Option Bool := p84 FU x
def a84 : Ann := .leaf
def S84 : FSpec := ⟨[.val (.int .i64)], [.bool], m84⟩

/-! impl.isBallot -/
def p91 (n : Nat) (x : Int) : Option Bool :=
((m65 (x, (0 : Int), (1000 : Int))).bind fun r1 =>
some r1)
def m91 (x : Int) : Option Bool := p91 FU x
def a91 : Ann := .leaf
def S91 : FSpec := ⟨[.val (.int .i64)], [.bool], m91⟩

/-! impl.isValue -/
def p76 (n : Nat) (x : Int) : Option Bool :=
(cond (x == (1 : Int))
 (some true)
 (some (x == (2 : Int))))
def m76 (x : Int) : Option Bool := p76 FU x
def a76 : Ann := .leaf
def S76 : FSpec := ⟨[.val (.int .i64)], [.bool], m76⟩

/-! impl.isVote -/
def p75 (n : Nat) (x : (Int × Int)) : Option Bool :=
((m91 x.1).bind fun r1 =>
(cond r1
 ((m76 x.2).bind fun r2 =>
 some r2)
 (some false)))
def m75 (x : (Int × Int)) : Option Bool := p75 FU x
def a75 : Ann := .leaf
def S75 : FSpec := ⟨[.val (.pair (.int .i64) (.int .i64))], [.bool], m75⟩

/-! impl.castFault -/
def p88 (n : Nat) (x : (List (Int × Int))) : Option Int :=
(lp (fun rec8 (z7 : Int) =>
 (cond (decide (z7 < (lenI x)))
  ((geti x z7).bind fun y9 =>
  ((m75 y9).bind fun r10 =>
  (cond (!r10)
   (some (3 : Int))
   (cond (decide (z7 > (0 : Int)))
    ((geti x (IntKind.wrap .i64 (z7 - (1 : Int)))).bind fun y11 =>
    (cond (decide (y9.1 < y11.1))
     (some (1 : Int))
     ((geti x (IntKind.wrap .i64 (z7 - (1 : Int)))).bind fun y12 =>
     (cond (y9.1 == y12.1)
      ((geti x (IntKind.wrap .i64 (z7 - (1 : Int)))).bind fun y13 =>
      (cond (!(y9.2 == y13.2))
       (some (1 : Int))
       (rec8 (IntKind.wrap .i64 (z7 + (1 : Int))))))
      (rec8 (IntKind.wrap .i64 (z7 + (1 : Int))))))))
    (rec8 (IntKind.wrap .i64 (z7 + (1 : Int))))))))
  (some (0 : Int)))) n (0 : Int))
def m88 (x : (List (Int × Int))) : Option Int := p88 FU x
def a88 : Ann := (.node .leaf (.node (.node .leaf (.loop [.slot 7 (.int .i64)] [2, 3, 4, 8, 9, 10, 11, 12, 13, 14, 15, 16, 17, 18, 19, 20, 21, 22, 23, 24, 25, 26, 27, 28, 29, 30, 31, 32, 33, 34, 35, 36, 37, 38, 39, 40, 41, 42, 43, 44, 45, 46, 47, 48, 49, 50, 51, 52] .leaf)) .leaf))
def S88 : FSpec := ⟨[.val (.sl none (.pair (.int .i64) (.int .i64)))], [(.int .i64)], m88⟩

/-! impl.noVote -/
def p74 (n : Nat) (x : Unit) : Option (Int × Int) :=
some ((-1 : Int), (0 : Int))
def m74 (x : Unit) : Option (Int × Int) := p74 FU x
def a74 : Ann := .leaf
def S74 : FSpec := ⟨[], [(.pair (.int .i64) (.int .i64))], m74⟩

/-! impl.lastCast -/
def p89 (n : Nat) (x : (List (Int × Int))) : Option (Int × Int) :=
(cond ((lenI x) == (0 : Int))
 ((m74 ()).bind fun r1 =>
 some r1)
 ((geti x (IntKind.wrap .i64 ((lenI x) - (1 : Int)))).bind fun y2 =>
 some y2))
def m89 (x : (List (Int × Int))) : Option (Int × Int) := p89 FU x
def a89 : Ann := .leaf
def S89 : FSpec := ⟨[.val (.sl none (.pair (.int .i64) (.int .i64)))], [(.pair (.int .i64) (.int .i64))], m89⟩

/-! impl.SlotFault -/
def p33 (n : Nat) (x : (Int × (Int × (Int × ((Int × Int) × (List (Int × Int))))))) : Option Int :=
(Option.bind (α := Bool)
 ((m83 x.1).bind fun r4 =>
 (cond (!r4)
  (some true)
  ((m84 x.2.1).bind fun r5 =>
  (cond (!r5)
   (some true)
   ((m65 (x.2.2.1, (-1 : Int), (1000 : Int))).bind fun r6 =>
   some (!r6)))))) fun j7 =>
(cond j7
 (some (3 : Int))
 (cond (decide ((lenI x.2.2.2.2) > (60 : Int)))
  (some (2 : Int))
  ((m88 x.2.2.2.2).bind fun r8 =>
  (cond (!(r8 == (0 : Int)))
   (some r8)
   ((m89 x.2.2.2.2).bind fun r9 =>
   (cond (!((x.2.2.2.1.1 == r9.1) && ((x.2.2.2.1.2 == r9.2) && true)))
    (some (1 : Int))
    (cond (decide (x.2.2.2.1.1 > x.2.2.1))
     (some (1 : Int))
     (some (0 : Int))))))))))
def m33 (x : (Int × (Int × (Int × ((Int × Int) × (List (Int × Int))))))) : Option Int := p33 FU x
def a33 : Ann := (.node .leaf (.node (.join [.slot 4 .bool] [5, 6, 7, 8, 9, 10, 11, 12, 13, 14, 15, 16, 17, 18, 19, 20] .leaf .leaf) .leaf))
def S33 : FSpec := ⟨[.val (.pair (.int .i64) (.pair (.int .i64) (.pair (.int .i64) (.pair (.pair (.int .i64) (.int .i64)) (.sl none (.pair (.int .i64) (.int .i64)))))))], [(.int .i64)], m33⟩

/-! laws.eqVote -/
def p81 (n : Nat) (x : ((Int × Int) × (Int × Int))) : Option Bool :=
(cond (!(x.1.1 == x.2.1))
 (some false)
 (cond (!(x.1.2 == x.2.2))
  (some false)
  (some true)))
def m81 (x : ((Int × Int) × (Int × Int))) : Option Bool := p81 FU x
def a81 : Ann := .leaf
def S81 : FSpec := ⟨[.val (.pair (.int .i64) (.int .i64)), .val (.pair (.int .i64) (.int .i64))], [.bool], m81⟩

/-! laws.eqVoteS -/
def p24 (n : Nat) (x : ((List (Int × Int)) × (List (Int × Int)))) : Option Bool :=
(cond (!((lenI x.1) == (lenI x.2)))
 (some false)
 (lp (fun rec6 (z5 : Int) =>
  (cond (decide (z5 < (lenI x.1)))
   ((geti x.1 z5).bind fun y7 =>
   ((geti x.2 z5).bind fun y8 =>
   ((m81 (y7, y8)).bind fun r9 =>
   (cond (!r9)
    (some false)
    (rec6 (IntKind.wrap .i64 (z5 + (1 : Int))))))))
   (some true))) n (0 : Int)))
def m24 (x : ((List (Int × Int)) × (List (Int × Int)))) : Option Bool := p24 FU x
def a24 : Ann := (.node .leaf (.node .leaf (.node (.node .leaf (.loop [.slot 5 (.int .i64)] [4, 11, 12, 13, 14, 15, 16, 17, 18, 19, 20, 21, 22, 23, 24, 25, 26] .leaf)) .leaf)))
def S24 : FSpec := ⟨[.val (.sl none (.pair (.int .i64) (.int .i64))), .val (.sl none (.pair (.int .i64) (.int .i64)))], [.bool], m24⟩

/-! laws.eqSlot -/
def p34 (n : Nat) (x : ((Int × (Int × (Int × ((Int × Int) × (List (Int × Int)))))) × (Int × (Int × (Int × ((Int × Int) × (List (Int × Int)))))))) : Option Bool :=
(cond (!(x.1.1 == x.2.1))
 (some false)
 (cond (!(x.1.2.1 == x.2.2.1))
  (some false)
  (cond (!(x.1.2.2.1 == x.2.2.2.1))
   (some false)
   ((m81 (x.1.2.2.2.1, x.2.2.2.2.1)).bind fun r1 =>
   (cond (!r1)
    (some false)
    ((m24 (x.1.2.2.2.2, x.2.2.2.2.2)).bind fun r2 =>
    (cond (!r2)
     (some false)
     (some true))))))))
def m34 (x : ((Int × (Int × (Int × ((Int × Int) × (List (Int × Int)))))) × (Int × (Int × (Int × ((Int × Int) × (List (Int × Int)))))))) : Option Bool := p34 FU x
def a34 : Ann := .leaf
def S34 : FSpec := ⟨[.val (.pair (.int .i64) (.pair (.int .i64) (.pair (.int .i64) (.pair (.pair (.int .i64) (.int .i64)) (.sl none (.pair (.int .i64) (.int .i64))))))), .val (.pair (.int .i64) (.pair (.int .i64) (.pair (.int .i64) (.pair (.pair (.int .i64) (.int .i64)) (.sl none (.pair (.int .i64) (.int .i64)))))))], [.bool], m34⟩

/-! laws.FnExactSlotFault -/
def p7 (n : Nat) (x : (Int × (Int × (Int × ((Int × Int) × (List (Int × Int))))))) : Option Bool :=
((m30 (x, (1048576 : Int))).bind fun r1 =>
(cond (decide (r1 < (0 : Int)))
 (some true)
 ((m32 x).bind fun r2 =>
 ((m31 r2).bind fun r3 =>
 ((m32 x).bind fun r4 =>
 ((m33 r4).bind fun r5 =>
 (cond (!(r5 == r3))
  (some false)
  ((m32 x).bind fun r6 =>
  ((m34 (r4, r6)).bind fun r7 =>
  (cond (!r7)
   (some false)
   (some true)))))))))))
def m7 (x : (Int × (Int × (Int × ((Int × Int) × (List (Int × Int))))))) : Option Bool := p7 FU x
def a7 : Ann := .leaf
def S7 : FSpec := ⟨[.val (.pair (.int .i64) (.pair (.int .i64) (.pair (.int .i64) (.pair (.pair (.int .i64) (.int .i64)) (.sl none (.pair (.int .i64) (.int .i64)))))))], [.bool], m7⟩

def T : Tab := [
  (2, ⟨false, 1, 8, [], 0, [.int .i64 0], some (.int .i64), [0]⟩),
  (3, ⟨false, 1, 8, [], 0, [.int .i64 0], some (.int .i64), [0]⟩),
  (29, ⟨false, 1, 24, [], 34, [.nil], some (.sl none (.pair (.int .i64) (.int .i64))), []⟩),
  (34, ⟨true, 2, 16, [(0, 1, 2), (1, 1, 2)], 0, [.int .i64 0, .int .i64 0], some (.pair (.int .i64) (.int .i64)), [0, 0]⟩),
  (35, ⟨false, 1, 24, [], 48, [.nil], some (.sl none (.pair (.int .i64) (.int .i64))), []⟩),
  (41, ⟨true, 6, 64, [(0, 1, 2), (1, 1, 2), (2, 1, 2), (3, 2, 34), (5, 1, 29)], 0, [.int .i64 0, .int .i64 0, .int .i64 0, .int .i64 0, .int .i64 0, .nil], some (.pair (.int .i64) (.pair (.int .i64) (.pair (.int .i64) (.pair (.pair (.int .i64) (.int .i64)) (.sl none (.pair (.int .i64) (.int .i64))))))), []⟩),
  (48, ⟨true, 2, 16, [(0, 1, 2), (1, 1, 2)], 0, [.int .i64 0, .int .i64 0], some (.pair (.int .i64) (.int .i64)), [0, 0]⟩),
  (50, ⟨true, 6, 64, [(0, 1, 2), (1, 1, 2), (2, 1, 2), (3, 2, 48), (5, 1, 35)], 0, [.int .i64 0, .int .i64 0, .int .i64 0, .int .i64 0, .int .i64 0, .nil], some (.pair (.int .i64) (.pair (.int .i64) (.pair (.int .i64) (.pair (.pair (.int .i64) (.int .i64)) (.sl none (.pair (.int .i64) (.int .i64))))))), []⟩)]
def G22 : Env := (22, S22) :: []
def G30 : Env := (30, S30) :: G22
def G80 : Env := (80, S80) :: G30
def G23 : Env := (23, S23) :: G80
def G32 : Env := (32, S32) :: G23
def G63 : Env := (63, S63) :: G32
def G82 : Env := (82, S82) :: G63
def G77 : Env := (77, S77) :: G82
def G78 : Env := (78, S78) :: G77
def G69 : Env := (69, S69) :: G78
def G87 : Env := (87, S87) :: G69
def G31 : Env := (31, S31) :: G87
def G65 : Env := (65, S65) :: G31
def G83 : Env := (83, S83) :: G65
def G84 : Env := (84, S84) :: G83
def G91 : Env := (91, S91) :: G84
def G76 : Env := (76, S76) :: G91
def G75 : Env := (75, S75) :: G76
def G88 : Env := (88, S88) :: G75
def G74 : Env := (74, S74) :: G88
def G89 : Env := (89, S89) :: G74
def G33 : Env := (33, S33) :: G89
def G81 : Env := (81, S81) :: G33
def G24 : Env := (24, S24) :: G81
def G34 : Env := (34, S34) :: G24
def G7 : Env := (7, S7) :: G34
end Go.RvP
