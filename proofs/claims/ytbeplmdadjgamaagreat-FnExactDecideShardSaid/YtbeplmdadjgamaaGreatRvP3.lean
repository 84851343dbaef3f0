/- The plain functions that the evaluator comes to, for FnExactDecideShard. No condition. -/
import Derived.Test.YtbeplmdadjgamaaGreatRvL
import Derived.Test.YtbeplmdadjgamaaGreatRvY
import Derived.Test.YtbeplmdadjgamaaGreatRvT
namespace Go.RvP
open Go Go.Rv
noncomputable section
abbrev Kd21 : Kd := (.sl none (.int .i64))
abbrev Kd20 : Kd := (.sl (some 2) (.int .i64))
abbrev Kd19 : Kd := (.pair (.int .i64) (.int .i64))
abbrev Kd18 : Kd := (.sl none Kd19)
abbrev Kd17 : Kd := (.sl (some 194) Kd19)
abbrev Kd16 : Kd := (.pair (.int .i64) Kd19)
abbrev Kd15 : Kd := (.sl none Kd16)
abbrev Kd14 : Kd := (.sl (some 190) Kd16)
abbrev Kd13 : Kd := (.pair (.int .i64) Kd16)
abbrev Kd12 : Kd := (.sl none Kd13)
abbrev Kd11 : Kd := (.sl (some 208) Kd13)
abbrev Kd10 : Kd := (.pair (.int .i64) Kd12)
abbrev Kd9 : Kd := (.pair (.int .i64) Kd11)
abbrev Kd8 : Kd := (.sl none Kd10)
abbrev Kd7 : Kd := (.sl (some 185) Kd9)
abbrev Kd6 : Kd := (.pair (.int .i64) (.pair Kd15 (.pair Kd18 (.pair Kd8 (.pair Kd18 Kd21)))))
abbrev Kd5 : Kd := (.pair (.int .i64) (.pair Kd14 (.pair Kd17 (.pair (.sl (some 185) Kd10) (.pair Kd17 Kd20)))))
abbrev Kd4 : Kd := (.pair (.int .i64) (.pair Kd14 (.pair Kd17 (.pair Kd7 (.pair Kd17 Kd20)))))
abbrev Kd3 : Kd := (.pair (.int .i64) (.pair (.int .i64) Kd6))
abbrev Kd2 : Kd := (.pair (.int .i64) (.pair (.int .i64) Kd5))
abbrev Kd1 : Kd := (.pair (.int .i64) (.pair (.int .i64) Kd4))
/-! laws.szBalanceS -/
def p_w0q (n : Nat) (x : ((List (Int × (Int × Int))) × Int)) : Option Int :=
(cond (decide ((IntKind.wrap .i64 (x.2 - (lenI x.1))) < (0 : Int)))
 (some (-1 : Int))
 (some (IntKind.wrap .i64 (x.2 - (lenI x.1)))))
def m_w0q (x : ((List (Int × (Int × Int))) × Int)) : Option Int := p_w0q FU x
def a_w0q : Ann := .leaf
def S_w0q : FSpec := ⟨[.val Kd15, .val (.int .i64)], [(.int .i64)], m_w0q⟩

/-! laws.szMarkS -/
def p_w1q (n : Nat) (x : ((List (Int × Int)) × Int)) : Option Int :=
(cond (decide ((IntKind.wrap .i64 (x.2 - (lenI x.1))) < (0 : Int)))
 (some (-1 : Int))
 (some (IntKind.wrap .i64 (x.2 - (lenI x.1)))))
def m_w1q (x : ((List (Int × Int)) × Int)) : Option Int := p_w1q FU x
def a_w1q : Ann := .leaf
def S_w1q : FSpec := ⟨[.val Kd18, .val (.int .i64)], [(.int .i64)], m_w1q⟩

/-! laws.szLegS -/
def p_w2q (n : Nat) (x : ((List (Int × (Int × (Int × Int)))) × Int)) : Option Int :=
(cond (decide ((IntKind.wrap .i64 (x.2 - (lenI x.1))) < (0 : Int)))
 (some (-1 : Int))
 (some (IntKind.wrap .i64 (x.2 - (lenI x.1)))))
def m_w2q (x : ((List (Int × (Int × (Int × Int)))) × Int)) : Option Int := p_w2q FU x
def a_w2q : Ann := .leaf
def S_w2q : FSpec := ⟨[.val Kd12, .val (.int .i64)], [(.int .i64)], m_w2q⟩

/-! laws.szContract -/
def p_w3q (n : Nat) (x : ((Int × (List (Int × (Int × (Int × Int))))) × Int)) : Option Int :=
((m_w2q (x.1.2, x.2)).bind fun r1 =>
(cond (decide (r1 < (0 : Int)))
 (some (-1 : Int))
 (some r1)))
def m_w3q (x : ((Int × (List (Int × (Int × (Int × Int))))) × Int)) : Option Int := p_w3q FU x
def a_w3q : Ann := .leaf
def S_w3q : FSpec := ⟨[.val Kd10, .val (.int .i64)], [(.int .i64)], m_w3q⟩

/-! laws.szContractS -/
def l_w4q_1 (n : Nat) (x_1 : (List (Int × (List (Int × (Int × (Int × Int))))))) (z0 : (Int × Int)) : Option Int :=
(lp (fun rec5 (z4 : (Int × Int)) =>
 (cond (decide (z4.2 < (lenI x_1)))
  ((geti x_1 z4.2).bind fun y6 =>
  ((m_w3q (y6, z4.1)).bind fun r7 =>
  (cond (decide (r7 < (0 : Int)))
   (some (-1 : Int))
   (rec5 (r7, IntKind.wrap .i64 (z4.2 + (1 : Int)))))))
  (some z4.1))) n z0)
def p_w4q (n : Nat) (x : ((List (Int × (List (Int × (Int × (Int × Int)))))) × Int)) : Option Int :=
(cond (decide ((IntKind.wrap .i64 (x.2 - (lenI x.1))) < (0 : Int)))
 (some (-1 : Int))
 (l_w4q_1 n x.1 (IntKind.wrap .i64 (x.2 - (lenI x.1)), (0 : Int))))
def m_w4q (x : ((List (Int × (List (Int × (Int × (Int × Int)))))) × Int)) : Option Int := p_w4q FU x
def a_w4q : Ann := (.node .leaf (.node .leaf (.node .leaf (.node (.node .leaf (.loop [.slot 1 (.int .i64), .slot 5 (.int .i64)] [4, 12, 13, 14, 15, 16, 17, 18, 19, 20, 21, 22, 23, 24, 25] .leaf)) .leaf))))
def S_w4q : FSpec := ⟨[.val Kd8, .val (.int .i64)], [(.int .i64)], m_w4q⟩

/-! laws.szInt64S -/
def p_w5q (n : Nat) (x : ((List Int) × Int)) : Option Int :=
(cond (decide ((IntKind.wrap .i64 (x.2 - (lenI x.1))) < (0 : Int)))
 (some (-1 : Int))
 (some (IntKind.wrap .i64 (x.2 - (lenI x.1)))))
def m_w5q (x : ((List Int) × Int)) : Option Int := p_w5q FU x
def a_w5q : Ann := .leaf
def S_w5q : FSpec := ⟨[.val Kd21, .val (.int .i64)], [(.int .i64)], m_w5q⟩

/-! laws.szShard -/
def p_w6q (n : Nat) (x : ((Int × ((List (Int × (Int × Int))) × ((List (Int × Int)) × ((List (Int × (List (Int × (Int × (Int × Int)))))) × ((List (Int × Int)) × (List Int)))))) × Int)) : Option Int :=
((m_w0q (x.1.2.1, x.2)).bind fun r1 =>
(cond (decide (r1 < (0 : Int)))
 (some (-1 : Int))
 ((m_w1q (x.1.2.2.1, r1)).bind fun r2 =>
 (cond (decide (r2 < (0 : Int)))
  (some (-1 : Int))
  ((m_w4q (x.1.2.2.2.1, r2)).bind fun r3 =>
  (cond (decide (r3 < (0 : Int)))
   (some (-1 : Int))
   ((m_w1q (x.1.2.2.2.2.1, r3)).bind fun r4 =>
   (cond (decide (r4 < (0 : Int)))
    (some (-1 : Int))
    ((m_w5q (x.1.2.2.2.2.2, r4)).bind fun r5 =>
    (cond (decide (r5 < (0 : Int)))
     (some (-1 : Int))
     (some r5)))))))))))
def m_w6q (x : ((Int × ((List (Int × (Int × Int))) × ((List (Int × Int)) × ((List (Int × (List (Int × (Int × (Int × Int)))))) × ((List (Int × Int)) × (List Int)))))) × Int)) : Option Int := p_w6q FU x
def a_w6q : Ann := .leaf
def S_w6q : FSpec := ⟨[.val Kd6, .val (.int .i64)], [(.int .i64)], m_w6q⟩

/-! laws.toBalance -/
def p_w7q (n : Nat) (x : (Int × (Int × Int))) : Option (Int × (Int × Int)) :=
some x
def m_w7q (x : (Int × (Int × Int))) : Option (Int × (Int × Int)) := p_w7q FU x
def a_w7q : Ann := .leaf
def S_w7q : FSpec := ⟨[.val Kd16], [Kd16], m_w7q⟩

/-! laws.toBalanceS -/
def l_w8q_1 (n : Nat) (x : (List (Int × (Int × Int)))) (z0 : (Int × (List (Int × (Int × Int))))) : Option (List (Int × (Int × Int))) :=
(lp (fun rec10 (z9 : (Int × (List (Int × (Int × Int))))) =>
 (cond (decide (z9.1 < (lenI x)))
  ((geti x z9.1).bind fun y11 =>
  ((m_w7q y11).bind fun r12 =>
  ((geti z9.2 z9.1).bind fun _ =>
  ((z9.2[z9.1.toNat]?).bind fun y13 =>
  rec10 (IntKind.wrap .i64 (z9.1 + (1 : Int)), (z9.2.set z9.1.toNat r12))))))
  (some z9.2))) n z0)
def p_w8q (n : Nat) (x : (List (Int × (Int × Int)))) : Option (List (Int × (Int × Int))) :=
(if (lenI x) = (lenI x) then (if 0 ≤ (lenI x) then chk (Nat.ble (24 * (lenI x).toNat) maxBytes)
(l_w8q_1 n x ((0 : Int), (List.replicate (lenI x).toNat ((0 : Int), ((0 : Int), (0 : Int)))))) else none) else none)
def m_w8q (x : (List (Int × (Int × Int)))) : Option (List (Int × (Int × Int))) := p_w8q FU x
def a_w8q : Ann := (.node .leaf (.node .leaf (.node (.node .leaf (.loop [.slot 4 (.int .i64), .row 0 190 Kd16] [8, 9, 10, 11, 12, 13, 14, 15, 16, 17, 18, 19, 20, 21] .leaf)) .leaf)))
def S_w8q : FSpec := ⟨[.val Kd15], [Kd14], m_w8q⟩

/-! laws.toMark -/
def p_w9q (n : Nat) (x : (Int × Int)) : Option (Int × Int) :=
some x
def m_w9q (x : (Int × Int)) : Option (Int × Int) := p_w9q FU x
def a_w9q : Ann := .leaf
def S_w9q : FSpec := ⟨[.val Kd19], [Kd19], m_w9q⟩

/-! laws.toMarkS -/
def l_w10q_1 (n : Nat) (x : (List (Int × Int))) (z0 : (Int × (List (Int × Int)))) : Option (List (Int × Int)) :=
(lp (fun rec10 (z9 : (Int × (List (Int × Int)))) =>
 (cond (decide (z9.1 < (lenI x)))
  ((geti x z9.1).bind fun y11 =>
  ((m_w9q y11).bind fun r12 =>
  ((geti z9.2 z9.1).bind fun _ =>
  ((z9.2[z9.1.toNat]?).bind fun y13 =>
  rec10 (IntKind.wrap .i64 (z9.1 + (1 : Int)), (z9.2.set z9.1.toNat r12))))))
  (some z9.2))) n z0)
def p_w10q (n : Nat) (x : (List (Int × Int))) : Option (List (Int × Int)) :=
(if (lenI x) = (lenI x) then (if 0 ≤ (lenI x) then chk (Nat.ble (16 * (lenI x).toNat) maxBytes)
(l_w10q_1 n x ((0 : Int), (List.replicate (lenI x).toNat ((0 : Int), (0 : Int))))) else none) else none)
def m_w10q (x : (List (Int × Int))) : Option (List (Int × Int)) := p_w10q FU x
def a_w10q : Ann := (.node .leaf (.node .leaf (.node (.node .leaf (.loop [.slot 4 (.int .i64), .row 0 194 Kd19] [8, 9, 10, 11, 12, 13, 14, 15, 16, 17, 18, 19, 20, 21] .leaf)) .leaf)))
def S_w10q : FSpec := ⟨[.val Kd18], [Kd17], m_w10q⟩

/-! laws.toLeg -/
def p_w11q (n : Nat) (x : (Int × (Int × (Int × Int)))) : Option (Int × (Int × (Int × Int))) :=
some x
def m_w11q (x : (Int × (Int × (Int × Int)))) : Option (Int × (Int × (Int × Int))) := p_w11q FU x
def a_w11q : Ann := .leaf
def S_w11q : FSpec := ⟨[.val Kd13], [Kd13], m_w11q⟩

/-! laws.toLegS -/
def l_w12q_1 (n : Nat) (x : (List (Int × (Int × (Int × Int))))) (z0 : (Int × (List (Int × (Int × (Int × Int)))))) : Option (List (Int × (Int × (Int × Int)))) :=
(lp (fun rec10 (z9 : (Int × (List (Int × (Int × (Int × Int)))))) =>
 (cond (decide (z9.1 < (lenI x)))
  ((geti x z9.1).bind fun y11 =>
  ((m_w11q y11).bind fun r12 =>
  ((geti z9.2 z9.1).bind fun _ =>
  ((z9.2[z9.1.toNat]?).bind fun y13 =>
  rec10 (IntKind.wrap .i64 (z9.1 + (1 : Int)), (z9.2.set z9.1.toNat r12))))))
  (some z9.2))) n z0)
def p_w12q (n : Nat) (x : (List (Int × (Int × (Int × Int))))) : Option (List (Int × (Int × (Int × Int)))) :=
(if (lenI x) = (lenI x) then (if 0 ≤ (lenI x) then chk (Nat.ble (32 * (lenI x).toNat) maxBytes)
(l_w12q_1 n x ((0 : Int), (List.replicate (lenI x).toNat ((0 : Int), ((0 : Int), ((0 : Int), (0 : Int))))))) else none) else none)
def m_w12q (x : (List (Int × (Int × (Int × Int))))) : Option (List (Int × (Int × (Int × Int)))) := p_w12q FU x
def a_w12q : Ann := (.node .leaf (.node .leaf (.node (.node .leaf (.loop [.slot 4 (.int .i64), .row 0 208 Kd13] [8, 9, 10, 11, 12, 13, 14, 15, 16, 17, 18, 19, 20, 21] .leaf)) .leaf)))
def S_w12q : FSpec := ⟨[.val Kd12], [Kd11], m_w12q⟩

/-! laws.toContract -/
def p_w13q (n : Nat) (x : (Int × (List (Int × (Int × (Int × Int)))))) : Option (Int × (List (Int × (Int × (Int × Int))))) :=
((m_w12q x.2).bind fun r1 =>
some (x.1, r1))
def m_w13q (x : (Int × (List (Int × (Int × (Int × Int)))))) : Option (Int × (List (Int × (Int × (Int × Int))))) := p_w13q FU x
def a_w13q : Ann := .leaf
def S_w13q : FSpec := ⟨[.val Kd10], [Kd9], m_w13q⟩

/-! laws.toContractS -/
def l_w14q_1 (n : Nat) (x : (List (Int × (List (Int × (Int × (Int × Int))))))) (z0 : (Int × (List (Int × (List (Int × (Int × (Int × Int)))))))) : Option (List (Int × (List (Int × (Int × (Int × Int)))))) :=
(lp (fun rec8 (z7 : (Int × (List (Int × (List (Int × (Int × (Int × Int)))))))) =>
 (cond (decide (z7.1 < (lenI x)))
  ((geti x z7.1).bind fun y9 =>
  ((m_w13q y9).bind fun r10 =>
  ((geti z7.2 z7.1).bind fun _ =>
  ((z7.2[z7.1.toNat]?).bind fun _ =>
  rec8 (IntKind.wrap .i64 (z7.1 + (1 : Int)), (z7.2.set z7.1.toNat r10))))))
  (some z7.2))) n z0)
def p_w14q (n : Nat) (x : (List (Int × (List (Int × (Int × (Int × Int))))))) : Option (List (Int × (List (Int × (Int × (Int × Int)))))) :=
(if (lenI x) = (lenI x) then (if 0 ≤ (lenI x) then chk (Nat.ble (32 * (lenI x).toNat) maxBytes)
(l_w14q_1 n x ((0 : Int), (List.replicate (lenI x).toNat ((0 : Int), [])))) else none) else none)
def m_w14q (x : (List (Int × (List (Int × (Int × (Int × Int))))))) : Option (List (Int × (List (Int × (Int × (Int × Int)))))) := p_w14q FU x
def a_w14q : Ann := (.node .leaf (.node (.own 7 Kd9 .leaf) (.node (.node .leaf (.loop [.slot 4 (.int .i64), .row 0 185 Kd9] [8, 9, 10, 11, 12, 13, 14, 15, 16, 17, 18, 19, 20, 21] .leaf)) .leaf)))
def S_w14q : FSpec := ⟨[.val Kd8], [Kd7], m_w14q⟩

/-! laws.toInt64S -/
def l_w15q_1 (n : Nat) (x : (List Int)) (z0 : (Int × (List Int))) : Option (List Int) :=
(lp (fun rec8 (z7 : (Int × (List Int))) =>
 (cond (decide (z7.1 < (lenI x)))
  ((geti x z7.1).bind fun y9 =>
  ((geti z7.2 z7.1).bind fun _ =>
  ((z7.2[z7.1.toNat]?).bind fun y10 =>
  rec8 (IntKind.wrap .i64 (z7.1 + (1 : Int)), (z7.2.set z7.1.toNat y9)))))
  (some z7.2))) n z0)
def p_w15q (n : Nat) (x : (List Int)) : Option (List Int) :=
(if (lenI x) = (lenI x) then (if 0 ≤ (lenI x) then chk (Nat.ble (8 * (lenI x).toNat) maxBytes)
(l_w15q_1 n x ((0 : Int), (List.replicate (lenI x).toNat (0 : Int)))) else none) else none)
def m_w15q (x : (List Int)) : Option (List Int) := p_w15q FU x
def a_w15q : Ann := (.node .leaf (.node .leaf (.node (.node .leaf (.loop [.slot 4 (.int .i64), .row 0 2 (.int .i64)] [8, 9, 10, 11, 12, 13, 14, 15, 16, 17, 18, 19, 20] .leaf)) .leaf)))
def S_w15q : FSpec := ⟨[.val Kd21], [Kd20], m_w15q⟩

/-! laws.toShard -/
def p_w16q (n : Nat) (x : (Int × ((List (Int × (Int × Int))) × ((List (Int × Int)) × ((List (Int × (List (Int × (Int × (Int × Int)))))) × ((List (Int × Int)) × (List Int))))))) : Option (Int × ((List (Int × (Int × Int))) × ((List (Int × Int)) × ((List (Int × (List (Int × (Int × (Int × Int)))))) × ((List (Int × Int)) × (List Int)))))) :=
((m_w8q x.2.1).bind fun r1 =>
((m_w10q x.2.2.1).bind fun r2 =>
((m_w14q x.2.2.2.1).bind fun r3 =>
((m_w10q x.2.2.2.2.1).bind fun r4 =>
((m_w15q x.2.2.2.2.2).bind fun r5 =>
some (x.1, (r1, (r2, (r3, (r4, r5))))))))))
def m_w16q (x : (Int × ((List (Int × (Int × Int))) × ((List (Int × Int)) × ((List (Int × (List (Int × (Int × (Int × Int)))))) × ((List (Int × Int)) × (List Int))))))) : Option (Int × ((List (Int × (Int × Int))) × ((List (Int × Int)) × ((List (Int × (List (Int × (Int × (Int × Int)))))) × ((List (Int × Int)) × (List Int)))))) := p_w16q FU x
def a_w16q : Ann := .leaf
def S_w16q : FSpec := ⟨[.val Kd6], [Kd4], m_w16q⟩

/-! spec.l1In -/
def p_w17q (n : Nat) (x : (Int × (Int × Int))) : Option Bool :=
(cond (decide (x.1 ≥ x.2.1))
 (some (decide (x.1 ≤ x.2.2)))
 (some false))
def m_w17q (x : (Int × (Int × Int))) : Option Bool := p_w17q FU x
def a_w17q : Ann := .leaf
def S_w17q : FSpec := ⟨[.val (.int .i64), .val (.int .i64), .val (.int .i64)], [.bool], m_w17q⟩

/-! spec.l2Key -/
def p_w18q (n : Nat) (x : (Int × Int)) : Option Bool :=
((m_w17q (x.1, (0 : Int), (5 : Int))).bind fun r1 =>
(cond r1
 ((m_w17q (x.2, (0 : Int), (2 : Int))).bind fun r2 =>
 some r2)
 (some false)))
def m_w18q (x : (Int × Int)) : Option Bool := p_w18q FU x
def a_w18q : Ann := .leaf
def S_w18q : FSpec := ⟨[.val (.int .i64), .val (.int .i64)], [.bool], m_w18q⟩

/-! spec.BalancesFault -/
def l_w19q_1 (n : Nat) (x : (List (Int × (Int × Int)))) (z0 : Int) : Option Int :=
(lp (fun rec14 (z13 : Int) =>
 (cond (decide (z13 < (lenI x)))
  ((geti x z13).bind fun y15 =>
  (Option.bind (α := Bool)
   ((m_w18q (y15.1, y15.2.1)).bind fun r18 =>
   (cond (!r18)
    (some true)
    ((m_w17q (y15.2.2, (1 : Int), (1000000000000 : Int))).bind fun r19 =>
    some (!r19)))) fun j20 =>
  (cond j20
   (some (3 : Int))
   (Option.bind (α := Bool)
    (cond (decide (z13 > (0 : Int)))
     ((geti x (IntKind.wrap .i64 (z13 - (1 : Int)))).bind fun y23 =>
     ((geti x (IntKind.wrap .i64 (z13 - (1 : Int)))).bind fun y24 =>
     some (decide ((IntKind.wrap .i64 ((IntKind.wrap .i64 (y15.1 * (3 : Int))) + y15.2.1)) ≤ (IntKind.wrap .i64 ((IntKind.wrap .i64 (y23.1 * (3 : Int))) + y24.2.1))))))
     (some false)) fun j25 =>
   (cond j25
    (some (1 : Int))
    (rec14 (IntKind.wrap .i64 (z13 + (1 : Int)))))))))
  (some (0 : Int)))) n z0)
def p_w19q (n : Nat) (x : (List (Int × (Int × Int)))) : Option Int :=
(cond (decide ((lenI x) > (18 : Int)))
 (some (2 : Int))
 (l_w19q_1 n x (0 : Int)))
def m_w19q (x : (List (Int × (Int × Int)))) : Option Int := p_w19q FU x
def a_w19q : Ann := (.node .leaf (.node .leaf (.node (.node .leaf (.loop [.slot 3 (.int .i64)] [2, 4, 8, 9, 10, 11, 12, 13, 14, 15, 16, 17, 18, 19, 20, 21, 22, 23, 24, 25, 26, 27, 28, 29, 30, 31, 32, 33, 34, 35, 36, 37, 38, 39, 40, 41, 42, 43, 44, 45, 46, 47, 48, 49, 50, 51, 52, 53, 54] (.node .leaf (.node (.node .leaf (.node (.join [.slot 29 .bool] [18, 19, 20, 21, 22, 23, 24, 25, 26, 27, 28] .leaf .leaf) (.join [.slot 54 .bool] [30, 31, 32, 33, 34, 35, 36, 37, 38, 39, 40, 41, 42, 43, 44, 45, 46, 47, 48, 49, 50, 51, 52, 53] .leaf .leaf))) .leaf)))) .leaf)))
def S_w19q : FSpec := ⟨[.val Kd15], [(.int .i64)], m_w19q⟩

/-! spec.l10Base -/
def p_w20q (n : Nat) (x : (Int × (List (Int × (Int × Int))))) : Option Int :=
((m_w17q (x.1, (0 : Int), (2 : Int))).bind fun r1 =>
(cond (!r1)
 (some (3 : Int))
 ((m_w19q x.2).bind fun r2 =>
 some r2)))
def m_w20q (x : (Int × (List (Int × (Int × Int))))) : Option Int := p_w20q FU x
def a_w20q : Ann := .leaf
def S_w20q : FSpec := ⟨[.val (.int .i64), .val Kd15], [(.int .i64)], m_w20q⟩

/-! spec.l1Id -/
def p_w21q (n : Nat) (x : Int) : Option Bool :=
((m_w17q (x, (1 : Int), (1000000000 : Int))).bind fun r1 =>
some r1)
def m_w21q (x : Int) : Option Bool := p_w21q FU x
def a_w21q : Ann := .leaf
def S_w21q : FSpec := ⟨[.val (.int .i64)], [.bool], m_w21q⟩

/-! spec.l10Marks -/
def l_w22q_1 (n : Nat) (x : (List (Int × Int))) (z0 : Int) : Option Int :=
(lp (fun rec17 (z16 : Int) =>
 (cond (decide (z16 < (lenI x)))
  (Option.bind (α := Bool)
   ((geti x z16).bind fun y22 =>
   ((m_w21q y22.1).bind fun r23 =>
   (cond (!r23)
    (some true)
    ((geti x z16).bind fun y24 =>
    ((m_w17q (y24.2, (1 : Int), (2 : Int))).bind fun r25 =>
    some (!r25)))))) fun j26 =>
  (cond j26
   (some (3 : Int))
   (Option.bind (α := Bool)
    (cond (decide (z16 > (0 : Int)))
     ((geti x z16).bind fun y29 =>
     ((geti x (IntKind.wrap .i64 (z16 - (1 : Int)))).bind fun y30 =>
     some (decide (y29.1 ≤ y30.1))))
     (some false)) fun j31 =>
   (cond j31
    (some (1 : Int))
    (rec17 (IntKind.wrap .i64 (z16 + (1 : Int))))))))
  (some (0 : Int)))) n z0)
def p_w22q (n : Nat) (x : (List (Int × Int))) : Option Int :=
(l_w22q_1 n x (0 : Int))
def m_w22q (x : (List (Int × Int))) : Option Int := p_w22q FU x
def a_w22q : Ann := (.node .leaf (.node (.node .leaf (.loop [.slot 3 (.int .i64)] [2, 4, 5, 6, 7, 8, 9, 10, 11, 12, 13, 14, 15, 16, 17, 18, 19, 20, 21, 22, 23, 24, 25, 26, 27, 28, 29, 30, 31, 32, 33, 34, 35, 36, 37, 38, 39, 40, 41] (.node .leaf (.node (.node (.join [.slot 25 .bool] [10, 11, 12, 13, 14, 15, 16, 17, 18, 19, 20, 21, 22, 23, 24] .leaf .leaf) (.join [.slot 41 .bool] [26, 27, 28, 29, 30, 31, 32, 33, 34, 35, 36, 37, 38, 39, 40] .leaf .leaf)) .leaf)))) .leaf))
def S_w22q : FSpec := ⟨[.val Kd18], [(.int .i64)], m_w22q⟩

/-! spec.LegFault -/
def p_w23q (n : Nat) (x : (Int × (Int × (Int × Int)))) : Option Int :=
(Option.bind (α := Bool)
 ((m_w17q (x.1, (0 : Int), (2 : Int))).bind fun r5 =>
 (cond (!r5)
  (some true)
  ((m_w17q (x.2.1, (0 : Int), (5 : Int))).bind fun r6 =>
  (cond (!r6)
   (some true)
   ((m_w17q (x.2.2.1, (0 : Int), (2 : Int))).bind fun r7 =>
   (cond (!r7)
    (some true)
    ((m_w17q (x.2.2.2, (-1000000000000 : Int), (1000000000000 : Int))).bind fun r8 =>
    some (!r8)))))))) fun j9 =>
(cond j9
 (some (3 : Int))
 (cond (x.2.2.2 == (0 : Int))
  (some (1 : Int))
  (some (0 : Int)))))
def m_w23q (x : (Int × (Int × (Int × Int)))) : Option Int := p_w23q FU x
def a_w23q : Ann := (.node .leaf (.node (.join [.slot 24 .bool] [3, 4, 5, 6, 7, 8, 9, 10, 11, 12, 13, 14, 15, 16, 17, 18, 19, 20, 21, 22, 23] .leaf .leaf) .leaf))
def S_w23q : FSpec := ⟨[.val Kd13], [(.int .i64)], m_w23q⟩

/-! spec.ContractFault -/
def l_w24q_1 (n : Nat) (z225_1 : Int) (x_2 : (List (Int × (Int × (Int × Int))))) (y248_1 : Int) (y248_2_1 : Int) (y248_2_2_1 : Int) (z0 : Int) : Option (Unit ⊕ ((List Int) ⊕ ((List Int) ⊕ Int))) :=
(lp (fun rec262 (z261 : Int) =>
 (cond (decide (z261 < z225_1))
  ((geti x_2 z261).bind fun y263 =>
  (Option.bind (α := Bool)
   (cond (y263.1 == y248_1)
    (cond (y263.2.1 == y248_2_1)
     (some (y263.2.2.1 == y248_2_2_1))
     (some false))
    (some false)) fun j264 =>
  (cond j264
   (some (Sum.inr (Sum.inr (Sum.inr (7 : Int)))))
   (rec262 (IntKind.wrap .i64 (z261 + (1 : Int)))))))
  (some (Sum.inl ())))) n z0)
def l_w24q_2 (n : Nat) (x_2 : (List (Int × (Int × (Int × Int))))) (z0 : (Int × (List Int))) : Option ((List Int) ⊕ Int) :=
(lp (fun rec226 (z225 : (Int × (List Int))) =>
 (cond (decide (z225.1 < (lenI x_2)))
  (Option.bind (α := ((List Int) ⊕ ((List Int) ⊕ Int)))
   ((geti x_2 z225.1).bind fun y248 =>
   ((m_w23q y248).bind fun r249 =>
   (cond (!(r249 == (0 : Int)))
    (some (Sum.inr (Sum.inr r249)))
    (Option.bind (α := (Unit ⊕ ((List Int) ⊕ ((List Int) ⊕ Int))))
     (l_w24q_1 n z225.1 x_2 y248.1 y248.2.1 y248.2.2.1 (0 : Int))
     (Sum.elim (fun j266 =>
    ((geti z225.2 y248.2.2.1).bind fun _ =>
    ((z225.2[y248.2.2.1.toNat]?).bind fun y267 =>
    ((geti z225.2 y248.2.2.1).bind fun _ =>
    ((z225.2[y248.2.2.1.toNat]?).bind fun y268 =>
    some (Sum.inl (z225.2.set y248.2.2.1.toNat (IntKind.wrap .i64 (y267 + y248.2.2.2))))))))) some)))))
   (Sum.elim (fun j269 =>
  rec226 (IntKind.wrap .i64 (z225.1 + (1 : Int)), j269)) some))
  (some (Sum.inl z225.2)))) n z0)
def l_w24q_3 (n : Nat) (j271 : (List Int)) (z0 : Int) : Option Int :=
(lp (fun rec275 (z274 : Int) =>
 (cond (decide (z274 < (lenI j271)))
  ((geti j271 z274).bind fun _ =>
  ((j271[z274.toNat]?).bind fun y276 =>
  (cond (!(y276 == (0 : Int)))
   (some (1 : Int))
   (rec275 (IntKind.wrap .i64 (z274 + (1 : Int)))))))
  (some (0 : Int)))) n z0)
def p_w24q (n : Nat) (x : (Int × (List (Int × (Int × (Int × Int)))))) : Option Int :=
((m_w21q x.1).bind fun r1 =>
(cond (!r1)
 (some (3 : Int))
 (Option.bind (α := Bool)
  (cond (decide ((lenI x.2) < (2 : Int)))
   (some true)
   (some (decide ((lenI x.2) > (8 : Int))))) fun j2 =>
 (cond j2
  (some (2 : Int))
  (if (3 : Int) = (3 : Int) then (if 0 ≤ (3 : Int) then chk (Nat.ble (8 * (3 : Int).toNat) maxBytes)
  (Option.bind (α := ((List Int) ⊕ Int))
   (l_w24q_2 n x.2 ((0 : Int), (List.replicate (3 : Int).toNat (0 : Int))))
   (Sum.elim (fun j271 =>
  (l_w24q_3 n j271 (0 : Int))) some)) else none) else none)))))
def m_w24q (x : (Int × (List (Int × (Int × (Int × Int)))))) : Option Int := p_w24q FU x
def a_w24q : Ann := (.node .leaf (.node .leaf (.node (.join [.slot 23 .bool] [14, 15, 16, 17, 18, 19, 20, 21, 22] .leaf .leaf) (.node .leaf (.joinx [.row 1 2 (.int .i64)] [2, 4, 5, 6, 7, 8, 25, 26, 27, 28, 29, 30, 31, 32, 33, 34, 35, 36, 37, 38, 39, 40, 41, 42, 43, 44, 45, 46, 47, 48, 49, 50, 51, 52, 53, 54, 55, 56, 57, 58, 59, 60, 61, 62, 63, 64, 65, 66, 67, 68, 69, 70, 71, 72, 73, 74, 75, 76, 77, 78, 79, 80, 81, 82] (.node .leaf (.loop [.slot 4 (.int .i64), .row 1 2 (.int .i64)] [2, 5, 6, 7, 8, 25, 26, 27, 28, 29, 30, 31, 32, 33, 34, 35, 36, 37, 38, 39, 40, 41, 42, 43, 44, 45, 46, 47, 48, 49, 50, 51, 52, 53, 54, 55, 56, 57, 58, 59, 60, 61, 62, 63, 64, 65, 66, 67, 68, 69, 70, 71, 72, 73, 74, 75, 76, 77, 78, 79, 80, 81, 82] (.node .leaf (.joinx [.row 1 2 (.int .i64)] [2, 5, 6, 7, 8, 32, 33, 34, 35, 36, 37, 38, 39, 40, 42, 43, 44, 45, 46, 47, 48, 49, 50, 51, 52, 53, 54, 55, 56, 57, 58, 59, 60, 61, 62, 63, 64, 65, 66, 67, 68, 69, 70, 71, 72, 73, 74, 75, 76, 77, 78, 79, 80, 81, 82] (.node .leaf (.node .leaf (.joinx [] [2, 7, 8, 42, 43, 44, 45, 46, 47, 48, 49, 50, 51, 52, 53, 54, 55, 56, 57, 58, 59, 60, 61, 62, 63, 64, 65, 66, 67, 68, 69, 70] (.node .leaf (.loop [.slot 7 (.int .i64)] [2, 8, 42, 43, 44, 45, 46, 47, 48, 49, 50, 51, 52, 53, 54, 55, 56, 57, 58, 59, 60, 61, 62, 63, 64, 65, 66, 67, 68, 69, 70] (.node .leaf (.node (.node .leaf (.join [.slot 70 .bool] [52, 53, 54, 55, 56, 57, 58, 59, 60, 61, 62, 63, 64, 65, 66, 67, 68, 69] .leaf .leaf)) .leaf)))) .leaf))) .leaf)))) (.node (.node .leaf (.loop [.slot 9 (.int .i64)] [2, 83, 84, 85, 86, 87, 88, 89, 90, 91, 92, 93] .leaf)) .leaf))))))
def S_w24q : FSpec := ⟨[.val Kd10], [(.int .i64)], m_w24q⟩

/-! spec.l1Legs -/
def l_w25q_1 (n : Nat) (x_2 : Int) (x_1_2 : (List (Int × (Int × (Int × Int))))) (z0 : ((List (Int × (Int × (Int × Int)))) × Int)) : Option (List (Int × (Int × (Int × Int)))) :=
(lp (fun rec5 (z4 : ((List (Int × (Int × (Int × Int)))) × Int)) =>
 (cond (decide (z4.2 < (lenI x_1_2)))
  ((geti x_1_2 z4.2).bind fun y6 =>
  (cond (y6.1 == x_2)
   ((geti x_1_2 z4.2).bind fun y7 =>
   (chk (Nat.ble ((z4.1.length + [y7].length) * 32) maxBytes)
   (rec5 ((z4.1 ++ [y7]), IntKind.wrap .i64 (z4.2 + (1 : Int))))))
   (rec5 (z4.1, IntKind.wrap .i64 (z4.2 + (1 : Int))))))
  (some z4.1))) n z0)
def p_w25q (n : Nat) (x : ((Int × (List (Int × (Int × (Int × Int))))) × Int)) : Option (List (Int × (Int × (Int × Int)))) :=
(l_w25q_1 n x.2 x.1.2 (([] : List (Int × (Int × (Int × Int)))), (0 : Int)))
def m_w25q (x : ((Int × (List (Int × (Int × (Int × Int))))) × Int)) : Option (List (Int × (Int × (Int × Int)))) := p_w25q FU x
def a_w25q : Ann := (.node .leaf (.node .leaf (.node (.node .leaf (.loop [.slot 5 Kd11, .slot 6 (.int .i64)] [8, 9, 10, 11, 12, 13, 14, 15, 16, 17, 18, 19, 20, 21, 22, 23, 24, 25, 26, 27, 28, 29, 30] .leaf)) .leaf)))
def S_w25q : FSpec := ⟨[.val Kd10, .val (.int .i64)], [Kd11], m_w25q⟩

/-! spec.l10Find -/
def l_w26q_1 (n : Nat) (x_1 : (List (Int × Int))) (x_2 : Int) (z0 : Int) : Option Int :=
(lp (fun rec5 (z4 : Int) =>
 (cond (decide (z4 < (lenI x_1)))
  ((geti x_1 z4).bind fun y6 =>
  (cond (y6.1 == x_2)
   ((geti x_1 z4).bind fun y7 =>
   some y7.2)
   (rec5 (IntKind.wrap .i64 (z4 + (1 : Int))))))
  (some (0 : Int)))) n z0)
def p_w26q (n : Nat) (x : ((List (Int × Int)) × Int)) : Option Int :=
(l_w26q_1 n x.1 x.2 (0 : Int))
def m_w26q (x : ((List (Int × Int)) × Int)) : Option Int := p_w26q FU x
def a_w26q : Ann := (.node .leaf (.node (.node .leaf (.loop [.slot 5 (.int .i64)] [4, 6, 7, 8, 9, 10, 11, 12, 13, 14, 15, 16, 17, 18, 19, 20, 21, 22, 23] .leaf)) .leaf))
def S_w26q : FSpec := ⟨[.val Kd18, .val (.int .i64)], [(.int .i64)], m_w26q⟩

/-! spec.l10IsHeld -/
def l_w27q_1 (n : Nat) (x_2 : Int) (x_1_2_2_2_1 : (List (Int × (List (Int × (Int × (Int × Int))))))) (z0 : Int) : Option Bool :=
(lp (fun rec4 (z3 : Int) =>
 (cond (decide (z3 < (lenI x_1_2_2_2_1)))
  ((geti x_1_2_2_2_1 z3).bind fun y5 =>
  (cond (y5.1 == x_2)
   (some true)
   (rec4 (IntKind.wrap .i64 (z3 + (1 : Int))))))
  (some false))) n z0)
def p_w27q (n : Nat) (x : ((Int × ((List (Int × (Int × Int))) × ((List (Int × Int)) × ((List (Int × (List (Int × (Int × (Int × Int)))))) × ((List (Int × Int)) × (List Int)))))) × Int)) : Option Bool :=
(l_w27q_1 n x.2 x.1.2.2.2.1 (0 : Int))
def m_w27q (x : ((Int × ((List (Int × (Int × Int))) × ((List (Int × Int)) × ((List (Int × (List (Int × (Int × (Int × Int)))))) × ((List (Int × Int)) × (List Int)))))) × Int)) : Option Bool := p_w27q FU x
def a_w27q : Ann := (.node .leaf (.node (.node .leaf (.loop [.slot 5 (.int .i64)] [4, 6, 7, 8, 9, 10, 11, 12, 13, 14, 15, 16, 17, 18, 19, 20] .leaf)) .leaf))
def S_w27q : FSpec := ⟨[.val Kd6, .val (.int .i64)], [.bool], m_w27q⟩

/-! spec.l1Has -/
def l_w28q_1 (n : Nat) (x_1 : (List Int)) (x_2 : Int) (z0 : Int) : Option Bool :=
(lp (fun rec4 (z3 : Int) =>
 (cond (decide (z3 < (lenI x_1)))
  ((geti x_1 z3).bind fun y5 =>
  (cond (y5 == x_2)
   (some true)
   (rec4 (IntKind.wrap .i64 (z3 + (1 : Int))))))
  (some false))) n z0)
def p_w28q (n : Nat) (x : ((List Int) × Int)) : Option Bool :=
(l_w28q_1 n x.1 x.2 (0 : Int))
def m_w28q (x : ((List Int) × Int)) : Option Bool := p_w28q FU x
def a_w28q : Ann := (.node .leaf (.node (.node .leaf (.loop [.slot 5 (.int .i64)] [4, 6, 7, 8, 9, 10, 11, 12, 13, 14, 15, 16, 17] .leaf)) .leaf))
def S_w28q : FSpec := ⟨[.val Kd21, .val (.int .i64)], [.bool], m_w28q⟩

/-! spec.l10Applied -/
def l_w29q_1 (n : Nat) (x_2_2_2_2_1 : (List (Int × Int))) (z0 : (Int × Int)) : Option Int :=
(lp (fun rec10 (z9 : (Int × Int)) =>
 (cond (decide (z9.2 < (lenI x_2_2_2_2_1)))
  ((geti x_2_2_2_2_1 z9.2).bind fun y11 =>
  (cond (y11.2 == (1 : Int))
   (rec10 (IntKind.wrap .i64 (z9.1 + (1 : Int)), IntKind.wrap .i64 (z9.2 + (1 : Int))))
   (rec10 (z9.1, IntKind.wrap .i64 (z9.2 + (1 : Int))))))
  (some z9.1))) n z0)
def l_w29q_2 (n : Nat) (x_2_2_2_2_1 : (List (Int × Int))) (x_2_2_2_2_2 : (List Int)) (z0 : Int) : Option (Unit ⊕ Bool) :=
(lp (fun rec47 (z46 : Int) =>
 (cond (decide (z46 < (lenI x_2_2_2_2_2)))
  (Option.bind (α := Bool)
   ((geti x_2_2_2_2_2 z46).bind fun y52 =>
   ((m_w26q (x_2_2_2_2_1, y52)).bind fun r53 =>
   (cond (!(r53 == (1 : Int)))
    (some true)
    (chk (bndB none (some z46) none x_2_2_2_2_2.length)
     ((geti x_2_2_2_2_2 z46).bind fun y54 =>
     ((m_w28q ((cutL none (some z46) x_2_2_2_2_2), y54)).bind fun r55 =>
     some r55)))))) fun j56 =>
  (cond j56
   (some (Sum.inr false))
   (rec47 (IntKind.wrap .i64 (z46 + (1 : Int))))))
  (some (Sum.inl ())))) n z0)
def p_w29q (n : Nat) (x : (Int × ((List (Int × (Int × Int))) × ((List (Int × Int)) × ((List (Int × (List (Int × (Int × (Int × Int)))))) × ((List (Int × Int)) × (List Int))))))) : Option Bool :=
(Option.bind (α := Int)
 (l_w29q_1 n x.2.2.2.2.1 ((0 : Int), (0 : Int))) fun j13 =>
(Option.bind (α := (Unit ⊕ Bool))
 (l_w29q_2 n x.2.2.2.2.1 x.2.2.2.2.2 (0 : Int))
 (Sum.elim (fun j58 =>
some (j13 == (lenI x.2.2.2.2.2))) some)))
def m_w29q (x : (Int × ((List (Int × (Int × Int))) × ((List (Int × Int)) × ((List (Int × (List (Int × (Int × (Int × Int)))))) × ((List (Int × Int)) × (List Int))))))) : Option Bool := p_w29q FU x
def a_w29q : Ann := (.node .leaf (.node .leaf (.join [.slot 3 (.int .i64)] [4, 6, 7, 8, 9, 10, 11, 12, 13, 14, 15, 16, 17, 18, 19, 20, 21] (.node .leaf (.loop [.slot 3 (.int .i64), .slot 4 (.int .i64)] [6, 7, 8, 9, 10, 11, 12, 13, 14, 15, 16, 17, 18, 19, 20, 21] .leaf)) (.joinx [] [2, 5, 22, 23, 24, 25, 26, 27, 28, 29, 30, 31, 32, 33, 34, 35, 36, 37, 38, 39, 40, 41, 42, 43, 44, 45, 46, 47, 48, 49] (.node .leaf (.loop [.slot 5 (.int .i64)] [2, 22, 23, 24, 25, 26, 27, 28, 29, 30, 31, 32, 33, 34, 35, 36, 37, 38, 39, 40, 41, 42, 43, 44, 45, 46, 47, 48, 49] (.node .leaf (.node (.join [.slot 49 .bool] [29, 30, 31, 32, 33, 34, 35, 36, 37, 38, 39, 40, 41, 42, 43, 44, 45, 46, 47, 48] .leaf .leaf) .leaf)))) .leaf))))
def S_w29q : FSpec := ⟨[.val Kd6], [.bool], m_w29q⟩

/-! spec.l10Touch -/
def l_w30q_1 (n : Nat) (x_1 : (List (Int × (Int × (Int × Int))))) (x_2 : (List (Int × (Int × (Int × Int))))) (z47 : Int) (z0 : Int) : Option (Unit ⊕ Bool) :=
(lp (fun rec82 (z81 : Int) =>
 (cond (decide (z81 < (lenI x_2)))
  (Option.bind (α := Bool)
   ((geti x_1 z47).bind fun y87 =>
   ((geti x_2 z81).bind fun y88 =>
   (cond (y87.2.1 == y88.2.1)
    ((geti x_1 z47).bind fun y89 =>
    ((geti x_2 z81).bind fun y90 =>
    some (y89.2.2.1 == y90.2.2.1)))
    (some false)))) fun j91 =>
  (cond j91
   (some (Sum.inr true))
   (rec82 (IntKind.wrap .i64 (z81 + (1 : Int))))))
  (some (Sum.inl ())))) n z0)
def l_w30q_2 (n : Nat) (x_1 : (List (Int × (Int × (Int × Int))))) (x_2 : (List (Int × (Int × (Int × Int))))) (z0 : Int) : Option Bool :=
(lp (fun rec48 (z47 : Int) =>
 (cond (decide (z47 < (lenI x_1)))
  (Option.bind (α := (Unit ⊕ Bool))
   (l_w30q_1 n x_1 x_2 z47 (0 : Int))
   (Sum.elim (fun j93 =>
  rec48 (IntKind.wrap .i64 (z47 + (1 : Int)))) some))
  (some false))) n z0)
def p_w30q (n : Nat) (x : ((List (Int × (Int × (Int × Int)))) × (List (Int × (Int × (Int × Int)))))) : Option Bool :=
(l_w30q_2 n x.1 x.2 (0 : Int))
def m_w30q (x : ((List (Int × (Int × (Int × Int)))) × (List (Int × (Int × (Int × Int)))))) : Option Bool := p_w30q FU x
def a_w30q : Ann := (.node .leaf (.node (.node .leaf (.loop [.slot 5 (.int .i64)] [4, 6, 7, 8, 9, 10, 11, 12, 13, 14, 15, 16, 17, 18, 19, 20, 21, 22, 23, 24, 25, 26, 27, 28, 29, 30, 31, 32, 33, 34, 35, 36, 37, 38, 39, 40, 41, 42] (.node .leaf (.joinx [] [4, 6, 13, 14, 15, 16, 17, 18, 19, 20, 21, 22, 23, 24, 25, 26, 27, 28, 29, 30, 31, 32, 33, 34, 35, 36, 37, 38, 39, 40, 41, 42] (.node .leaf (.loop [.slot 6 (.int .i64)] [4, 13, 14, 15, 16, 17, 18, 19, 20, 21, 22, 23, 24, 25, 26, 27, 28, 29, 30, 31, 32, 33, 34, 35, 36, 37, 38, 39, 40, 41, 42] (.node .leaf (.node (.join [.slot 42 .bool] [19, 20, 21, 22, 23, 24, 25, 26, 27, 28, 29, 30, 31, 32, 33, 34, 35, 36, 37, 38, 39, 40, 41] .leaf .leaf) .leaf)))) .leaf)))) .leaf))
def S_w30q : FSpec := ⟨[.val Kd12, .val Kd12], [.bool], m_w30q⟩

/-! spec.l2Has -/
def l_w31q_1 (n : Nat) (x_1 : (List (Int × (Int × Int)))) (x_2_1 : Int) (x_2_2 : Int) (z0 : Int) : Option Int :=
(lp (fun rec9 (z8 : Int) =>
 (cond (decide (z8 < (lenI x_1)))
  (Option.bind (α := Bool)
   ((geti x_1 z8).bind fun y12 =>
   (cond (y12.1 == x_2_1)
    ((geti x_1 z8).bind fun y13 =>
    some (y13.2.1 == x_2_2))
    (some false))) fun j14 =>
  (cond j14
   ((geti x_1 z8).bind fun y15 =>
   some y15.2.2)
   (rec9 (IntKind.wrap .i64 (z8 + (1 : Int))))))
  (some (0 : Int)))) n z0)
def p_w31q (n : Nat) (x : ((List (Int × (Int × Int))) × (Int × Int))) : Option Int :=
(l_w31q_1 n x.1 x.2.1 x.2.2 (0 : Int))
def m_w31q (x : ((List (Int × (Int × Int))) × (Int × Int))) : Option Int := p_w31q FU x
def a_w31q : Ann := (.node .leaf (.node (.node .leaf (.loop [.slot 7 (.int .i64)] [6, 8, 9, 10, 11, 12, 13, 14, 15, 16, 17, 18, 19, 20, 21, 22, 23, 24, 25, 26, 27, 28, 29, 30, 31, 32, 33, 34] (.node .leaf (.node (.join [.slot 29 .bool] [14, 15, 16, 17, 18, 19, 20, 21, 22, 23, 24, 25, 26, 27, 28] .leaf .leaf) .leaf)))) .leaf))
def S_w31q : FSpec := ⟨[.val Kd15, .val (.int .i64), .val (.int .i64)], [(.int .i64)], m_w31q⟩

/-! spec.l2Legs -/
def l_w32q_1 (n : Nat) (x_1 : (List (Int × (Int × Int)))) (x_2 : (List (Int × (Int × (Int × Int))))) (z0 : Int) : Option Int :=
(lp (fun rec7 (z6 : Int) =>
 (cond (decide (z6 < (lenI x_2)))
  ((geti x_2 z6).bind fun y8 =>
  ((geti x_2 z6).bind fun y9 =>
  ((geti x_2 z6).bind fun y10 =>
  ((m_w31q (x_1, y8.2.1, y9.2.2.1)).bind fun r11 =>
  (cond (decide ((IntKind.wrap .i64 (r11 + y10.2.2.2)) < (0 : Int)))
   (some (6 : Int))
   (cond (decide ((IntKind.wrap .i64 (r11 + y10.2.2.2)) > (1000000000000 : Int)))
    (some (3 : Int))
    (rec7 (IntKind.wrap .i64 (z6 + (1 : Int))))))))))
  (some (0 : Int)))) n z0)
def p_w32q (n : Nat) (x : ((List (Int × (Int × Int))) × (List (Int × (Int × (Int × Int)))))) : Option Int :=
(l_w32q_1 n x.1 x.2 (0 : Int))
def m_w32q (x : ((List (Int × (Int × Int))) × (List (Int × (Int × (Int × Int)))))) : Option Int := p_w32q FU x
def a_w32q : Ann := (.node .leaf (.node (.node .leaf (.loop [.slot 5 (.int .i64)] [4, 6, 7, 8, 9, 10, 11, 12, 13, 14, 15, 16, 17, 18, 19, 20, 21, 22, 23, 24, 25, 26, 27, 28, 29, 30, 31, 32, 33, 34] .leaf)) .leaf))
def S_w32q : FSpec := ⟨[.val Kd15, .val Kd12], [(.int .i64)], m_w32q⟩

/-! spec.l10Held -/
def l_w33q_1 (n : Nat) (x_1 : Int) (x_2_2_1 : (List (Int × Int))) (x_2_2_2_1 : (List (Int × (List (Int × (Int × (Int × Int))))))) (x_2_2_2_2_1 : (List (Int × Int))) (z0 : Int) : Option (Unit ⊕ Int) :=
(lp (fun rec58 (z57 : Int) =>
 (cond (decide (z57 < (lenI x_2_2_2_1)))
  ((geti x_2_2_2_1 z57).bind fun y59 =>
  ((m_w24q y59).bind fun r60 =>
  (cond (!(r60 == (0 : Int)))
   (some (Sum.inr r60))
   (Option.bind (α := Bool)
    (cond (decide (z57 > (0 : Int)))
     ((geti x_2_2_2_1 (IntKind.wrap .i64 (z57 - (1 : Int)))).bind fun y68 =>
     (cond (decide (y59.1 ≤ y68.1))
      (some true)
      ((m_w25q (y59, x_1)).bind fun r69 =>
      (cond ((lenI r69) == (0 : Int))
       (some true)
       ((m_w26q (x_2_2_1, y59.1)).bind fun r70 =>
       (cond (!(r70 == (1 : Int)))
        (some true)
        ((m_w26q (x_2_2_2_2_1, y59.1)).bind fun r71 =>
        some (!(r71 == (0 : Int))))))))))
     ((m_w25q (y59, x_1)).bind fun r72 =>
     (cond ((lenI r72) == (0 : Int))
      (some true)
      ((m_w26q (x_2_2_1, y59.1)).bind fun r73 =>
      (cond (!(r73 == (1 : Int)))
       (some true)
       ((m_w26q (x_2_2_2_2_1, y59.1)).bind fun r74 =>
       some (!(r74 == (0 : Int))))))))) fun j75 =>
   (cond j75
    (some (Sum.inr (1 : Int)))
    (rec58 (IntKind.wrap .i64 (z57 + (1 : Int)))))))))
  (some (Sum.inl ())))) n z0)
def l_w33q_2 (n : Nat) (x : (Int × ((List (Int × (Int × Int))) × ((List (Int × Int)) × ((List (Int × (List (Int × (Int × (Int × Int)))))) × ((List (Int × Int)) × (List Int))))))) (z0 : Int) : Option (Unit ⊕ Int) :=
(lp (fun rec102 (z101 : Int) =>
 (cond (decide (z101 < (lenI x.2.2.1)))
  ((geti x.2.2.1 z101).bind fun y103 =>
  (Option.bind (α := Bool)
   (cond (y103.2 == (1 : Int))
    ((m_w27q (x, y103.1)).bind fun r106 =>
    (cond (!r106)
     ((m_w26q (x.2.2.2.2.1, y103.1)).bind fun r107 =>
     some (r107 == (0 : Int)))
     (some false)))
    (some false)) fun j108 =>
  (cond j108
   (some (Sum.inr (1 : Int)))
   (rec102 (IntKind.wrap .i64 (z101 + (1 : Int)))))))
  (some (Sum.inl ())))) n z0)
def l_w33q_3 (n : Nat) (z204 : Int) (x_1 : Int) (x_2_2_2_1 : (List (Int × (List (Int × (Int × (Int × Int))))))) (z0 : Int) : Option (Unit ⊕ (Unit ⊕ Int)) :=
(lp (fun rec227 (z226 : Int) =>
 (cond (decide (z226 < z204))
  ((geti x_2_2_2_1 z204).bind fun y228 =>
  ((geti x_2_2_2_1 z226).bind fun y229 =>
  ((m_w25q (y228, x_1)).bind fun r230 =>
  ((m_w25q (y229, x_1)).bind fun r231 =>
  ((m_w30q (r230, r231)).bind fun r232 =>
  (cond r232
   (some (Sum.inr (Sum.inr (7 : Int))))
   (rec227 (IntKind.wrap .i64 (z226 + (1 : Int))))))))))
  (some (Sum.inl ())))) n z0)
def l_w33q_4 (n : Nat) (x_1 : Int) (x_2_2_2_1 : (List (Int × (List (Int × (Int × (Int × Int))))))) (z0 : Int) : Option (Unit ⊕ Int) :=
(lp (fun rec205 (z204 : Int) =>
 (cond (decide (z204 < (lenI x_2_2_2_1)))
  (Option.bind (α := (Unit ⊕ (Unit ⊕ Int)))
   (l_w33q_3 n z204 x_1 x_2_2_2_1 (0 : Int))
   (Sum.elim (fun j234 =>
  rec205 (IntKind.wrap .i64 (z204 + (1 : Int)))) some))
  (some (Sum.inl ())))) n z0)
def l_w33q_5 (n : Nat) (x_1 : Int) (x_2_1 : (List (Int × (Int × Int)))) (x_2_2_2_1 : (List (Int × (List (Int × (Int × (Int × Int))))))) (z0 : Int) : Option Int :=
(lp (fun rec242 (z241 : Int) =>
 (cond (decide (z241 < (lenI x_2_2_2_1)))
  ((geti x_2_2_2_1 z241).bind fun y243 =>
  ((m_w25q (y243, x_1)).bind fun r244 =>
  ((m_w32q (x_2_1, r244)).bind fun r245 =>
  (cond (!(r245 == (0 : Int)))
   (some r245)
   (rec242 (IntKind.wrap .i64 (z241 + (1 : Int))))))))
  (some (0 : Int)))) n z0)
def p_w33q (n : Nat) (x : (Int × ((List (Int × (Int × Int))) × ((List (Int × Int)) × ((List (Int × (List (Int × (Int × (Int × Int)))))) × ((List (Int × Int)) × (List Int))))))) : Option Int :=
(Option.bind (α := (Unit ⊕ Int))
 (l_w33q_1 n x.1 x.2.2.1 x.2.2.2.1 x.2.2.2.2.1 (0 : Int))
 (Sum.elim (fun j77 =>
(Option.bind (α := (Unit ⊕ Int))
 (l_w33q_2 n x (0 : Int))
 (Sum.elim (fun j110 =>
((m_w29q x).bind fun r111 =>
(cond (!r111)
 (some (1 : Int))
 (Option.bind (α := (Unit ⊕ Int))
  (l_w33q_4 n x.1 x.2.2.2.1 (0 : Int))
  (Sum.elim (fun j236 =>
 (l_w33q_5 n x.1 x.2.1 x.2.2.2.1 (0 : Int))) some))))) some))) some))
def m_w33q (x : (Int × ((List (Int × (Int × Int))) × ((List (Int × Int)) × ((List (Int × (List (Int × (Int × (Int × Int)))))) × ((List (Int × Int)) × (List Int))))))) : Option Int := p_w33q FU x
def a_w33q : Ann := (.node .leaf (.joinx [] [2, 3, 4, 5, 12, 13, 14, 15, 16, 17, 18, 19, 20, 21, 22, 23, 24, 25, 26, 27, 28, 29, 30, 31, 32, 33, 34, 35, 36, 37, 38, 39, 40, 41, 42, 43, 44, 45, 46, 47, 48, 49, 50, 51, 52, 53, 54, 55, 56, 57, 58, 59, 60, 61, 62, 63, 64, 65, 66] (.node .leaf (.loop [.slot 3 (.int .i64)] [2, 4, 5, 12, 13, 14, 15, 16, 17, 18, 19, 20, 21, 22, 23, 24, 25, 26, 27, 28, 29, 30, 31, 32, 33, 34, 35, 36, 37, 38, 39, 40, 41, 42, 43, 44, 45, 46, 47, 48, 49, 50, 51, 52, 53, 54, 55, 56, 57, 58, 59, 60, 61, 62, 63, 64, 65, 66] (.node .leaf (.node (.node .leaf (.node .leaf (.join [.slot 66 .bool] [29, 30, 31, 32, 33, 34, 35, 36, 37, 38, 39, 40, 41, 42, 43, 44, 45, 46, 47, 48, 49, 50, 51, 52, 53, 54, 55, 56, 57, 58, 59, 60, 61, 62, 63, 64, 65] .leaf .leaf))) .leaf)))) (.joinx [] [2, 6, 7, 67, 68, 69, 70, 71, 72, 73, 74, 75, 76, 77, 78, 79, 80, 81, 82, 83, 84, 85, 86, 87, 88, 89, 90, 91, 92, 93, 94, 95, 96] (.node .leaf (.loop [.slot 6 (.int .i64)] [2, 7, 67, 68, 69, 70, 71, 72, 73, 74, 75, 76, 77, 78, 79, 80, 81, 82, 83, 84, 85, 86, 87, 88, 89, 90, 91, 92, 93, 94, 95, 96] (.node .leaf (.node (.node .leaf (.join [.slot 96 .bool] [79, 80, 81, 82, 83, 84, 85, 86, 87, 88, 89, 90, 91, 92, 93, 94, 95] .leaf .leaf)) .leaf)))) (.node .leaf (.joinx [] [2, 8, 9, 100, 101, 102, 103, 104, 105, 106, 107, 108, 109, 110, 111, 112, 113, 114, 115, 116, 117, 118, 119, 120, 121, 122, 123, 124, 125, 126, 127, 128] (.node .leaf (.loop [.slot 8 (.int .i64)] [2, 9, 100, 101, 102, 103, 104, 105, 106, 107, 108, 109, 110, 111, 112, 113, 114, 115, 116, 117, 118, 119, 120, 121, 122, 123, 124, 125, 126, 127, 128] (.node .leaf (.joinx [] [2, 9, 107, 108, 109, 110, 111, 112, 113, 114, 115, 116, 117, 118, 119, 120, 121, 122, 123, 124, 125, 126, 127, 128] (.node .leaf (.loop [.slot 9 (.int .i64)] [2, 107, 108, 109, 110, 111, 112, 113, 114, 115, 116, 117, 118, 119, 120, 121, 122, 123, 124, 125, 126, 127, 128] .leaf)) .leaf)))) (.node (.node .leaf (.loop [.slot 10 (.int .i64)] [2, 11, 129, 130, 131, 132, 133, 134, 135, 136, 137, 138, 139, 140, 141, 142, 143, 144, 145, 146, 147, 148, 149] .leaf)) .leaf))))))
def S_w33q : FSpec := ⟨[.val Kd6], [(.int .i64)], m_w33q⟩

/-! spec.ShardFault -/
def p_w34q (n : Nat) (x : (Int × ((List (Int × (Int × Int))) × ((List (Int × Int)) × ((List (Int × (List (Int × (Int × (Int × Int)))))) × ((List (Int × Int)) × (List Int))))))) : Option Int :=
((m_w20q (x.1, x.2.1)).bind fun r1 =>
(cond (!(r1 == (0 : Int)))
 (some r1)
 (Option.bind (α := Bool)
  (cond (decide ((lenI x.2.2.1) > (100 : Int)))
   (some true)
   (cond (decide ((lenI x.2.2.2.1) > (100 : Int)))
    (some true)
    (cond (decide ((lenI x.2.2.2.2.1) > (100 : Int)))
     (some true)
     (some (decide ((lenI x.2.2.2.2.2) > (100 : Int))))))) fun j2 =>
 (cond j2
  (some (2 : Int))
  ((m_w22q x.2.2.1).bind fun r3 =>
  (cond (!(r3 == (0 : Int)))
   (some r3)
   ((m_w22q x.2.2.2.2.1).bind fun r4 =>
   (cond (!(r4 == (0 : Int)))
    (some r4)
    ((m_w33q x).bind fun r5 =>
    some r5)))))))))
def m_w34q (x : (Int × ((List (Int × (Int × Int))) × ((List (Int × Int)) × ((List (Int × (List (Int × (Int × (Int × Int)))))) × ((List (Int × Int)) × (List Int))))))) : Option Int := p_w34q FU x
def a_w34q : Ann := (.node .leaf (.node .leaf (.node (.join [.slot 35 .bool] [14, 15, 16, 17, 18, 19, 20, 21, 22, 23, 24, 25, 26, 27, 28, 29, 30, 31, 32, 33, 34] .leaf .leaf) .leaf)))
def S_w34q : FSpec := ⟨[.val Kd6], [(.int .i64)], m_w34q⟩

/-! spec.l10Contract -/
def p_w35q (n : Nat) (x : (Int × (List (Int × (Int × (Int × Int)))))) : Option (Int × (List (Int × (Int × (Int × Int))))) :=
(chk (Nat.ble (x.2.length * 32) maxBytes)
(some x))
def m_w35q (x : (Int × (List (Int × (Int × (Int × Int)))))) : Option (Int × (List (Int × (Int × (Int × Int))))) := p_w35q FU x
def a_w35q : Ann := (.node .leaf (.node (.lazy 5 .leaf) .leaf))
def S_w35q : FSpec := ⟨[.val Kd10], [Kd9], m_w35q⟩

/-! spec.l10Copy -/
def l_w36q_1 (n : Nat) (x_2_2_2_1 : (List (Int × (List (Int × (Int × (Int × Int))))))) (z0 : (Int × (Int × ((List (Int × (Int × Int))) × ((List (Int × Int)) × ((List (Int × (List (Int × (Int × (Int × Int)))))) × ((List (Int × Int)) × (List Int)))))))) : Option (Int × ((List (Int × (Int × Int))) × ((List (Int × Int)) × ((List (Int × (List (Int × (Int × (Int × Int)))))) × ((List (Int × Int)) × (List Int)))))) :=
(lp (fun rec8 (z7 : (Int × (Int × ((List (Int × (Int × Int))) × ((List (Int × Int)) × ((List (Int × (List (Int × (Int × (Int × Int)))))) × ((List (Int × Int)) × (List Int)))))))) =>
 (cond (decide (z7.1 < (lenI x_2_2_2_1)))
  ((geti x_2_2_2_1 z7.1).bind fun y9 =>
  ((m_w35q y9).bind fun r10 =>
  (chk (Nat.ble ((z7.2.2.2.2.1.length + [r10].length) * 32) maxBytes)
  (rec8 (IntKind.wrap .i64 (z7.1 + (1 : Int)), (z7.2.1, (z7.2.2.1, (z7.2.2.2.1, ((z7.2.2.2.2.1 ++ [r10]), z7.2.2.2.2.2)))))))))
  (some z7.2))) n z0)
def p_w36q (n : Nat) (x : (Int × ((List (Int × (Int × Int))) × ((List (Int × Int)) × ((List (Int × (List (Int × (Int × (Int × Int)))))) × ((List (Int × Int)) × (List Int))))))) : Option (Int × ((List (Int × (Int × Int))) × ((List (Int × Int)) × ((List (Int × (List (Int × (Int × (Int × Int)))))) × ((List (Int × Int)) × (List Int)))))) :=
(same
 (chk (Nat.ble (x.2.1.length * 24) maxBytes)
 (same
  (chk (Nat.ble (x.2.2.1.length * 16) maxBytes)
  (same
   (chk (Nat.ble (x.2.2.2.2.1.length * 16) maxBytes)
   (dup 1
    (chk (Nat.ble (x.2.2.2.2.2.length * 8) maxBytes)
    (l_w36q_1 n x.2.2.2.1 ((0 : Int), (x.1, (x.2.1, (x.2.2.1, ([], x.2.2.2.2)))))))))
   (chk (Nat.ble (x.2.2.2.2.1.length * 16) maxBytes)
   (chk (Nat.ble (x.2.2.2.2.2.length * 8) maxBytes)
   (l_w36q_1 n x.2.2.2.1 ((0 : Int), (x.1, (x.2.1, (x.2.2.1, ([], x.2.2.2.2))))))))))
  (chk (Nat.ble (x.2.2.1.length * 16) maxBytes)
  (chk (Nat.ble (x.2.2.2.2.1.length * 16) maxBytes)
  (chk (Nat.ble (x.2.2.2.2.2.length * 8) maxBytes)
  (l_w36q_1 n x.2.2.2.1 ((0 : Int), (x.1, (x.2.1, (x.2.2.1, ([], x.2.2.2.2)))))))))))
 (chk (Nat.ble (x.2.1.length * 24) maxBytes)
 (chk (Nat.ble (x.2.2.1.length * 16) maxBytes)
 (chk (Nat.ble (x.2.2.2.2.1.length * 16) maxBytes)
 (chk (Nat.ble (x.2.2.2.2.2.length * 8) maxBytes)
 (l_w36q_1 n x.2.2.2.1 ((0 : Int), (x.1, (x.2.1, (x.2.2.1, ([], x.2.2.2.2)))))))))))
def m_w36q (x : (Int × ((List (Int × (Int × Int))) × ((List (Int × Int)) × ((List (Int × (List (Int × (Int × (Int × Int)))))) × ((List (Int × Int)) × (List Int))))))) : Option (Int × ((List (Int × (Int × Int))) × ((List (Int × Int)) × ((List (Int × (List (Int × (Int × (Int × Int)))))) × ((List (Int × Int)) × (List Int)))))) := p_w36q FU x
def a_w36q : Ann := (.node .leaf (.node (.lazy 19 (.lazy 15 (.lazy 11 (.lazy 7 .leaf)))) (.node (.node .leaf (.loop [.slot 4 (.int .i64), .box 1000003 Kd5] [24, 25, 26, 27, 28, 29, 30, 31, 32, 33, 34, 35, 36, 37, 38, 39, 40, 41] .leaf)) .leaf)))
def S_w36q : FSpec := ⟨[.val Kd6], [Kd5], m_w36q⟩

/-! spec.l10Mark -/
def l_w37q_1 (n : Nat) (x_1 : (List (Int × Int))) (x_2_1 : Int) (z0 : Int) : Option Int :=
(lp (fun rec16 (z15 : Int) =>
 (Option.bind (α := Bool)
  (cond (decide (z15 < (lenI x_1)))
   ((geti x_1 z15).bind fun y18 =>
   some (decide (y18.1 < x_2_1)))
   (some false)) fun j19 =>
 (cond j19
  (rec16 (IntKind.wrap .i64 (z15 + (1 : Int))))
  (some z15)))) n z0)
def p_w37q (n : Nat) (x : ((List (Int × Int)) × (Int × Int))) : Option (List (Int × Int)) :=
(Option.bind (α := Int)
 (l_w37q_1 n x.1 x.2.1 (0 : Int)) fun j21 =>
(chk (bndB none (some j21) none x.1.length)
 (chk (bndB (some j21) none none x.1.length)
  (chk (Nat.ble ((cutL none (some j21) x.1).length * 16) maxBytes)
  (chk (Nat.ble (((cutL none (some j21) x.1).length + [x.2].length) * 16) maxBytes)
  (chk (Nat.ble ((((cutL none (some j21) x.1) ++ [x.2]).length + (cutL (some j21) none x.1).length) * 16) maxBytes)
  (some (((cutL none (some j21) x.1) ++ [x.2]) ++ (cutL (some j21) none x.1)))))))))
def m_w37q (x : ((List (Int × Int)) × (Int × Int))) : Option (List (Int × Int)) := p_w37q FU x
def a_w37q : Ann := (.node .leaf (.node .leaf (.join [.slot 7 (.int .i64)] [8, 9, 10, 11, 12, 13, 14, 15, 16, 17, 18, 19, 20, 21, 22] (.loop [.slot 7 (.int .i64)] [8, 9, 10, 11, 12, 13, 14, 15, 16, 17, 18, 19, 20, 21, 22] (.node (.join [.slot 20 .bool] [8, 9, 10, 11, 12, 13, 14, 15, 16, 17, 18, 19] .leaf .leaf) .leaf)) (.node (.lazy 31 (.lazy 23 .leaf)) .leaf))))
def S_w37q : FSpec := ⟨[.val Kd18, .val (.int .i64), .val (.int .i64)], [Kd17], m_w37q⟩

/-! spec.l2Set -/
def l_w38q_1 (n : Nat) (x_1 : (List (Int × (Int × Int)))) (x_2 : (Int × (Int × Int))) (z0 : ((List (Int × (Int × Int))) × (Bool × Int))) : Option ((List (Int × (Int × Int))) × Bool) :=
(lp (fun rec22 (z21 : ((List (Int × (Int × Int))) × (Bool × Int))) =>
 (cond (decide (z21.2.2 < (lenI x_1)))
  ((geti x_1 z21.2.2).bind fun y23 =>
  (Option.bind (α := Bool)
   (cond (y23.1 == x_2.1)
    (some (y23.2.1 == x_2.2.1))
    (some false)) fun j24 =>
  (cond j24
   (rec22 (z21.1, z21.2.1, IntKind.wrap .i64 (z21.2.2 + (1 : Int))))
   (Option.bind (α := ((List (Int × (Int × Int))) × Bool))
    (Option.bind (α := Bool)
     (cond (!z21.2.1)
      (some (decide ((IntKind.wrap .i64 ((IntKind.wrap .i64 (y23.1 * (3 : Int))) + y23.2.1)) > (IntKind.wrap .i64 ((IntKind.wrap .i64 (x_2.1 * (3 : Int))) + x_2.2.1)))))
      (some false)) fun j26 =>
    (cond j26
     (chk (Nat.ble ((z21.1.length + [x_2].length) * 24) maxBytes)
     (some ((z21.1 ++ [x_2]), true)))
     (some (z21.1, z21.2.1)))) fun j27 =>
   (chk (Nat.ble ((j27.1.length + [y23].length) * 24) maxBytes)
   (rec22 ((j27.1 ++ [y23]), j27.2, IntKind.wrap .i64 (z21.2.2 + (1 : Int)))))))))
  (some (z21.1, z21.2.1)))) n z0)
def p_w38q (n : Nat) (x : ((List (Int × (Int × Int))) × (Int × (Int × Int)))) : Option (List (Int × (Int × Int))) :=
(Option.bind (α := ((List (Int × (Int × Int))) × Bool))
 (l_w38q_1 n x.1 x.2 (([] : List (Int × (Int × Int))), (x.2.2.2 == (0 : Int)), (0 : Int))) fun j29 =>
(cond (!j29.2)
 (chk (Nat.ble ((j29.1.length + [x.2].length) * 24) maxBytes)
 (some (j29.1 ++ [x.2])))
 (some j29.1)))
def m_w38q (x : ((List (Int × (Int × Int))) × (Int × (Int × Int)))) : Option (List (Int × (Int × Int))) := p_w38q FU x
def a_w38q : Ann := (.node .leaf (.node .leaf (.node .leaf (.join [.slot 9 Kd14, .slot 10 .bool] [11, 12, 16, 17, 18, 19, 20, 21, 22, 23, 24, 25, 26, 27, 28, 29, 30, 31, 32, 33, 34, 35, 36, 37, 38, 39, 40, 41, 42, 43, 44, 45, 46, 47, 48, 49, 50, 51, 52, 53, 54, 55, 56, 57, 58, 59, 60, 61] (.node .leaf (.loop [.slot 9 Kd14, .slot 10 .bool, .slot 11 (.int .i64)] [12, 16, 17, 18, 19, 20, 21, 22, 23, 24, 25, 26, 27, 28, 29, 30, 31, 32, 33, 34, 35, 36, 37, 38, 39, 40, 41, 42, 43, 44, 45, 46, 47, 48, 49, 50, 51, 52, 53, 54, 55, 56, 57, 58, 59, 60, 61] (.node .leaf (.node (.node .leaf (.node (.join [.slot 35 .bool] [26, 27, 28, 29, 30, 31, 32, 33, 34] .leaf .leaf) (.join [.slot 9 Kd14, .slot 10 .bool] [36, 37, 38, 39, 40, 41, 42, 43, 44, 45, 46, 47, 48, 49, 50, 51, 52, 53, 54, 55, 56, 57] (.join [.slot 50 .bool] [36, 37, 38, 39, 40, 41, 42, 43, 44, 45, 46, 47, 48, 49] .leaf .leaf) .leaf))) .leaf)))) .leaf))))
def S_w38q : FSpec := ⟨[.val Kd15, .val (.int .i64), .val (.int .i64), .val (.int .i64)], [Kd14], m_w38q⟩

/-! spec.l2Add -/
def l_w39q_1 (n : Nat) (x_2 : (List (Int × (Int × (Int × Int))))) (z0 : ((List (Int × (Int × Int))) × Int)) : Option (List (Int × (Int × Int))) :=
(lp (fun rec10 (z9 : ((List (Int × (Int × Int))) × Int)) =>
 (cond (decide (z9.2 < (lenI x_2)))
  ((geti x_2 z9.2).bind fun y11 =>
  ((geti x_2 z9.2).bind fun y12 =>
  ((geti x_2 z9.2).bind fun y13 =>
  ((geti x_2 z9.2).bind fun y14 =>
  ((geti x_2 z9.2).bind fun y15 =>
  ((m_w31q (z9.1, y13.2.1, y14.2.2.1)).bind fun r16 =>
  ((m_w38q (z9.1, y11.2.1, y12.2.2.1, IntKind.wrap .i64 (r16 + y15.2.2.2))).bind fun r17 =>
  rec10 (r17, IntKind.wrap .i64 (z9.2 + (1 : Int))))))))))
  (some z9.1))) n z0)
def p_w39q (n : Nat) (x : ((List (Int × (Int × Int))) × (List (Int × (Int × (Int × Int)))))) : Option (List (Int × (Int × Int))) :=
(chk (Nat.ble ((([] : List (Int × (Int × Int))).length + x.1.length) * 24) maxBytes)
(l_w39q_1 n x.2 ((([] : List (Int × (Int × Int))) ++ x.1), (0 : Int))))
def m_w39q (x : ((List (Int × (Int × Int))) × (List (Int × (Int × (Int × Int)))))) : Option (List (Int × (Int × Int))) := p_w39q FU x
def a_w39q : Ann := (.node .leaf (.node .leaf (.node (.node .leaf (.loop [.slot 5 Kd14, .slot 6 (.int .i64)] [10, 11, 12, 13, 14, 15, 16, 17, 18, 19, 20, 21, 22, 23, 24, 25, 26, 27, 28, 29, 30, 31, 32, 33, 34, 35, 36, 37, 38, 39, 40, 41, 42, 43, 44, 45] .leaf)) .leaf)))
def S_w39q : FSpec := ⟨[.val Kd15, .val Kd12], [Kd14], m_w39q⟩

/-! spec.l10Decide -/
def l_w40q_1 (n : Nat) (x_1_1 : Int) (x_2_1 : Int) (x_2_2 : Int) (x_1_2_2_2_1 : (List (Int × (List (Int × (Int × (Int × Int))))))) (z0 : (Int × (Int × ((List (Int × (Int × Int))) × ((List (Int × Int)) × ((List (Int × (List (Int × (Int × (Int × Int)))))) × ((List (Int × Int)) × (List Int)))))))) : Option (Int × (Int × (Int × ((List (Int × (Int × Int))) × ((List (Int × Int)) × ((List (Int × (List (Int × (Int × (Int × Int)))))) × ((List (Int × Int)) × (List Int)))))))) :=
(lp (fun rec18 (z17 : (Int × (Int × ((List (Int × (Int × Int))) × ((List (Int × Int)) × ((List (Int × (List (Int × (Int × (Int × Int)))))) × ((List (Int × Int)) × (List Int)))))))) =>
 (cond (decide (z17.1 < (lenI x_1_2_2_2_1)))
  ((geti x_1_2_2_2_1 z17.1).bind fun y19 =>
  ((m_w35q y19).bind fun r20 =>
  (cond (!(r20.1 == x_2_1))
   (chk (Nat.ble ((z17.2.2.2.2.1.length + [r20].length) * 32) maxBytes)
   (rec18 (IntKind.wrap .i64 (z17.1 + (1 : Int)), (z17.2.1, (z17.2.2.1, (z17.2.2.2.1, ((z17.2.2.2.2.1 ++ [r20]), z17.2.2.2.2.2)))))))
   (cond (x_2_2 == (1 : Int))
    ((m_w25q (r20, x_1_1)).bind fun r21 =>
    ((m_w39q (z17.2.2.1, r21)).bind fun r22 =>
    (chk (Nat.ble ((z17.2.2.2.2.2.2.length + [x_2_1].length) * 8) maxBytes)
    (rec18 (IntKind.wrap .i64 (z17.1 + (1 : Int)), (z17.2.1, (r22, (z17.2.2.2.1, (z17.2.2.2.2.1, (z17.2.2.2.2.2.1, (z17.2.2.2.2.2.2 ++ [x_2_1])))))))))))
    (rec18 (IntKind.wrap .i64 (z17.1 + (1 : Int)), z17.2))))))
  (some ((0 : Int), ((0 : Int), z17.2))))) n z0)
def p_w40q (n : Nat) (x : ((Int × ((List (Int × (Int × Int))) × ((List (Int × Int)) × ((List (Int × (List (Int × (Int × (Int × Int)))))) × ((List (Int × Int)) × (List Int)))))) × (Int × Int))) : Option (Int × (Int × (Int × ((List (Int × (Int × Int))) × ((List (Int × Int)) × ((List (Int × (List (Int × (Int × (Int × Int)))))) × ((List (Int × Int)) × (List Int)))))))) :=
((m_w26q (x.1.2.2.2.2.1, x.2.1)).bind fun r1 =>
(cond (!(r1 == (0 : Int)))
 (cond (!(r1 == x.2.2))
  (some ((7 : Int), ((0 : Int), ((0 : Int), ([], ([], ([], ([], []))))))))
  ((m_w36q x.1).bind fun r2 =>
  some ((0 : Int), ((0 : Int), r2))))
 ((m_w27q (x.1, x.2.1)).bind fun r3 =>
 (Option.bind (α := Bool)
  (cond (x.2.2 == (1 : Int))
   (some (!r3))
   (some false)) fun j4 =>
 (cond j4
  (some ((1 : Int), ((0 : Int), ((0 : Int), ([], ([], ([], ([], []))))))))
  (cond (decide ((lenI x.1.2.2.2.2.1) ≥ (100 : Int)))
   (some ((2 : Int), ((0 : Int), ((0 : Int), ([], ([], ([], ([], []))))))))
   ((m_w36q x.1).bind fun r5 =>
   ((m_w37q (r5.2.2.2.2.1, x.2.1, x.2.2)).bind fun r6 =>
   (l_w40q_1 n x.1.1 x.2.1 x.2.2 x.1.2.2.2.1 ((0 : Int), (r5.1, (r5.2.1, (r5.2.2.1, ([], (r6, r5.2.2.2.2.2)))))))))))))))
def m_w40q (x : ((Int × ((List (Int × (Int × Int))) × ((List (Int × Int)) × ((List (Int × (List (Int × (Int × (Int × Int)))))) × ((List (Int × Int)) × (List Int)))))) × (Int × Int))) : Option (Int × (Int × (Int × ((List (Int × (Int × Int))) × ((List (Int × Int)) × ((List (Int × (List (Int × (Int × (Int × Int)))))) × ((List (Int × Int)) × (List Int)))))))) := p_w40q FU x
def a_w40q : Ann := (.node .leaf (.node .leaf (.node .leaf (.node .leaf (.node (.join [.slot 33 .bool] [28, 29, 30, 31, 32] .leaf .leaf) (.node .leaf (.node .leaf (.node .leaf (.node .leaf (.node (.node .leaf (.loop [.slot 10 (.int .i64), .box 7 Kd5] [11, 49, 50, 51, 52, 53, 54, 55, 56, 57, 58, 59, 60, 61, 62, 63, 64, 65, 66, 67, 68, 69, 70, 71, 72, 73, 74, 75, 76, 77, 78, 79, 80, 81, 82, 83, 84, 85, 86, 87] .leaf)) .leaf))))))))))
def S_w40q : FSpec := ⟨[.val Kd6, .val (.int .i64), .val (.int .i64)], [Kd2], m_w40q⟩

/-! spec.DecideShard -/
def p_w41q (n : Nat) (x : ((Int × ((List (Int × (Int × Int))) × ((List (Int × Int)) × ((List (Int × (List (Int × (Int × (Int × Int)))))) × ((List (Int × Int)) × (List Int)))))) × (Int × Int))) : Option (Int × (Int × (Int × ((List (Int × (Int × Int))) × ((List (Int × Int)) × ((List (Int × (List (Int × (Int × (Int × Int)))))) × ((List (Int × Int)) × (List Int)))))))) :=
((m_w34q x.1).bind fun r1 =>
(cond (!(r1 == (0 : Int)))
 (some (r1, ((0 : Int), ((0 : Int), ([], ([], ([], ([], []))))))))
 (Option.bind (α := Bool)
  ((m_w21q x.2.1).bind fun r4 =>
  (cond (!r4)
   (some true)
   ((m_w17q (x.2.2, (1 : Int), (2 : Int))).bind fun r5 =>
   some (!r5)))) fun j6 =>
 (cond j6
  (some ((3 : Int), ((0 : Int), ((0 : Int), ([], ([], ([], ([], []))))))))
  ((m_w40q (x.1, x.2.1, x.2.2)).bind fun r7 =>
  some r7)))))
def m_w41q (x : ((Int × ((List (Int × (Int × Int))) × ((List (Int × Int)) × ((List (Int × (List (Int × (Int × (Int × Int)))))) × ((List (Int × Int)) × (List Int)))))) × (Int × Int))) : Option (Int × (Int × (Int × ((List (Int × (Int × Int))) × ((List (Int × Int)) × ((List (Int × (List (Int × (Int × (Int × Int)))))) × ((List (Int × Int)) × (List Int)))))))) := p_w41q FU x
def a_w41q : Ann := (.node .leaf (.node .leaf (.node (.join [.slot 21 .bool] [14, 15, 16, 17, 18, 19, 20] .leaf .leaf) .leaf)))
def S_w41q : FSpec := ⟨[.val Kd6, .val (.int .i64), .val (.int .i64)], [Kd2], m_w41q⟩

/-! impl.within -/
def p_w42q (n : Nat) (x : (Int × (Int × Int))) : Option Bool :=
(cond (decide (x.1 ≥ x.2.1))
 (some (decide (x.1 ≤ x.2.2)))
 (some false))
def m_w42q (x : (Int × (Int × Int))) : Option Bool := p_w42q FU x
def a_w42q : Ann := .leaf
def S_w42q : FSpec := ⟨[.val (.int .i64), .val (.int .i64), .val (.int .i64)], [.bool], m_w42q⟩

/-! impl.isShard -/
def p_w43q (n : Nat) (x : Int) : Option Bool :=
((m_w42q (x, (0 : Int), (2 : Int))).bind fun r1 =>
some r1)
def m_w43q (x : Int) : Option Bool := p_w43q FU x
def a_w43q : Ann := .leaf
def S_w43q : FSpec := ⟨[.val (.int .i64)], [.bool], m_w43q⟩

/-! impl.isAsset -/
def p_w44q (n : Nat) (x : Int) : Option Bool :=
((m_w42q (x, (0 : Int), (2 : Int))).bind fun r1 =>
some r1)
def m_w44q (x : Int) : Option Bool := p_w44q FU x
def a_w44q : Ann := .leaf
def S_w44q : FSpec := ⟨[.val (.int .i64)], [.bool], m_w44q⟩

/-! impl.isPlace -/
def p_w45q (n : Nat) (x : (Int × Int)) : Option Bool :=
((m_w42q (x.1, (0 : Int), (5 : Int))).bind fun r1 =>
(cond r1
 ((m_w44q x.2).bind fun r2 =>
 some r2)
 (some false)))
def m_w45q (x : (Int × Int)) : Option Bool := p_w45q FU x
def a_w45q : Ann := .leaf
def S_w45q : FSpec := ⟨[.val (.int .i64), .val (.int .i64)], [.bool], m_w45q⟩

/-! cmp.isNaN[int64] -/
def p_w46q (n : Nat) (x : Int) : Option Bool :=
some (!(x == x))
def m_w46q (x : Int) : Option Bool := p_w46q FU x
def a_w46q : Ann := .leaf
def S_w46q : FSpec := ⟨[.val (.int .i64)], [.bool], m_w46q⟩

/-! cmp.Compare[int64] -/
def p_w47q (n : Nat) (x : (Int × Int)) : Option Int :=
((m_w46q x.1).bind fun r1 =>
((m_w46q x.2).bind fun r2 =>
(cond r1
 (cond r2
  (some (0 : Int))
  (some (-1 : Int)))
 (cond r2
  (some (1 : Int))
  (cond (decide (x.1 < x.2))
   (some (-1 : Int))
   (cond (decide (x.1 > x.2))
    (some (1 : Int))
    (some (0 : Int))))))))
def m_w47q (x : (Int × Int)) : Option Int := p_w47q FU x
def a_w47q : Ann := .leaf
def S_w47q : FSpec := ⟨[.val (.int .i64), .val (.int .i64)], [(.int .i64)], m_w47q⟩

/-! cmp.Or[int] -/
def l_w48q_1 (n : Nat) (x : (List Int)) (z0 : Int) : Option Int :=
(lp (fun rec4 (z3 : Int) =>
 (cond (decide (z3 < (lenI x)))
  ((geti x z3).bind fun y5 =>
  (cond (!(y5 == (0 : Int)))
   (some y5)
   (rec4 (IntKind.wrap .i64 (z3 + (1 : Int))))))
  (some (0 : Int)))) n z0)
def p_w48q (n : Nat) (x : (List Int)) : Option Int :=
(l_w48q_1 n x (0 : Int))
def m_w48q (x : (List Int)) : Option Int := p_w48q FU x
def a_w48q : Ann := (.node .leaf (.node .leaf (.node (.node .leaf (.loop [.slot 8 (.int .i64)] [2, 5, 9, 10, 11, 12, 13, 14, 15, 16] .leaf)) .leaf)))
def S_w48q : FSpec := ⟨[.val Kd21], [(.int .i64)], m_w48q⟩

/-! impl.comparePlaces -/
def p_w49q (n : Nat) (x : ((Int × (Int × Int)) × (Int × (Int × Int)))) : Option Int :=
((m_w47q (x.1.1, x.2.1)).bind fun r1 =>
((m_w47q (x.1.2.1, x.2.2.1)).bind fun r2 =>
((m_w48q [r1, r2]).bind fun r3 =>
some r3)))
def m_w49q (x : ((Int × (Int × Int)) × (Int × (Int × Int)))) : Option Int := p_w49q FU x
def a_w49q : Ann := (.node .leaf (.node (.lazy 15 .leaf) .leaf))
def S_w49q : FSpec := ⟨[.val Kd16, .val Kd16], [(.int .i64)], m_w49q⟩

/-! impl.BalancesFault -/
def l_w50q_1 (n : Nat) (x : (List (Int × (Int × Int)))) (z0 : Int) : Option Int :=
(lp (fun rec14 (z13 : Int) =>
 (cond (decide (z13 < (lenI x)))
  ((geti x z13).bind fun y15 =>
  (Option.bind (α := Bool)
   ((m_w45q (y15.1, y15.2.1)).bind fun r18 =>
   (cond (!r18)
    (some true)
    ((m_w42q (y15.2.2, (1 : Int), (1000000000000 : Int))).bind fun r19 =>
    some (!r19)))) fun j20 =>
  (cond j20
   (some (3 : Int))
   (Option.bind (α := Bool)
    (cond (decide (z13 > (0 : Int)))
     ((geti x (IntKind.wrap .i64 (z13 - (1 : Int)))).bind fun y23 =>
     ((m_w49q (y23, y15)).bind fun r24 =>
     some (decide (r24 ≥ (0 : Int)))))
     (some false)) fun j25 =>
   (cond j25
    (some (1 : Int))
    (rec14 (IntKind.wrap .i64 (z13 + (1 : Int)))))))))
  (some (0 : Int)))) n z0)
def p_w50q (n : Nat) (x : (List (Int × (Int × Int)))) : Option Int :=
(cond (decide ((lenI x) > (18 : Int)))
 (some (2 : Int))
 (l_w50q_1 n x (0 : Int)))
def m_w50q (x : (List (Int × (Int × Int)))) : Option Int := p_w50q FU x
def a_w50q : Ann := (.node .leaf (.node .leaf (.node (.node .leaf (.loop [.slot 10 (.int .i64)] [2, 3, 4, 11, 12, 13, 14, 15, 16, 17, 18, 19, 20, 21, 22, 23, 24, 25, 26, 27, 28, 29, 30, 31, 32, 33, 34, 35, 36, 37, 38, 39, 40, 41] (.node .leaf (.node .leaf (.node (.node .leaf (.join [.slot 15 .bool] [16, 17, 18, 19, 20, 21, 22, 23, 24, 25, 26, 27] .leaf (.node .leaf (.join [.slot 28 .bool] [29, 30, 31, 32, 33, 34, 35, 36, 37, 38, 39, 40] .leaf .leaf)))) .leaf))))) .leaf)))
def S_w50q : FSpec := ⟨[.val Kd15], [(.int .i64)], m_w50q⟩

/-! impl.isId -/
def p_w51q (n : Nat) (x : Int) : Option Bool :=
((m_w42q (x, (1 : Int), (1000000000 : Int))).bind fun r1 =>
some r1)
def m_w51q (x : Int) : Option Bool := p_w51q FU x
def a_w51q : Ann := .leaf
def S_w51q : FSpec := ⟨[.val (.int .i64)], [.bool], m_w51q⟩

/-! impl.isValue -/
def p_w52q (n : Nat) (x : Int) : Option Bool :=
(cond (x == (1 : Int))
 (some true)
 (some (x == (2 : Int))))
def m_w52q (x : Int) : Option Bool := p_w52q FU x
def a_w52q : Ann := .leaf
def S_w52q : FSpec := ⟨[.val (.int .i64)], [.bool], m_w52q⟩

/-! impl.isOutcome -/
def p_w53q (n : Nat) (x : Int) : Option Bool :=
(cond (x == (1 : Int))
 (some true)
 (some (x == (2 : Int))))
def m_w53q (x : Int) : Option Bool := p_w53q FU x
def a_w53q : Ann := .leaf
def S_w53q : FSpec := ⟨[.val (.int .i64)], [.bool], m_w53q⟩

/-! impl.Leg] -/
def p_w54q (n : Nat) (x : (List (Int × (Int × (Int × Int))))) : Option Int :=
some (lenI x)
def m_w54q (x : (List (Int × (Int × (Int × Int))))) : Option Int := p_w54q FU x
def a_w54q : Ann := .leaf
def S_w54q : FSpec := ⟨[.val Kd12], [(.int .i64)], m_w54q⟩

/-! impl.LegFault -/
def p_w55q (n : Nat) (x : (Int × (Int × (Int × Int)))) : Option Int :=
(Option.bind (α := Bool)
 ((m_w43q x.1).bind fun r4 =>
 (cond (!r4)
  (some true)
  ((m_w45q (x.2.1, x.2.2.1)).bind fun r5 =>
  (cond (!r5)
   (some true)
   ((m_w42q (x.2.2.2, (-1000000000000 : Int), (1000000000000 : Int))).bind fun r6 =>
   some (!r6)))))) fun j7 =>
(cond j7
 (some (3 : Int))
 (cond (x.2.2.2 == (0 : Int))
  (some (1 : Int))
  (some (0 : Int)))))
def m_w55q (x : (Int × (Int × (Int × Int)))) : Option Int := p_w55q FU x
def a_w55q : Ann := (.node .leaf (.node (.join [.slot 3 .bool] [4, 5, 6, 7, 8, 9, 10, 11, 12, 13, 14, 15, 16, 17, 18, 19, 20, 21] .leaf .leaf) .leaf))
def S_w55q : FSpec := ⟨[.val Kd13], [(.int .i64)], m_w55q⟩

/-! impl.samePlace -/
def p_w56q (n : Nat) (x : ((Int × (Int × (Int × Int))) × (Int × (Int × (Int × Int))))) : Option Bool :=
(cond (x.1.1 == x.2.1)
 (cond (x.1.2.1 == x.2.2.1)
  (some (x.1.2.2.1 == x.2.2.2.1))
  (some false))
 (some false))
def m_w56q (x : ((Int × (Int × (Int × Int))) × (Int × (Int × (Int × Int))))) : Option Bool := p_w56q FU x
def a_w56q : Ann := .leaf
def S_w56q : FSpec := ⟨[.val Kd13, .val Kd13], [.bool], m_w56q⟩

/-! impl.ContractFault -/
def l_w57q_1 (n : Nat) (z106_1 : Int) (x_2 : (List (Int × (Int × (Int × Int))))) (y108 : (Int × (Int × (Int × Int)))) (z0 : Int) : Option Int :=
(lp (fun rec122 (z121 : Int) =>
 (cond (decide (z121 < (lenI (cutL none (some z106_1) x_2))))
  ((geti (cutL none (some z106_1) x_2) z121).bind fun y123 =>
  ((m_w56q (y123, y108)).bind fun r124 =>
  (cond r124
   (some z121)
   (rec122 (IntKind.wrap .i64 (z121 + (1 : Int)))))))
  (some (-1 : Int)))) n z0)
def l_w57q_2 (n : Nat) (x_2 : (List (Int × (Int × (Int × Int))))) (z0 : (Int × (List (Int × Int)))) : Option ((List (Int × Int)) ⊕ Int) :=
(lp (fun rec107 (z106 : (Int × (List (Int × Int)))) =>
 (cond (decide (z106.1 < (lenI x_2)))
  ((geti x_2 z106.1).bind fun y108 =>
  ((m_w55q y108).bind fun r109 =>
  (cond (!(r109 == (0 : Int)))
   (some (Sum.inr r109))
   (chk (bndB none (some z106.1) none x_2.length)
    (Option.bind (α := Int)
     (l_w57q_1 n z106.1 x_2 y108 (0 : Int)) fun j126 =>
    (cond (decide (j126 ≥ (0 : Int)))
     (some (Sum.inr (7 : Int)))
     (rec107 (IntKind.wrap .i64 (z106.1 + (1 : Int)), (mupd (.int .i64) z106.2 y108.2.2.1 (IntKind.wrap .i64 ((mlook (.int .i64) z106.2 y108.2.2.1) + y108.2.2.2)))))))))))
  (some (Sum.inl z106.2)))) n z0)
def l_w57q_3 (n : Nat) (j128 : (List (Int × Int))) (z0 : (Int × (List Int))) : Option Int :=
(lp (fun rec140 (z139 : (Int × (List Int))) =>
 (chk (z139.1 == lenI j128)
 (drawM (leftM z139.1 z139.2) (fun y141 =>
 ((geti j128 y141).bind fun y142 =>
 (chk (z139.1 == lenI j128)
 (((z139.2 ++ [y141]).getLast?).bind fun y143 =>
 ((geti j128 y143).bind fun y144 =>
 (cond (!(y144.2 == (0 : Int)))
  (some (1 : Int))
  (rec140 (z139.1, (z139.2 ++ [y141])))))))))
  (some (0 : Int))))) n z0)
def p_w57q (n : Nat) (x : (Int × (List (Int × (Int × (Int × Int)))))) : Option Int :=
((m_w51q x.1).bind fun r1 =>
(cond (!r1)
 (some (3 : Int))
 ((m_w54q x.2).bind fun r2 =>
 ((m_w42q (r2, (2 : Int), (8 : Int))).bind fun r3 =>
 (cond (!r3)
  (some (2 : Int))
  (Option.bind (α := ((List (Int × Int)) ⊕ Int))
   (l_w57q_2 n x.2 ((0 : Int), ([] : List (Int × Int))))
   (Sum.elim (fun j128 =>
  (l_w57q_3 n j128 ((lenI j128), ([] : List Int)))) some)))))))
def m_w57q (x : (Int × (List (Int × (Int × (Int × Int)))))) : Option Int := p_w57q FU x
def a_w57q : Ann := (.node .leaf (.node .leaf (.node .leaf (.joinx [.map 1 (.int .i64) .i64] [2, 4, 5, 6, 21, 22, 23, 24, 25, 26, 27, 28, 29, 30, 31, 32, 33, 34, 35, 36, 37, 38, 39, 40, 41, 42, 43, 44, 45, 46, 47] (.node .leaf (.loop [.slot 24 (.int .i64), .map 1 (.int .i64) .i64] [2, 4, 5, 6, 25, 26, 27, 28, 29, 30, 31, 32, 33, 34, 35, 36, 37, 38, 39, 40, 41, 42, 43, 44, 45, 46, 47] (.node .leaf (.node .leaf (.node (.node .leaf (.node .leaf (.node (.node (.reg 39 (.node .leaf (.node (.regj 7 [.slot 7 (.int .i64)] [] (.node .leaf (.node (.node .leaf (.loop [.slot 8 (.int .i64)] [4, 5, 9, 10, 11, 12, 13, 14, 15, 16, 17, 18] .leaf)) .leaf)) .leaf) .leaf)) .leaf) .leaf) .leaf))) .leaf))))) (.node (.node .leaf (.loop [.iter 2 1] [2, 8, 50, 51, 52, 53, 54, 55] .leaf)) .leaf)))))
def S_w57q : FSpec := ⟨[.val Kd10], [(.int .i64)], m_w57q⟩

/-! impl.legsAt -/
def l_w58q_1 (n : Nat) (x_2 : Int) (x_1_2 : (List (Int × (Int × (Int × Int))))) (z0 : ((List (Int × (Int × (Int × Int)))) × Int)) : Option (List (Int × (Int × (Int × Int)))) :=
(lp (fun rec4 (z3 : ((List (Int × (Int × (Int × Int)))) × Int)) =>
 (cond (decide (z3.2 < (lenI x_1_2)))
  ((geti x_1_2 z3.2).bind fun y5 =>
  (cond (y5.1 == x_2)
   (chk (Nat.ble ((z3.1.length + [y5].length) * 32) maxBytes)
   (rec4 ((z3.1 ++ [y5]), IntKind.wrap .i64 (z3.2 + (1 : Int)))))
   (rec4 (z3.1, IntKind.wrap .i64 (z3.2 + (1 : Int))))))
  (some z3.1))) n z0)
def p_w58q (n : Nat) (x : ((Int × (List (Int × (Int × (Int × Int))))) × Int)) : Option (List (Int × (Int × (Int × Int)))) :=
(l_w58q_1 n x.2 x.1.2 (([] : List (Int × (Int × (Int × Int)))), (0 : Int)))
def m_w58q (x : ((Int × (List (Int × (Int × (Int × Int))))) × Int)) : Option (List (Int × (Int × (Int × Int)))) := p_w58q FU x
def a_w58q : Ann := (.node .leaf (.node .leaf (.node (.node .leaf (.loop [.slot 5 Kd11, .slot 12 (.int .i64)] [7, 13, 14, 15, 16, 17, 18, 19, 20, 21, 22, 23, 24] .leaf)) .leaf)))
def S_w58q : FSpec := ⟨[.val Kd10, .val (.int .i64)], [Kd11], m_w58q⟩

/-! impl.markAt$1 -/
def p_w59q (n : Nat) (x : ((Int × Int) × Int)) : Option Int :=
((m_w47q (x.1.1, x.2)).bind fun r1 =>
some r1)
def m_w59q (x : ((Int × Int) × Int)) : Option Int := p_w59q FU x
def a_w59q : Ann := .leaf
def S_w59q : FSpec := ⟨[.val Kd19, .val (.int .i64)], [(.int .i64)], m_w59q⟩

/-! impl.markAt -/
def l_w59q (n : Nat) (x_1 : (List (Int × Int))) (x_2 : Int) (z0 : (Int × Int)) : Option Int :=
(lp (fun rec13 (z12 : (Int × Int)) =>
 (cond (decide (z12.1 < z12.2))
  (chk (decide (0 ≤ (1 : Int)))
   ((geti x_1 (IntKind.wrap .i64 (Int.fdiv (IntKind.wrap .u64 (IntKind.wrap .i64 (z12.1 + z12.2))) (2 ^ (min (1 : Int).toNat 64))))).bind fun y14 =>
   ((m_w59q (y14, x_2)).bind fun r15 =>
   (cond (decide (r15 < (0 : Int)))
    (rec13 (IntKind.wrap .i64 ((IntKind.wrap .i64 (Int.fdiv (IntKind.wrap .u64 (IntKind.wrap .i64 (z12.1 + z12.2))) (2 ^ (min (1 : Int).toNat 64)))) + (1 : Int)), z12.2))
    (rec13 (z12.1, IntKind.wrap .i64 (Int.fdiv (IntKind.wrap .u64 (IntKind.wrap .i64 (z12.1 + z12.2))) (2 ^ (min (1 : Int).toNat 64)))))))))
  (some z12.1))) n z0)
def p_w60q (n : Nat) (x : ((List (Int × Int)) × Int)) : Option (Int × Bool) :=
(Option.bind (α := Int)
 (l_w59q n x.1 x.2 ((0 : Int), lenI x.1)) fun j17 =>
(cond (decide (j17 < (lenI x.1)))
 ((geti x.1 j17).bind fun y18 =>
 ((m_w59q (y18, x.2)).bind fun r19 =>
 some (j17, (r19 == (0 : Int)))))
 (some (j17, false))))
def m_w60q (x : ((List (Int × Int)) × Int)) : Option (Int × Bool) := p_w60q FU x
def a_w60q : Ann := (.node .leaf (.node (.reg 8 (.node .leaf (.node .leaf (.node .leaf (.join [.slot 9 (.int .i64)] [10, 11, 15, 16, 17, 18, 19, 20, 21, 22, 23, 24, 25, 26, 27, 28, 29, 30, 31, 32, 33, 34] (.loop [.slot 9 (.int .i64), .slot 10 (.int .i64)] [11, 15, 16, 17, 18, 19, 20, 21, 22, 23, 24, 25, 26, 27, 28, 29, 30, 31, 32, 33, 34] .leaf) .leaf)))) .leaf) .leaf))
def S_w60q : FSpec := ⟨[.val Kd18, .val (.int .i64)], [(.int .i64), .bool], m_w60q⟩

/-! impl.markOf -/
def p_w61q (n : Nat) (x : ((List (Int × Int)) × Int)) : Option Int :=
((m_w60q (x.1, x.2)).bind fun r1 =>
(cond (!r1.2)
 (some (0 : Int))
 ((geti x.1 r1.1).bind fun y2 =>
 some y2.2)))
def m_w61q (x : ((List (Int × Int)) × Int)) : Option Int := p_w61q FU x
def a_w61q : Ann := .leaf
def S_w61q : FSpec := ⟨[.val Kd18, .val (.int .i64)], [(.int .i64)], m_w61q⟩

/-! impl.Shard).heldFault -/
def l_w62q_1 (n : Nat) (x_1 : Int) (x_2_2_1 : (List (Int × Int))) (x_2_2_2_1 : (List (Int × (List (Int × (Int × (Int × Int))))))) (x_2_2_2_2_1 : (List (Int × Int))) (z0 : Int) : Option Int :=
(lp (fun rec20 (z19 : Int) =>
 (cond (decide (z19 < (lenI x_2_2_2_1)))
  ((geti x_2_2_2_1 z19).bind fun y21 =>
  ((m_w57q y21).bind fun r22 =>
  (cond (!(r22 == (0 : Int)))
   (some r22)
   (Option.bind (α := Bool)
    (cond (decide (z19 > (0 : Int)))
     ((geti x_2_2_2_1 (IntKind.wrap .i64 (z19 - (1 : Int)))).bind fun y30 =>
     (cond (decide (y30.1 ≥ y21.1))
      (some true)
      ((m_w58q (y21, x_1)).bind fun r31 =>
      (cond ((lenI r31) == (0 : Int))
       (some true)
       ((m_w61q (x_2_2_1, y21.1)).bind fun r32 =>
       (cond (!(r32 == (1 : Int)))
        (some true)
        ((m_w61q (x_2_2_2_2_1, y21.1)).bind fun r33 =>
        some (!(r33 == (0 : Int))))))))))
     ((m_w58q (y21, x_1)).bind fun r34 =>
     (cond ((lenI r34) == (0 : Int))
      (some true)
      ((m_w61q (x_2_2_1, y21.1)).bind fun r35 =>
      (cond (!(r35 == (1 : Int)))
       (some true)
       ((m_w61q (x_2_2_2_2_1, y21.1)).bind fun r36 =>
       some (!(r36 == (0 : Int))))))))) fun j37 =>
   (cond j37
    (some (1 : Int))
    (rec20 (IntKind.wrap .i64 (z19 + (1 : Int)))))))))
  (some (0 : Int)))) n z0)
def p_w62q (n : Nat) (x : (Int × ((List (Int × (Int × Int))) × ((List (Int × Int)) × ((List (Int × (List (Int × (Int × (Int × Int)))))) × ((List (Int × Int)) × (List Int))))))) : Option Int :=
(l_w62q_1 n x.1 x.2.2.1 x.2.2.2.1 x.2.2.2.2.1 (0 : Int))
def m_w62q (x : (Int × ((List (Int × (Int × Int))) × ((List (Int × Int)) × ((List (Int × (List (Int × (Int × (Int × Int)))))) × ((List (Int × Int)) × (List Int))))))) : Option Int := p_w62q FU x
def a_w62q : Ann := (.node .leaf (.node (.node .leaf (.loop [.slot 9 (.int .i64)] [2, 3, 4, 5, 10, 11, 12, 13, 14, 15, 16, 17, 18, 19, 20, 21, 22, 23, 24, 25, 26, 27, 28, 29, 30, 31, 32, 33, 34, 35, 36, 37, 38, 39, 40, 41, 42, 43, 44, 45, 46, 47, 48, 49, 50, 51, 52, 53, 54, 55, 56, 57] (.node .leaf (.node .leaf (.node (.node .leaf (.node .leaf (.join [.slot 56 .bool] [19, 20, 21, 22, 23, 24, 25, 26, 27, 28, 29, 30, 31, 32, 33, 34, 35, 36, 37, 38, 39, 40, 41, 42, 43, 44, 45, 46, 47, 48, 49, 50, 51, 52, 53, 54, 55] .leaf .leaf))) .leaf))))) .leaf))
def S_w62q : FSpec := ⟨[.val Kd6], [(.int .i64)], m_w62q⟩

/-! impl.firstOf -/
def l_w63q_1 (n : Nat) (x : (List Int)) (z0 : Int) : Option Int :=
(lp (fun rec4 (z3 : Int) =>
 (cond (decide (z3 < (lenI x)))
  ((geti x z3).bind fun y5 =>
  (cond (!(y5 == (0 : Int)))
   (some y5)
   (rec4 (IntKind.wrap .i64 (z3 + (1 : Int))))))
  (some (0 : Int)))) n z0)
def p_w63q (n : Nat) (x : (List Int)) : Option Int :=
(l_w63q_1 n x (0 : Int))
def m_w63q (x : (List Int)) : Option Int := p_w63q FU x
def a_w63q : Ann := (.node .leaf (.node (.node .leaf (.loop [.slot 7 (.int .i64)] [2, 4, 8, 9, 10, 11, 12, 13, 14] .leaf)) .leaf))
def S_w63q : FSpec := ⟨[.val Kd21], [(.int .i64)], m_w63q⟩

/-! impl.Shard).heldAt$1 -/
def p_w64q (n : Nat) (x : ((Int × (List (Int × (Int × (Int × Int))))) × Int)) : Option Int :=
((m_w47q (x.1.1, x.2)).bind fun r1 =>
some r1)
def m_w64q (x : ((Int × (List (Int × (Int × (Int × Int))))) × Int)) : Option Int := p_w64q FU x
def a_w64q : Ann := .leaf
def S_w64q : FSpec := ⟨[.val Kd10, .val (.int .i64)], [(.int .i64)], m_w64q⟩

/-! impl.Shard).heldAt -/
def l_w64q (n : Nat) (x_2 : Int) (x_1_2_2_2_1 : (List (Int × (List (Int × (Int × (Int × Int))))))) (z0 : (Int × Int)) : Option Int :=
(lp (fun rec13 (z12 : (Int × Int)) =>
 (cond (decide (z12.1 < z12.2))
  (chk (decide (0 ≤ (1 : Int)))
   ((geti x_1_2_2_2_1 (IntKind.wrap .i64 (Int.fdiv (IntKind.wrap .u64 (IntKind.wrap .i64 (z12.1 + z12.2))) (2 ^ (min (1 : Int).toNat 64))))).bind fun y14 =>
   ((m_w64q (y14, x_2)).bind fun r15 =>
   (cond (decide (r15 < (0 : Int)))
    (rec13 (IntKind.wrap .i64 ((IntKind.wrap .i64 (Int.fdiv (IntKind.wrap .u64 (IntKind.wrap .i64 (z12.1 + z12.2))) (2 ^ (min (1 : Int).toNat 64)))) + (1 : Int)), z12.2))
    (rec13 (z12.1, IntKind.wrap .i64 (Int.fdiv (IntKind.wrap .u64 (IntKind.wrap .i64 (z12.1 + z12.2))) (2 ^ (min (1 : Int).toNat 64)))))))))
  (some z12.1))) n z0)
def p_w65q (n : Nat) (x : ((Int × ((List (Int × (Int × Int))) × ((List (Int × Int)) × ((List (Int × (List (Int × (Int × (Int × Int)))))) × ((List (Int × Int)) × (List Int)))))) × Int)) : Option (Int × Bool) :=
(Option.bind (α := Int)
 (l_w64q n x.2 x.1.2.2.2.1 ((0 : Int), lenI x.1.2.2.2.1)) fun j17 =>
(cond (decide (j17 < (lenI x.1.2.2.2.1)))
 ((geti x.1.2.2.2.1 j17).bind fun y18 =>
 ((m_w64q (y18, x.2)).bind fun r19 =>
 some (j17, (r19 == (0 : Int)))))
 (some (j17, false))))
def m_w65q (x : ((Int × ((List (Int × (Int × Int))) × ((List (Int × Int)) × ((List (Int × (List (Int × (Int × (Int × Int)))))) × ((List (Int × Int)) × (List Int)))))) × Int)) : Option (Int × Bool) := p_w65q FU x
def a_w65q : Ann := (.node .leaf (.node (.reg 9 (.node .leaf (.node .leaf (.node .leaf (.join [.slot 9 (.int .i64)] [10, 11, 15, 16, 17, 18, 19, 20, 21, 22, 23, 24, 25, 26, 27, 28, 29, 30, 31, 32, 33, 34] (.loop [.slot 9 (.int .i64), .slot 10 (.int .i64)] [11, 15, 16, 17, 18, 19, 20, 21, 22, 23, 24, 25, 26, 27, 28, 29, 30, 31, 32, 33, 34] .leaf) .leaf)))) .leaf) .leaf))
def S_w65q : FSpec := ⟨[.val Kd6, .val (.int .i64)], [(.int .i64), .bool], m_w65q⟩

/-! impl.Shard).isOpen -/
def p_w66q (n : Nat) (x : ((Int × ((List (Int × (Int × Int))) × ((List (Int × Int)) × ((List (Int × (List (Int × (Int × (Int × Int)))))) × ((List (Int × Int)) × (List Int)))))) × (Int × Int))) : Option Bool :=
((m_w65q (x.1, x.2.1)).bind fun r1 =>
(cond (x.2.2 == (1 : Int))
 (cond (!r1.2)
  ((m_w61q (x.1.2.2.2.2.1, x.2.1)).bind fun r2 =>
  some (r2 == (0 : Int)))
  (some false))
 (some false)))
def m_w66q (x : ((Int × ((List (Int × (Int × Int))) × ((List (Int × Int)) × ((List (Int × (List (Int × (Int × (Int × Int)))))) × ((List (Int × Int)) × (List Int)))))) × (Int × Int))) : Option Bool := p_w66q FU x
def a_w66q : Ann := .leaf
def S_w66q : FSpec := ⟨[.val Kd6, .val Kd19], [.bool], m_w66q⟩

/-! slices.Sorted[int64] -/
def p_w67q (n : Nat) (x : (List Int)) : Option ((List Int) × (List Int)) :=
sortedRun x
def m_w67q (x : (List Int)) : Option ((List Int) × (List Int)) := p_w67q FU x
def a_w67q : Ann := .leaf
def S_w67q : FSpec := ⟨[.fbox 308 Kd21], [Kd20], m_w67q⟩

/-! slices.Equal[[]int64,int64] -/
def l_w68q_1 (n : Nat) (x_1 : (List Int)) (x_2 : (List Int)) (z0 : Int) : Option Bool :=
(lp (fun rec5 (z4 : Int) =>
 (cond (decide (z4 < (lenI x_1)))
  ((geti x_1 z4).bind fun y6 =>
  ((geti x_2 z4).bind fun y7 =>
  (cond (!(y6 == y7))
   (some false)
   (rec5 (IntKind.wrap .i64 (z4 + (1 : Int)))))))
  (some true))) n z0)
def p_w68q (n : Nat) (x : ((List Int) × (List Int))) : Option Bool :=
(cond (!((lenI x.1) == (lenI x.2)))
 (some false)
 (l_w68q_1 n x.1 x.2 (0 : Int)))
def m_w68q (x : ((List Int) × (List Int))) : Option Bool := p_w68q FU x
def a_w68q : Ann := (.node .leaf (.node .leaf (.node (.node .leaf (.loop [.slot 13 (.int .i64)] [4, 5, 14, 15, 16, 17, 18, 19, 20, 21, 22, 23, 24, 25] .leaf)) .leaf)))
def S_w68q : FSpec := ⟨[.val Kd21, .val Kd21], [.bool], m_w68q⟩

/-! impl.Shard).appliedOk -/
def l_w69q_1 (n : Nat) (x_2_2_2_2_1 : (List (Int × Int))) (z0 : ((List Int) × Int)) : Option (List Int) :=
(lp (fun rec10 (z9 : ((List Int) × Int)) =>
 (cond (decide (z9.2 < (lenI x_2_2_2_2_1)))
  ((geti x_2_2_2_2_1 z9.2).bind fun y11 =>
  (cond (y11.2 == (1 : Int))
   (chk (Nat.ble ((z9.1.length + [y11.1].length) * 8) maxBytes)
   (rec10 ((z9.1 ++ [y11.1]), IntKind.wrap .i64 (z9.2 + (1 : Int)))))
   (rec10 (z9.1, IntKind.wrap .i64 (z9.2 + (1 : Int))))))
  (some z9.1))) n z0)
def p_w69q (n : Nat) (x : (Int × ((List (Int × (Int × Int))) × ((List (Int × Int)) × ((List (Int × (List (Int × (Int × (Int × Int)))))) × ((List (Int × Int)) × (List Int))))))) : Option Bool :=
(Option.bind (α := (List Int))
 (l_w69q_1 n x.2.2.2.2.1 (([] : List Int), (0 : Int))) fun j13 =>
((m_w67q x.2.2.2.2.2).bind fun r14 =>
((m_w68q (r14.1, j13)).bind fun r15 =>
some r15)))
def m_w69q (x : (Int × ((List (Int × (Int × Int))) × ((List (Int × Int)) × ((List (Int × (List (Int × (Int × (Int × Int)))))) × ((List (Int × Int)) × (List Int))))))) : Option Bool := p_w69q FU x
def a_w69q : Ann := (.node .leaf (.node .leaf (.join [.slot 3 Kd20] [5, 7, 8, 9, 10, 11, 12, 13, 14, 15, 16, 17, 18, 19, 20, 21, 22] (.node .leaf (.loop [.slot 3 Kd20, .slot 10 (.int .i64)] [5, 11, 12, 13, 14, 15, 16, 17, 18, 19, 20, 21, 22] .leaf)) .leaf)))
def S_w69q : FSpec := ⟨[.val Kd6], [.bool], m_w69q⟩

/-! impl.Shard).legsMeet -/
def l_w70q_1 (n : Nat) (r67 : (List (Int × (Int × (Int × Int))))) (y66 : (Int × (Int × (Int × Int)))) (z0 : Int) : Option Int :=
(lp (fun rec80 (z79 : Int) =>
 (cond (decide (z79 < (lenI r67)))
  ((geti r67 z79).bind fun _ =>
  ((r67[z79.toNat]?).bind fun y81 =>
  ((m_w56q (y66, y81)).bind fun r82 =>
  (cond r82
   (some z79)
   (rec80 (IntKind.wrap .i64 (z79 + (1 : Int))))))))
  (some (-1 : Int)))) n z0)
def l_w70q_2 (n : Nat) (r1 : (List (Int × (Int × (Int × Int))))) (x_1_1 : Int) (x_2_2 : (Int × (List (Int × (Int × (Int × Int)))))) (z0 : Int) : Option Int :=
(lp (fun rec65 (z64 : Int) =>
 (cond (decide (z64 < (lenI r1)))
  ((geti r1 z64).bind fun _ =>
  ((r1[z64.toNat]?).bind fun y66 =>
  ((m_w58q (x_2_2, x_1_1)).bind fun r67 =>
  (Option.bind (α := Int)
   (l_w70q_1 n r67 y66 (0 : Int)) fun j84 =>
  (cond (decide (j84 ≥ (0 : Int)))
   (some z64)
   (rec65 (IntKind.wrap .i64 (z64 + (1 : Int)))))))))
  (some (-1 : Int)))) n z0)
def p_w70q (n : Nat) (x : ((Int × ((List (Int × (Int × Int))) × ((List (Int × Int)) × ((List (Int × (List (Int × (Int × (Int × Int)))))) × ((List (Int × Int)) × (List Int)))))) × ((Int × (List (Int × (Int × (Int × Int))))) × (Int × (List (Int × (Int × (Int × Int)))))))) : Option Bool :=
((m_w58q (x.2.1, x.1.1)).bind fun r1 =>
(Option.bind (α := Int)
 (l_w70q_2 n r1 x.1.1 x.2.2 (0 : Int)) fun j86 =>
some (decide (j86 ≥ (0 : Int)))))
def m_w70q (x : ((Int × ((List (Int × (Int × Int))) × ((List (Int × Int)) × ((List (Int × (List (Int × (Int × (Int × Int)))))) × ((List (Int × Int)) × (List Int)))))) × ((Int × (List (Int × (Int × (Int × Int))))) × (Int × (List (Int × (Int × (Int × Int)))))))) : Option Bool := p_w70q FU x
def a_w70q : Ann := (.node .leaf (.node (.reg 12 (.node .leaf (.node (.regj 7 [.slot 7 (.int .i64)] [] (.node .leaf (.node (.node .leaf (.loop [.slot 8 (.int .i64)] [4, 5, 9, 10, 11, 12, 13, 14, 15, 16, 17, 18] (.node .leaf (.node .leaf (.node (.node .leaf (.node (.reg 16 (.node .leaf (.node (.reg 10 (.node .leaf (.node (.regj 7 [.slot 7 (.int .i64)] [] (.node .leaf (.node (.node .leaf (.loop [.slot 8 (.int .i64)] [4, 5, 9, 10, 11, 12, 13, 14, 15, 16, 17, 18] .leaf)) .leaf)) .leaf) .leaf)) .leaf) .leaf)) .leaf) .leaf)) .leaf))))) .leaf)) .leaf) .leaf)) .leaf) .leaf))
def S_w70q : FSpec := ⟨[.val Kd6, .val Kd10, .val Kd10], [.bool], m_w70q⟩

/-! impl.amountIn -/
def l_w71q_1 (n : Nat) (x_1 : (List (Int × (Int × Int)))) (x_2_1 : Int) (x_2_2 : Int) (z0 : (Int × Int)) : Option Int :=
(lp (fun rec32 (z31 : (Int × Int)) =>
 (cond (decide (z31.1 < z31.2))
  (chk (decide (0 ≤ (1 : Int)))
   ((geti x_1 (IntKind.wrap .i64 (Int.fdiv (IntKind.wrap .u64 (IntKind.wrap .i64 (z31.1 + z31.2))) (2 ^ (min (1 : Int).toNat 64))))).bind fun y33 =>
   ((m_w49q (y33, (x_2_1, (x_2_2, (0 : Int))))).bind fun r34 =>
   (cond (decide (r34 < (0 : Int)))
    (rec32 (IntKind.wrap .i64 ((IntKind.wrap .i64 (Int.fdiv (IntKind.wrap .u64 (IntKind.wrap .i64 (z31.1 + z31.2))) (2 ^ (min (1 : Int).toNat 64)))) + (1 : Int)), z31.2))
    (rec32 (z31.1, IntKind.wrap .i64 (Int.fdiv (IntKind.wrap .u64 (IntKind.wrap .i64 (z31.1 + z31.2))) (2 ^ (min (1 : Int).toNat 64)))))))))
  (some z31.1))) n z0)
def p_w71q (n : Nat) (x : ((List (Int × (Int × Int))) × (Int × Int))) : Option Int :=
(Option.bind (α := (Int × Bool))
 (Option.bind (α := Int)
  (l_w71q_1 n x.1 x.2.1 x.2.2 ((0 : Int), lenI x.1)) fun j36 =>
 (cond (decide (j36 < (lenI x.1)))
  ((geti x.1 j36).bind fun y37 =>
  ((m_w49q (y37, (x.2.1, (x.2.2, (0 : Int))))).bind fun r38 =>
  some (j36, (r38 == (0 : Int)))))
  (some (j36, false)))) fun j39 =>
(cond (!j39.2)
 (some (0 : Int))
 ((geti x.1 j39.1).bind fun y40 =>
 some y40.2.2)))
def m_w71q (x : ((List (Int × (Int × Int))) × (Int × Int))) : Option Int := p_w71q FU x
def a_w71q : Ann := (.node .leaf (.join [.slot 7 (.int .i64), .slot 8 .bool] [9, 10, 11, 12, 13, 14, 15, 16] (.reg 14 (.node .leaf (.node .leaf (.node .leaf (.join [.slot 9 (.int .i64)] [10, 11, 15, 16, 17, 18, 19, 20, 21, 22, 23, 24, 25, 26, 27, 28, 29, 30, 31, 32, 33, 34] (.loop [.slot 9 (.int .i64), .slot 10 (.int .i64)] [11, 15, 16, 17, 18, 19, 20, 21, 22, 23, 24, 25, 26, 27, 28, 29, 30, 31, 32, 33, 34] .leaf) .leaf)))) .leaf) .leaf))
def S_w71q : FSpec := ⟨[.val Kd15, .val (.int .i64), .val (.int .i64)], [(.int .i64)], m_w71q⟩

/-! impl.legCode -/
def p_w72q (n : Nat) (x : ((List (Int × (Int × Int))) × (Int × (Int × (Int × Int))))) : Option Int :=
((m_w71q (x.1, x.2.2.1, x.2.2.2.1)).bind fun r1 =>
(cond (decide ((IntKind.wrap .i64 (r1 + x.2.2.2.2)) < (0 : Int)))
 (some (6 : Int))
 (cond (decide ((IntKind.wrap .i64 (r1 + x.2.2.2.2)) > (1000000000000 : Int)))
  (some (3 : Int))
  (some (0 : Int)))))
def m_w72q (x : ((List (Int × (Int × Int))) × (Int × (Int × (Int × Int))))) : Option Int := p_w72q FU x
def a_w72q : Ann := .leaf
def S_w72q : FSpec := ⟨[.val Kd15, .val Kd13], [(.int .i64)], m_w72q⟩

/-! impl.Shard).fits -/
def l_w73q_1 (n : Nat) (r1 : (List (Int × (Int × (Int × Int))))) (x_1_2_1 : (List (Int × (Int × Int)))) (z0 : Int) : Option Int :=
(lp (fun rec6 (z5 : Int) =>
 (cond (decide (z5 < (lenI r1)))
  ((geti r1 z5).bind fun _ =>
  ((r1[z5.toNat]?).bind fun y7 =>
  ((m_w72q (x_1_2_1, y7)).bind fun r8 =>
  (cond (!(r8 == (0 : Int)))
   (some r8)
   (rec6 (IntKind.wrap .i64 (z5 + (1 : Int))))))))
  (some (0 : Int)))) n z0)
def p_w73q (n : Nat) (x : ((Int × ((List (Int × (Int × Int))) × ((List (Int × Int)) × ((List (Int × (List (Int × (Int × (Int × Int)))))) × ((List (Int × Int)) × (List Int)))))) × (Int × (List (Int × (Int × (Int × Int))))))) : Option Int :=
((m_w58q (x.2, x.1.1)).bind fun r1 =>
(l_w73q_1 n r1 x.1.2.1 (0 : Int)))
def m_w73q (x : ((Int × ((List (Int × (Int × Int))) × ((List (Int × Int)) × ((List (Int × (List (Int × (Int × (Int × Int)))))) × ((List (Int × Int)) × (List Int)))))) × (Int × (List (Int × (Int × (Int × Int))))))) : Option Int := p_w73q FU x
def a_w73q : Ann := (.node .leaf (.node (.node .leaf (.loop [.slot 13 (.int .i64)] [4, 6, 7, 14, 15, 16, 17, 18, 19, 20, 21, 22, 23, 24] .leaf)) .leaf))
def S_w73q : FSpec := ⟨[.val Kd6, .val Kd10], [(.int .i64)], m_w73q⟩

/-! impl.Shard).heldTogether -/
def l_w74q_1 (n : Nat) (z60 : Int) (x : (Int × ((List (Int × (Int × Int))) × ((List (Int × Int)) × ((List (Int × (List (Int × (Int × (Int × Int)))))) × ((List (Int × Int)) × (List Int))))))) (y62 : (Int × (List (Int × (Int × (Int × Int)))))) (z0 : Int) : Option Int :=
(lp (fun rec75 (z74 : Int) =>
 (cond (decide (z74 < (lenI (cutL none (some z60) x.2.2.2.1))))
  ((geti (cutL none (some z60) x.2.2.2.1) z74).bind fun y76 =>
  ((m_w70q (x, y76, y62)).bind fun r77 =>
  (cond r77
   (some z74)
   (rec75 (IntKind.wrap .i64 (z74 + (1 : Int)))))))
  (some (-1 : Int)))) n z0)
def l_w74q_2 (n : Nat) (x : (Int × ((List (Int × (Int × Int))) × ((List (Int × Int)) × ((List (Int × (List (Int × (Int × (Int × Int)))))) × ((List (Int × Int)) × (List Int))))))) (z0 : Int) : Option (Unit ⊕ Int) :=
(lp (fun rec61 (z60 : Int) =>
 (cond (decide (z60 < (lenI x.2.2.2.1)))
  ((geti x.2.2.2.1 z60).bind fun y62 =>
  (chk (bndB none (some z60) none x.2.2.2.1.length)
   (Option.bind (α := Int)
    (l_w74q_1 n z60 x y62 (0 : Int)) fun j79 =>
   (cond (decide (j79 ≥ (0 : Int)))
    (some (Sum.inr (7 : Int)))
    (rec61 (IntKind.wrap .i64 (z60 + (1 : Int))))))))
  (some (Sum.inl ())))) n z0)
def l_w74q_3 (n : Nat) (x : (Int × ((List (Int × (Int × Int))) × ((List (Int × Int)) × ((List (Int × (List (Int × (Int × (Int × Int)))))) × ((List (Int × Int)) × (List Int))))))) (z0 : Int) : Option Int :=
(lp (fun rec86 (z85 : Int) =>
 (cond (decide (z85 < (lenI x.2.2.2.1)))
  ((geti x.2.2.2.1 z85).bind fun y87 =>
  ((m_w73q (x, y87)).bind fun r88 =>
  (cond (!(r88 == (0 : Int)))
   (some r88)
   (rec86 (IntKind.wrap .i64 (z85 + (1 : Int)))))))
  (some (0 : Int)))) n z0)
def p_w74q (n : Nat) (x : (Int × ((List (Int × (Int × Int))) × ((List (Int × Int)) × ((List (Int × (List (Int × (Int × (Int × Int)))))) × ((List (Int × Int)) × (List Int))))))) : Option Int :=
(Option.bind (α := (Unit ⊕ Int))
 (l_w74q_2 n x (0 : Int))
 (Sum.elim (fun j81 =>
(l_w74q_3 n x (0 : Int))) some))
def m_w74q (x : (Int × ((List (Int × (Int × Int))) × ((List (Int × Int)) × ((List (Int × (List (Int × (Int × (Int × Int)))))) × ((List (Int × Int)) × (List Int))))))) : Option Int := p_w74q FU x
def a_w74q : Ann := (.node .leaf (.joinx [] [2, 3, 4, 8, 9, 10, 11, 12, 13, 14, 15, 16, 17, 18, 19, 20, 21, 22] (.node .leaf (.loop [.slot 11 (.int .i64)] [2, 3, 4, 12, 13, 14, 15, 16, 17, 18, 19, 20, 21, 22] (.node .leaf (.node .leaf (.node (.node .leaf (.node (.reg 21 (.node .leaf (.node (.regj 7 [.slot 7 (.int .i64)] [] (.node .leaf (.node (.node .leaf (.loop [.slot 8 (.int .i64)] [4, 5, 9, 10, 11, 12, 13, 14, 15, 16, 17, 18] .leaf)) .leaf)) .leaf) .leaf)) .leaf) .leaf)) .leaf))))) (.node (.node .leaf (.loop [.slot 26 (.int .i64)] [2, 6, 7, 27, 28, 29, 30, 31, 32, 33, 34, 35, 36] .leaf)) .leaf)))
def S_w74q : FSpec := ⟨[.val Kd6], [(.int .i64)], m_w74q⟩

/-! impl.ShardFault -/
def l_w75q_1 (n : Nat) (x_2_2_1 : (List (Int × Int))) (z0 : Int) : Option Int :=
(lp (fun rec36 (z35 : Int) =>
 (cond (decide (z35 < (lenI x_2_2_1)))
  ((geti x_2_2_1 z35).bind fun y37 =>
  (Option.bind (α := Bool)
   ((m_w51q y37.1).bind fun r40 =>
   (cond (!r40)
    (some true)
    ((m_w52q y37.2).bind fun r41 =>
    some (!r41)))) fun j42 =>
  (cond j42
   (some (3 : Int))
   (Option.bind (α := Bool)
    (cond (decide (z35 > (0 : Int)))
     ((geti x_2_2_1 (IntKind.wrap .i64 (z35 - (1 : Int)))).bind fun y44 =>
     some (decide (y44.1 ≥ y37.1)))
     (some false)) fun j45 =>
   (cond j45
    (some (1 : Int))
    (rec36 (IntKind.wrap .i64 (z35 + (1 : Int)))))))))
  (some (0 : Int)))) n z0)
def l_w75q_2 (n : Nat) (x_2_2_2_2_1 : (List (Int × Int))) (z0 : Int) : Option Int :=
(lp (fun rec81 (z80 : Int) =>
 (cond (decide (z80 < (lenI x_2_2_2_2_1)))
  ((geti x_2_2_2_2_1 z80).bind fun y82 =>
  (Option.bind (α := Bool)
   ((m_w51q y82.1).bind fun r85 =>
   (cond (!r85)
    (some true)
    ((m_w53q y82.2).bind fun r86 =>
    some (!r86)))) fun j87 =>
  (cond j87
   (some (3 : Int))
   (Option.bind (α := Bool)
    (cond (decide (z80 > (0 : Int)))
     ((geti x_2_2_2_2_1 (IntKind.wrap .i64 (z80 - (1 : Int)))).bind fun y89 =>
     some (decide (y89.1 ≥ y82.1)))
     (some false)) fun j90 =>
   (cond j90
    (some (1 : Int))
    (rec81 (IntKind.wrap .i64 (z80 + (1 : Int)))))))))
  (some (0 : Int)))) n z0)
def l_w75q_3 (n : Nat) (x : (Int × ((List (Int × (Int × Int))) × ((List (Int × Int)) × ((List (Int × (List (Int × (Int × (Int × Int)))))) × ((List (Int × Int)) × (List Int))))))) (z0 : Int) : Option Int :=
(lp (fun rec125 (z124 : Int) =>
 (cond (decide (z124 < (lenI x.2.2.1)))
  ((geti x.2.2.1 z124).bind fun y126 =>
  ((m_w66q (x, y126)).bind fun r127 =>
  (cond r127
   (some z124)
   (rec125 (IntKind.wrap .i64 (z124 + (1 : Int)))))))
  (some (-1 : Int)))) n z0)
def p_w75q (n : Nat) (x : (Int × ((List (Int × (Int × Int))) × ((List (Int × Int)) × ((List (Int × (List (Int × (Int × (Int × Int)))))) × ((List (Int × Int)) × (List Int))))))) : Option Int :=
((m_w43q x.1).bind fun r1 =>
(cond (!r1)
 (some (3 : Int))
 ((m_w50q x.2.1).bind fun r2 =>
 (cond (!(r2 == (0 : Int)))
  (some r2)
  (cond (decide ((if (lenI x.2.2.2.2.2) > (if (lenI x.2.2.2.2.1) > (if (lenI x.2.2.2.1) > (lenI x.2.2.1) then lenI x.2.2.2.1 else lenI x.2.2.1) then lenI x.2.2.2.2.1 else (if (lenI x.2.2.2.1) > (lenI x.2.2.1) then lenI x.2.2.2.1 else lenI x.2.2.1)) then lenI x.2.2.2.2.2 else (if (lenI x.2.2.2.2.1) > (if (lenI x.2.2.2.1) > (lenI x.2.2.1) then lenI x.2.2.2.1 else lenI x.2.2.1) then lenI x.2.2.2.2.1 else (if (lenI x.2.2.2.1) > (lenI x.2.2.1) then lenI x.2.2.2.1 else lenI x.2.2.1))) > (100 : Int)))
   (some (2 : Int))
   (Option.bind (α := Int)
    (l_w75q_1 n x.2.2.1 (0 : Int)) fun j47 =>
   (Option.bind (α := Int)
    (l_w75q_2 n x.2.2.2.2.1 (0 : Int)) fun j92 =>
   ((m_w62q x).bind fun r93 =>
   ((m_w63q [j47, j92, r93]).bind fun r94 =>
   (cond (!(r94 == (0 : Int)))
    (some r94)
    (Option.bind (α := Bool)
     (Option.bind (α := Int)
      (l_w75q_3 n x (0 : Int)) fun j129 =>
     (cond (decide (j129 ≥ (0 : Int)))
      (some true)
      ((m_w69q x).bind fun r130 =>
      some (!r130)))) fun j131 =>
    (cond j131
     (some (1 : Int))
     ((m_w74q x).bind fun r132 =>
     some r132)))))))))))))
def m_w75q (x : (Int × ((List (Int × (Int × Int))) × ((List (Int × Int)) × ((List (Int × (List (Int × (Int × (Int × Int)))))) × ((List (Int × Int)) × (List Int))))))) : Option Int := p_w75q FU x
def a_w75q : Ann := (.node .leaf (.node .leaf (.node .leaf (.node .leaf (.node (.node (.regj 31 [.slot 31 (.int .i64)] [] (.node .leaf (.node (.node .leaf (.loop [.slot 9 (.int .i64)] [4, 5, 6, 10, 11, 12, 13, 14, 15, 16, 17, 18, 19, 20, 21, 22, 23, 24, 25, 26, 27, 28, 29, 30, 31, 32, 33, 34, 35, 36, 37, 38, 39, 40] (.node .leaf (.node .leaf (.node (.node .leaf (.join [.slot 14 .bool] [15, 16, 17, 18, 19, 20, 21, 22, 23, 24, 25] .leaf (.node .leaf (.join [.slot 26 .bool] [27, 28, 29, 30, 31, 32, 33, 34, 35, 36, 37, 38, 39] .leaf .leaf)))) .leaf))))) .leaf)) (.regj 34 [.slot 34 (.int .i64)] [] (.node .leaf (.node (.node .leaf (.loop [.slot 9 (.int .i64)] [4, 5, 6, 10, 11, 12, 13, 14, 15, 16, 17, 18, 19, 20, 21, 22, 23, 24, 25, 26, 27, 28, 29, 30, 31, 32, 33, 34, 35, 36, 37, 38, 39, 40] (.node .leaf (.node .leaf (.node (.node .leaf (.join [.slot 14 .bool] [15, 16, 17, 18, 19, 20, 21, 22, 23, 24, 25] .leaf (.node .leaf (.join [.slot 26 .bool] [27, 28, 29, 30, 31, 32, 33, 34, 35, 36, 37, 38, 39] .leaf .leaf)))) .leaf))))) .leaf)) (.lazy 37 .leaf))) .leaf) (.node (.join [.slot 51 .bool] [42, 43, 44, 45, 46, 47, 48, 49, 50] (.reg 46 (.node .leaf (.node (.regj 7 [.slot 7 (.int .i64)] [] (.node .leaf (.node (.node .leaf (.loop [.slot 8 (.int .i64)] [4, 5, 9, 10, 11, 12, 13, 14, 15, 16, 17, 18] .leaf)) .leaf)) .leaf) .leaf)) .leaf) .leaf) .leaf))))))
def S_w75q : FSpec := ⟨[.val Kd6], [(.int .i64)], m_w75q⟩

/-! impl.Balance] -/
def p_w76q (n : Nat) (x : (List (Int × (Int × Int)))) : Option (List (Int × (Int × Int))) :=
(cond (List.isEmpty x)
 (same
  (some [])
  (chk (Nat.ble ((([] : List (Int × (Int × Int))).length + x.length) * 24) maxBytes)
  (some (([] : List (Int × (Int × Int))) ++ x))))
 (chk (Nat.ble ((([] : List (Int × (Int × Int))).length + x.length) * 24) maxBytes)
 (some (([] : List (Int × (Int × Int))) ++ x))))
def m_w76q (x : (List (Int × (Int × Int)))) : Option (List (Int × (Int × Int))) := p_w76q FU x
def a_w76q : Ann := .leaf
def S_w76q : FSpec := ⟨[.val Kd15], [Kd14], m_w76q⟩

/-! impl.Mark] -/
def p_w77q (n : Nat) (x : (List (Int × Int))) : Option (List (Int × Int)) :=
(cond (List.isEmpty x)
 (same
  (some [])
  (chk (Nat.ble ((([] : List (Int × Int)).length + x.length) * 16) maxBytes)
  (some (([] : List (Int × Int)) ++ x))))
 (chk (Nat.ble ((([] : List (Int × Int)).length + x.length) * 16) maxBytes)
 (some (([] : List (Int × Int)) ++ x))))
def m_w77q (x : (List (Int × Int))) : Option (List (Int × Int)) := p_w77q FU x
def a_w77q : Ann := .leaf
def S_w77q : FSpec := ⟨[.val Kd18], [Kd17], m_w77q⟩

/-! impl.Leg] -/
def p_w78q (n : Nat) (x : (List (Int × (Int × (Int × Int))))) : Option (List (Int × (Int × (Int × Int)))) :=
(cond (List.isEmpty x)
 (same
  (some [])
  (chk (Nat.ble ((([] : List (Int × (Int × (Int × Int)))).length + x.length) * 32) maxBytes)
  (some (([] : List (Int × (Int × (Int × Int)))) ++ x))))
 (chk (Nat.ble ((([] : List (Int × (Int × (Int × Int)))).length + x.length) * 32) maxBytes)
 (some (([] : List (Int × (Int × (Int × Int)))) ++ x))))
def m_w78q (x : (List (Int × (Int × (Int × Int))))) : Option (List (Int × (Int × (Int × Int)))) := p_w78q FU x
def a_w78q : Ann := .leaf
def S_w78q : FSpec := ⟨[.val Kd12], [Kd11], m_w78q⟩

/-! impl.copyContract -/
def p_w79q (n : Nat) (x : (Int × (List (Int × (Int × (Int × Int)))))) : Option (Int × (List (Int × (Int × (Int × Int))))) :=
((m_w78q x.2).bind fun r1 =>
some (x.1, r1))
def m_w79q (x : (Int × (List (Int × (Int × (Int × Int)))))) : Option (Int × (List (Int × (Int × (Int × Int))))) := p_w79q FU x
def a_w79q : Ann := .leaf
def S_w79q : FSpec := ⟨[.val Kd10], [Kd9], m_w79q⟩

/-! impl.copyContracts -/
def l_w80q_1 (n : Nat) (x : (List (Int × (List (Int × (Int × (Int × Int))))))) (z0 : ((List (Int × (List (Int × (Int × (Int × Int)))))) × Int)) : Option (List (Int × (List (Int × (Int × (Int × Int)))))) :=
(lp (fun rec5 (z4 : ((List (Int × (List (Int × (Int × (Int × Int)))))) × Int)) =>
 (cond (decide (z4.2 < (lenI x)))
  ((geti x z4.2).bind fun y6 =>
  ((m_w79q y6).bind fun r7 =>
  (chk (Nat.ble ((z4.1.length + [r7].length) * 32) maxBytes)
  (rec5 ((z4.1 ++ [r7]), IntKind.wrap .i64 (z4.2 + (1 : Int)))))))
  (some z4.1))) n z0)
def p_w80q (n : Nat) (x : (List (Int × (List (Int × (Int × (Int × Int))))))) : Option (List (Int × (List (Int × (Int × (Int × Int)))))) :=
(l_w80q_1 n x (([] : List (Int × (List (Int × (Int × (Int × Int)))))), (0 : Int)))
def m_w80q (x : (List (Int × (List (Int × (Int × (Int × Int))))))) : Option (List (Int × (List (Int × (Int × (Int × Int)))))) := p_w80q FU x
def a_w80q : Ann := (.node .leaf (.node (.own 6 Kd9 .leaf) (.node (.node .leaf (.loop [.slot 3 Kd7, .slot 9 (.int .i64)] [5, 10, 11, 12, 13, 14, 15, 16, 17, 18] (.node .leaf (.node .leaf (.node (.node .leaf (.own 16 Kd9 .leaf)) .leaf))))) .leaf)))
def S_w80q : FSpec := ⟨[.val Kd8], [Kd7], m_w80q⟩

/-! slices.Clone[[]int64,int64] -/
def p_w81q (n : Nat) (x : (List Int)) : Option (List Int) :=
(cond (List.isEmpty x)
 (same
  (some [])
  (chk (Nat.ble ((([] : List Int).length + x.length) * 8) maxBytes)
  (some (([] : List Int) ++ x))))
 (chk (Nat.ble ((([] : List Int).length + x.length) * 8) maxBytes)
 (some (([] : List Int) ++ x))))
def m_w81q (x : (List Int)) : Option (List Int) := p_w81q FU x
def a_w81q : Ann := .leaf
def S_w81q : FSpec := ⟨[.val Kd21], [Kd20], m_w81q⟩

/-! impl.copyShard -/
def p_w82q (n : Nat) (x : (Int × ((List (Int × (Int × Int))) × ((List (Int × Int)) × ((List (Int × (List (Int × (Int × (Int × Int)))))) × ((List (Int × Int)) × (List Int))))))) : Option (Int × ((List (Int × (Int × Int))) × ((List (Int × Int)) × ((List (Int × (List (Int × (Int × (Int × Int)))))) × ((List (Int × Int)) × (List Int)))))) :=
((m_w76q x.2.1).bind fun r1 =>
((m_w77q x.2.2.1).bind fun r2 =>
((m_w80q x.2.2.2.1).bind fun r3 =>
((m_w77q x.2.2.2.2.1).bind fun r4 =>
((m_w81q x.2.2.2.2.2).bind fun r5 =>
some (x.1, (r1, (r2, (r3, (r4, r5))))))))))
def m_w82q (x : (Int × ((List (Int × (Int × Int))) × ((List (Int × Int)) × ((List (Int × (List (Int × (Int × (Int × Int)))))) × ((List (Int × Int)) × (List Int))))))) : Option (Int × ((List (Int × (Int × Int))) × ((List (Int × Int)) × ((List (Int × (List (Int × (Int × (Int × Int)))))) × ((List (Int × Int)) × (List Int)))))) := p_w82q FU x
def a_w82q : Ann := .leaf
def S_w82q : FSpec := ⟨[.val Kd6], [Kd4], m_w82q⟩

/-! impl.Mark] -/
def p_w83q (n : Nat) (x : ((List (Int × Int)) × (Int × (List (Int × Int))))) : Option ((List (Int × Int)) × (Bool × Bool)) :=
(insRun 16 x).map fun y => (y, (true, true))
def m_w83q (x : ((List (Int × Int)) × (Int × (List (Int × Int))))) : Option ((List (Int × Int)) × (Bool × Bool)) := p_w83q FU x
def a_w83q : Ann := .leaf
def S_w83q : FSpec := ⟨[.own 194 Kd19, .val (.int .i64), .own 194 Kd19], [Kd17], m_w83q⟩

/-! impl.withMark -/
def p_w84q (n : Nat) (x : ((List (Int × Int)) × (Int × Int))) : Option (List (Int × Int)) :=
((m_w60q (x.1, x.2.1)).bind fun r1 =>
(dup 1
 ((m_w77q x.1).bind fun r2 =>
 ((m_w83q (r2, r1.1, [x.2])).bind fun r3 =>
 some r3.1))))
def m_w84q (x : ((List (Int × Int)) × (Int × Int))) : Option (List (Int × Int)) := p_w84q FU x
def a_w84q : Ann := .leaf
def S_w84q : FSpec := ⟨[.val Kd18, .val Kd19], [Kd17], m_w84q⟩

/-! impl.Balance] -/
def p_w85q (n : Nat) (x : ((List (Int × (Int × Int))) × (Int × (List (Int × (Int × Int)))))) : Option ((List (Int × (Int × Int))) × (Bool × Bool)) :=
(insRun 24 x).map fun y => (y, (true, true))
def m_w85q (x : ((List (Int × (Int × Int))) × (Int × (List (Int × (Int × Int)))))) : Option ((List (Int × (Int × Int))) × (Bool × Bool)) := p_w85q FU x
def a_w85q : Ann := .leaf
def S_w85q : FSpec := ⟨[.own 190 Kd16, .val (.int .i64), .own 190 Kd16], [Kd14], m_w85q⟩

/-! impl.Balance] -/
def p_w86q (n : Nat) (x : ((List (Int × (Int × Int))) × (Int × Int))) : Option ((List (Int × (Int × Int))) × Bool) :=
(delRun x).map fun y => (y, true)
def m_w86q (x : ((List (Int × (Int × Int))) × (Int × Int))) : Option ((List (Int × (Int × Int))) × Bool) := p_w86q FU x
def a_w86q : Ann := .leaf
def S_w86q : FSpec := ⟨[.own 190 Kd16, .val (.int .i64), .val (.int .i64)], [Kd14], m_w86q⟩

/-! impl.added -/
def l_w87q_1 (n : Nat) (r1 : (List (Int × (Int × Int)))) (x_2_2_1 : Int) (x_2_2_2_1 : Int) (z0 : (Int × Int)) : Option Int :=
(lp (fun rec33 (z32 : (Int × Int)) =>
 (cond (decide (z32.1 < z32.2))
  (chk (decide (0 ≤ (1 : Int)))
   ((geti r1 (IntKind.wrap .i64 (Int.fdiv (IntKind.wrap .u64 (IntKind.wrap .i64 (z32.1 + z32.2))) (2 ^ (min (1 : Int).toNat 64))))).bind fun _ =>
   ((r1[(IntKind.wrap .i64 (Int.fdiv (IntKind.wrap .u64 (IntKind.wrap .i64 (z32.1 + z32.2))) (2 ^ (min (1 : Int).toNat 64)))).toNat]?).bind fun y34 =>
   ((m_w49q (y34, (x_2_2_1, (x_2_2_2_1, (0 : Int))))).bind fun r35 =>
   (cond (decide (r35 < (0 : Int)))
    (rec33 (IntKind.wrap .i64 ((IntKind.wrap .i64 (Int.fdiv (IntKind.wrap .u64 (IntKind.wrap .i64 (z32.1 + z32.2))) (2 ^ (min (1 : Int).toNat 64)))) + (1 : Int)), z32.2))
    (rec33 (z32.1, IntKind.wrap .i64 (Int.fdiv (IntKind.wrap .u64 (IntKind.wrap .i64 (z32.1 + z32.2))) (2 ^ (min (1 : Int).toNat 64))))))))))
  (some z32.1))) n z0)
def p_w87q (n : Nat) (x : ((List (Int × (Int × Int))) × (Int × (Int × (Int × Int))))) : Option (List (Int × (Int × Int))) :=
((m_w76q x.1).bind fun r1 =>
(Option.bind (α := (Int × Bool))
 (Option.bind (α := Int)
  (l_w87q_1 n r1 x.2.2.1 x.2.2.2.1 ((0 : Int), lenI r1)) fun j37 =>
 (cond (decide (j37 < (lenI r1)))
  ((geti r1 j37).bind fun _ =>
  ((r1[j37.toNat]?).bind fun y38 =>
  ((m_w49q (y38, (x.2.2.1, (x.2.2.2.1, (0 : Int))))).bind fun r39 =>
  some (j37, (r39 == (0 : Int))))))
  (some (j37, false)))) fun j40 =>
(Option.bind (α := (List (Int × (Int × Int))))
 (cond (!j40.2)
  ((m_w85q (r1, j40.1, [(x.2.2.1, (x.2.2.2.1, (0 : Int)))])).bind fun r42 =>
  some r42.1)
  (some r1)) fun j43 =>
((geti j43 j40.1).bind fun _ =>
((j43[j40.1.toNat]?).bind fun y44 =>
((geti j43 j40.1).bind fun _ =>
((j43[j40.1.toNat]?).bind fun y45 =>
((geti (j43.set j40.1.toNat (y45.1, (y45.2.1, IntKind.wrap .i64 (y44.2.2 + x.2.2.2.2)))) j40.1).bind fun _ =>
(((j43.set j40.1.toNat (y45.1, (y45.2.1, IntKind.wrap .i64 (y44.2.2 + x.2.2.2.2))))[j40.1.toNat]?).bind fun y46 =>
(cond (y46.2.2 == (0 : Int))
 ((m_w86q ((j43.set j40.1.toNat (y45.1, (y45.2.1, IntKind.wrap .i64 (y44.2.2 + x.2.2.2.2)))), j40.1, IntKind.wrap .i64 (j40.1 + (1 : Int)))).bind fun r47 =>
 some r47.1)
 (some (j43.set j40.1.toNat (y45.1, (y45.2.1, IntKind.wrap .i64 (y44.2.2 + x.2.2.2.2)))))))))))))))
def m_w87q (x : ((List (Int × (Int × Int))) × (Int × (Int × (Int × Int))))) : Option (List (Int × (Int × Int))) := p_w87q FU x
def a_w87q : Ann := (.node .leaf (.node .leaf (.join [.slot 6 (.int .i64), .slot 7 .bool] [10, 11, 12, 13, 14, 15, 16, 17, 18, 19] (.reg 17 (.node .leaf (.node .leaf (.node .leaf (.join [.slot 9 (.int .i64)] [10, 11, 15, 16, 17, 18, 19, 20, 21, 22, 23, 24, 25, 26, 27, 28, 29, 30, 31, 32, 33, 34] (.loop [.slot 9 (.int .i64), .slot 10 (.int .i64)] [11, 15, 16, 17, 18, 19, 20, 21, 22, 23, 24, 25, 26, 27, 28, 29, 30, 31, 32, 33, 34] .leaf) .leaf)))) .leaf) (.join [.slot 5 Kd14] [20, 21, 22, 23, 24, 25, 26, 27, 28, 29, 30] .leaf .leaf))))
def S_w87q : FSpec := ⟨[.val Kd15, .val Kd13], [Kd14], m_w87q⟩

/-! impl.Contract] -/
def p_w88q (n : Nat) (x : ((List (Int × (List (Int × (Int × (Int × Int)))))) × (Int × Int))) : Option ((List (Int × (List (Int × (Int × (Int × Int)))))) × Bool) :=
(delRun x).map fun y => (y, true)
def m_w88q (x : ((List (Int × (List (Int × (Int × (Int × Int)))))) × (Int × Int))) : Option ((List (Int × (List (Int × (Int × (Int × Int)))))) × Bool) := p_w88q FU x
def a_w88q : Ann := .leaf
def S_w88q : FSpec := ⟨[.own 185 Kd9, .val (.int .i64), .val (.int .i64)], [Kd7], m_w88q⟩

/-! impl.Shard).decide -/
def l_w89q_1 (n : Nat) (r53 : (List (Int × (Int × (Int × Int))))) (z0 : (Int × (Int × ((List (Int × (Int × Int))) × ((List (Int × Int)) × ((List (Int × (List (Int × (Int × (Int × Int)))))) × ((List (Int × Int)) × (List Int)))))))) : Option (Int × ((List (Int × (Int × Int))) × ((List (Int × Int)) × ((List (Int × (List (Int × (Int × (Int × Int)))))) × ((List (Int × Int)) × (List Int)))))) :=
(lp (fun rec61 (z60 : (Int × (Int × ((List (Int × (Int × Int))) × ((List (Int × Int)) × ((List (Int × (List (Int × (Int × (Int × Int)))))) × ((List (Int × Int)) × (List Int)))))))) =>
 (cond (decide (z60.1 < (lenI r53)))
  ((geti r53 z60.1).bind fun _ =>
  ((r53[z60.1.toNat]?).bind fun y62 =>
  ((m_w87q (z60.2.2.1, y62)).bind fun r63 =>
  rec61 (IntKind.wrap .i64 (z60.1 + (1 : Int)), (z60.2.1, (r63, z60.2.2.2))))))
  (some z60.2))) n z0)
def p_w89q (n : Nat) (x : ((Int × ((List (Int × (Int × Int))) × ((List (Int × Int)) × ((List (Int × (List (Int × (Int × (Int × Int)))))) × ((List (Int × Int)) × (List Int)))))) × (Int × Int))) : Option (Int × (Int × (Int × ((List (Int × (Int × Int))) × ((List (Int × Int)) × ((List (Int × (List (Int × (Int × (Int × Int)))))) × ((List (Int × Int)) × (List Int)))))))) :=
(Option.bind (α := Bool)
 ((m_w51q x.2.1).bind fun r3 =>
 (cond (!r3)
  (some true)
  ((m_w53q x.2.2).bind fun r4 =>
  some (!r4)))) fun j5 =>
(cond j5
 (some ((3 : Int), ((0 : Int), ((0 : Int), ([], ([], ([], ([], []))))))))
 (same
  ((m_w82q x.1).bind fun r6 =>
  (dup 1
   ((m_w61q (x.1.2.2.2.2.1, x.2.1)).bind fun r7 =>
   ((m_w65q (x.1, x.2.1)).bind fun r8 =>
   (Option.bind (α := Bool)
    (cond (!(r7 == (0 : Int)))
     (some (!(r7 == x.2.2)))
     (some false)) fun j9 =>
   (cond j9
    (some ((7 : Int), ((0 : Int), ((0 : Int), ([], ([], ([], ([], []))))))))
    (cond (!(r7 == (0 : Int)))
     (some ((0 : Int), ((0 : Int), r6)))
     (Option.bind (α := Bool)
      (cond (x.2.2 == (1 : Int))
       (some (!r8.2))
       (some false)) fun j10 =>
     (cond j10
      (some ((1 : Int), ((0 : Int), ((0 : Int), ([], ([], ([], ([], []))))))))
      (cond ((lenI x.1.2.2.2.2.1) == (100 : Int))
       (some ((2 : Int), ((0 : Int), ((0 : Int), ([], ([], ([], ([], []))))))))
       ((m_w84q (x.1.2.2.2.2.1, x.2)).bind fun r11 =>
       (Option.bind (α := (Int × ((List (Int × (Int × Int))) × ((List (Int × Int)) × ((List (Int × (List (Int × (Int × (Int × Int)))))) × ((List (Int × Int)) × (List Int)))))))
        (cond (x.2.2 == (1 : Int))
         (Option.bind (α := (Int × ((List (Int × (Int × Int))) × ((List (Int × Int)) × ((List (Int × (List (Int × (Int × (Int × Int)))))) × ((List (Int × Int)) × (List Int)))))))
          ((geti x.1.2.2.2.1 r8.1).bind fun y52 =>
          ((m_w58q (y52, x.1.1)).bind fun r53 =>
          (l_w89q_1 n r53 ((0 : Int), (r6.1, (r6.2.1, (r6.2.2.1, (r6.2.2.2.1, (r11, r6.2.2.2.2.2))))))))) fun j65 =>
         (chk (Nat.ble ((j65.2.2.2.2.2.length + [x.2.1].length) * 8) maxBytes)
         (some (j65.1, (j65.2.1, (j65.2.2.1, (j65.2.2.2.1, (j65.2.2.2.2.1, (j65.2.2.2.2.2 ++ [x.2.1])))))))))
         (some (r6.1, (r6.2.1, (r6.2.2.1, (r6.2.2.2.1, (r11, r6.2.2.2.2.2))))))) fun j66 =>
       (cond r8.2
        ((m_w88q (j66.2.2.2.1, r8.1, IntKind.wrap .i64 (r8.1 + (1 : Int)))).bind fun r67 =>
        some ((0 : Int), ((0 : Int), (j66.1, (j66.2.1, (j66.2.2.1, (r67.1, j66.2.2.2.2)))))))
        (some ((0 : Int), ((0 : Int), j66))))))))))))))))
  ((m_w82q x.1).bind fun r6 =>
  ((m_w61q (x.1.2.2.2.2.1, x.2.1)).bind fun r7 =>
  ((m_w65q (x.1, x.2.1)).bind fun r8 =>
  (Option.bind (α := Bool)
   (cond (!(r7 == (0 : Int)))
    (some (!(r7 == x.2.2)))
    (some false)) fun j9 =>
  (cond j9
   (some ((7 : Int), ((0 : Int), ((0 : Int), ([], ([], ([], ([], []))))))))
   (cond (!(r7 == (0 : Int)))
    (some ((0 : Int), ((0 : Int), r6)))
    (Option.bind (α := Bool)
     (cond (x.2.2 == (1 : Int))
      (some (!r8.2))
      (some false)) fun j10 =>
    (cond j10
     (some ((1 : Int), ((0 : Int), ((0 : Int), ([], ([], ([], ([], []))))))))
     (cond ((lenI x.1.2.2.2.2.1) == (100 : Int))
      (some ((2 : Int), ((0 : Int), ((0 : Int), ([], ([], ([], ([], []))))))))
      ((m_w84q (x.1.2.2.2.2.1, x.2)).bind fun r11 =>
      (Option.bind (α := (Int × ((List (Int × (Int × Int))) × ((List (Int × Int)) × ((List (Int × (List (Int × (Int × (Int × Int)))))) × ((List (Int × Int)) × (List Int)))))))
       (cond (x.2.2 == (1 : Int))
        (Option.bind (α := (Int × ((List (Int × (Int × Int))) × ((List (Int × Int)) × ((List (Int × (List (Int × (Int × (Int × Int)))))) × ((List (Int × Int)) × (List Int)))))))
         ((geti x.1.2.2.2.1 r8.1).bind fun y52 =>
         ((m_w58q (y52, x.1.1)).bind fun r53 =>
         (l_w89q_1 n r53 ((0 : Int), (r6.1, (r6.2.1, (r6.2.2.1, (r6.2.2.2.1, (r11, r6.2.2.2.2.2))))))))) fun j65 =>
        (chk (Nat.ble ((j65.2.2.2.2.2.length + [x.2.1].length) * 8) maxBytes)
        (some (j65.1, (j65.2.1, (j65.2.2.1, (j65.2.2.2.1, (j65.2.2.2.2.1, (j65.2.2.2.2.2 ++ [x.2.1])))))))))
        (some (r6.1, (r6.2.1, (r6.2.2.1, (r6.2.2.2.1, (r11, r6.2.2.2.2.2))))))) fun j66 =>
      (cond r8.2
       ((m_w88q (j66.2.2.2.1, r8.1, IntKind.wrap .i64 (r8.1 + (1 : Int)))).bind fun r67 =>
       some ((0 : Int), ((0 : Int), (j66.1, (j66.2.1, (j66.2.2.1, (r67.1, j66.2.2.2.2)))))))
       (some ((0 : Int), ((0 : Int), j66))))))))))))))))))
def m_w89q (x : ((Int × ((List (Int × (Int × Int))) × ((List (Int × Int)) × ((List (Int × (List (Int × (Int × (Int × Int)))))) × ((List (Int × Int)) × (List Int)))))) × (Int × Int))) : Option (Int × (Int × (Int × ((List (Int × (Int × Int))) × ((List (Int × Int)) × ((List (Int × (List (Int × (Int × (Int × Int)))))) × ((List (Int × Int)) × (List Int)))))))) := p_w89q FU x
def a_w89q : Ann := (.node .leaf (.node (.join [.slot 20 .bool] [13, 14, 15, 16, 17, 18, 19] .leaf .leaf) (.node .leaf (.node .leaf (.node (.join [.slot 34 .bool] [35, 36, 37, 38, 39, 40, 41] .leaf (.node .leaf (.node .leaf (.node .leaf (.join [.slot 48 .bool] [49, 50, 51, 52, 53, 54] .leaf .leaf))))) (.node .leaf (.join [.box 1000007 Kd4] [12, 69, 70, 71, 72, 73, 74, 75, 76, 77, 78, 79, 80, 81, 82, 83, 84, 85, 86, 87, 88, 89, 90, 91, 92, 93, 94, 95] (.node .leaf (.node (.join [.box 1000007 Kd4] [12, 71, 72, 73, 74, 75, 76, 77, 78, 79, 80, 81, 82, 83, 84, 85, 86, 87, 88, 89] (.node .leaf (.loop [.slot 80 (.int .i64), .box 1000007 Kd4] [12, 81, 82, 83, 84, 85, 86, 87, 88, 89] .leaf)) .leaf) .leaf)) .leaf)))))))
def S_w89q : FSpec := ⟨[.val Kd6, .val (.int .i64), .val (.int .i64)], [Kd1], m_w89q⟩

/-! impl.DecideShard -/
def p_w90q (n : Nat) (x : ((Int × ((List (Int × (Int × Int))) × ((List (Int × Int)) × ((List (Int × (List (Int × (Int × (Int × Int)))))) × ((List (Int × Int)) × (List Int)))))) × (Int × Int))) : Option (Int × (Int × (Int × ((List (Int × (Int × Int))) × ((List (Int × Int)) × ((List (Int × (List (Int × (Int × (Int × Int)))))) × ((List (Int × Int)) × (List Int)))))))) :=
((m_w75q x.1).bind fun r1 =>
(cond (!(r1 == (0 : Int)))
 (some (r1, ((0 : Int), ((0 : Int), ([], ([], ([], ([], []))))))))
 ((m_w89q (x.1, x.2.1, x.2.2)).bind fun r2 =>
 some r2)))
def m_w90q (x : ((Int × ((List (Int × (Int × Int))) × ((List (Int × Int)) × ((List (Int × (List (Int × (Int × (Int × Int)))))) × ((List (Int × Int)) × (List Int)))))) × (Int × Int))) : Option (Int × (Int × (Int × ((List (Int × (Int × Int))) × ((List (Int × Int)) × ((List (Int × (List (Int × (Int × (Int × Int)))))) × ((List (Int × Int)) × (List Int)))))))) := p_w90q FU x
def a_w90q : Ann := .leaf
def S_w90q : FSpec := ⟨[.val Kd6, .val (.int .i64), .val (.int .i64)], [Kd1], m_w90q⟩

/-! laws.eqBalance -/
def p_w91q (n : Nat) (x : ((Int × (Int × Int)) × (Int × (Int × Int)))) : Option Bool :=
(cond (!(x.1.1 == x.2.1))
 (some false)
 (cond (!(x.1.2.1 == x.2.2.1))
  (some false)
  (cond (!(x.1.2.2 == x.2.2.2))
   (some false)
   (some true))))
def m_w91q (x : ((Int × (Int × Int)) × (Int × (Int × Int)))) : Option Bool := p_w91q FU x
def a_w91q : Ann := .leaf
def S_w91q : FSpec := ⟨[.val Kd16, .val Kd16], [.bool], m_w91q⟩

/-! laws.eqBalanceS -/
def l_w92q_1 (n : Nat) (x_1 : (List (Int × (Int × Int)))) (x_2 : (List (Int × (Int × Int)))) (z0 : Int) : Option Bool :=
(lp (fun rec6 (z5 : Int) =>
 (cond (decide (z5 < (lenI x_1)))
  ((geti x_1 z5).bind fun y7 =>
  ((geti x_2 z5).bind fun y8 =>
  ((m_w91q (y7, y8)).bind fun r9 =>
  (cond (!r9)
   (some false)
   (rec6 (IntKind.wrap .i64 (z5 + (1 : Int))))))))
  (some true))) n z0)
def p_w92q (n : Nat) (x : ((List (Int × (Int × Int))) × (List (Int × (Int × Int))))) : Option Bool :=
(cond (!((lenI x.1) == (lenI x.2)))
 (some false)
 (l_w92q_1 n x.1 x.2 (0 : Int)))
def m_w92q (x : ((List (Int × (Int × Int))) × (List (Int × (Int × Int))))) : Option Bool := p_w92q FU x
def a_w92q : Ann := (.node .leaf (.node .leaf (.node (.node .leaf (.loop [.slot 5 (.int .i64)] [4, 11, 12, 13, 14, 15, 16, 17, 18, 19, 20, 21, 22, 23, 24, 25, 26] .leaf)) .leaf)))
def S_w92q : FSpec := ⟨[.val Kd15, .val Kd15], [.bool], m_w92q⟩

/-! laws.eqMark -/
def p_w93q (n : Nat) (x : ((Int × Int) × (Int × Int))) : Option Bool :=
(cond (!(x.1.1 == x.2.1))
 (some false)
 (cond (!(x.1.2 == x.2.2))
  (some false)
  (some true)))
def m_w93q (x : ((Int × Int) × (Int × Int))) : Option Bool := p_w93q FU x
def a_w93q : Ann := .leaf
def S_w93q : FSpec := ⟨[.val Kd19, .val Kd19], [.bool], m_w93q⟩

/-! laws.eqMarkS -/
def l_w94q_1 (n : Nat) (x_1 : (List (Int × Int))) (x_2 : (List (Int × Int))) (z0 : Int) : Option Bool :=
(lp (fun rec6 (z5 : Int) =>
 (cond (decide (z5 < (lenI x_1)))
  ((geti x_1 z5).bind fun y7 =>
  ((geti x_2 z5).bind fun y8 =>
  ((m_w93q (y7, y8)).bind fun r9 =>
  (cond (!r9)
   (some false)
   (rec6 (IntKind.wrap .i64 (z5 + (1 : Int))))))))
  (some true))) n z0)
def p_w94q (n : Nat) (x : ((List (Int × Int)) × (List (Int × Int)))) : Option Bool :=
(cond (!((lenI x.1) == (lenI x.2)))
 (some false)
 (l_w94q_1 n x.1 x.2 (0 : Int)))
def m_w94q (x : ((List (Int × Int)) × (List (Int × Int)))) : Option Bool := p_w94q FU x
def a_w94q : Ann := (.node .leaf (.node .leaf (.node (.node .leaf (.loop [.slot 5 (.int .i64)] [4, 11, 12, 13, 14, 15, 16, 17, 18, 19, 20, 21, 22, 23, 24, 25, 26] .leaf)) .leaf)))
def S_w94q : FSpec := ⟨[.val Kd18, .val Kd18], [.bool], m_w94q⟩

/-! laws.eqLeg -/
def p_w95q (n : Nat) (x : ((Int × (Int × (Int × Int))) × (Int × (Int × (Int × Int))))) : Option Bool :=
(cond (!(x.1.1 == x.2.1))
 (some false)
 (cond (!(x.1.2.1 == x.2.2.1))
  (some false)
  (cond (!(x.1.2.2.1 == x.2.2.2.1))
   (some false)
   (cond (!(x.1.2.2.2 == x.2.2.2.2))
    (some false)
    (some true)))))
def m_w95q (x : ((Int × (Int × (Int × Int))) × (Int × (Int × (Int × Int))))) : Option Bool := p_w95q FU x
def a_w95q : Ann := .leaf
def S_w95q : FSpec := ⟨[.val Kd13, .val Kd13], [.bool], m_w95q⟩

/-! laws.eqLegS -/
def l_w96q_1 (n : Nat) (x_1 : (List (Int × (Int × (Int × Int))))) (x_2 : (List (Int × (Int × (Int × Int))))) (z0 : Int) : Option Bool :=
(lp (fun rec6 (z5 : Int) =>
 (cond (decide (z5 < (lenI x_1)))
  ((geti x_1 z5).bind fun y7 =>
  ((geti x_2 z5).bind fun y8 =>
  ((m_w95q (y7, y8)).bind fun r9 =>
  (cond (!r9)
   (some false)
   (rec6 (IntKind.wrap .i64 (z5 + (1 : Int))))))))
  (some true))) n z0)
def p_w96q (n : Nat) (x : ((List (Int × (Int × (Int × Int)))) × (List (Int × (Int × (Int × Int)))))) : Option Bool :=
(cond (!((lenI x.1) == (lenI x.2)))
 (some false)
 (l_w96q_1 n x.1 x.2 (0 : Int)))
def m_w96q (x : ((List (Int × (Int × (Int × Int)))) × (List (Int × (Int × (Int × Int)))))) : Option Bool := p_w96q FU x
def a_w96q : Ann := (.node .leaf (.node .leaf (.node (.node .leaf (.loop [.slot 5 (.int .i64)] [4, 11, 12, 13, 14, 15, 16, 17, 18, 19, 20, 21, 22, 23, 24, 25, 26] .leaf)) .leaf)))
def S_w96q : FSpec := ⟨[.val Kd12, .val Kd12], [.bool], m_w96q⟩

/-! laws.eqContract -/
def p_w97q (n : Nat) (x : ((Int × (List (Int × (Int × (Int × Int))))) × (Int × (List (Int × (Int × (Int × Int))))))) : Option Bool :=
(cond (!(x.1.1 == x.2.1))
 (some false)
 ((m_w96q (x.1.2, x.2.2)).bind fun r1 =>
 (cond (!r1)
  (some false)
  (some true))))
def m_w97q (x : ((Int × (List (Int × (Int × (Int × Int))))) × (Int × (List (Int × (Int × (Int × Int))))))) : Option Bool := p_w97q FU x
def a_w97q : Ann := .leaf
def S_w97q : FSpec := ⟨[.val Kd10, .val Kd10], [.bool], m_w97q⟩

/-! laws.eqContractS -/
def l_w98q_1 (n : Nat) (x_1 : (List (Int × (List (Int × (Int × (Int × Int))))))) (x_2 : (List (Int × (List (Int × (Int × (Int × Int))))))) (z0 : Int) : Option Bool :=
(lp (fun rec6 (z5 : Int) =>
 (cond (decide (z5 < (lenI x_1)))
  ((geti x_1 z5).bind fun y7 =>
  ((geti x_2 z5).bind fun y8 =>
  ((m_w97q (y7, y8)).bind fun r9 =>
  (cond (!r9)
   (some false)
   (rec6 (IntKind.wrap .i64 (z5 + (1 : Int))))))))
  (some true))) n z0)
def p_w98q (n : Nat) (x : ((List (Int × (List (Int × (Int × (Int × Int)))))) × (List (Int × (List (Int × (Int × (Int × Int)))))))) : Option Bool :=
(cond (!((lenI x.1) == (lenI x.2)))
 (some false)
 (l_w98q_1 n x.1 x.2 (0 : Int)))
def m_w98q (x : ((List (Int × (List (Int × (Int × (Int × Int)))))) × (List (Int × (List (Int × (Int × (Int × Int)))))))) : Option Bool := p_w98q FU x
def a_w98q : Ann := (.node .leaf (.node .leaf (.node (.node .leaf (.loop [.slot 5 (.int .i64)] [4, 11, 12, 13, 14, 15, 16, 17, 18, 19, 20, 21, 22, 23, 24, 25, 26] .leaf)) .leaf)))
def S_w98q : FSpec := ⟨[.val Kd8, .val Kd8], [.bool], m_w98q⟩

/-! laws.eqInt64S -/
def l_w99q_1 (n : Nat) (x_1 : (List Int)) (x_2 : (List Int)) (z0 : Int) : Option Bool :=
(lp (fun rec5 (z4 : Int) =>
 (cond (decide (z4 < (lenI x_1)))
  ((geti x_1 z4).bind fun y6 =>
  ((geti x_2 z4).bind fun y7 =>
  (cond (!(y6 == y7))
   (some false)
   (rec5 (IntKind.wrap .i64 (z4 + (1 : Int)))))))
  (some true))) n z0)
def p_w99q (n : Nat) (x : ((List Int) × (List Int))) : Option Bool :=
(cond (!((lenI x.1) == (lenI x.2)))
 (some false)
 (l_w99q_1 n x.1 x.2 (0 : Int)))
def m_w99q (x : ((List Int) × (List Int))) : Option Bool := p_w99q FU x
def a_w99q : Ann := (.node .leaf (.node .leaf (.node (.node .leaf (.loop [.slot 5 (.int .i64)] [4, 11, 12, 13, 14, 15, 16, 17, 18, 19, 20, 21, 22, 23, 24, 25] .leaf)) .leaf)))
def S_w99q : FSpec := ⟨[.val Kd21, .val Kd21], [.bool], m_w99q⟩

/-! laws.eqShard -/
def p_w100q (n : Nat) (x : ((Int × ((List (Int × (Int × Int))) × ((List (Int × Int)) × ((List (Int × (List (Int × (Int × (Int × Int)))))) × ((List (Int × Int)) × (List Int)))))) × (Int × ((List (Int × (Int × Int))) × ((List (Int × Int)) × ((List (Int × (List (Int × (Int × (Int × Int)))))) × ((List (Int × Int)) × (List Int)))))))) : Option Bool :=
(cond (!(x.1.1 == x.2.1))
 (some false)
 ((m_w92q (x.1.2.1, x.2.2.1)).bind fun r1 =>
 (cond (!r1)
  (some false)
  ((m_w94q (x.1.2.2.1, x.2.2.2.1)).bind fun r2 =>
  (cond (!r2)
   (some false)
   ((m_w98q (x.1.2.2.2.1, x.2.2.2.2.1)).bind fun r3 =>
   (cond (!r3)
    (some false)
    ((m_w94q (x.1.2.2.2.2.1, x.2.2.2.2.2.1)).bind fun r4 =>
    (cond (!r4)
     (some false)
     ((m_w99q (x.1.2.2.2.2.2, x.2.2.2.2.2.2)).bind fun r5 =>
     (cond (!r5)
      (some false)
      (some true))))))))))))
def m_w100q (x : ((Int × ((List (Int × (Int × Int))) × ((List (Int × Int)) × ((List (Int × (List (Int × (Int × (Int × Int)))))) × ((List (Int × Int)) × (List Int)))))) × (Int × ((List (Int × (Int × Int))) × ((List (Int × Int)) × ((List (Int × (List (Int × (Int × (Int × Int)))))) × ((List (Int × Int)) × (List Int)))))))) : Option Bool := p_w100q FU x
def a_w100q : Ann := .leaf
def S_w100q : FSpec := ⟨[.val Kd6, .val Kd6], [.bool], m_w100q⟩

/-! laws.eqShardResult -/
def p_w101q (n : Nat) (x : ((Int × (Int × (Int × ((List (Int × (Int × Int))) × ((List (Int × Int)) × ((List (Int × (List (Int × (Int × (Int × Int)))))) × ((List (Int × Int)) × (List Int)))))))) × (Int × (Int × (Int × ((List (Int × (Int × Int))) × ((List (Int × Int)) × ((List (Int × (List (Int × (Int × (Int × Int)))))) × ((List (Int × Int)) × (List Int)))))))))) : Option Bool :=
(cond (!(x.1.1 == x.2.1))
 (some false)
 (cond (!(x.1.2.1 == x.2.2.1))
  (some false)
  ((m_w100q (x.1.2.2, x.2.2.2)).bind fun r1 =>
  (cond (!r1)
   (some false)
   (some true)))))
def m_w101q (x : ((Int × (Int × (Int × ((List (Int × (Int × Int))) × ((List (Int × Int)) × ((List (Int × (List (Int × (Int × (Int × Int)))))) × ((List (Int × Int)) × (List Int)))))))) × (Int × (Int × (Int × ((List (Int × (Int × Int))) × ((List (Int × Int)) × ((List (Int × (List (Int × (Int × (Int × Int)))))) × ((List (Int × Int)) × (List Int)))))))))) : Option Bool := p_w101q FU x
def a_w101q : Ann := .leaf
def S_w101q : FSpec := ⟨[.val Kd3, .val Kd3], [.bool], m_w101q⟩

/-! laws.markBalanceS -/
def l_w102q_1 (n : Nat)  (z0 : (Int × (Int × (List (Int × (Int × Int)))))) : Option (Int × (List (Int × (Int × Int)))) :=
(lp (fun rec10 (z9 : (Int × (Int × (List (Int × (Int × Int)))))) =>
 (cond (decide (z9.2.1 < (lenI z9.2.2)))
  ((geti z9.2.2 z9.2.1).bind fun _ =>
  ((z9.2.2[z9.2.1.toNat]?).bind fun y11 =>
  ((geti (z9.2.2.set z9.2.1.toNat (z9.1, y11.2)) z9.2.1).bind fun _ =>
  (((z9.2.2.set z9.2.1.toNat (z9.1, y11.2))[z9.2.1.toNat]?).bind fun y12 =>
  ((geti ((z9.2.2.set z9.2.1.toNat (z9.1, y11.2)).set z9.2.1.toNat (y12.1, (IntKind.wrap .i64 (z9.1 + (1 : Int)), y12.2.2))) z9.2.1).bind fun _ =>
  ((((z9.2.2.set z9.2.1.toNat (z9.1, y11.2)).set z9.2.1.toNat (y12.1, (IntKind.wrap .i64 (z9.1 + (1 : Int)), y12.2.2)))[z9.2.1.toNat]?).bind fun y13 =>
  rec10 (IntKind.wrap .i64 ((IntKind.wrap .i64 ((IntKind.wrap .i64 (z9.1 + (1 : Int))) + (1 : Int))) + (1 : Int)), IntKind.wrap .i64 (z9.2.1 + (1 : Int)), (((z9.2.2.set z9.2.1.toNat (z9.1, y11.2)).set z9.2.1.toNat (y12.1, (IntKind.wrap .i64 (z9.1 + (1 : Int)), y12.2.2))).set z9.2.1.toNat (y13.1, (y13.2.1, IntKind.wrap .i64 ((IntKind.wrap .i64 (z9.1 + (1 : Int))) + (1 : Int))))))))))))
  (some (z9.1, z9.2.2)))) n z0)
def p_w102q (n : Nat) (x : ((List (Int × (Int × Int))) × Int)) : Option (Int × (List (Int × (Int × Int)))) :=
(l_w102q_1 n  (x.2, (0 : Int), x.1))
def m_w102q (x : ((List (Int × (Int × Int))) × Int)) : Option (Int × (List (Int × (Int × Int)))) := p_w102q FU x
def a_w102q : Ann := (.node .leaf (.node (.node .leaf (.loop [.slot 1 (.int .i64), .slot 5 (.int .i64), .row 0 190 Kd16] [6, 7, 8, 9, 10, 11, 12, 13, 14, 15, 16, 17, 18, 19, 20, 21, 22, 23, 24, 25, 26, 27, 28, 29, 30, 31, 32] .leaf)) .leaf))
def S_w102q : FSpec := ⟨[.row 190 Kd16, .val (.int .i64)], [(.int .i64)], m_w102q⟩

/-! laws.markMarkS -/
def l_w103q_1 (n : Nat)  (z0 : (Int × (Int × (List (Int × Int))))) : Option (Int × (List (Int × Int))) :=
(lp (fun rec8 (z7 : (Int × (Int × (List (Int × Int))))) =>
 (cond (decide (z7.2.1 < (lenI z7.2.2)))
  ((geti z7.2.2 z7.2.1).bind fun _ =>
  ((z7.2.2[z7.2.1.toNat]?).bind fun y9 =>
  ((geti (z7.2.2.set z7.2.1.toNat (z7.1, y9.2)) z7.2.1).bind fun _ =>
  (((z7.2.2.set z7.2.1.toNat (z7.1, y9.2))[z7.2.1.toNat]?).bind fun y10 =>
  rec8 (IntKind.wrap .i64 ((IntKind.wrap .i64 (z7.1 + (1 : Int))) + (1 : Int)), IntKind.wrap .i64 (z7.2.1 + (1 : Int)), ((z7.2.2.set z7.2.1.toNat (z7.1, y9.2)).set z7.2.1.toNat (y10.1, IntKind.wrap .i64 (z7.1 + (1 : Int)))))))))
  (some (z7.1, z7.2.2)))) n z0)
def p_w103q (n : Nat) (x : ((List (Int × Int)) × Int)) : Option (Int × (List (Int × Int))) :=
(l_w103q_1 n  (x.2, (0 : Int), x.1))
def m_w103q (x : ((List (Int × Int)) × Int)) : Option (Int × (List (Int × Int))) := p_w103q FU x
def a_w103q : Ann := (.node .leaf (.node (.node .leaf (.loop [.slot 1 (.int .i64), .slot 5 (.int .i64), .row 0 194 Kd19] [6, 7, 8, 9, 10, 11, 12, 13, 14, 15, 16, 17, 18, 19, 20, 21, 22, 23, 24, 25] .leaf)) .leaf))
def S_w103q : FSpec := ⟨[.row 194 Kd19, .val (.int .i64)], [(.int .i64)], m_w103q⟩

/-! laws.markLegS -/
def l_w104q_1 (n : Nat)  (z0 : (Int × (Int × (List (Int × (Int × (Int × Int))))))) : Option (Int × (List (Int × (Int × (Int × Int))))) :=
(lp (fun rec12 (z11 : (Int × (Int × (List (Int × (Int × (Int × Int))))))) =>
 (cond (decide (z11.2.1 < (lenI z11.2.2)))
  ((geti z11.2.2 z11.2.1).bind fun _ =>
  ((z11.2.2[z11.2.1.toNat]?).bind fun y13 =>
  ((geti (z11.2.2.set z11.2.1.toNat (z11.1, y13.2)) z11.2.1).bind fun _ =>
  (((z11.2.2.set z11.2.1.toNat (z11.1, y13.2))[z11.2.1.toNat]?).bind fun y14 =>
  ((geti ((z11.2.2.set z11.2.1.toNat (z11.1, y13.2)).set z11.2.1.toNat (y14.1, (IntKind.wrap .i64 (z11.1 + (1 : Int)), y14.2.2))) z11.2.1).bind fun _ =>
  ((((z11.2.2.set z11.2.1.toNat (z11.1, y13.2)).set z11.2.1.toNat (y14.1, (IntKind.wrap .i64 (z11.1 + (1 : Int)), y14.2.2)))[z11.2.1.toNat]?).bind fun y15 =>
  ((geti (((z11.2.2.set z11.2.1.toNat (z11.1, y13.2)).set z11.2.1.toNat (y14.1, (IntKind.wrap .i64 (z11.1 + (1 : Int)), y14.2.2))).set z11.2.1.toNat (y15.1, (y15.2.1, (IntKind.wrap .i64 ((IntKind.wrap .i64 (z11.1 + (1 : Int))) + (1 : Int)), y15.2.2.2)))) z11.2.1).bind fun _ =>
  (((((z11.2.2.set z11.2.1.toNat (z11.1, y13.2)).set z11.2.1.toNat (y14.1, (IntKind.wrap .i64 (z11.1 + (1 : Int)), y14.2.2))).set z11.2.1.toNat (y15.1, (y15.2.1, (IntKind.wrap .i64 ((IntKind.wrap .i64 (z11.1 + (1 : Int))) + (1 : Int)), y15.2.2.2))))[z11.2.1.toNat]?).bind fun y16 =>
  rec12 (IntKind.wrap .i64 ((IntKind.wrap .i64 ((IntKind.wrap .i64 ((IntKind.wrap .i64 (z11.1 + (1 : Int))) + (1 : Int))) + (1 : Int))) + (1 : Int)), IntKind.wrap .i64 (z11.2.1 + (1 : Int)), ((((z11.2.2.set z11.2.1.toNat (z11.1, y13.2)).set z11.2.1.toNat (y14.1, (IntKind.wrap .i64 (z11.1 + (1 : Int)), y14.2.2))).set z11.2.1.toNat (y15.1, (y15.2.1, (IntKind.wrap .i64 ((IntKind.wrap .i64 (z11.1 + (1 : Int))) + (1 : Int)), y15.2.2.2)))).set z11.2.1.toNat (y16.1, (y16.2.1, (y16.2.2.1, IntKind.wrap .i64 ((IntKind.wrap .i64 ((IntKind.wrap .i64 (z11.1 + (1 : Int))) + (1 : Int))) + (1 : Int)))))))))))))))
  (some (z11.1, z11.2.2)))) n z0)
def p_w104q (n : Nat) (x : ((List (Int × (Int × (Int × Int)))) × Int)) : Option (Int × (List (Int × (Int × (Int × Int))))) :=
(l_w104q_1 n  (x.2, (0 : Int), x.1))
def m_w104q (x : ((List (Int × (Int × (Int × Int)))) × Int)) : Option (Int × (List (Int × (Int × (Int × Int))))) := p_w104q FU x
def a_w104q : Ann := (.node .leaf (.node (.node .leaf (.loop [.slot 1 (.int .i64), .slot 5 (.int .i64), .row 0 208 Kd13] [6, 7, 8, 9, 10, 11, 12, 13, 14, 15, 16, 17, 18, 19, 20, 21, 22, 23, 24, 25, 26, 27, 28, 29, 30, 31, 32, 33, 34, 35, 36, 37, 38, 39] .leaf)) .leaf))
def S_w104q : FSpec := ⟨[.row 208 Kd13, .val (.int .i64)], [(.int .i64)], m_w104q⟩

/-! laws.markContractS -/
def l_w105q_1 (n : Nat)  (z0 : (Int × (Int × (List (Int × (List (Int × (Int × (Int × Int))))))))) : Option (Int × (List (Int × (List (Int × (Int × (Int × Int))))))) :=
(lp (fun rec12 (z11 : (Int × (Int × (List (Int × (List (Int × (Int × (Int × Int))))))))) =>
 (cond (decide (z11.2.1 < (lenI z11.2.2)))
  ((geti z11.2.2 z11.2.1).bind fun _ =>
  ((z11.2.2[z11.2.1.toNat]?).bind fun y13 =>
  ((geti (z11.2.2.set z11.2.1.toNat (z11.1, y13.2)) z11.2.1).bind fun _ =>
  (((z11.2.2.set z11.2.1.toNat (z11.1, y13.2))[z11.2.1.toNat]?).bind fun y14 =>
  (((z11.2.2.set z11.2.1.toNat (z11.1, y13.2))[z11.2.1.toNat]?).bind fun y15 =>
  ((m_w104q (y15.2, IntKind.wrap .i64 (z11.1 + (1 : Int)))).bind fun r16 =>
  rec12 (r16.1, IntKind.wrap .i64 (z11.2.1 + (1 : Int)), ((z11.2.2.set z11.2.1.toNat (z11.1, y13.2)).set z11.2.1.toNat (y15.1, r16.2)))))))))
  (some (z11.1, z11.2.2)))) n z0)
def p_w105q (n : Nat) (x : ((List (Int × (List (Int × (Int × (Int × Int)))))) × Int)) : Option (Int × (List (Int × (List (Int × (Int × (Int × Int))))))) :=
(l_w105q_1 n  (x.2, (0 : Int), x.1))
def m_w105q (x : ((List (Int × (List (Int × (Int × (Int × Int)))))) × Int)) : Option (Int × (List (Int × (List (Int × (Int × (Int × Int))))))) := p_w105q FU x
def a_w105q : Ann := (.node .leaf (.node (.node .leaf (.loop [.slot 1 (.int .i64), .slot 5 (.int .i64), .row 0 185 Kd9] [6, 7, 8, 9, 10, 11, 12, 13, 14, 15, 16, 17, 18, 19, 20, 21, 22, 23, 24, 25] .leaf)) .leaf))
def S_w105q : FSpec := ⟨[.row 185 Kd9, .val (.int .i64)], [(.int .i64)], m_w105q⟩

/-! laws.markInt64S -/
def l_w106q_1 (n : Nat)  (z0 : (Int × (Int × (List Int)))) : Option (Int × (List Int)) :=
(lp (fun rec6 (z5 : (Int × (Int × (List Int)))) =>
 (cond (decide (z5.2.1 < (lenI z5.2.2)))
  ((geti z5.2.2 z5.2.1).bind fun _ =>
  ((z5.2.2[z5.2.1.toNat]?).bind fun y7 =>
  rec6 (IntKind.wrap .i64 (z5.1 + (1 : Int)), IntKind.wrap .i64 (z5.2.1 + (1 : Int)), (z5.2.2.set z5.2.1.toNat z5.1))))
  (some (z5.1, z5.2.2)))) n z0)
def p_w106q (n : Nat) (x : ((List Int) × Int)) : Option (Int × (List Int)) :=
(l_w106q_1 n  (x.2, (0 : Int), x.1))
def m_w106q (x : ((List Int) × Int)) : Option (Int × (List Int)) := p_w106q FU x
def a_w106q : Ann := (.node .leaf (.node (.node .leaf (.loop [.slot 1 (.int .i64), .slot 5 (.int .i64), .row 0 2 (.int .i64)] [6, 7, 8, 9, 10, 11, 12, 13, 14, 15, 16, 17] .leaf)) .leaf))
def S_w106q : FSpec := ⟨[.row 2 (.int .i64), .val (.int .i64)], [(.int .i64)], m_w106q⟩

/-! laws.heldBalanceS -/
def l_w107q_1 (n : Nat) (x_1 : (List (Int × (Int × Int)))) (z0 : (Int × Int)) : Option Int :=
(lp (fun rec6 (z5 : (Int × Int)) =>
 (cond (decide (z5.2 < (lenI x_1)))
  ((geti x_1 z5.2).bind fun y7 =>
  (cond (!(y7.1 == z5.1))
   (some (-1 : Int))
   ((geti x_1 z5.2).bind fun y8 =>
   (cond (!(y8.2.1 == (IntKind.wrap .i64 (z5.1 + (1 : Int)))))
    (some (-1 : Int))
    ((geti x_1 z5.2).bind fun y9 =>
    (cond (!(y9.2.2 == (IntKind.wrap .i64 ((IntKind.wrap .i64 (z5.1 + (1 : Int))) + (1 : Int)))))
     (some (-1 : Int))
     (rec6 (IntKind.wrap .i64 ((IntKind.wrap .i64 ((IntKind.wrap .i64 (z5.1 + (1 : Int))) + (1 : Int))) + (1 : Int)), IntKind.wrap .i64 (z5.2 + (1 : Int))))))))))
  (some z5.1))) n z0)
def p_w107q (n : Nat) (x : ((List (Int × (Int × Int))) × Int)) : Option Int :=
(l_w107q_1 n x.1 (x.2, (0 : Int)))
def m_w107q (x : ((List (Int × (Int × Int))) × Int)) : Option Int := p_w107q FU x
def a_w107q : Ann := (.node .leaf (.node (.node .leaf (.loop [.slot 1 (.int .i64), .slot 5 (.int .i64)] [4, 6, 7, 8, 9, 10, 11, 12, 13, 14, 15, 16, 17, 18, 19, 20, 21, 22, 23, 24, 25, 26, 27, 28, 29, 30, 31, 32, 33, 34, 35, 36, 37, 38] .leaf)) .leaf))
def S_w107q : FSpec := ⟨[.val Kd15, .val (.int .i64)], [(.int .i64)], m_w107q⟩

/-! laws.heldMarkS -/
def l_w108q_1 (n : Nat) (x_1 : (List (Int × Int))) (z0 : (Int × Int)) : Option Int :=
(lp (fun rec5 (z4 : (Int × Int)) =>
 (cond (decide (z4.2 < (lenI x_1)))
  ((geti x_1 z4.2).bind fun y6 =>
  (cond (!(y6.1 == z4.1))
   (some (-1 : Int))
   ((geti x_1 z4.2).bind fun y7 =>
   (cond (!(y7.2 == (IntKind.wrap .i64 (z4.1 + (1 : Int)))))
    (some (-1 : Int))
    (rec5 (IntKind.wrap .i64 ((IntKind.wrap .i64 (z4.1 + (1 : Int))) + (1 : Int)), IntKind.wrap .i64 (z4.2 + (1 : Int))))))))
  (some z4.1))) n z0)
def p_w108q (n : Nat) (x : ((List (Int × Int)) × Int)) : Option Int :=
(l_w108q_1 n x.1 (x.2, (0 : Int)))
def m_w108q (x : ((List (Int × Int)) × Int)) : Option Int := p_w108q FU x
def a_w108q : Ann := (.node .leaf (.node (.node .leaf (.loop [.slot 1 (.int .i64), .slot 5 (.int .i64)] [4, 6, 7, 8, 9, 10, 11, 12, 13, 14, 15, 16, 17, 18, 19, 20, 21, 22, 23, 24, 25, 26, 27, 28, 29] .leaf)) .leaf))
def S_w108q : FSpec := ⟨[.val Kd18, .val (.int .i64)], [(.int .i64)], m_w108q⟩

/-! laws.heldLegS -/
def l_w109q_1 (n : Nat) (x_1 : (List (Int × (Int × (Int × Int))))) (z0 : (Int × Int)) : Option Int :=
(lp (fun rec7 (z6 : (Int × Int)) =>
 (cond (decide (z6.2 < (lenI x_1)))
  ((geti x_1 z6.2).bind fun y8 =>
  (cond (!(y8.1 == z6.1))
   (some (-1 : Int))
   ((geti x_1 z6.2).bind fun y9 =>
   (cond (!(y9.2.1 == (IntKind.wrap .i64 (z6.1 + (1 : Int)))))
    (some (-1 : Int))
    ((geti x_1 z6.2).bind fun y10 =>
    (cond (!(y10.2.2.1 == (IntKind.wrap .i64 ((IntKind.wrap .i64 (z6.1 + (1 : Int))) + (1 : Int)))))
     (some (-1 : Int))
     ((geti x_1 z6.2).bind fun y11 =>
     (cond (!(y11.2.2.2 == (IntKind.wrap .i64 ((IntKind.wrap .i64 ((IntKind.wrap .i64 (z6.1 + (1 : Int))) + (1 : Int))) + (1 : Int)))))
      (some (-1 : Int))
      (rec7 (IntKind.wrap .i64 ((IntKind.wrap .i64 ((IntKind.wrap .i64 ((IntKind.wrap .i64 (z6.1 + (1 : Int))) + (1 : Int))) + (1 : Int))) + (1 : Int)), IntKind.wrap .i64 (z6.2 + (1 : Int))))))))))))
  (some z6.1))) n z0)
def p_w109q (n : Nat) (x : ((List (Int × (Int × (Int × Int)))) × Int)) : Option Int :=
(l_w109q_1 n x.1 (x.2, (0 : Int)))
def m_w109q (x : ((List (Int × (Int × (Int × Int)))) × Int)) : Option Int := p_w109q FU x
def a_w109q : Ann := (.node .leaf (.node (.node .leaf (.loop [.slot 1 (.int .i64), .slot 5 (.int .i64)] [4, 6, 7, 8, 9, 10, 11, 12, 13, 14, 15, 16, 17, 18, 19, 20, 21, 22, 23, 24, 25, 26, 27, 28, 29, 30, 31, 32, 33, 34, 35, 36, 37, 38, 39, 40, 41, 42, 43, 44, 45, 46, 47] .leaf)) .leaf))
def S_w109q : FSpec := ⟨[.val Kd12, .val (.int .i64)], [(.int .i64)], m_w109q⟩

/-! laws.heldContractS -/
def l_w110q_1 (n : Nat) (x_1 : (List (Int × (List (Int × (Int × (Int × Int))))))) (z0 : (Int × Int)) : Option Int :=
(lp (fun rec6 (z5 : (Int × Int)) =>
 (cond (decide (z5.2 < (lenI x_1)))
  ((geti x_1 z5.2).bind fun y7 =>
  (cond (!(y7.1 == z5.1))
   (some (-1 : Int))
   ((geti x_1 z5.2).bind fun y8 =>
   ((m_w109q (y8.2, IntKind.wrap .i64 (z5.1 + (1 : Int)))).bind fun r9 =>
   (cond (decide (r9 < (0 : Int)))
    (some (-1 : Int))
    (rec6 (r9, IntKind.wrap .i64 (z5.2 + (1 : Int)))))))))
  (some z5.1))) n z0)
def p_w110q (n : Nat) (x : ((List (Int × (List (Int × (Int × (Int × Int)))))) × Int)) : Option Int :=
(l_w110q_1 n x.1 (x.2, (0 : Int)))
def m_w110q (x : ((List (Int × (List (Int × (Int × (Int × Int)))))) × Int)) : Option Int := p_w110q FU x
def a_w110q : Ann := (.node .leaf (.node (.node .leaf (.loop [.slot 1 (.int .i64), .slot 5 (.int .i64)] [4, 6, 7, 8, 9, 10, 11, 12, 13, 14, 15, 16, 17, 18, 19, 20, 21, 22, 23, 24, 25, 26, 27, 28, 29] .leaf)) .leaf))
def S_w110q : FSpec := ⟨[.val Kd8, .val (.int .i64)], [(.int .i64)], m_w110q⟩

/-! laws.heldInt64S -/
def l_w111q_1 (n : Nat) (x_1 : (List Int)) (z0 : (Int × Int)) : Option Int :=
(lp (fun rec4 (z3 : (Int × Int)) =>
 (cond (decide (z3.2 < (lenI x_1)))
  ((geti x_1 z3.2).bind fun y5 =>
  (cond (!(y5 == z3.1))
   (some (-1 : Int))
   (rec4 (IntKind.wrap .i64 (z3.1 + (1 : Int)), IntKind.wrap .i64 (z3.2 + (1 : Int))))))
  (some z3.1))) n z0)
def p_w111q (n : Nat) (x : ((List Int) × Int)) : Option Int :=
(l_w111q_1 n x.1 (x.2, (0 : Int)))
def m_w111q (x : ((List Int) × Int)) : Option Int := p_w111q FU x
def a_w111q : Ann := (.node .leaf (.node (.node .leaf (.loop [.slot 1 (.int .i64), .slot 5 (.int .i64)] [4, 6, 7, 8, 9, 10, 11, 12, 13, 14, 15, 16, 17, 18, 19] .leaf)) .leaf))
def S_w111q : FSpec := ⟨[.val Kd21, .val (.int .i64)], [(.int .i64)], m_w111q⟩

/-! laws.heldShard -/
def p_w112q (n : Nat) (x : ((Int × ((List (Int × (Int × Int))) × ((List (Int × Int)) × ((List (Int × (List (Int × (Int × (Int × Int)))))) × ((List (Int × Int)) × (List Int)))))) × Int)) : Option Int :=
((m_w107q (x.1.2.1, x.2)).bind fun r1 =>
(cond (decide (r1 < (0 : Int)))
 (some (-1 : Int))
 ((m_w108q (x.1.2.2.1, r1)).bind fun r2 =>
 (cond (decide (r2 < (0 : Int)))
  (some (-1 : Int))
  ((m_w110q (x.1.2.2.2.1, r2)).bind fun r3 =>
  (cond (decide (r3 < (0 : Int)))
   (some (-1 : Int))
   ((m_w108q (x.1.2.2.2.2.1, r3)).bind fun r4 =>
   (cond (decide (r4 < (0 : Int)))
    (some (-1 : Int))
    ((m_w111q (x.1.2.2.2.2.2, r4)).bind fun r5 =>
    (cond (decide (r5 < (0 : Int)))
     (some (-1 : Int))
     (some r5)))))))))))
def m_w112q (x : ((Int × ((List (Int × (Int × Int))) × ((List (Int × Int)) × ((List (Int × (List (Int × (Int × (Int × Int)))))) × ((List (Int × Int)) × (List Int)))))) × Int)) : Option Int := p_w112q FU x
def a_w112q : Ann := .leaf
def S_w112q : FSpec := ⟨[.val Kd6, .val (.int .i64)], [(.int .i64)], m_w112q⟩

/-! laws.heldShardResult -/
def p_w113q (n : Nat) (x : ((Int × (Int × (Int × ((List (Int × (Int × Int))) × ((List (Int × Int)) × ((List (Int × (List (Int × (Int × (Int × Int)))))) × ((List (Int × Int)) × (List Int)))))))) × Int)) : Option Int :=
((m_w112q (x.1.2.2, x.2)).bind fun r1 =>
(cond (decide (r1 < (0 : Int)))
 (some (-1 : Int))
 (some r1)))
def m_w113q (x : ((Int × (Int × (Int × ((List (Int × (Int × Int))) × ((List (Int × Int)) × ((List (Int × (List (Int × (Int × (Int × Int)))))) × ((List (Int × Int)) × (List Int)))))))) × Int)) : Option Int := p_w113q FU x
def a_w113q : Ann := .leaf
def S_w113q : FSpec := ⟨[.val Kd3, .val (.int .i64)], [(.int .i64)], m_w113q⟩

/-! laws.FnExactDecideShard -/
def p_w114q (n : Nat) (x : ((Int × ((List (Int × (Int × Int))) × ((List (Int × Int)) × ((List (Int × (List (Int × (Int × (Int × Int)))))) × ((List (Int × Int)) × (List Int)))))) × (Int × Int))) : Option Bool :=
((m_w6q (x.1, (1048576 : Int))).bind fun r1 =>
(cond (decide (r1 < (0 : Int)))
 (some true)
 ((m_w16q x.1).bind fun r2 =>
 ((m_w41q (r2, x.2.1, x.2.2)).bind fun r3 =>
 ((m_w16q x.1).bind fun r4 =>
 ((m_w90q (r4, x.2.1, x.2.2)).bind fun r5 =>
 ((m_w101q (r5, r3)).bind fun r6 =>
 (cond (!r6)
  (some false)
  ((m_w16q x.1).bind fun r7 =>
  ((m_w100q (r4, r7)).bind fun r8 =>
  (cond (!r8)
   (some false)
   ((m_w102q (r4.2.1, (1 : Int))).bind fun r9 =>
   ((m_w103q (r4.2.2.1, r9.1)).bind fun r10 =>
   ((m_w105q (r4.2.2.2.1, r10.1)).bind fun r11 =>
   ((m_w103q (r4.2.2.2.2.1, r11.1)).bind fun r12 =>
   ((m_w106q (r4.2.2.2.2.2, r12.1)).bind fun r13 =>
   (Option.bind (α := Bool)
    (cond (decide (r13.1 < (0 : Int)))
     (some true)
     ((m_w101q (r5, r3)).bind fun r15 =>
     some (!r15))) fun j16 =>
   (cond j16
    (some false)
    ((m_w102q (r5.2.2.2.1, (1 : Int))).bind fun r17 =>
    ((m_w103q (r5.2.2.2.2.1, r17.1)).bind fun r18 =>
    ((m_w105q (r5.2.2.2.2.2.1, r18.1)).bind fun r19 =>
    ((m_w103q (r5.2.2.2.2.2.2.1, r19.1)).bind fun r20 =>
    ((m_w106q (r5.2.2.2.2.2.2.2, r20.1)).bind fun r21 =>
    ((m_w113q ((r5.1, (r5.2.1, (r5.2.2.1, (r17.2, (r18.2, (r19.2, (r20.2, r21.2))))))), (1 : Int))).bind fun r22 =>
    (cond (decide (r22 < (0 : Int)))
     (some false)
     (cond (!(r22 == r21.1))
      (some false)
      ((m_w16q x.1).bind fun r23 =>
      ((m_w90q (r23, x.2.1, x.2.2)).bind fun r24 =>
      ((m_w101q (r24, r3)).bind fun r25 =>
      (cond (!r25)
       (some false)
       ((m_w113q ((r5.1, (r5.2.1, (r5.2.2.1, (r17.2, (r18.2, (r19.2, (r20.2, r21.2))))))), (1 : Int))).bind fun r26 =>
       (cond (decide (r26 < (0 : Int)))
        (some false)
        (cond (!(r26 == r21.1))
         (some false)
         (some true))))))))))))))))))))))))))))))))))
def m_w114q (x : ((Int × ((List (Int × (Int × Int))) × ((List (Int × Int)) × ((List (Int × (List (Int × (Int × (Int × Int)))))) × ((List (Int × Int)) × (List Int)))))) × (Int × Int))) : Option Bool := p_w114q FU x
def a_w114q : Ann := (.node .leaf (.node .leaf (.node .leaf (.node .leaf (.node .leaf (.node .leaf (.node .leaf (.node .leaf (.node .leaf (.node .leaf (.node .leaf (.node (.join [.slot 50 .bool] [43, 44, 45, 46, 47, 48, 49] .leaf .leaf) .leaf))))))))))))
def S_w114q : FSpec := ⟨[.val Kd6, .val (.int .i64), .val (.int .i64)], [.bool], m_w114q⟩

def T : Tab := [
  (2, ⟨false, 1, 8, [], 0, [.int .i64 0], some (.int .i64), [0]⟩),
  (3, ⟨false, 1, 8, [], 0, [.int .i64 0], some (.int .i64), [0]⟩),
  (22, ⟨false, 1, 24, [], 192, [.nil], some Kd15, []⟩),
  (23, ⟨false, 1, 24, [], 196, [.nil], some Kd18, []⟩),
  (24, ⟨false, 1, 24, [], 176, [.nil], some Kd8, []⟩),
  (25, ⟨false, 1, 24, [], 2, [.nil], some Kd21, []⟩),
  (27, ⟨true, 6, 128, [(0, 1, 2), (1, 1, 22), (2, 1, 23), (3, 1, 24), (4, 1, 23), (5, 1, 25)], 0, [.int .i64 0, .nil, .nil, .nil, .nil, .nil], some Kd6, []⟩),
  (29, ⟨false, 1, 24, [], 190, [.nil], some Kd15, []⟩),
  (30, ⟨false, 1, 24, [], 194, [.nil], some Kd18, []⟩),
  (31, ⟨false, 1, 24, [], 185, [.nil], some Kd8, []⟩),
  (33, ⟨true, 6, 128, [(0, 1, 2), (1, 1, 29), (2, 1, 30), (3, 1, 31), (4, 1, 30), (5, 1, 25)], 0, [.int .i64 0, .nil, .nil, .nil, .nil, .nil], some Kd6, []⟩),
  (35, ⟨true, 8, 144, [(0, 1, 2), (1, 1, 2), (2, 6, 33)], 0, [.int .i64 0, .int .i64 0, .int .i64 0, .nil, .nil, .nil, .nil, .nil], some Kd3, []⟩),
  (174, ⟨false, 1, 24, [], 308, [.nil], some Kd12, []⟩),
  (176, ⟨true, 2, 32, [(0, 1, 2), (1, 1, 174)], 0, [.int .i64 0, .nil], some Kd10, []⟩),
  (183, ⟨false, 1, 24, [], 208, [.nil], some Kd12, []⟩),
  (185, ⟨true, 2, 32, [(0, 1, 2), (1, 1, 183)], 0, [.int .i64 0, .nil], some Kd10, []⟩),
  (190, ⟨true, 3, 24, [(0, 1, 2), (1, 1, 2), (2, 1, 2)], 0, [.int .i64 0, .int .i64 0, .int .i64 0], some Kd16, [0, 0, 0]⟩),
  (192, ⟨true, 3, 24, [(0, 1, 2), (1, 1, 2), (2, 1, 2)], 0, [.int .i64 0, .int .i64 0, .int .i64 0], some Kd16, [0, 0, 0]⟩),
  (194, ⟨true, 2, 16, [(0, 1, 2), (1, 1, 2)], 0, [.int .i64 0, .int .i64 0], some Kd19, [0, 0]⟩),
  (196, ⟨true, 2, 16, [(0, 1, 2), (1, 1, 2)], 0, [.int .i64 0, .int .i64 0], some Kd19, [0, 0]⟩),
  (208, ⟨true, 4, 32, [(0, 1, 2), (1, 1, 2), (2, 1, 2), (3, 1, 2)], 0, [.int .i64 0, .int .i64 0, .int .i64 0, .int .i64 0], some Kd13, [0, 0, 0, 0]⟩),
  (294, ⟨false, 1, 8, [], 0, [.int .u64 0], some (.int .u64), [0]⟩),
  (308, ⟨true, 4, 32, [(0, 1, 2), (1, 1, 2), (2, 1, 2), (3, 1, 2)], 0, [.int .i64 0, .int .i64 0, .int .i64 0, .int .i64 0], some Kd13, [0, 0, 0, 0]⟩),
  (310, ⟨false, 1, 8, [(2, 0, 2)], 0, [.undef], none, []⟩),
  (321, ⟨false, 1, 24, [], 3, [.nil], some Kd21, []⟩)]
def G_w0q : Env := (57, S_w0q) :: []
def G_w1q : Env := (58, S_w1q) :: G_w0q
def G_w2q : Env := (234, S_w2q) :: G_w1q
def G_w3q : Env := (144, S_w3q) :: G_w2q
def G_w4q : Env := (59, S_w4q) :: G_w3q
def G_w5q : Env := (60, S_w5q) :: G_w4q
def G_w6q : Env := (13, S_w6q) :: G_w5q
def G_w7q : Env := (155, S_w7q) :: G_w6q
def G_w8q : Env := (65, S_w8q) :: G_w7q
def G_w9q : Env := (156, S_w9q) :: G_w8q
def G_w10q : Env := (66, S_w10q) :: G_w9q
def G_w11q : Env := (299, S_w11q) :: G_w10q
def G_w12q : Env := (242, S_w12q) :: G_w11q
def G_w13q : Env := (157, S_w13q) :: G_w12q
def G_w14q : Env := (67, S_w14q) :: G_w13q
def G_w15q : Env := (68, S_w15q) :: G_w14q
def G_w16q : Env := (15, S_w16q) :: G_w15q
def G_w17q : Env := (63, S_w17q) :: G_w16q
def G_w18q : Env := (296, S_w18q) :: G_w17q
def G_w19q : Env := (235, S_w19q) :: G_w18q
def G_w20q : Env := (145, S_w20q) :: G_w19q
def G_w21q : Env := (62, S_w21q) :: G_w20q
def G_w22q : Env := (146, S_w22q) :: G_w21q
def G_w23q : Env := (297, S_w23q) :: G_w22q
def G_w24q : Env := (236, S_w24q) :: G_w23q
def G_w25q : Env := (154, S_w25q) :: G_w24q
def G_w26q : Env := (148, S_w26q) :: G_w25q
def G_w27q : Env := (150, S_w27q) :: G_w26q
def G_w28q : Env := (298, S_w28q) :: G_w27q
def G_w29q : Env := (237, S_w29q) :: G_w28q
def G_w30q : Env := (238, S_w30q) :: G_w29q
def G_w31q : Env := (241, S_w31q) :: G_w30q
def G_w32q : Env := (239, S_w32q) :: G_w31q
def G_w33q : Env := (147, S_w33q) :: G_w32q
def G_w34q : Env := (61, S_w34q) :: G_w33q
def G_w35q : Env := (152, S_w35q) :: G_w34q
def G_w36q : Env := (149, S_w36q) :: G_w35q
def G_w37q : Env := (151, S_w37q) :: G_w36q
def G_w38q : Env := (240, S_w38q) :: G_w37q
def G_w39q : Env := (153, S_w39q) :: G_w38q
def G_w40q : Env := (64, S_w40q) :: G_w39q
def G_w41q : Env := (14, S_w41q) :: G_w40q
def G_w42q : Env := (195, S_w42q) :: G_w41q
def G_w43q : Env := (158, S_w43q) :: G_w42q
def G_w44q : Env := (300, S_w44q) :: G_w43q
def G_w45q : Env := (243, S_w45q) :: G_w44q
def G_w46q : Env := (316, S_w46q) :: G_w45q
def G_w47q : Env := (261, S_w47q) :: G_w46q
def G_w48q : Env := (273, S_w48q) :: G_w47q
def G_w49q : Env := (244, S_w49q) :: G_w48q
def G_w50q : Env := (159, S_w50q) :: G_w49q
def G_w51q : Env := (168, S_w51q) :: G_w50q
def G_w52q : Env := (161, S_w52q) :: G_w51q
def G_w53q : Env := (162, S_w53q) :: G_w52q
def G_w54q : Env := (301, S_w54q) :: G_w53q
def G_w55q : Env := (302, S_w55q) :: G_w54q
def G_w56q : Env := (305, S_w56q) :: G_w55q
def G_w57q : Env := (245, S_w57q) :: G_w56q
def G_w58q : Env := (173, S_w58q) :: G_w57q
def G_w59q : Env := (315, S_w59q) :: G_w58q
def G_w60q : Env := (258, S_w60q) :: G_w59q
def G_w61q : Env := (170, S_w61q) :: G_w60q
def G_w62q : Env := (163, S_w62q) :: G_w61q
def G_w63q : Env := (91, S_w63q) :: G_w62q
def G_w64q : Env := (260, S_w64q) :: G_w63q
def G_w65q : Env := (171, S_w65q) :: G_w64q
def G_w66q : Env := (165, S_w66q) :: G_w65q
def G_w67q : Env := (248, S_w67q) :: G_w66q
def G_w68q : Env := (247, S_w68q) :: G_w67q
def G_w69q : Env := (166, S_w69q) :: G_w68q
def G_w70q : Env := (252, S_w70q) :: G_w69q
def G_w71q : Env := (339, S_w71q) :: G_w70q
def G_w72q : Env := (312, S_w72q) :: G_w71q
def G_w73q : Env := (253, S_w73q) :: G_w72q
def G_w74q : Env := (167, S_w74q) :: G_w73q
def G_w75q : Env := (69, S_w75q) :: G_w74q
def G_w76q : Env := (254, S_w76q) :: G_w75q
def G_w77q : Env := (255, S_w77q) :: G_w76q
def G_w78q : Env := (340, S_w78q) :: G_w77q
def G_w79q : Env := (313, S_w79q) :: G_w78q
def G_w80q : Env := (256, S_w80q) :: G_w79q
def G_w81q : Env := (257, S_w81q) :: G_w80q
def G_w82q : Env := (169, S_w82q) :: G_w81q
def G_w83q : Env := (262, S_w83q) :: G_w82q
def G_w84q : Env := (172, S_w84q) :: G_w83q
def G_w85q : Env := (264, S_w85q) :: G_w84q
def G_w86q : Env := (265, S_w86q) :: G_w85q
def G_w87q : Env := (174, S_w87q) :: G_w86q
def G_w88q : Env := (175, S_w88q) :: G_w87q
def G_w89q : Env := (70, S_w89q) :: G_w88q
def G_w90q : Env := (16, S_w90q) :: G_w89q
def G_w91q : Env := (176, S_w91q) :: G_w90q
def G_w92q : Env := (71, S_w92q) :: G_w91q
def G_w93q : Env := (177, S_w93q) :: G_w92q
def G_w94q : Env := (72, S_w94q) :: G_w93q
def G_w95q : Env := (321, S_w95q) :: G_w94q
def G_w96q : Env := (266, S_w96q) :: G_w95q
def G_w97q : Env := (178, S_w97q) :: G_w96q
def G_w98q : Env := (73, S_w98q) :: G_w97q
def G_w99q : Env := (74, S_w99q) :: G_w98q
def G_w100q : Env := (18, S_w100q) :: G_w99q
def G_w101q : Env := (17, S_w101q) :: G_w100q
def G_w102q : Env := (75, S_w102q) :: G_w101q
def G_w103q : Env := (76, S_w103q) :: G_w102q
def G_w104q : Env := (179, S_w104q) :: G_w103q
def G_w105q : Env := (77, S_w105q) :: G_w104q
def G_w106q : Env := (78, S_w106q) :: G_w105q
def G_w107q : Env := (180, S_w107q) :: G_w106q
def G_w108q : Env := (181, S_w108q) :: G_w107q
def G_w109q : Env := (267, S_w109q) :: G_w108q
def G_w110q : Env := (182, S_w110q) :: G_w109q
def G_w111q : Env := (183, S_w111q) :: G_w110q
def G_w112q : Env := (79, S_w112q) :: G_w111q
def G_w113q : Env := (21, S_w113q) :: G_w112q
def G_w114q : Env := (3, S_w114q) :: G_w113q
end
end Go.RvP
