/- The plain functions that the evaluator comes to, for FnExactCompactEngine. No condition. -/
import Derived.Test.YtijgnpdbdgilkaaGreatRvL
import Derived.Test.YtijgnpdbdgilkaaGreatRvS7
namespace Go.RvP
open Go Go.Rv
noncomputable section
abbrev Kd18 : Kd := (.sl (some 5) (.int .u8))
abbrev Kd17 : Kd := (.pair .str (.pair .str .bool))
abbrev Kd16 : Kd := (.sl none Kd17)
abbrev Kd15 : Kd := (.pair (.int .i64) Kd18)
abbrev Kd14 : Kd := (.sl (some 366) Kd17)
abbrev Kd13 : Kd := (.pair .str (.pair (.int .i64) (.pair .str .bool)))
abbrev Kd12 : Kd := (.pair (.sl none (.int .u8)) (.sl none (.int .u8)))
abbrev Kd11 : Kd := (.pair Kd18 Kd18)
abbrev Kd10 : Kd := (.sl none Kd13)
abbrev Kd9 : Kd := (.sl (some 179) Kd13)
abbrev Kd8 : Kd := (.sl none Kd10)
abbrev Kd7 : Kd := (.pair (.int .i64) (.pair (.int .i64) (.sl (some 22) Kd18)))
abbrev Kd6 : Kd := (.pair (.int .i64) Kd10)
abbrev Kd5 : Kd := (.sl (some 31) Kd9)
abbrev Kd4 : Kd := (.pair Kd12 (.pair Kd10 (.pair Kd8 (.int .i64))))
abbrev Kd3 : Kd := (.pair Kd11 (.pair Kd9 (.pair (.sl (some 31) Kd10) (.int .i64))))
abbrev Kd2 : Kd := (.pair Kd11 (.pair Kd9 (.pair Kd5 (.int .i64))))
abbrev Kd1 : Kd := (.pair (.int .i64) (.pair (.int .i64) Kd4))
/-! laws.szByteS -/
def p_w0q (n : Nat) (x : ((List Int) × Int)) : Option Int :=
(cond (decide ((IntKind.wrap .i64 (x.2 - (lenI x.1))) < (0 : Int)))
 (some (-1 : Int))
 (some (IntKind.wrap .i64 (x.2 - (lenI x.1)))))
def m_w0q (x : ((List Int) × Int)) : Option Int := p_w0q FU x
def a_w0q : Ann := .leaf
def S_w0q : FSpec := ⟨[.val (.sl none (.int .u8)), .val (.int .i64)], [(.int .i64)], m_w0q⟩

/-! laws.szLog -/
def p_w1q (n : Nat) (x : (((List Int) × (List Int)) × Int)) : Option Int :=
((m_w0q (x.1.1, x.2)).bind fun r1 =>
(cond (decide (r1 < (0 : Int)))
 (some (-1 : Int))
 ((m_w0q (x.1.2, r1)).bind fun r2 =>
 (cond (decide (r2 < (0 : Int)))
  (some (-1 : Int))
  (some r2)))))
def m_w1q (x : (((List Int) × (List Int)) × Int)) : Option Int := p_w1q FU x
def a_w1q : Ann := .leaf
def S_w1q : FSpec := ⟨[.val Kd12, .val (.int .i64)], [(.int .i64)], m_w1q⟩

/-! laws.szRow -/
def p_w2q (n : Nat) (x : ((ByteArray × (Int × (ByteArray × Bool))) × Int)) : Option Int :=
(cond (decide ((IntKind.wrap .i64 (x.2 - ((x.1.1.size : Nat) : Int))) < (0 : Int)))
 (some (-1 : Int))
 (cond (decide ((IntKind.wrap .i64 ((IntKind.wrap .i64 (x.2 - ((x.1.1.size : Nat) : Int))) - ((x.1.2.2.1.size : Nat) : Int))) < (0 : Int)))
  (some (-1 : Int))
  (some (IntKind.wrap .i64 ((IntKind.wrap .i64 (x.2 - ((x.1.1.size : Nat) : Int))) - ((x.1.2.2.1.size : Nat) : Int))))))
def m_w2q (x : ((ByteArray × (Int × (ByteArray × Bool))) × Int)) : Option Int := p_w2q FU x
def a_w2q : Ann := .leaf
def S_w2q : FSpec := ⟨[.val Kd13, .val (.int .i64)], [(.int .i64)], m_w2q⟩

/-! laws.szRowS -/
def l_w3q_1 (n : Nat) (x_1 : (List (ByteArray × (Int × (ByteArray × Bool))))) (z0 : (Int × Int)) : Option Int :=
(lp (fun rec5 (z4 : (Int × Int)) =>
 (cond (decide (z4.2 < (lenI x_1)))
  ((geti x_1 z4.2).bind fun y6 =>
  ((m_w2q (y6, z4.1)).bind fun r7 =>
  (cond (decide (r7 < (0 : Int)))
   (some (-1 : Int))
   (rec5 (r7, IntKind.wrap .i64 (z4.2 + (1 : Int)))))))
  (some z4.1))) n z0)
def p_w3q (n : Nat) (x : ((List (ByteArray × (Int × (ByteArray × Bool)))) × Int)) : Option Int :=
(cond (decide ((IntKind.wrap .i64 (x.2 - (lenI x.1))) < (0 : Int)))
 (some (-1 : Int))
 (l_w3q_1 n x.1 (IntKind.wrap .i64 (x.2 - (lenI x.1)), (0 : Int))))
def m_w3q (x : ((List (ByteArray × (Int × (ByteArray × Bool)))) × Int)) : Option Int := p_w3q FU x
def a_w3q : Ann := (.node .leaf (.node .leaf (.node .leaf (.node (.node .leaf (.loop [.slot 1 (.int .i64), .slot 5 (.int .i64)] [4, 12, 13, 14, 15, 16, 17, 18, 19, 20, 21, 22, 23, 24, 25] .leaf)) .leaf))))
def S_w3q : FSpec := ⟨[.val Kd10, .val (.int .i64)], [(.int .i64)], m_w3q⟩

/-! laws.szRowSS -/
def l_w4q_1 (n : Nat) (x_1 : (List (List (ByteArray × (Int × (ByteArray × Bool)))))) (z0 : (Int × Int)) : Option Int :=
(lp (fun rec5 (z4 : (Int × Int)) =>
 (cond (decide (z4.2 < (lenI x_1)))
  ((geti x_1 z4.2).bind fun y6 =>
  ((m_w3q (y6, z4.1)).bind fun r7 =>
  (cond (decide (r7 < (0 : Int)))
   (some (-1 : Int))
   (rec5 (r7, IntKind.wrap .i64 (z4.2 + (1 : Int)))))))
  (some z4.1))) n z0)
def p_w4q (n : Nat) (x : ((List (List (ByteArray × (Int × (ByteArray × Bool))))) × Int)) : Option Int :=
(cond (decide ((IntKind.wrap .i64 (x.2 - (lenI x.1))) < (0 : Int)))
 (some (-1 : Int))
 (l_w4q_1 n x.1 (IntKind.wrap .i64 (x.2 - (lenI x.1)), (0 : Int))))
def m_w4q (x : ((List (List (ByteArray × (Int × (ByteArray × Bool))))) × Int)) : Option Int := p_w4q FU x
def a_w4q : Ann := (.node .leaf (.node .leaf (.node .leaf (.node (.node .leaf (.loop [.slot 1 (.int .i64), .slot 5 (.int .i64)] [4, 12, 13, 14, 15, 16, 17, 18, 19, 20, 21, 22, 23, 24, 25] .leaf)) .leaf))))
def S_w4q : FSpec := ⟨[.val Kd8, .val (.int .i64)], [(.int .i64)], m_w4q⟩

/-! laws.szEngine -/
def p_w5q (n : Nat) (x : ((((List Int) × (List Int)) × ((List (ByteArray × (Int × (ByteArray × Bool)))) × ((List (List (ByteArray × (Int × (ByteArray × Bool))))) × Int))) × Int)) : Option Int :=
((m_w1q (x.1.1, x.2)).bind fun r1 =>
(cond (decide (r1 < (0 : Int)))
 (some (-1 : Int))
 ((m_w3q (x.1.2.1, r1)).bind fun r2 =>
 (cond (decide (r2 < (0 : Int)))
  (some (-1 : Int))
  ((m_w4q (x.1.2.2.1, r2)).bind fun r3 =>
  (cond (decide (r3 < (0 : Int)))
   (some (-1 : Int))
   (some r3)))))))
def m_w5q (x : ((((List Int) × (List Int)) × ((List (ByteArray × (Int × (ByteArray × Bool)))) × ((List (List (ByteArray × (Int × (ByteArray × Bool))))) × Int))) × Int)) : Option Int := p_w5q FU x
def a_w5q : Ann := .leaf
def S_w5q : FSpec := ⟨[.val Kd4, .val (.int .i64)], [(.int .i64)], m_w5q⟩

/-! laws.toByteS -/
def l_w6q_1 (n : Nat) (x : (List Int)) (z0 : (Int × (List Int))) : Option (List Int) :=
(lp (fun rec8 (z7 : (Int × (List Int))) =>
 (cond (decide (z7.1 < (lenI x)))
  ((geti x z7.1).bind fun y9 =>
  ((geti z7.2 z7.1).bind fun _ =>
  ((z7.2[z7.1.toNat]?).bind fun y10 =>
  rec8 (IntKind.wrap .i64 (z7.1 + (1 : Int)), (z7.2.set z7.1.toNat y9)))))
  (some z7.2))) n z0)
def p_w6q (n : Nat) (x : (List Int)) : Option (List Int) :=
(if (lenI x) = (lenI x) then (if 0 ≤ (lenI x) then chk (Nat.ble (1 * (lenI x).toNat) maxBytes)
(l_w6q_1 n x ((0 : Int), (List.replicate (lenI x).toNat (0 : Int)))) else none) else none)
def m_w6q (x : (List Int)) : Option (List Int) := p_w6q FU x
def a_w6q : Ann := (.node .leaf (.node .leaf (.node (.node .leaf (.loop [.slot 4 (.int .i64), .row 0 5 (.int .u8)] [8, 9, 10, 11, 12, 13, 14, 15, 16, 17, 18, 19, 20] .leaf)) .leaf)))
def S_w6q : FSpec := ⟨[.val (.sl none (.int .u8))], [Kd18], m_w6q⟩

/-! laws.toLog -/
def p_w7q (n : Nat) (x : ((List Int) × (List Int))) : Option ((List Int) × (List Int)) :=
((m_w6q x.1).bind fun r1 =>
((m_w6q x.2).bind fun r2 =>
some (r1, r2)))
def m_w7q (x : ((List Int) × (List Int))) : Option ((List Int) × (List Int)) := p_w7q FU x
def a_w7q : Ann := .leaf
def S_w7q : FSpec := ⟨[.val Kd12], [Kd11], m_w7q⟩

/-! laws.toRow -/
def p_w8q (n : Nat) (x : (ByteArray × (Int × (ByteArray × Bool)))) : Option (ByteArray × (Int × (ByteArray × Bool))) :=
some x
def m_w8q (x : (ByteArray × (Int × (ByteArray × Bool)))) : Option (ByteArray × (Int × (ByteArray × Bool))) := p_w8q FU x
def a_w8q : Ann := .leaf
def S_w8q : FSpec := ⟨[.val Kd13], [Kd13], m_w8q⟩

/-! laws.toRowS -/
def l_w9q_1 (n : Nat) (x : (List (ByteArray × (Int × (ByteArray × Bool))))) (z0 : (Int × (List (ByteArray × (Int × (ByteArray × Bool)))))) : Option (List (ByteArray × (Int × (ByteArray × Bool)))) :=
(lp (fun rec10 (z9 : (Int × (List (ByteArray × (Int × (ByteArray × Bool)))))) =>
 (cond (decide (z9.1 < (lenI x)))
  ((geti x z9.1).bind fun y11 =>
  ((m_w8q y11).bind fun r12 =>
  ((geti z9.2 z9.1).bind fun _ =>
  ((z9.2[z9.1.toNat]?).bind fun y13 =>
  rec10 (IntKind.wrap .i64 (z9.1 + (1 : Int)), (z9.2.set z9.1.toNat r12))))))
  (some z9.2))) n z0)
def p_w9q (n : Nat) (x : (List (ByteArray × (Int × (ByteArray × Bool))))) : Option (List (ByteArray × (Int × (ByteArray × Bool)))) :=
(if (lenI x) = (lenI x) then (if 0 ≤ (lenI x) then chk (Nat.ble (48 * (lenI x).toNat) maxBytes)
(l_w9q_1 n x ((0 : Int), (List.replicate (lenI x).toNat ((⟨#[]⟩ : ByteArray), ((0 : Int), ((⟨#[]⟩ : ByteArray), false)))))) else none) else none)
def m_w9q (x : (List (ByteArray × (Int × (ByteArray × Bool))))) : Option (List (ByteArray × (Int × (ByteArray × Bool)))) := p_w9q FU x
def a_w9q : Ann := (.node .leaf (.node .leaf (.node (.node .leaf (.loop [.slot 4 (.int .i64), .row 0 179 Kd13] [8, 9, 10, 11, 12, 13, 14, 15, 16, 17, 18, 19, 20, 21] .leaf)) .leaf)))
def S_w9q : FSpec := ⟨[.val Kd10], [Kd9], m_w9q⟩

/-! laws.toRowSS -/
def l_w10q_1 (n : Nat) (x : (List (List (ByteArray × (Int × (ByteArray × Bool)))))) (z0 : (Int × (List (List (ByteArray × (Int × (ByteArray × Bool))))))) : Option (List (List (ByteArray × (Int × (ByteArray × Bool))))) :=
(lp (fun rec8 (z7 : (Int × (List (List (ByteArray × (Int × (ByteArray × Bool))))))) =>
 (cond (decide (z7.1 < (lenI x)))
  ((geti x z7.1).bind fun y9 =>
  ((m_w9q y9).bind fun r10 =>
  ((geti z7.2 z7.1).bind fun _ =>
  ((z7.2[z7.1.toNat]?).bind fun _ =>
  rec8 (IntKind.wrap .i64 (z7.1 + (1 : Int)), (z7.2.set z7.1.toNat r10))))))
  (some z7.2))) n z0)
def p_w10q (n : Nat) (x : (List (List (ByteArray × (Int × (ByteArray × Bool)))))) : Option (List (List (ByteArray × (Int × (ByteArray × Bool))))) :=
(if (lenI x) = (lenI x) then (if 0 ≤ (lenI x) then chk (Nat.ble (24 * (lenI x).toNat) maxBytes)
(l_w10q_1 n x ((0 : Int), (List.replicate (lenI x).toNat []))) else none) else none)
def m_w10q (x : (List (List (ByteArray × (Int × (ByteArray × Bool)))))) : Option (List (List (ByteArray × (Int × (ByteArray × Bool))))) := p_w10q FU x
def a_w10q : Ann := (.node .leaf (.node (.own 7 Kd9 .leaf) (.node (.node .leaf (.loop [.slot 4 (.int .i64), .row 0 31 Kd9] [8, 9, 10, 11, 12, 13, 14, 15, 16, 17, 18, 19, 20, 21] .leaf)) .leaf)))
def S_w10q : FSpec := ⟨[.val Kd8], [Kd5], m_w10q⟩

/-! laws.toEngine -/
def p_w11q (n : Nat) (x : (((List Int) × (List Int)) × ((List (ByteArray × (Int × (ByteArray × Bool)))) × ((List (List (ByteArray × (Int × (ByteArray × Bool))))) × Int)))) : Option (((List Int) × (List Int)) × ((List (ByteArray × (Int × (ByteArray × Bool)))) × ((List (List (ByteArray × (Int × (ByteArray × Bool))))) × Int))) :=
((m_w7q x.1).bind fun r1 =>
((m_w9q x.2.1).bind fun r2 =>
((m_w10q x.2.2.1).bind fun r3 =>
some (r1, (r2, (r3, x.2.2.2))))))
def m_w11q (x : (((List Int) × (List Int)) × ((List (ByteArray × (Int × (ByteArray × Bool)))) × ((List (List (ByteArray × (Int × (ByteArray × Bool))))) × Int)))) : Option (((List Int) × (List Int)) × ((List (ByteArray × (Int × (ByteArray × Bool)))) × ((List (List (ByteArray × (Int × (ByteArray × Bool))))) × Int))) := p_w11q FU x
def a_w11q : Ann := .leaf
def S_w11q : FSpec := ⟨[.val Kd4], [Kd2], m_w11q⟩

/-! spec.LogFault -/
def p_w12q (n : Nat) (x : ((List Int) × (List Int))) : Option Int :=
(cond (decide ((IntKind.wrap .i64 ((lenI x.1) + (lenI x.2))) > (6000 : Int)))
 (some (2 : Int))
 (some (0 : Int)))
def m_w12q (x : ((List Int) × (List Int))) : Option Int := p_w12q FU x
def a_w12q : Ann := .leaf
def S_w12q : FSpec := ⟨[.val Kd12], [(.int .i64)], m_w12q⟩

/-! spec.l1In -/
def p_w13q (n : Nat) (x : (Int × (Int × Int))) : Option Bool :=
(cond (decide (x.1 ≥ x.2.1))
 (some (decide (x.1 ≤ x.2.2)))
 (some false))
def m_w13q (x : (Int × (Int × Int))) : Option Bool := p_w13q FU x
def a_w13q : Ann := .leaf
def S_w13q : FSpec := ⟨[.val (.int .i64), .val (.int .i64), .val (.int .i64)], [.bool], m_w13q⟩

/-! spec.RowFault -/
def p_w14q (n : Nat) (x : (ByteArray × (Int × (ByteArray × Bool)))) : Option Int :=
(Option.bind (α := Bool)
 (cond (decide (((x.1.size : Nat) : Int) < (1 : Int)))
  (some true)
  (cond (decide (((x.1.size : Nat) : Int) > (20 : Int)))
   (some true)
   (cond x.2.2.2
    (some (!(x.2.2.1.toList == (⟨#[]⟩ : ByteArray).toList)))
    (some false)))) fun j1 =>
(cond j1
 (some (1 : Int))
 (cond (decide (((x.2.2.1.size : Nat) : Int) > (100 : Int)))
  (some (2 : Int))
  ((m_w13q (x.2.1, (1 : Int), (1000000 : Int))).bind fun r2 =>
  (cond (!r2)
   (some (3 : Int))
   (some (0 : Int)))))))
def m_w14q (x : (ByteArray × (Int × (ByteArray × Bool)))) : Option Int := p_w14q FU x
def a_w14q : Ann := (.node .leaf (.node (.join [.slot 21 .bool] [3, 4, 5, 6, 7, 8, 9, 10, 11, 12, 13, 14, 15, 16, 17, 18, 19, 20] .leaf .leaf) .leaf))
def S_w14q : FSpec := ⟨[.val Kd13], [(.int .i64)], m_w14q⟩

/-! spec.l5Ahead -/
def p_w15q (n : Nat) (x : ((ByteArray × (Int × (ByteArray × Bool))) × (ByteArray × (Int × (ByteArray × Bool))))) : Option Bool :=
(cond (!(x.1.1.toList == x.2.1.toList))
 (some (Op.bytesLess x.1.1.toList x.2.1.toList))
 (some (decide (x.1.2.1 > x.2.2.1))))
def m_w15q (x : ((ByteArray × (Int × (ByteArray × Bool))) × (ByteArray × (Int × (ByteArray × Bool))))) : Option Bool := p_w15q FU x
def a_w15q : Ann := .leaf
def S_w15q : FSpec := ⟨[.val Kd13, .val Kd13], [.bool], m_w15q⟩

/-! spec.TableFault -/
def l_w16q_1 (n : Nat) (x : (List (ByteArray × (Int × (ByteArray × Bool))))) (z0 : Int) : Option Int :=
(lp (fun rec12 (z11 : Int) =>
 (cond (decide (z11 < (lenI x)))
  ((geti x z11).bind fun y13 =>
  ((m_w14q y13).bind fun r14 =>
  (cond (!(r14 == (0 : Int)))
   (some r14)
   (Option.bind (α := Bool)
    (cond (decide (z11 > (0 : Int)))
     ((geti x (IntKind.wrap .i64 (z11 - (1 : Int)))).bind fun y18 =>
     ((geti x z11).bind fun y19 =>
     ((m_w15q (y18, y19)).bind fun r20 =>
     some (!r20))))
     (some false)) fun j21 =>
   (cond j21
    (some (1 : Int))
    (rec12 (IntKind.wrap .i64 (z11 + (1 : Int)))))))))
  (some (0 : Int)))) n z0)
def p_w16q (n : Nat) (x : (List (ByteArray × (Int × (ByteArray × Bool))))) : Option Int :=
(cond (decide ((lenI x) > (200 : Int)))
 (some (2 : Int))
 (l_w16q_1 n x (0 : Int)))
def m_w16q (x : (List (ByteArray × (Int × (ByteArray × Bool))))) : Option Int := p_w16q FU x
def a_w16q : Ann := (.node .leaf (.node .leaf (.node (.node .leaf (.loop [.slot 3 (.int .i64)] [2, 4, 8, 9, 10, 11, 12, 13, 14, 15, 16, 17, 18, 19, 20, 21, 22, 23, 24, 25, 26, 27, 28, 29, 30, 31, 32, 33, 34, 35, 36] (.node .leaf (.node (.node .leaf (.join [.slot 36 .bool] [22, 23, 24, 25, 26, 27, 28, 29, 30, 31, 32, 33, 34, 35] .leaf .leaf)) .leaf)))) .leaf)))
def S_w16q : FSpec := ⟨[.val Kd10], [(.int .i64)], m_w16q⟩

/-! spec.l6Below -/
def l_w17q_1 (n : Nat) (x_1 : (List (ByteArray × (Int × (ByteArray × Bool))))) (x_2 : Int) (z0 : Int) : Option Bool :=
(lp (fun rec4 (z3 : Int) =>
 (cond (decide (z3 < (lenI x_1)))
  ((geti x_1 z3).bind fun y5 =>
  (cond (decide (y5.2.1 ≥ x_2))
   (some false)
   (rec4 (IntKind.wrap .i64 (z3 + (1 : Int))))))
  (some true))) n z0)
def p_w17q (n : Nat) (x : ((List (ByteArray × (Int × (ByteArray × Bool)))) × Int)) : Option Bool :=
(l_w17q_1 n x.1 x.2 (0 : Int))
def m_w17q (x : ((List (ByteArray × (Int × (ByteArray × Bool)))) × Int)) : Option Bool := p_w17q FU x
def a_w17q : Ann := (.node .leaf (.node (.node .leaf (.loop [.slot 5 (.int .i64)] [4, 6, 7, 8, 9, 10, 11, 12, 13, 14, 15, 16, 17, 18] .leaf)) .leaf))
def S_w17q : FSpec := ⟨[.val Kd10, .val (.int .i64)], [.bool], m_w17q⟩

/-! spec.l4Sync -/
def p_w18q (n : Nat) (x : ((List Int) × (List Int))) : Option ((List Int) × (List Int)) :=
(chk (Nat.ble (x.1.length * 1) maxBytes)
(chk (Nat.ble ((x.1.length + x.2.length) * 1) maxBytes)
(some ((x.1 ++ x.2), []))))
def m_w18q (x : ((List Int) × (List Int))) : Option ((List Int) × (List Int)) := p_w18q FU x
def a_w18q : Ann := (.node .leaf (.node (.lazy 3 .leaf) .leaf))
def S_w18q : FSpec := ⟨[.val Kd12], [Kd11], m_w18q⟩

/-! spec.CheckOf -/
def l_w19q_1 (n : Nat) (x : (List Int)) (z0 : (Int × Int)) : Option Int :=
(lp (fun rec4 (z3 : (Int × Int)) =>
 (cond (decide (z3.2 < (lenI x)))
  ((geti x z3.2).bind fun y5 =>
  (cond ((65521 : Int) == 0) none
   (rec4 (Int.tmod (IntKind.wrap .i64 ((IntKind.wrap .i64 ((IntKind.wrap .i64 (z3.1 * (257 : Int))) + (IntKind.wrap .i64 y5))) + (1 : Int))) (65521 : Int), IntKind.wrap .i64 (z3.2 + (1 : Int))))))
  (some z3.1))) n z0)
def p_w19q (n : Nat) (x : (List Int)) : Option Int :=
(l_w19q_1 n x ((1 : Int), (0 : Int)))
def m_w19q (x : (List Int)) : Option Int := p_w19q FU x
def a_w19q : Ann := (.node .leaf (.node .leaf (.node (.node .leaf (.loop [.slot 3 (.int .i64), .slot 4 (.int .i64)] [5, 6, 7, 8, 9, 10, 11, 12, 13, 14, 15, 16, 17, 18, 19, 20] .leaf)) .leaf)))
def S_w19q : FSpec := ⟨[.val (.sl none (.int .u8))], [(.int .i64)], m_w19q⟩

/-! spec.l3Records -/
def l_w20q_1 (n : Nat) (x : (List Int)) (z0 : ((List (List Int)) × Int)) : Option ((List (List Int)) × Int) :=
(lp (fun rec9 (z8 : ((List (List Int)) × Int)) =>
 (cond (decide ((IntKind.wrap .i64 (z8.2 + (4 : Int))) < (lenI x)))
  ((geti x z8.2).bind fun y10 =>
  ((geti x (IntKind.wrap .i64 (z8.2 + (1 : Int)))).bind fun y11 =>
  (Option.bind (α := Bool)
   (cond (decide ((IntKind.wrap .i64 ((IntKind.wrap .i64 ((IntKind.wrap .i64 y10) * (256 : Int))) + (IntKind.wrap .i64 y11))) < (1 : Int)))
    (some true)
    (cond (decide ((IntKind.wrap .i64 ((IntKind.wrap .i64 ((IntKind.wrap .i64 y10) * (256 : Int))) + (IntKind.wrap .i64 y11))) > (500 : Int)))
     (some true)
     (some (decide ((IntKind.wrap .i64 ((IntKind.wrap .i64 (z8.2 + (4 : Int))) + (IntKind.wrap .i64 ((IntKind.wrap .i64 ((IntKind.wrap .i64 y10) * (256 : Int))) + (IntKind.wrap .i64 y11))))) > (lenI x)))))) fun j12 =>
  (cond j12
   (some (z8.1, z8.2))
   (chk (bndB (some (IntKind.wrap .i64 (z8.2 + (4 : Int)))) (some (IntKind.wrap .i64 ((IntKind.wrap .i64 (z8.2 + (4 : Int))) + (IntKind.wrap .i64 ((IntKind.wrap .i64 ((IntKind.wrap .i64 y10) * (256 : Int))) + (IntKind.wrap .i64 y11)))))) none x.length)
    ((geti x (IntKind.wrap .i64 (z8.2 + (2 : Int)))).bind fun y13 =>
    ((geti x (IntKind.wrap .i64 (z8.2 + (3 : Int)))).bind fun y14 =>
    ((m_w19q (cutL (some (IntKind.wrap .i64 (z8.2 + (4 : Int)))) (some (IntKind.wrap .i64 ((IntKind.wrap .i64 (z8.2 + (4 : Int))) + (IntKind.wrap .i64 ((IntKind.wrap .i64 ((IntKind.wrap .i64 y10) * (256 : Int))) + (IntKind.wrap .i64 y11)))))) x)).bind fun r15 =>
    (cond (!(r15 == (IntKind.wrap .i64 ((IntKind.wrap .i64 ((IntKind.wrap .i64 y13) * (256 : Int))) + (IntKind.wrap .i64 y14)))))
     (some (z8.1, z8.2))
     (chk (Nat.ble ((([] : List Int).length + (cutL (some (IntKind.wrap .i64 (z8.2 + (4 : Int)))) (some (IntKind.wrap .i64 ((IntKind.wrap .i64 (z8.2 + (4 : Int))) + (IntKind.wrap .i64 ((IntKind.wrap .i64 ((IntKind.wrap .i64 y10) * (256 : Int))) + (IntKind.wrap .i64 y11)))))) x).length) * 1) maxBytes)
     (chk (Nat.ble ((z8.1.length + ([(([] : List Int) ++ (cutL (some (IntKind.wrap .i64 (z8.2 + (4 : Int)))) (some (IntKind.wrap .i64 ((IntKind.wrap .i64 (z8.2 + (4 : Int))) + (IntKind.wrap .i64 ((IntKind.wrap .i64 ((IntKind.wrap .i64 y10) * (256 : Int))) + (IntKind.wrap .i64 y11)))))) x))] : List (List Int)).length) * 24) maxBytes)
     (rec9 ((z8.1 ++ [(([] : List Int) ++ (cutL (some (IntKind.wrap .i64 (z8.2 + (4 : Int)))) (some (IntKind.wrap .i64 ((IntKind.wrap .i64 (z8.2 + (4 : Int))) + (IntKind.wrap .i64 ((IntKind.wrap .i64 ((IntKind.wrap .i64 y10) * (256 : Int))) + (IntKind.wrap .i64 y11)))))) x))]), IntKind.wrap .i64 ((IntKind.wrap .i64 (z8.2 + (4 : Int))) + (IntKind.wrap .i64 ((IntKind.wrap .i64 ((IntKind.wrap .i64 y10) * (256 : Int))) + (IntKind.wrap .i64 y11)))))))))))))))))
  (some (z8.1, z8.2)))) n z0)
def p_w20q (n : Nat) (x : (List Int)) : Option ((List (List Int)) × Int) :=
(l_w20q_1 n x (([] : List (List Int)), (0 : Int)))
def m_w20q (x : (List Int)) : Option ((List (List Int)) × Int) := p_w20q FU x
def a_w20q : Ann := (.node .leaf (.node .leaf (.node .leaf (.node (.loop [.slot 4 (.sl (some 22) (.sl none (.int .u8))), .slot 5 (.int .i64)] [6, 7, 9, 10, 11, 12, 13, 14, 15, 16, 17, 18, 19, 20, 21, 22, 23, 24, 25, 26, 27, 28, 29, 30, 31, 32, 33, 34, 35, 36, 37, 38, 39, 40, 41, 42, 43, 44, 45, 46, 47, 48, 49, 50, 51, 52, 53, 54, 55, 56, 57, 58, 59, 60, 61, 62, 63, 64, 65, 66, 67, 68, 69, 70, 71, 72, 73, 74, 75, 76] (.node .leaf (.node .leaf (.node (.join [.slot 41 .bool] [27, 28, 29, 30, 31, 32, 33, 34, 35, 36, 37, 38, 39, 40] .leaf .leaf) .leaf)))) .leaf))))
def S_w20q : FSpec := ⟨[.val (.sl none (.int .u8))], [(.sl (some 22) (.sl none (.int .u8))), (.int .i64)], m_w20q⟩

/-! spec.l3Number -/
def l_w21q_1 (n : Nat) (x : (List Int)) (z0 : (Int × Int)) : Option Int :=
(lp (fun rec4 (z3 : (Int × Int)) =>
 (cond (decide (z3.2 < (8 : Int)))
  ((geti x z3.2).bind fun y5 =>
  rec4 (IntKind.wrap .u64 ((IntKind.wrap .u64 (z3.1 * (256 : Int))) + (IntKind.wrap .u64 y5)), IntKind.wrap .i64 (z3.2 + (1 : Int))))
  (some (IntKind.wrap .i64 z3.1)))) n z0)
def p_w21q (n : Nat) (x : (List Int)) : Option Int :=
(l_w21q_1 n x ((0 : Int), (0 : Int)))
def m_w21q (x : (List Int)) : Option Int := p_w21q FU x
def a_w21q : Ann := (.node .leaf (.node .leaf (.node (.node .leaf (.loop [.slot 3 (.int .u64), .slot 4 (.int .i64)] [5, 6, 7, 8, 9, 10, 11, 12, 13, 14, 15, 16] .leaf)) .leaf)))
def S_w21q : FSpec := ⟨[.val (.sl none (.int .u8))], [(.int .i64)], m_w21q⟩

/-! spec.l6Text -/
def p_w22q (n : Nat) (x : ((List Int) × Int)) : Option (ByteArray × Int) :=
(Option.bind (α := Bool)
 (cond (decide (x.2 ≥ (lenI x.1)))
  (some true)
  ((geti x.1 x.2).bind fun y2 =>
  some (decide ((IntKind.wrap .i64 ((IntKind.wrap .i64 (x.2 + (1 : Int))) + (IntKind.wrap .i64 y2))) > (lenI x.1))))) fun j3 =>
(cond j3
 (some ((⟨#[]⟩ : ByteArray), (-1 : Int)))
 ((geti x.1 x.2).bind fun y4 =>
 (chk (bndB (some (IntKind.wrap .i64 (x.2 + (1 : Int)))) (some (IntKind.wrap .i64 ((IntKind.wrap .i64 (x.2 + (1 : Int))) + (IntKind.wrap .i64 y4)))) none x.1.length)
  (some ((strOfNums (cutL (some (IntKind.wrap .i64 (x.2 + (1 : Int)))) (some (IntKind.wrap .i64 ((IntKind.wrap .i64 (x.2 + (1 : Int))) + (IntKind.wrap .i64 y4)))) x.1)), IntKind.wrap .i64 ((IntKind.wrap .i64 (x.2 + (1 : Int))) + (IntKind.wrap .i64 y4))))))))
def m_w22q (x : ((List Int) × Int)) : Option (ByteArray × Int) := p_w22q FU x
def a_w22q : Ann := (.node .leaf (.node (.join [.slot 23 .bool] [7, 8, 9, 10, 11, 12, 13, 14, 15, 16, 17, 18, 19, 20, 21, 22] .leaf .leaf) .leaf))
def S_w22q : FSpec := ⟨[.val (.sl none (.int .u8)), .val (.int .i64)], [.str, (.int .i64)], m_w22q⟩

/-! spec.PackNumber -/
def l_w23q_1 (n : Nat) (x : Int) (z0 : ((List Int) × Int)) : Option (List Int) :=
(lp (fun rec3 (z2 : ((List Int) × Int)) =>
 (cond (decide (z2.2 ≥ (0 : Int)))
  (chk (decide (0 ≤ (IntKind.wrap .u64 (IntKind.wrap .i64 ((8 : Int) * z2.2)))))
   (chk (Nat.ble ((z2.1.length + [IntKind.wrap .u8 (Int.fdiv (IntKind.wrap .u64 x) (2 ^ (min (IntKind.wrap .u64 (IntKind.wrap .i64 ((8 : Int) * z2.2))).toNat 64)))].length) * 1) maxBytes)
   (rec3 ((z2.1 ++ [IntKind.wrap .u8 (Int.fdiv (IntKind.wrap .u64 x) (2 ^ (min (IntKind.wrap .u64 (IntKind.wrap .i64 ((8 : Int) * z2.2))).toNat 64)))]), IntKind.wrap .i64 (z2.2 - (1 : Int))))))
  (some z2.1))) n z0)
def p_w23q (n : Nat) (x : Int) : Option (List Int) :=
(l_w23q_1 n x (([] : List Int), (7 : Int)))
def m_w23q (x : Int) : Option (List Int) := p_w23q FU x
def a_w23q : Ann := (.node .leaf (.node .leaf (.node (.node .leaf (.loop [.slot 3 Kd18, .slot 4 (.int .i64)] [6, 7, 8, 9, 10, 11, 12, 13, 14, 15, 16, 17, 18, 19] .leaf)) .leaf)))
def S_w23q : FSpec := ⟨[.val (.int .i64)], [Kd18], m_w23q⟩

/-! spec.PackText -/
def p_w24q (n : Nat) (x : ByteArray) : Option (Int × (List Int)) :=
(cond (decide (((x.size : Nat) : Int) > (200 : Int)))
 (some ((2 : Int), []))
 (chk (Nat.ble (([IntKind.wrap .u8 ((x.size : Nat) : Int)].length + (bytesNums x).length) * 1) maxBytes)
 (some ((0 : Int), ([IntKind.wrap .u8 ((x.size : Nat) : Int)] ++ (bytesNums x))))))
def m_w24q (x : ByteArray) : Option (Int × (List Int)) := p_w24q FU x
def a_w24q : Ann := (.node .leaf (.node .leaf (.node (.own 12 (.int .u8) .leaf) .leaf)))
def S_w24q : FSpec := ⟨[.val .str], [Kd15], m_w24q⟩

/-! spec.l6Pack -/
def l_w25q_1 (n : Nat) (x_2 : (List (ByteArray × (ByteArray × Bool)))) (z0 : ((List Int) × Int)) : Option (List Int) :=
(lp (fun rec8 (z7 : ((List Int) × Int)) =>
 (cond (decide (z7.2 < (lenI x_2)))
  ((geti x_2 z7.2).bind fun y9 =>
  (Option.bind (α := (List Int))
   (cond y9.2.2
    (chk (Nat.ble ((z7.1.length + [(1 : Int)].length) * 1) maxBytes)
    (some (z7.1 ++ [(1 : Int)])))
    (chk (Nat.ble ((z7.1.length + [(0 : Int)].length) * 1) maxBytes)
    (some (z7.1 ++ [(0 : Int)])))) fun j10 =>
  ((m_w24q y9.1).bind fun r11 =>
  (chk (Nat.ble ((j10.length + r11.2.length) * 1) maxBytes)
  (cond (!y9.2.2)
   ((m_w24q y9.2.1).bind fun r12 =>
   (chk (Nat.ble (((j10 ++ r11.2).length + r12.2.length) * 1) maxBytes)
   (rec8 (((j10 ++ r11.2) ++ r12.2), IntKind.wrap .i64 (z7.2 + (1 : Int))))))
   (rec8 ((j10 ++ r11.2), IntKind.wrap .i64 (z7.2 + (1 : Int)))))))))
  (some z7.1))) n z0)
def p_w25q (n : Nat) (x : (Int × (List (ByteArray × (ByteArray × Bool))))) : Option (List Int) :=
((m_w23q x.1).bind fun r1 =>
(l_w25q_1 n x.2 (r1, (0 : Int))))
def m_w25q (x : (Int × (List (ByteArray × (ByteArray × Bool))))) : Option (List Int) := p_w25q FU x
def a_w25q : Ann := (.node .leaf (.node .leaf (.node (.node .leaf (.loop [.slot 5 Kd18, .slot 6 (.int .i64)] [7, 10, 11, 12, 13, 14, 15, 16, 17, 18, 19, 20, 21, 22, 23, 24, 25, 26, 27, 28, 29, 30, 31, 32, 33, 34, 35, 36, 37, 38, 39, 40, 41, 42] (.node .leaf (.node (.node .leaf (.join [.slot 5 Kd18] [20, 21, 22, 23, 24, 25, 26, 27] .leaf .leaf)) .leaf)))) .leaf)))
def S_w25q : FSpec := ⟨[.val (.int .i64), .val Kd16], [Kd18], m_w25q⟩

/-! spec.WritesFault -/
def l_w26q_1 (n : Nat) (z58 : Int) (x : (List (ByteArray × (ByteArray × Bool)))) (y68_1 : ByteArray) (z0 : Int) : Option (Unit ⊕ (Unit ⊕ Int)) :=
(lp (fun rec73 (z72 : Int) =>
 (cond (decide (z72 < z58))
  ((geti x z72).bind fun y74 =>
  (cond (y74.1.toList == y68_1.toList)
   (some (Sum.inr (Sum.inr (7 : Int))))
   (rec73 (IntKind.wrap .i64 (z72 + (1 : Int))))))
  (some (Sum.inl ())))) n z0)
def l_w26q_2 (n : Nat) (x : (List (ByteArray × (ByteArray × Bool)))) (z0 : Int) : Option (Unit ⊕ Int) :=
(lp (fun rec59 (z58 : Int) =>
 (cond (decide (z58 < (lenI x)))
  (Option.bind (α := (Unit ⊕ (Unit ⊕ Int)))
   ((geti x z58).bind fun y68 =>
   ((m_w14q (y68.1, ((1 : Int), y68.2))).bind fun r69 =>
   (cond (!(r69 == (0 : Int)))
    (some (Sum.inr (Sum.inr r69)))
    (l_w26q_1 n z58 x y68.1 (0 : Int)))))
   (Sum.elim (fun j76 =>
  rec59 (IntKind.wrap .i64 (z58 + (1 : Int)))) some))
  (some (Sum.inl ())))) n z0)
def p_w26q (n : Nat) (x : (List (ByteArray × (ByteArray × Bool)))) : Option Int :=
(Option.bind (α := Bool)
 (cond (decide ((lenI x) < (1 : Int)))
  (some true)
  (some (decide ((lenI x) > (8 : Int))))) fun j1 =>
(cond j1
 (some (2 : Int))
 (Option.bind (α := (Unit ⊕ Int))
  (l_w26q_2 n x (0 : Int))
  (Sum.elim (fun j78 =>
 ((m_w25q ((1 : Int), x)).bind fun r79 =>
 (cond (decide ((lenI r79) > (500 : Int)))
  (some (2 : Int))
  (some (0 : Int))))) some))))
def m_w26q (x : (List (ByteArray × (ByteArray × Bool)))) : Option Int := p_w26q FU x
def a_w26q : Ann := (.node .leaf (.node (.join [.slot 14 .bool] [7, 8, 9, 10, 11, 12, 13] .leaf .leaf) (.joinx [] [2, 3, 4, 5, 6, 15, 16, 17, 18, 19, 20, 21, 22, 23, 24, 25, 26, 27, 28, 29, 30, 31, 32, 33, 34, 35, 36, 37, 38, 39, 40, 41, 42, 43, 44, 45, 46, 47, 48] (.node .leaf (.loop [.slot 3 (.int .i64)] [2, 4, 5, 6, 15, 16, 17, 18, 19, 20, 21, 22, 23, 24, 25, 26, 27, 28, 29, 30, 31, 32, 33, 34, 35, 36, 37, 38, 39, 40, 41, 42, 43, 44, 45, 46, 47, 48] (.node .leaf (.joinx [] [2, 4, 5, 6, 21, 22, 23, 24, 25, 26, 27, 28, 29, 30, 31, 32, 33, 34, 36, 37, 38, 39, 40, 41, 42, 43, 44, 45, 46, 47, 48] (.node .leaf (.node .leaf (.node .leaf (.loop [.slot 6 (.int .i64)] [2, 36, 37, 38, 39, 40, 41, 42, 43, 44, 45, 46, 47, 48] .leaf)))) .leaf)))) .leaf)))
def S_w26q : FSpec := ⟨[.val Kd16], [(.int .i64)], m_w26q⟩

/-! spec.PackWrites -/
def p_w27q (n : Nat) (x : (Int × (List (ByteArray × (ByteArray × Bool))))) : Option (Int × (List Int)) :=
((m_w13q (x.1, (1 : Int), (1000000 : Int))).bind fun r1 =>
(cond (!r1)
 (some ((3 : Int), []))
 ((m_w26q x.2).bind fun r2 =>
 (cond (!(r2 == (0 : Int)))
  (some (r2, []))
  ((m_w25q (x.1, x.2)).bind fun r3 =>
  some ((0 : Int), r3))))))
def m_w27q (x : (Int × (List (ByteArray × (ByteArray × Bool))))) : Option (Int × (List Int)) := p_w27q FU x
def a_w27q : Ann := .leaf
def S_w27q : FSpec := ⟨[.val (.int .i64), .val Kd16], [Kd15], m_w27q⟩

/-! spec.l6Unpack -/
def l_w28q_1 (n : Nat) (x : (List Int)) (z0 : ((List (ByteArray × (ByteArray × Bool))) × Int)) : Option ((List (ByteArray × (ByteArray × Bool))) ⊕ (Int × ((List (ByteArray × (ByteArray × Bool))) × Bool))) :=
(lp (fun rec26 (z25 : ((List (ByteArray × (ByteArray × Bool))) × Int)) =>
 (cond (decide (z25.2 < (lenI x)))
  ((geti x z25.2).bind fun y27 =>
  ((geti x z25.2).bind fun y28 =>
  (cond (decide (y28 > (1 : Int)))
   (some (Sum.inr ((0 : Int), [], false)))
   ((m_w22q (x, IntKind.wrap .i64 (z25.2 + (1 : Int)))).bind fun r29 =>
   (cond (decide (r29.2 < (0 : Int)))
    (some (Sum.inr ((0 : Int), [], false)))
    (Option.bind (α := ((Int × (ByteArray × (ByteArray × Bool))) ⊕ ((List (ByteArray × (ByteArray × Bool))) ⊕ (Int × ((List (ByteArray × (ByteArray × Bool))) × Bool)))))
     (cond (!(y27 == (1 : Int)))
      ((m_w22q (x, r29.2)).bind fun r31 =>
      (cond (decide (r31.2 < (0 : Int)))
       (some (Sum.inr (Sum.inr ((0 : Int), [], false))))
       (some (Sum.inl (r31.2, (r29.1, (r31.1, (y27 == (1 : Int)))))))))
      (some (Sum.inl (r29.2, (r29.1, ((⟨#[]⟩ : ByteArray), (y27 == (1 : Int))))))))
     (Sum.elim (fun j32 =>
    (chk (Nat.ble ((z25.1.length + [j32.2].length) * 40) maxBytes)
    (rec26 ((z25.1 ++ [j32.2]), j32.1)))) some)))))))
  (some (Sum.inl z25.1)))) n z0)
def p_w28q (n : Nat) (x : (List Int)) : Option (Int × ((List (ByteArray × (ByteArray × Bool))) × Bool)) :=
(cond (decide ((lenI x) < (8 : Int)))
 (some ((0 : Int), [], false))
 (chk (bndB none (some (8 : Int)) none x.length)
  ((m_w21q (cutL none (some (8 : Int)) x)).bind fun r1 =>
  (Option.bind (α := ((List (ByteArray × (ByteArray × Bool))) ⊕ (Int × ((List (ByteArray × (ByteArray × Bool))) × Bool))))
   (l_w28q_1 n x (([] : List (ByteArray × (ByteArray × Bool))), (8 : Int)))
   (Sum.elim (fun j34 =>
  ((m_w27q (r1, j34)).bind fun r35 =>
  some (r1, j34, (r35.1 == (0 : Int))))) some)))))
def m_w28q (x : (List Int)) : Option (Int × ((List (ByteArray × (ByteArray × Bool))) × Bool)) := p_w28q FU x
def a_w28q : Ann := (.node .leaf (.node .leaf (.node .leaf (.node .leaf (.node .leaf (.joinx [.slot 6 Kd14] [2, 3, 4, 7, 8, 9, 10, 11, 12, 20, 21, 22, 23, 24, 25, 26, 27, 28, 29, 30, 31, 32, 33, 34, 35, 36, 37, 38, 39, 40, 41, 42, 43, 44, 45, 46, 47, 48, 49, 50, 51, 52, 53, 54, 55, 56, 57, 58, 59, 60, 61, 62, 63, 64] (.loop [.slot 6 Kd14, .slot 7 (.int .i64)] [2, 3, 4, 8, 9, 10, 11, 12, 20, 21, 22, 23, 24, 25, 26, 27, 28, 29, 30, 31, 32, 33, 34, 35, 36, 37, 38, 39, 40, 41, 42, 43, 44, 45, 46, 47, 48, 49, 50, 51, 52, 53, 54, 55, 56, 57, 58, 59, 60, 61, 62, 63, 64] (.node .leaf (.node .leaf (.node .leaf (.node .leaf (.node .leaf (.node .leaf (.node .leaf (.joinx [.slot 7 (.int .i64), .box 2 Kd17] [11, 12, 47, 48, 49, 50, 51, 52, 53, 54, 55, 56, 57, 58, 59, 60] .leaf .leaf))))))))) .leaf))))))
def S_w28q : FSpec := ⟨[.val (.sl none (.int .u8))], [(.int .i64), Kd14, .bool], m_w28q⟩

/-! spec.l6Rows -/
def l_w29q_1 (n : Nat) (x_1 : Int) (x_2 : (List (ByteArray × (ByteArray × Bool)))) (z0 : ((List (ByteArray × (Int × (ByteArray × Bool)))) × Int)) : Option (List (ByteArray × (Int × (ByteArray × Bool)))) :=
(lp (fun rec6 (z5 : ((List (ByteArray × (Int × (ByteArray × Bool)))) × Int)) =>
 (cond (decide (z5.2 < (lenI x_2)))
  ((geti x_2 z5.2).bind fun y7 =>
  ((geti x_2 z5.2).bind fun y8 =>
  ((geti x_2 z5.2).bind fun y9 =>
  (chk (Nat.ble ((z5.1.length + [(y7.1, (x_1, (y8.2.1, y9.2.2)))].length) * 48) maxBytes)
  (rec6 ((z5.1 ++ [(y7.1, (x_1, (y8.2.1, y9.2.2)))]), IntKind.wrap .i64 (z5.2 + (1 : Int))))))))
  (some z5.1))) n z0)
def p_w29q (n : Nat) (x : (Int × (List (ByteArray × (ByteArray × Bool))))) : Option (List (ByteArray × (Int × (ByteArray × Bool)))) :=
(l_w29q_1 n x.1 x.2 (([] : List (ByteArray × (Int × (ByteArray × Bool)))), (0 : Int)))
def m_w29q (x : (Int × (List (ByteArray × (ByteArray × Bool))))) : Option (List (ByteArray × (Int × (ByteArray × Bool)))) := p_w29q FU x
def a_w29q : Ann := (.node .leaf (.node .leaf (.node (.node .leaf (.loop [.slot 5 Kd9, .slot 6 (.int .i64)] [8, 9, 10, 11, 12, 13, 14, 15, 16, 17, 18, 19, 20, 21, 22, 23, 24, 25, 26, 27, 28, 29, 30, 31, 32, 33] (.node .leaf (.node (.lazy 32 .leaf) .leaf)))) .leaf)))
def S_w29q : FSpec := ⟨[.val (.int .i64), .val Kd16], [Kd9], m_w29q⟩

/-! spec.l5Put -/
def l_w30q_1 (n : Nat) (x_1 : (List (ByteArray × (Int × (ByteArray × Bool))))) (x_2 : (ByteArray × (Int × (ByteArray × Bool)))) (z0 : Int) : Option Int :=
(lp (fun rec22 (z21 : Int) =>
 (Option.bind (α := Bool)
  (cond (decide (z21 < (lenI x_1)))
   ((geti x_1 z21).bind fun y25 =>
   ((m_w15q (y25, x_2)).bind fun r26 =>
   some r26))
   (some false)) fun j27 =>
 (cond j27
  (rec22 (IntKind.wrap .i64 (z21 + (1 : Int))))
  (some z21)))) n z0)
def p_w30q (n : Nat) (x : ((List (ByteArray × (Int × (ByteArray × Bool)))) × (ByteArray × (Int × (ByteArray × Bool))))) : Option (List (ByteArray × (Int × (ByteArray × Bool)))) :=
(Option.bind (α := Int)
 (l_w30q_1 n x.1 x.2 (0 : Int)) fun j29 =>
(Option.bind (α := Bool)
 (cond (decide (j29 < (lenI x.1)))
  ((geti x.1 j29).bind fun y32 =>
  ((m_w15q (x.2, y32)).bind fun r33 =>
  some (!r33)))
  (some false)) fun j34 =>
(cond j34
 (some x.1)
 (chk (bndB none (some j29) none x.1.length)
  (chk (bndB (some j29) none none x.1.length)
   (chk (Nat.ble ((cutL none (some j29) x.1).length * 48) maxBytes)
   (chk (Nat.ble (((cutL none (some j29) x.1).length + [x.2].length) * 48) maxBytes)
   (chk (Nat.ble ((((cutL none (some j29) x.1) ++ [x.2]).length + (cutL (some j29) none x.1).length) * 48) maxBytes)
   (some (((cutL none (some j29) x.1) ++ [x.2]) ++ (cutL (some j29) none x.1)))))))))))
def m_w30q (x : ((List (ByteArray × (Int × (ByteArray × Bool)))) × (ByteArray × (Int × (ByteArray × Bool))))) : Option (List (ByteArray × (Int × (ByteArray × Bool)))) := p_w30q FU x
def a_w30q : Ann := (.node .leaf (.node .leaf (.join [.slot 5 (.int .i64)] [6, 7, 8, 9, 10, 11, 12, 13, 14, 15, 16, 17, 18, 19] (.loop [.slot 5 (.int .i64)] [6, 7, 8, 9, 10, 11, 12, 13, 14, 15, 16, 17, 18, 19] (.node (.join [.slot 17 .bool] [6, 7, 8, 9, 10, 11, 12, 13, 14, 15, 16] .leaf .leaf) .leaf)) (.node (.join [.slot 32 .bool] [20, 21, 22, 23, 24, 25, 26, 27, 28, 29, 30, 31] .leaf .leaf) (.node (.lazy 40 (.lazy 34 .leaf)) .leaf)))))
def S_w30q : FSpec := ⟨[.val Kd10, .val Kd13], [Kd10], m_w30q⟩

/-! spec.l6Replay -/
def l_w31q_1 (n : Nat) (r78 : (List (ByteArray × (Int × (ByteArray × Bool))))) (r76_1 : Int) (z0 : ((List (ByteArray × (Int × (ByteArray × Bool)))) × Int)) : Option (((List (ByteArray × (Int × (ByteArray × Bool)))) × Int) ⊕ ((List (ByteArray × (Int × (ByteArray × Bool)))) × Bool)) :=
(lp (fun rec83 (z82 : ((List (ByteArray × (Int × (ByteArray × Bool)))) × Int)) =>
 (cond (decide (z82.2 < (lenI r78)))
  ((geti r78 z82.2).bind fun _ =>
  ((r78[z82.2.toNat]?).bind fun y84 =>
  ((m_w30q (z82.1, y84)).bind fun r85 =>
  rec83 (r85, IntKind.wrap .i64 (z82.2 + (1 : Int))))))
  (some (Sum.inl (z82.1, r76_1))))) n z0)
def l_w31q_2 (n : Nat) (r2_1 : (List (List Int))) (x_2 : Int) (z0 : ((List (ByteArray × (Int × (ByteArray × Bool)))) × (Int × Int))) : Option ((List (ByteArray × (Int × (ByteArray × Bool)))) × Bool) :=
(lp (fun rec62 (z61 : ((List (ByteArray × (Int × (ByteArray × Bool)))) × (Int × Int))) =>
 (cond (decide (z61.2.2 < (lenI r2_1)))
  (Option.bind (α := (((List (ByteArray × (Int × (ByteArray × Bool)))) × Int) ⊕ ((List (ByteArray × (Int × (ByteArray × Bool)))) × Bool)))
   ((geti r2_1 z61.2.2).bind fun _ =>
   ((r2_1[z61.2.2.toNat]?).bind fun y75 =>
   ((m_w28q y75).bind fun r76 =>
   (Option.bind (α := Bool)
    (cond (!r76.2.2)
     (some true)
     (cond (decide (r76.1 ≤ z61.2.1))
      (some true)
      (some (decide (r76.1 ≥ x_2))))) fun j77 =>
   (cond j77
    (some (Sum.inr ([], false)))
    ((m_w29q (r76.1, r76.2.1)).bind fun r78 =>
    (l_w31q_1 n r78 r76.1 (z61.1, (0 : Int)))))))))
   (Sum.elim (fun j87 =>
  rec62 (j87.1, j87.2, IntKind.wrap .i64 (z61.2.2 + (1 : Int)))) some))
  (some (z61.1, true)))) n z0)
def p_w31q (n : Nat) (x : (((List Int) × (List Int)) × Int)) : Option ((List (ByteArray × (Int × (ByteArray × Bool)))) × Bool) :=
((m_w18q x.1).bind fun r1 =>
((m_w20q r1.1).bind fun r2 =>
(cond (decide (r2.2 < (IntKind.wrap .i64 ((lenI x.1.1) + (lenI x.1.2)))))
 (some ([], false))
 (l_w31q_2 n r2.1 x.2 (([] : List (ByteArray × (Int × (ByteArray × Bool)))), (0 : Int), (0 : Int))))))
def m_w31q (x : (((List Int) × (List Int)) × Int)) : Option ((List (ByteArray × (Int × (ByteArray × Bool)))) × Bool) := p_w31q FU x
def a_w31q : Ann := (.node .leaf (.node .leaf (.node .leaf (.node .leaf (.node .leaf (.node (.node .leaf (.loop [.slot 8 Kd10, .slot 9 (.int .i64), .slot 10 (.int .i64)] [4, 5, 11, 12, 13, 14, 15, 33, 34, 35, 36, 37, 38, 39, 40, 41, 42, 43, 44, 45, 46, 47, 48, 49, 50, 51, 52, 53, 54, 55, 56, 57, 58, 59, 60, 61, 62, 63, 64, 65, 66, 67, 68, 69, 70, 71, 72, 73, 74, 75] (.node .leaf (.joinx [.slot 8 Kd10, .slot 9 (.int .i64)] [11, 12, 13, 14, 15, 39, 40, 41, 42, 43, 44, 45, 46, 47, 48, 49, 50, 51, 52, 53, 54, 55, 56, 57, 58, 59, 60, 61, 62, 63, 64, 65, 66, 67, 68, 69, 70, 71, 72, 73, 74, 75] (.node .leaf (.node (.join [.slot 59 .bool] [48, 49, 50, 51, 52, 53, 54, 55, 56, 57, 58] .leaf .leaf) (.node .leaf (.node .leaf (.node .leaf (.loop [.slot 8 Kd10, .slot 15 (.int .i64)] [64, 65, 66, 67, 68, 69, 70, 71, 72, 73, 74, 75] .leaf)))))) .leaf)))) .leaf))))))
def S_w31q : FSpec := ⟨[.val Kd12, .val (.int .i64)], [Kd10, .bool], m_w31q⟩

/-! spec.l6Same -/
def l_w32q_1 (n : Nat) (x_1 : (List (ByteArray × (Int × (ByteArray × Bool))))) (x_2 : (List (ByteArray × (Int × (ByteArray × Bool))))) (z0 : Int) : Option Bool :=
(lp (fun rec5 (z4 : Int) =>
 (cond (decide (z4 < (lenI x_1)))
  ((geti x_1 z4).bind fun y6 =>
  ((geti x_2 z4).bind fun y7 =>
  (cond (!((y6.1.toList == y7.1.toList) && ((y6.2.1 == y7.2.1) && ((y6.2.2.1.toList == y7.2.2.1.toList) && ((y6.2.2.2 == y7.2.2.2) && true)))))
   (some false)
   (rec5 (IntKind.wrap .i64 (z4 + (1 : Int)))))))
  (some true))) n z0)
def p_w32q (n : Nat) (x : ((List (ByteArray × (Int × (ByteArray × Bool)))) × (List (ByteArray × (Int × (ByteArray × Bool)))))) : Option Bool :=
(cond (!((lenI x.1) == (lenI x.2)))
 (some false)
 (l_w32q_1 n x.1 x.2 (0 : Int)))
def m_w32q (x : ((List (ByteArray × (Int × (ByteArray × Bool)))) × (List (ByteArray × (Int × (ByteArray × Bool)))))) : Option Bool := p_w32q FU x
def a_w32q : Ann := (.node .leaf (.node .leaf (.node (.node .leaf (.loop [.slot 5 (.int .i64)] [4, 11, 12, 13, 14, 15, 16, 17, 18, 19, 20, 21, 22, 23, 24, 25] .leaf)) .leaf)))
def S_w32q : FSpec := ⟨[.val Kd10, .val Kd10], [.bool], m_w32q⟩

/-! spec.EngineFault -/
def l_w33q_1 (n : Nat) (x_2_2_1 : (List (List (ByteArray × (Int × (ByteArray × Bool)))))) (z0 : Int) : Option (Unit ⊕ Int) :=
(lp (fun rec15 (z14 : Int) =>
 (cond (decide (z14 < (lenI x_2_2_1)))
  ((geti x_2_2_1 z14).bind fun y16 =>
  ((m_w16q y16).bind fun r17 =>
  (cond (!(r17 == (0 : Int)))
   (some (Sum.inr r17))
   (rec15 (IntKind.wrap .i64 (z14 + (1 : Int)))))))
  (some (Sum.inl ())))) n z0)
def l_w33q_2 (n : Nat) (x_2_2_1 : (List (List (ByteArray × (Int × (ByteArray × Bool)))))) (x_2_2_2 : Int) (z0 : Int) : Option (Unit ⊕ Int) :=
(lp (fun rec37 (z36 : Int) =>
 (cond (decide (z36 < (lenI x_2_2_1)))
  ((geti x_2_2_1 z36).bind fun y38 =>
  ((m_w17q (y38, x_2_2_2)).bind fun r39 =>
  (cond (!r39)
   (some (Sum.inr (3 : Int)))
   (rec37 (IntKind.wrap .i64 (z36 + (1 : Int)))))))
  (some (Sum.inl ())))) n z0)
def l_w33q_3 (n : Nat) (x_2_1 : (List (ByteArray × (Int × (ByteArray × Bool))))) (x_2_2_1 : (List (List (ByteArray × (Int × (ByteArray × Bool)))))) (z68 : Int) (z0 : Int) : Option (Unit ⊕ Int) :=
(lp (fun rec85 (z84 : Int) =>
 (cond (decide (z84 < (lenI x_2_2_1)))
  ((geti x_2_2_1 z84).bind fun y86 =>
  ((geti x_2_1 z68).bind fun y87 =>
  ((m_w17q (y86, y87.2.1)).bind fun r88 =>
  (cond (!r88)
   (some (Sum.inr (1 : Int)))
   (rec85 (IntKind.wrap .i64 (z84 + (1 : Int))))))))
  (some (Sum.inl ())))) n z0)
def l_w33q_4 (n : Nat) (x_2_1 : (List (ByteArray × (Int × (ByteArray × Bool))))) (x_2_2_1 : (List (List (ByteArray × (Int × (ByteArray × Bool)))))) (z0 : Int) : Option Int :=
(lp (fun rec69 (z68 : Int) =>
 (cond (decide (z68 < (lenI x_2_1)))
  (Option.bind (α := (Unit ⊕ Int))
   (l_w33q_3 n x_2_1 x_2_2_1 z68 (0 : Int))
   (Sum.elim (fun j90 =>
  rec69 (IntKind.wrap .i64 (z68 + (1 : Int)))) some))
  (some (0 : Int)))) n z0)
def p_w33q (n : Nat) (x : (((List Int) × (List Int)) × ((List (ByteArray × (Int × (ByteArray × Bool)))) × ((List (List (ByteArray × (Int × (ByteArray × Bool))))) × Int)))) : Option Int :=
((m_w12q x.1).bind fun r1 =>
(cond (!(r1 == (0 : Int)))
 (some r1)
 ((m_w16q x.2.1).bind fun r2 =>
 (cond (!(r2 == (0 : Int)))
  (some r2)
  (cond (decide ((lenI x.2.2.1) > (6 : Int)))
   (some (2 : Int))
   (Option.bind (α := (Unit ⊕ Int))
    (l_w33q_1 n x.2.2.1 (0 : Int))
    (Sum.elim (fun j19 =>
   (Option.bind (α := Bool)
    ((m_w13q (x.2.2.2, (1 : Int), (1000000 : Int))).bind fun r22 =>
    (cond (!r22)
     (some true)
     ((m_w17q (x.2.1, x.2.2.2)).bind fun r23 =>
     some (!r23)))) fun j24 =>
   (cond j24
    (some (3 : Int))
    (Option.bind (α := (Unit ⊕ Int))
     (l_w33q_2 n x.2.2.1 x.2.2.2 (0 : Int))
     (Sum.elim (fun j41 =>
    ((m_w31q (x.1, x.2.2.2)).bind fun r42 =>
    (Option.bind (α := Bool)
     (cond (!r42.2)
      (some true)
      ((m_w32q (r42.1, x.2.1)).bind fun r44 =>
      some (!r44))) fun j45 =>
    (cond j45
     (some (1 : Int))
     (l_w33q_4 n x.2.1 x.2.2.1 (0 : Int)))))) some))))) some)))))))
def m_w33q (x : (((List Int) × (List Int)) × ((List (ByteArray × (Int × (ByteArray × Bool)))) × ((List (List (ByteArray × (Int × (ByteArray × Bool))))) × Int)))) : Option Int := p_w33q FU x
def a_w33q : Ann := (.node .leaf (.node .leaf (.node .leaf (.node .leaf (.joinx [] [2, 5, 6, 28, 29, 30, 31, 32, 33, 34, 35, 36, 37, 38, 39, 40, 41, 42, 43] (.node .leaf (.loop [.slot 5 (.int .i64)] [2, 6, 28, 29, 30, 31, 32, 33, 34, 35, 36, 37, 38, 39, 40, 41, 42, 43] .leaf)) (.node (.join [.slot 55 .bool] [44, 45, 46, 47, 48, 49, 50, 51, 52, 53, 54] .leaf .leaf) (.joinx [] [2, 7, 56, 57, 58, 59, 60, 61, 62, 63, 64, 65, 66, 67, 68, 69, 70, 71] (.node .leaf (.loop [.slot 7 (.int .i64)] [2, 56, 57, 58, 59, 60, 61, 62, 63, 64, 65, 66, 67, 68, 69, 70, 71] .leaf)) (.node .leaf (.node (.join [.slot 88 .bool] [80, 81, 82, 83, 84, 85, 86, 87] .leaf .leaf) (.node (.node .leaf (.loop [.slot 10 (.int .i64)] [2, 11, 89, 90, 91, 92, 93, 94, 95, 96, 97, 98, 99, 100, 101, 102, 103, 104, 105, 106, 107, 108, 109, 110, 111, 112, 113, 114, 115] (.node .leaf (.joinx [] [2, 11, 96, 97, 98, 99, 100, 101, 102, 103, 104, 105, 106, 107, 108, 109, 110, 111, 112, 113, 114, 115] (.node .leaf (.loop [.slot 11 (.int .i64)] [2, 96, 97, 98, 99, 100, 101, 102, 103, 104, 105, 106, 107, 108, 109, 110, 111, 112, 113, 114, 115] .leaf)) .leaf)))) .leaf))))))))))
def S_w33q : FSpec := ⟨[.val Kd4], [(.int .i64)], m_w33q⟩

/-! spec.l5Merge -/
def l_w34q_1 (n : Nat) (x : (List (List (ByteArray × (Int × (ByteArray × Bool)))))) (z63_2 : Int) (z0 : ((List (ByteArray × (Int × (ByteArray × Bool)))) × Int)) : Option (List (ByteArray × (Int × (ByteArray × Bool)))) :=
(lp (fun rec83 (z82 : ((List (ByteArray × (Int × (ByteArray × Bool)))) × Int)) =>
 ((geti x z63_2).bind fun y84 =>
 (cond (decide (z82.2 < (lenI y84)))
  ((geti x z63_2).bind fun y85 =>
  ((geti y85 z82.2).bind fun y86 =>
  ((m_w30q (z82.1, y86)).bind fun r87 =>
  rec83 (r87, IntKind.wrap .i64 (z82.2 + (1 : Int))))))
  (some z82.1)))) n z0)
def l_w34q_2 (n : Nat) (x : (List (List (ByteArray × (Int × (ByteArray × Bool)))))) (z0 : ((List (ByteArray × (Int × (ByteArray × Bool)))) × Int)) : Option (List (ByteArray × (Int × (ByteArray × Bool)))) :=
(lp (fun rec64 (z63 : ((List (ByteArray × (Int × (ByteArray × Bool)))) × Int)) =>
 (cond (decide (z63.2 < (lenI x)))
  (Option.bind (α := (List (ByteArray × (Int × (ByteArray × Bool)))))
   (l_w34q_1 n x z63.2 (z63.1, (0 : Int))) fun j89 =>
  rec64 (j89, IntKind.wrap .i64 (z63.2 + (1 : Int))))
  (some z63.1))) n z0)
def p_w34q (n : Nat) (x : (List (List (ByteArray × (Int × (ByteArray × Bool)))))) : Option (List (ByteArray × (Int × (ByteArray × Bool)))) :=
(l_w34q_2 n x (([] : List (ByteArray × (Int × (ByteArray × Bool)))), (0 : Int)))
def m_w34q (x : (List (List (ByteArray × (Int × (ByteArray × Bool)))))) : Option (List (ByteArray × (Int × (ByteArray × Bool)))) := p_w34q FU x
def a_w34q : Ann := (.node .leaf (.node .leaf (.node (.node .leaf (.loop [.slot 3 Kd10, .slot 4 (.int .i64)] [5, 7, 8, 9, 10, 11, 12, 13, 14, 15, 16, 17, 18, 19, 20, 21, 22, 23, 24, 25, 26, 27, 28, 29, 30] (.node .leaf (.join [.slot 3 Kd10] [5, 13, 14, 15, 16, 17, 18, 19, 20, 21, 22, 23, 24, 25, 26, 27, 28, 29, 30] (.node .leaf (.loop [.slot 3 Kd10, .slot 5 (.int .i64)] [13, 14, 15, 16, 17, 18, 19, 20, 21, 22, 23, 24, 25, 26, 27, 28, 29, 30] .leaf)) .leaf)))) .leaf)))
def S_w34q : FSpec := ⟨[.val Kd8], [Kd10], m_w34q⟩

/-! spec.MergeTables -/
def l_w35q_1 (n : Nat) (x : (List (List (ByteArray × (Int × (ByteArray × Bool)))))) (z0 : Int) : Option (Unit ⊕ (Int × (List (ByteArray × (Int × (ByteArray × Bool)))))) :=
(lp (fun rec13 (z12 : Int) =>
 (cond (decide (z12 < (lenI x)))
  ((geti x z12).bind fun y14 =>
  ((m_w16q y14).bind fun r15 =>
  (cond (!(r15 == (0 : Int)))
   (some (Sum.inr (r15, [])))
   (rec13 (IntKind.wrap .i64 (z12 + (1 : Int)))))))
  (some (Sum.inl ())))) n z0)
def p_w35q (n : Nat) (x : (List (List (ByteArray × (Int × (ByteArray × Bool)))))) : Option (Int × (List (ByteArray × (Int × (ByteArray × Bool))))) :=
(cond (decide ((lenI x) > (8 : Int)))
 (some ((2 : Int), []))
 (Option.bind (α := (Unit ⊕ (Int × (List (ByteArray × (Int × (ByteArray × Bool)))))))
  (l_w35q_1 n x (0 : Int))
  (Sum.elim (fun j17 =>
 ((m_w34q x).bind fun r18 =>
 (cond (decide ((lenI r18) > (200 : Int)))
  (some ((2 : Int), []))
  (some ((0 : Int), r18))))) some)))
def m_w35q (x : (List (List (ByteArray × (Int × (ByteArray × Bool)))))) : Option (Int × (List (ByteArray × (Int × (ByteArray × Bool))))) := p_w35q FU x
def a_w35q : Ann := (.node .leaf (.node .leaf (.joinx [] [3, 4, 10, 11, 12, 13, 14, 15, 16, 17, 18, 19, 20, 21, 22, 23, 24] (.node .leaf (.loop [.slot 3 (.int .i64)] [4, 10, 11, 12, 13, 14, 15, 16, 17, 18, 19, 20, 21, 22, 23, 24] .leaf)) .leaf)))
def S_w35q : FSpec := ⟨[.val Kd8], [Kd6], m_w35q⟩

/-! spec.l4Copy -/
def p_w36q (n : Nat) (x : ((List Int) × (List Int))) : Option ((List Int) × (List Int)) :=
(chk (Nat.ble (x.1.length * 1) maxBytes)
(chk (Nat.ble (x.2.length * 1) maxBytes)
(some x)))
def m_w36q (x : ((List Int) × (List Int))) : Option ((List Int) × (List Int)) := p_w36q FU x
def a_w36q : Ann := (.node .leaf (.node (.lazy 7 (.lazy 3 .leaf)) .leaf))
def S_w36q : FSpec := ⟨[.val Kd12], [Kd11], m_w36q⟩

/-! spec.l6Copy -/
def l_w37q_1 (n : Nat) (x_2_2_1 : (List (List (ByteArray × (Int × (ByteArray × Bool)))))) (z0 : (Int × (((List Int) × (List Int)) × ((List (ByteArray × (Int × (ByteArray × Bool)))) × ((List (List (ByteArray × (Int × (ByteArray × Bool))))) × Int))))) : Option (((List Int) × (List Int)) × ((List (ByteArray × (Int × (ByteArray × Bool)))) × ((List (List (ByteArray × (Int × (ByteArray × Bool))))) × Int))) :=
(lp (fun rec7 (z6 : (Int × (((List Int) × (List Int)) × ((List (ByteArray × (Int × (ByteArray × Bool)))) × ((List (List (ByteArray × (Int × (ByteArray × Bool))))) × Int))))) =>
 (cond (decide (z6.1 < (lenI x_2_2_1)))
  ((geti x_2_2_1 z6.1).bind fun y8 =>
  (chk (Nat.ble (y8.length * 48) maxBytes)
  (chk (Nat.ble ((z6.2.2.2.1.length + [y8].length) * 24) maxBytes)
  (rec7 (IntKind.wrap .i64 (z6.1 + (1 : Int)), (z6.2.1, (z6.2.2.1, ((z6.2.2.2.1 ++ [y8]), z6.2.2.2.2))))))))
  (some z6.2))) n z0)
def p_w37q (n : Nat) (x : (((List Int) × (List Int)) × ((List (ByteArray × (Int × (ByteArray × Bool)))) × ((List (List (ByteArray × (Int × (ByteArray × Bool))))) × Int)))) : Option (((List Int) × (List Int)) × ((List (ByteArray × (Int × (ByteArray × Bool)))) × ((List (List (ByteArray × (Int × (ByteArray × Bool))))) × Int))) :=
(same
 ((m_w36q x.1).bind fun r1 =>
 (dup 1
  (chk (Nat.ble (x.2.1.length * 48) maxBytes)
  (l_w37q_1 n x.2.2.1 ((0 : Int), (r1, (x.2.1, ([], x.2.2.2))))))))
 ((m_w36q x.1).bind fun r1 =>
 (chk (Nat.ble (x.2.1.length * 48) maxBytes)
 (l_w37q_1 n x.2.2.1 ((0 : Int), (r1, (x.2.1, ([], x.2.2.2))))))))
def m_w37q (x : (((List Int) × (List Int)) × ((List (ByteArray × (Int × (ByteArray × Bool)))) × ((List (List (ByteArray × (Int × (ByteArray × Bool))))) × Int)))) : Option (((List Int) × (List Int)) × ((List (ByteArray × (Int × (ByteArray × Bool)))) × ((List (List (ByteArray × (Int × (ByteArray × Bool))))) × Int))) := p_w37q FU x
def a_w37q : Ann := (.node .leaf (.node (.lazy 8 .leaf) (.node (.node .leaf (.loop [.slot 4 (.int .i64), .box 1000003 Kd3] [15, 16, 17, 18, 19, 20, 21, 22, 23, 24, 25, 26, 27, 28, 29, 30, 31, 32, 33] (.node .leaf (.node (.lazy 24 .leaf) .leaf)))) .leaf)))
def S_w37q : FSpec := ⟨[.val Kd4], [Kd3], m_w37q⟩

/-! spec.l5Compact -/
def l_w38q_1 (n : Nat) (z141_2 : Int) (x_1 : (List (ByteArray × (Int × (ByteArray × Bool))))) (x_2 : Int) (z0 : (Bool × Int)) : Option Bool :=
(lp (fun rec180 (z179 : (Bool × Int)) =>
 (cond (decide (z179.2 < z141_2))
  (cond z179.1
   (rec180 (true, IntKind.wrap .i64 (z179.2 + (1 : Int))))
   ((geti x_1 z179.2).bind fun y181 =>
   ((geti x_1 z141_2).bind fun y182 =>
   (cond (y181.1.toList == y182.1.toList)
    ((geti x_1 z179.2).bind fun y183 =>
    rec180 ((decide (y183.2.1 ≤ x_2)), IntKind.wrap .i64 (z179.2 + (1 : Int))))
    (rec180 (false, IntKind.wrap .i64 (z179.2 + (1 : Int))))))))
  (some z179.1))) n z0)
def l_w38q_2 (n : Nat) (x_1 : (List (ByteArray × (Int × (ByteArray × Bool))))) (x_2 : Int) (z0 : ((List (ByteArray × (Int × (ByteArray × Bool)))) × Int)) : Option (List (ByteArray × (Int × (ByteArray × Bool)))) :=
(lp (fun rec142 (z141 : ((List (ByteArray × (Int × (ByteArray × Bool)))) × Int)) =>
 (cond (decide (z141.2 < (lenI x_1)))
  (Option.bind (α := (List (ByteArray × (Int × (ByteArray × Bool)))))
   (Option.bind (α := Bool)
    (l_w38q_1 n z141.2 x_1 x_2 (false, (0 : Int))) fun j185 =>
   (cond (!j185)
    ((geti x_1 z141.2).bind fun y186 =>
    (chk (Nat.ble ((z141.1.length + [y186].length) * 48) maxBytes)
    (some (z141.1 ++ [y186]))))
    (some z141.1))) fun j187 =>
  rec142 (j187, IntKind.wrap .i64 (z141.2 + (1 : Int))))
  (some z141.1))) n z0)
def l_w38q_3 (n : Nat) (j189 : (List (ByteArray × (Int × (ByteArray × Bool))))) (x_2 : Int) (z0 : ((List (ByteArray × (Int × (ByteArray × Bool)))) × Int)) : Option (List (ByteArray × (Int × (ByteArray × Bool)))) :=
(lp (fun rec203 (z202 : ((List (ByteArray × (Int × (ByteArray × Bool)))) × Int)) =>
 (cond (decide (z202.2 < (lenI j189)))
  (Option.bind (α := Bool)
   (cond (z202.2 == (IntKind.wrap .i64 ((lenI j189) - (1 : Int))))
    (some true)
    ((geti j189 (IntKind.wrap .i64 (z202.2 + (1 : Int)))).bind fun _ =>
    ((j189[(IntKind.wrap .i64 (z202.2 + (1 : Int))).toNat]?).bind fun y206 =>
    ((geti j189 z202.2).bind fun _ =>
    ((j189[z202.2.toNat]?).bind fun y207 =>
    some (!(y206.1.toList == y207.1.toList))))))) fun j208 =>
  (Option.bind (α := Bool)
   ((geti j189 z202.2).bind fun _ =>
   ((j189[z202.2.toNat]?).bind fun y211 =>
   (cond (!y211.2.2.2)
    (some true)
    ((geti j189 z202.2).bind fun _ =>
    ((j189[z202.2.toNat]?).bind fun y212 =>
    (cond (decide (y212.2.1 > x_2))
     (some true)
     (some (!j208)))))))) fun j213 =>
  (cond j213
   ((geti j189 z202.2).bind fun _ =>
   ((j189[z202.2.toNat]?).bind fun y214 =>
   (chk (Nat.ble ((z202.1.length + [y214].length) * 48) maxBytes)
   (rec203 ((z202.1 ++ [y214]), IntKind.wrap .i64 (z202.2 + (1 : Int)))))))
   (rec203 (z202.1, IntKind.wrap .i64 (z202.2 + (1 : Int)))))))
  (some z202.1))) n z0)
def p_w38q (n : Nat) (x : ((List (ByteArray × (Int × (ByteArray × Bool)))) × Int)) : Option (List (ByteArray × (Int × (ByteArray × Bool)))) :=
(Option.bind (α := (List (ByteArray × (Int × (ByteArray × Bool)))))
 (l_w38q_2 n x.1 x.2 (([] : List (ByteArray × (Int × (ByteArray × Bool)))), (0 : Int))) fun j189 =>
(l_w38q_3 n j189 x.2 (([] : List (ByteArray × (Int × (ByteArray × Bool)))), (0 : Int))))
def m_w38q (x : ((List (ByteArray × (Int × (ByteArray × Bool)))) × Int)) : Option (List (ByteArray × (Int × (ByteArray × Bool)))) := p_w38q FU x
def a_w38q : Ann := (.node .leaf (.node .leaf (.join [.slot 5 Kd9] [6, 7, 8, 13, 14, 15, 16, 17, 18, 19, 20, 21, 22, 23, 24, 25, 26, 27, 28, 29, 30, 31, 32, 33, 34, 35, 36, 37, 38, 39, 40, 41, 42, 43, 44, 45, 46, 47, 48, 49, 50, 51, 52, 53, 54, 55] (.node .leaf (.loop [.slot 5 Kd9, .slot 6 (.int .i64)] [7, 8, 13, 14, 15, 16, 17, 18, 19, 20, 21, 22, 23, 24, 25, 26, 27, 28, 29, 30, 31, 32, 33, 34, 35, 36, 37, 38, 39, 40, 41, 42, 43, 44, 45, 46, 47, 48, 49, 50, 51, 52, 53, 54, 55] (.node .leaf (.join [.slot 5 Kd9] [7, 8, 19, 20, 21, 22, 23, 24, 25, 26, 27, 28, 29, 30, 31, 32, 33, 34, 35, 36, 37, 38, 39, 40, 41, 42, 43, 44, 45, 46, 47, 48, 49, 50, 51, 52, 53, 54, 55] (.node .leaf (.join [.slot 7 .bool] [8, 19, 20, 21, 22, 23, 24, 25, 26, 27, 28, 29, 30, 31, 32, 33, 34, 35, 36, 37, 38, 39, 40, 41, 42, 43, 44, 45, 46] (.node .leaf (.loop [.slot 7 .bool, .slot 8 (.int .i64)] [19, 20, 21, 22, 23, 24, 25, 26, 27, 28, 29, 30, 31, 32, 33, 34, 35, 36, 37, 38, 39, 40, 41, 42, 43, 44, 45, 46] .leaf)) .leaf)) .leaf)))) (.node .leaf (.node (.node .leaf (.loop [.slot 9 Kd9, .slot 10 (.int .i64)] [11, 57, 58, 59, 60, 61, 62, 63, 64, 65, 66, 67, 68, 69, 70, 71, 72, 73, 74, 75, 76, 77, 78, 79, 80, 81, 82, 83, 84, 85, 86, 87, 88, 89, 90, 91, 92, 93, 94, 95, 96, 97, 98, 99, 100, 101, 102, 103, 104, 105, 106, 107] (.node .leaf (.node (.join [.slot 11 .bool] [63, 64, 65, 66, 67, 68, 69, 70, 71, 72, 73, 74, 75, 76, 77, 78, 79, 80, 81] .leaf (.join [.slot 100 .bool] [82, 83, 84, 85, 86, 87, 88, 89, 90, 91, 92, 93, 94, 95, 96, 97, 98, 99] .leaf .leaf)) .leaf)))) .leaf)))))
def S_w38q : FSpec := ⟨[.val Kd10, .val (.int .i64)], [Kd9], m_w38q⟩

/-! spec.CompactEngine -/
def p_w39q (n : Nat) (x : ((((List Int) × (List Int)) × ((List (ByteArray × (Int × (ByteArray × Bool)))) × ((List (List (ByteArray × (Int × (ByteArray × Bool))))) × Int))) × Int)) : Option (Int × (Int × (((List Int) × (List Int)) × ((List (ByteArray × (Int × (ByteArray × Bool)))) × ((List (List (ByteArray × (Int × (ByteArray × Bool))))) × Int))))) :=
((m_w33q x.1).bind fun r1 =>
(cond (!(r1 == (0 : Int)))
 (some (r1, ((0 : Int), (([], []), ([], ([], (0 : Int)))))))
 (cond (decide ((lenI x.1.2.2.1) < (2 : Int)))
  (some ((4 : Int), ((0 : Int), (([], []), ([], ([], (0 : Int)))))))
  ((m_w35q x.1.2.2.1).bind fun r2 =>
  (cond (!(r2.1 == (0 : Int)))
   (some (r2.1, ((0 : Int), (([], []), ([], ([], (0 : Int)))))))
   ((m_w37q x.1).bind fun r3 =>
   ((m_w38q (r2.2, x.2)).bind fun r4 =>
   some ((0 : Int), ((0 : Int), (r3.1, (r3.2.1, ([r4], r3.2.2.2))))))))))))
def m_w39q (x : ((((List Int) × (List Int)) × ((List (ByteArray × (Int × (ByteArray × Bool)))) × ((List (List (ByteArray × (Int × (ByteArray × Bool))))) × Int))) × Int)) : Option (Int × (Int × (((List Int) × (List Int)) × ((List (ByteArray × (Int × (ByteArray × Bool)))) × ((List (List (ByteArray × (Int × (ByteArray × Bool))))) × Int))))) := p_w39q FU x
def a_w39q : Ann := .leaf
def S_w39q : FSpec := ⟨[.val Kd4, .val (.int .i64)], [(.pair (.int .i64) (.pair (.int .i64) Kd3))], m_w39q⟩

/-! impl.LogFault -/
def p_w40q (n : Nat) (x : ((List Int) × (List Int))) : Option Int :=
(cond (decide ((IntKind.wrap .i64 ((lenI x.1) + (lenI x.2))) > (6000 : Int)))
 (some (2 : Int))
 (some (0 : Int)))
def m_w40q (x : ((List Int) × (List Int))) : Option Int := p_w40q FU x
def a_w40q : Ann := .leaf
def S_w40q : FSpec := ⟨[.val Kd12], [(.int .i64)], m_w40q⟩

/-! impl.within -/
def p_w41q (n : Nat) (x : (Int × (Int × Int))) : Option Bool :=
(cond (decide (x.1 ≥ x.2.1))
 (some (decide (x.1 ≤ x.2.2)))
 (some false))
def m_w41q (x : (Int × (Int × Int))) : Option Bool := p_w41q FU x
def a_w41q : Ann := .leaf
def S_w41q : FSpec := ⟨[.val (.int .i64), .val (.int .i64), .val (.int .i64)], [.bool], m_w41q⟩

/-! impl.isKey -/
def p_w42q (n : Nat) (x : ByteArray) : Option Bool :=
((m_w41q (((x.size : Nat) : Int), (1 : Int), (20 : Int))).bind fun r1 =>
some r1)
def m_w42q (x : ByteArray) : Option Bool := p_w42q FU x
def a_w42q : Ann := .leaf
def S_w42q : FSpec := ⟨[.val .str], [.bool], m_w42q⟩

/-! impl.isVersion -/
def p_w43q (n : Nat) (x : Int) : Option Bool :=
((m_w41q (x, (1 : Int), (1000000 : Int))).bind fun r1 =>
some r1)
def m_w43q (x : Int) : Option Bool := p_w43q FU x
def a_w43q : Ann := .leaf
def S_w43q : FSpec := ⟨[.val (.int .i64)], [.bool], m_w43q⟩

/-! impl.RowFault -/
def p_w44q (n : Nat) (x : (ByteArray × (Int × (ByteArray × Bool)))) : Option Int :=
(Option.bind (α := Bool)
 ((m_w42q x.1).bind fun r2 =>
 (cond (!r2)
  (some true)
  (cond x.2.2.2
   (some (!(x.2.2.1.toList == (⟨#[]⟩ : ByteArray).toList)))
   (some false)))) fun j3 =>
(cond j3
 (some (1 : Int))
 (cond (decide (((x.2.2.1.size : Nat) : Int) > (100 : Int)))
  (some (2 : Int))
  ((m_w43q x.2.1).bind fun r4 =>
  (cond (!r4)
   (some (3 : Int))
   (some (0 : Int)))))))
def m_w44q (x : (ByteArray × (Int × (ByteArray × Bool)))) : Option Int := p_w44q FU x
def a_w44q : Ann := (.node .leaf (.node (.join [.slot 3 .bool] [4, 5, 6, 7, 8, 9, 10, 11, 12, 13, 14, 15, 16] .leaf .leaf) .leaf))
def S_w44q : FSpec := ⟨[.val Kd13], [(.int .i64)], m_w44q⟩

/-! bytealg.CompareString -/
def p_w45q (n : Nat) (x : (ByteArray × ByteArray)) : Option Int :=
some (cmpB x.1 x.2)
def m_w45q (x : (ByteArray × ByteArray)) : Option Int := p_w45q FU x
def a_w45q : Ann := .leaf
def S_w45q : FSpec := ⟨[.val .str, .val .str], [(.int .i64)], m_w45q⟩

/-! strings.Compare -/
def p_w46q (n : Nat) (x : (ByteArray × ByteArray)) : Option Int :=
((m_w45q (x.1, x.2)).bind fun r1 =>
some r1)
def m_w46q (x : (ByteArray × ByteArray)) : Option Int := p_w46q FU x
def a_w46q : Ann := .leaf
def S_w46q : FSpec := ⟨[.val .str, .val .str], [(.int .i64)], m_w46q⟩

/-! cmp.isNaN[int64] -/
def p_w47q (n : Nat) (x : Int) : Option Bool :=
some (!(x == x))
def m_w47q (x : Int) : Option Bool := p_w47q FU x
def a_w47q : Ann := .leaf
def S_w47q : FSpec := ⟨[.val (.int .i64)], [.bool], m_w47q⟩

/-! cmp.Compare[int64] -/
def p_w48q (n : Nat) (x : (Int × Int)) : Option Int :=
((m_w47q x.1).bind fun r1 =>
((m_w47q x.2).bind fun r2 =>
(cond r1
 (cond r2
  (some (0 : Int))
  (some (-1 : Int)))
 (cond r2
  (some (1 : Int))
  (cond (decide (x.1 < x.2))
   (some (-1 : Int))
   (cond (decide (x.1 > x.2))
    (some (1 : Int))
    (some (0 : Int))))))))
def m_w48q (x : (Int × Int)) : Option Int := p_w48q FU x
def a_w48q : Ann := .leaf
def S_w48q : FSpec := ⟨[.val (.int .i64), .val (.int .i64)], [(.int .i64)], m_w48q⟩

/-! cmp.Or[int] -/
def l_w49q_1 (n : Nat) (x : (List Int)) (z0 : Int) : Option Int :=
(lp (fun rec4 (z3 : Int) =>
 (cond (decide (z3 < (lenI x)))
  ((geti x z3).bind fun y5 =>
  (cond (!(y5 == (0 : Int)))
   (some y5)
   (rec4 (IntKind.wrap .i64 (z3 + (1 : Int))))))
  (some (0 : Int)))) n z0)
def p_w49q (n : Nat) (x : (List Int)) : Option Int :=
(l_w49q_1 n x (0 : Int))
def m_w49q (x : (List Int)) : Option Int := p_w49q FU x
def a_w49q : Ann := (.node .leaf (.node .leaf (.node (.node .leaf (.loop [.slot 8 (.int .i64)] [2, 5, 9, 10, 11, 12, 13, 14, 15, 16] .leaf)) .leaf)))
def S_w49q : FSpec := ⟨[.val (.sl none (.int .i64))], [(.int .i64)], m_w49q⟩

/-! impl.compareRows -/
def p_w50q (n : Nat) (x : ((ByteArray × (Int × (ByteArray × Bool))) × (ByteArray × (Int × (ByteArray × Bool))))) : Option Int :=
((m_w46q (x.1.1, x.2.1)).bind fun r1 =>
((m_w48q (x.2.2.1, x.1.2.1)).bind fun r2 =>
((m_w49q [r1, r2]).bind fun r3 =>
some r3)))
def m_w50q (x : ((ByteArray × (Int × (ByteArray × Bool))) × (ByteArray × (Int × (ByteArray × Bool))))) : Option Int := p_w50q FU x
def a_w50q : Ann := (.node .leaf (.node (.lazy 15 .leaf) .leaf))
def S_w50q : FSpec := ⟨[.val Kd13, .val Kd13], [(.int .i64)], m_w50q⟩

/-! impl.TableFault -/
def l_w51q_1 (n : Nat) (x : (List (ByteArray × (Int × (ByteArray × Bool))))) (z0 : Int) : Option Int :=
(lp (fun rec10 (z9 : Int) =>
 (cond (decide (z9 < (lenI x)))
  ((geti x z9).bind fun y11 =>
  ((m_w44q y11).bind fun r12 =>
  (cond (!(r12 == (0 : Int)))
   (some r12)
   (Option.bind (α := Bool)
    (cond (decide (z9 > (0 : Int)))
     ((geti x (IntKind.wrap .i64 (z9 - (1 : Int)))).bind fun y15 =>
     ((m_w50q (y15, y11)).bind fun r16 =>
     some (decide (r16 ≥ (0 : Int)))))
     (some false)) fun j17 =>
   (cond j17
    (some (1 : Int))
    (rec10 (IntKind.wrap .i64 (z9 + (1 : Int)))))))))
  (some (0 : Int)))) n z0)
def p_w51q (n : Nat) (x : (List (ByteArray × (Int × (ByteArray × Bool))))) : Option Int :=
(cond (decide ((lenI x) > (200 : Int)))
 (some (2 : Int))
 (l_w51q_1 n x (0 : Int)))
def m_w51q (x : (List (ByteArray × (Int × (ByteArray × Bool))))) : Option Int := p_w51q FU x
def a_w51q : Ann := (.node .leaf (.node .leaf (.node (.node .leaf (.loop [.slot 11 (.int .i64)] [2, 3, 4, 5, 12, 13, 14, 15, 16, 17, 18, 19, 20, 21, 22, 23, 24, 25, 26, 27, 28, 29, 30, 31, 32, 33] (.node .leaf (.node .leaf (.node (.node .leaf (.node .leaf (.join [.slot 32 .bool] [21, 22, 23, 24, 25, 26, 27, 28, 29, 30, 31] .leaf .leaf))) .leaf))))) .leaf)))
def S_w51q : FSpec := ⟨[.val Kd10], [(.int .i64)], m_w51q⟩

/-! impl.firstOf -/
def l_w52q_1 (n : Nat) (x : (List Int)) (z0 : Int) : Option Int :=
(lp (fun rec4 (z3 : Int) =>
 (cond (decide (z3 < (lenI x)))
  ((geti x z3).bind fun y5 =>
  (cond (!(y5 == (0 : Int)))
   (some y5)
   (rec4 (IntKind.wrap .i64 (z3 + (1 : Int))))))
  (some (0 : Int)))) n z0)
def p_w52q (n : Nat) (x : (List Int)) : Option Int :=
(l_w52q_1 n x (0 : Int))
def m_w52q (x : (List Int)) : Option Int := p_w52q FU x
def a_w52q : Ann := (.node .leaf (.node (.node .leaf (.loop [.slot 7 (.int .i64)] [2, 4, 8, 9, 10, 11, 12, 13, 14] .leaf)) .leaf))
def S_w52q : FSpec := ⟨[.val (.sl none (.int .i64))], [(.int .i64)], m_w52q⟩

/-! impl.Row] -/
def l_w53q_1 (n : Nat) (x : (List (List (ByteArray × (Int × (ByteArray × Bool)))))) (z0 : (Int × Int)) : Option Int :=
(lp (fun rec10 (z9 : (Int × Int)) =>
 (cond (decide (z9.2 < (lenI x)))
  ((geti x z9.2).bind fun y11 =>
  (cond (decide ((IntKind.wrap .i64 (z9.1 + (lenI y11))) < (0 : Int)))
   none
   (rec10 (IntKind.wrap .i64 (z9.1 + (lenI y11)), IntKind.wrap .i64 (z9.2 + (1 : Int))))))
  (some z9.1))) n z0)
def l_w53q_2 (n : Nat) (x : (List (List (ByteArray × (Int × (ByteArray × Bool)))))) (z0 : ((List (ByteArray × (Int × (ByteArray × Bool)))) × Int)) : Option (List (ByteArray × (Int × (ByteArray × Bool)))) :=
(lp (fun rec18 (z17 : ((List (ByteArray × (Int × (ByteArray × Bool)))) × Int)) =>
 (cond (decide (z17.2 < (lenI x)))
  ((geti x z17.2).bind fun y19 =>
  (chk (Nat.ble ((z17.1.length + y19.length) * 48) maxBytes)
  (rec18 ((z17.1 ++ y19), IntKind.wrap .i64 (z17.2 + (1 : Int))))))
  (some z17.1))) n z0)
def p_w53q (n : Nat) (x : (List (List (ByteArray × (Int × (ByteArray × Bool)))))) : Option (List (ByteArray × (Int × (ByteArray × Bool)))) :=
(Option.bind (α := Int)
 (l_w53q_1 n x ((0 : Int), (0 : Int))) fun j13 =>
(Option.bind (α := (List (ByteArray × (Int × (ByteArray × Bool)))))
 (cond (decide (j13 < (0 : Int)))
  none
  (cond (decide ((IntKind.wrap .i64 (j13 - (IntKind.wrap .i64 ((0 : Int) - (0 : Int))))) > (0 : Int)))
   (chk (bndB none (some (0 : Int)) none 0)
    (chk (decide (0 < (IntKind.wrap .i64 (j13 - (IntKind.wrap .i64 ((0 : Int) - (0 : Int)))))) && Nat.ble (48 * (IntKind.wrap .i64 (j13 - (IntKind.wrap .i64 ((0 : Int) - (0 : Int))))).toNat) maxBytes)
    (chk (bndB none (some (0 : Int)) none (List.replicate (IntKind.wrap .i64 (j13 - (IntKind.wrap .i64 ((0 : Int) - (0 : Int))))).toNat ((⟨#[]⟩ : ByteArray), ((0 : Int), ((⟨#[]⟩ : ByteArray), false)))).length)
     (some ((List.replicate (IntKind.wrap .i64 (j13 - (IntKind.wrap .i64 ((0 : Int) - (0 : Int))))).toNat ((⟨#[]⟩ : ByteArray), ((0 : Int), ((⟨#[]⟩ : ByteArray), false)))).take (0 : Int).toNat)))))
   (some []))) fun j14 =>
(l_w53q_2 n x (j14, (0 : Int)))))
def m_w53q (x : (List (List (ByteArray × (Int × (ByteArray × Bool)))))) : Option (List (ByteArray × (Int × (ByteArray × Bool)))) := p_w53q FU x
def a_w53q : Ann := (.node .leaf (.node .leaf (.join [.slot 3 (.int .i64)] [5, 9, 10, 11, 12, 13, 14, 15, 16, 17, 18, 19, 20, 21, 22] (.node .leaf (.loop [.slot 3 (.int .i64), .slot 11 (.int .i64)] [5, 12, 13, 14, 15, 16, 17, 18, 19, 20, 21, 22] .leaf)) (.node (.regj 24 [.slot 24 Kd9] [] (.node .leaf (.node .leaf (.node (.node .leaf (.node .leaf (.node (.own 25 Kd13 .leaf) .leaf))) .leaf))) .leaf) (.node (.node .leaf (.loop [.slot 6 Kd9, .slot 27 (.int .i64)] [8, 28, 29, 30, 31, 32, 33, 34] .leaf)) .leaf)))))
def S_w53q : FSpec := ⟨[.val Kd8], [Kd9], m_w53q⟩

/-! impl.greatest -/
def l_w54q_1 (n : Nat) (x : (List (ByteArray × (Int × (ByteArray × Bool))))) (z0 : (Int × Int)) : Option Int :=
(lp (fun rec4 (z3 : (Int × Int)) =>
 (cond (decide (z3.2 < (lenI x)))
  ((geti x z3.2).bind fun y5 =>
  rec4 ((if y5.2.1 > z3.1 then y5.2.1 else z3.1), IntKind.wrap .i64 (z3.2 + (1 : Int))))
  (some z3.1))) n z0)
def p_w54q (n : Nat) (x : (List (ByteArray × (Int × (ByteArray × Bool))))) : Option Int :=
(l_w54q_1 n x ((0 : Int), (0 : Int)))
def m_w54q (x : (List (ByteArray × (Int × (ByteArray × Bool))))) : Option Int := p_w54q FU x
def a_w54q : Ann := (.node .leaf (.node .leaf (.node (.node .leaf (.loop [.slot 3 (.int .i64), .slot 8 (.int .i64)] [5, 9, 10, 11, 12, 13, 14, 15, 16] .leaf)) .leaf)))
def S_w54q : FSpec := ⟨[.val Kd10], [(.int .i64)], m_w54q⟩

/-! slices.Concat[[]byte,byte] -/
def l_w55q_1 (n : Nat) (x : (List (List Int))) (z0 : (Int × Int)) : Option Int :=
(lp (fun rec10 (z9 : (Int × Int)) =>
 (cond (decide (z9.2 < (lenI x)))
  ((geti x z9.2).bind fun y11 =>
  (cond (decide ((IntKind.wrap .i64 (z9.1 + (lenI y11))) < (0 : Int)))
   none
   (rec10 (IntKind.wrap .i64 (z9.1 + (lenI y11)), IntKind.wrap .i64 (z9.2 + (1 : Int))))))
  (some z9.1))) n z0)
def l_w55q_2 (n : Nat) (x : (List (List Int))) (z0 : ((List Int) × Int)) : Option (List Int) :=
(lp (fun rec18 (z17 : ((List Int) × Int)) =>
 (cond (decide (z17.2 < (lenI x)))
  ((geti x z17.2).bind fun y19 =>
  (chk (Nat.ble ((z17.1.length + y19.length) * 1) maxBytes)
  (rec18 ((z17.1 ++ y19), IntKind.wrap .i64 (z17.2 + (1 : Int))))))
  (some z17.1))) n z0)
def p_w55q (n : Nat) (x : (List (List Int))) : Option (List Int) :=
(Option.bind (α := Int)
 (l_w55q_1 n x ((0 : Int), (0 : Int))) fun j13 =>
(Option.bind (α := (List Int))
 (cond (decide (j13 < (0 : Int)))
  none
  (cond (decide ((IntKind.wrap .i64 (j13 - (IntKind.wrap .i64 ((0 : Int) - (0 : Int))))) > (0 : Int)))
   (chk (bndB none (some (0 : Int)) none 0)
    (chk (decide (0 < (IntKind.wrap .i64 (j13 - (IntKind.wrap .i64 ((0 : Int) - (0 : Int)))))) && Nat.ble (1 * (IntKind.wrap .i64 (j13 - (IntKind.wrap .i64 ((0 : Int) - (0 : Int))))).toNat) maxBytes)
    (chk (bndB none (some (0 : Int)) none (List.replicate (IntKind.wrap .i64 (j13 - (IntKind.wrap .i64 ((0 : Int) - (0 : Int))))).toNat (0 : Int)).length)
     (some ((List.replicate (IntKind.wrap .i64 (j13 - (IntKind.wrap .i64 ((0 : Int) - (0 : Int))))).toNat (0 : Int)).take (0 : Int).toNat)))))
   (some []))) fun j14 =>
(l_w55q_2 n x (j14, (0 : Int)))))
def m_w55q (x : (List (List Int))) : Option (List Int) := p_w55q FU x
def a_w55q : Ann := (.node .leaf (.node .leaf (.join [.slot 3 (.int .i64)] [5, 9, 10, 11, 12, 13, 14, 15, 16, 17, 18, 19, 20, 21, 22] (.node .leaf (.loop [.slot 3 (.int .i64), .slot 11 (.int .i64)] [5, 12, 13, 14, 15, 16, 17, 18, 19, 20, 21, 22] .leaf)) (.node (.regj 24 [.slot 24 Kd18] [] (.node .leaf (.node .leaf (.node (.node .leaf (.node .leaf (.node (.own 25 (.int .u8) .leaf) .leaf))) .leaf))) .leaf) (.node (.node .leaf (.loop [.slot 6 Kd18, .slot 27 (.int .i64)] [8, 28, 29, 30, 31, 32, 33, 34] .leaf)) .leaf)))))
def S_w55q : FSpec := ⟨[.val (.sl none (.sl none (.int .u8)))], [Kd18], m_w55q⟩

/-! impl.CheckOf -/
def l_w56q_1 (n : Nat) (x : (List Int)) (z0 : (Int × Int)) : Option Int :=
(lp (fun rec4 (z3 : (Int × Int)) =>
 (cond (decide (z3.2 < (lenI x)))
  ((geti x z3.2).bind fun y5 =>
  (cond ((65521 : Int) == 0) none
   (rec4 (Int.tmod (IntKind.wrap .i64 ((IntKind.wrap .i64 ((IntKind.wrap .i64 (z3.1 * (257 : Int))) + (IntKind.wrap .i64 y5))) + (1 : Int))) (65521 : Int), IntKind.wrap .i64 (z3.2 + (1 : Int))))))
  (some z3.1))) n z0)
def p_w56q (n : Nat) (x : (List Int)) : Option Int :=
(l_w56q_1 n x ((1 : Int), (0 : Int)))
def m_w56q (x : (List Int)) : Option Int := p_w56q FU x
def a_w56q : Ann := (.node .leaf (.node .leaf (.node (.node .leaf (.loop [.slot 3 (.int .i64), .slot 8 (.int .i64)] [5, 9, 10, 11, 12, 13, 14, 15, 16, 17, 18, 19] .leaf)) .leaf)))
def S_w56q : FSpec := ⟨[.val (.sl none (.int .u8))], [(.int .i64)], m_w56q⟩

/-! impl.pair -/
def p_w57q (n : Nat) (x : Int) : Option (List Int) :=
(chk (decide (0 ≤ (8 : Int)))
 (some [IntKind.wrap .u8 (Int.fdiv x (2 ^ (min (8 : Int).toNat 64))), IntKind.wrap .u8 x]))
def m_w57q (x : Int) : Option (List Int) := p_w57q FU x
def a_w57q : Ann := .leaf
def S_w57q : FSpec := ⟨[.val (.int .i64)], [Kd18], m_w57q⟩

/-! bytes.Equal -/
def p_w58q (n : Nat) (x : ((List Int) × (List Int))) : Option Bool :=
some ((strOfNums x.1).toList == (strOfNums x.2).toList)
def m_w58q (x : ((List Int) × (List Int))) : Option Bool := p_w58q FU x
def a_w58q : Ann := .leaf
def S_w58q : FSpec := ⟨[.val (.sl none (.int .u8)), .val (.sl none (.int .u8))], [.bool], m_w58q⟩

/-! impl.unframe -/
def p_w59q (n : Nat) (x : (List Int)) : Option ((List Int) × Bool) :=
(cond (decide ((lenI x) < (4 : Int)))
 (some ([], false))
 ((geti x (0 : Int)).bind fun y1 =>
 (chk (decide (0 ≤ (8 : Int)))
  ((geti x (1 : Int)).bind fun y2 =>
  (Option.bind (α := Bool)
   ((m_w41q (IntKind.wrap .i64 ((IntKind.wrap .i64 ((IntKind.wrap .i64 y1) * 2 ^ (min (8 : Int).toNat 64))) + (IntKind.wrap .i64 y2)), (1 : Int), (500 : Int))).bind fun r4 =>
   (cond (!r4)
    (some true)
    (some (decide ((lenI x) < (IntKind.wrap .i64 ((4 : Int) + (IntKind.wrap .i64 ((IntKind.wrap .i64 ((IntKind.wrap .i64 y1) * 2 ^ (min (8 : Int).toNat 64))) + (IntKind.wrap .i64 y2)))))))))) fun j5 =>
  (cond j5
   (some ([], false))
   (chk (bndB (some (4 : Int)) (some (IntKind.wrap .i64 ((4 : Int) + (IntKind.wrap .i64 ((IntKind.wrap .i64 ((IntKind.wrap .i64 y1) * 2 ^ (min (8 : Int).toNat 64))) + (IntKind.wrap .i64 y2)))))) none x.length)
    (chk (bndB (some (2 : Int)) (some (4 : Int)) none x.length)
     ((m_w56q (cutL (some (4 : Int)) (some (IntKind.wrap .i64 ((4 : Int) + (IntKind.wrap .i64 ((IntKind.wrap .i64 ((IntKind.wrap .i64 y1) * 2 ^ (min (8 : Int).toNat 64))) + (IntKind.wrap .i64 y2)))))) x)).bind fun r6 =>
     ((m_w57q r6).bind fun r7 =>
     ((m_w58q ((cutL (some (2 : Int)) (some (4 : Int)) x), r7)).bind fun r8 =>
     some ((cutL (some (4 : Int)) (some (IntKind.wrap .i64 ((4 : Int) + (IntKind.wrap .i64 ((IntKind.wrap .i64 ((IntKind.wrap .i64 y1) * 2 ^ (min (8 : Int).toNat 64))) + (IntKind.wrap .i64 y2)))))) x), r8))))))))))))
def m_w59q (x : (List Int)) : Option ((List Int) × Bool) := p_w59q FU x
def a_w59q : Ann := (.node .leaf (.node .leaf (.node .leaf (.node (.join [.slot 28 .bool] [19, 20, 21, 22, 23, 24, 25, 26, 27] .leaf .leaf) .leaf))))
def S_w59q : FSpec := ⟨[.val (.sl none (.int .u8))], [(.sl none (.int .u8)), .bool], m_w59q⟩

/-! bytes.Clone -/
def p_w60q (n : Nat) (x : (List Int)) : Option (List Int) :=
(cond (List.isEmpty x)
 (same
  (some [])
  (chk (Nat.ble ((([] : List Int).length + x.length) * 1) maxBytes)
  (some (([] : List Int) ++ x))))
 (chk (Nat.ble ((([] : List Int).length + x.length) * 1) maxBytes)
 (some (([] : List Int) ++ x))))
def m_w60q (x : (List Int)) : Option (List Int) := p_w60q FU x
def a_w60q : Ann := .leaf
def S_w60q : FSpec := ⟨[.val (.sl none (.int .u8))], [Kd18], m_w60q⟩

/-! impl.size[byte] -/
def p_w61q (n : Nat) (x : (List Int)) : Option Int :=
some (lenI x)
def m_w61q (x : (List Int)) : Option Int := p_w61q FU x
def a_w61q : Ann := .leaf
def S_w61q : FSpec := ⟨[.val (.sl none (.int .u8))], [(.int .i64)], m_w61q⟩

/-! impl.UnframeAll -/
def l_w62q_1 (n : Nat) (x : (List Int)) (z0 : (Int × (Int × (List (List Int))))) : Option (Int × (Int × (List (List Int)))) :=
(lp (fun rec10 (z9 : (Int × (Int × (List (List Int))))) =>
 (chk (bndB (some z9.2.1) none none x.length)
  ((m_w59q (cutL (some z9.2.1) none x)).bind fun r11 =>
  (cond (!r11.2)
   (some z9)
   ((m_w60q r11.1).bind fun r12 =>
   (chk (Nat.ble ((z9.2.2.length + [r12].length) * 24) maxBytes)
   ((m_w61q r11.1).bind fun r13 =>
   rec10 (z9.1, (IntKind.wrap .i64 (z9.2.1 + (IntKind.wrap .i64 ((4 : Int) + r13))), (z9.2.2 ++ [r12])))))))))) n z0)
def p_w62q (n : Nat) (x : (List Int)) : Option (Int × (Int × (List (List Int)))) :=
(cond (decide ((lenI x) > (6000 : Int)))
 (some ((2 : Int), ((0 : Int), [])))
 (l_w62q_1 n x ((0 : Int), ((0 : Int), []))))
def m_w62q (x : (List Int)) : Option (Int × (Int × (List (List Int)))) := p_w62q FU x
def a_w62q : Ann := (.node .leaf (.node .leaf (.node .leaf (.loop [.box 1 Kd7] [4, 5, 11, 12, 13, 14, 15, 16, 17, 18, 19, 20, 21, 22, 23, 24, 25, 26, 27, 28, 29, 30, 31, 32, 33, 34, 35] (.node .leaf (.node .leaf (.node (.own 26 Kd18 .leaf) .leaf)))))))
def S_w62q : FSpec := ⟨[.val (.sl none (.int .u8))], [Kd7], m_w62q⟩

/-! impl.ReadLog -/
def p_w63q (n : Nat) (x : ((List Int) × (List Int))) : Option (Int × (Int × (List (List Int)))) :=
((m_w40q x).bind fun r1 =>
(cond (!(r1 == (0 : Int)))
 (some (r1, ((0 : Int), [])))
 ((m_w55q [x.1, x.2]).bind fun r2 =>
 ((m_w62q r2).bind fun r3 =>
 some r3))))
def m_w63q (x : ((List Int) × (List Int))) : Option (Int × (Int × (List (List Int)))) := p_w63q FU x
def a_w63q : Ann := .leaf
def S_w63q : FSpec := ⟨[.val Kd12], [Kd7], m_w63q⟩

/-! impl.UnpackNumber -/
def l_w64q_1 (n : Nat) (x : (List Int)) (z0 : (Int × Int)) : Option (Int × Int) :=
(lp (fun rec4 (z3 : (Int × Int)) =>
 (cond (decide (z3.2 < (lenI x)))
  ((geti x z3.2).bind fun y5 =>
  (chk (decide (0 ≤ (8 : Int)))
   (rec4 (IntKind.wrap .u64 ((IntKind.wrap .u64 (z3.1 * 2 ^ (min (8 : Int).toNat 64))) + (IntKind.wrap .u64 y5)), IntKind.wrap .i64 (z3.2 + (1 : Int))))))
  (some ((0 : Int), IntKind.wrap .i64 z3.1)))) n z0)
def p_w64q (n : Nat) (x : (List Int)) : Option (Int × Int) :=
(cond (!((lenI x) == (8 : Int)))
 (some ((1 : Int), (0 : Int)))
 (l_w64q_1 n x ((0 : Int), (0 : Int))))
def m_w64q (x : (List Int)) : Option (Int × Int) := p_w64q FU x
def a_w64q : Ann := (.node .leaf (.node .leaf (.node .leaf (.node (.node .leaf (.loop [.slot 3 (.int .u64), .slot 12 (.int .i64)] [5, 13, 14, 15, 16, 17, 18, 19, 20, 21] .leaf)) .leaf))))
def S_w64q : FSpec := ⟨[.val (.sl none (.int .u8))], [(.pair (.int .i64) (.int .i64))], m_w64q⟩

/-! impl.takeText -/
def p_w65q (n : Nat) (x : (List Int)) : Option (ByteArray × ((List Int) × Bool)) :=
(Option.bind (α := Bool)
 (cond ((lenI x) == (0 : Int))
  (some true)
  ((geti x (0 : Int)).bind fun y2 =>
  some (decide ((lenI x) < (IntKind.wrap .i64 ((1 : Int) + (IntKind.wrap .i64 y2))))))) fun j3 =>
(cond j3
 (some ((⟨#[]⟩ : ByteArray), [], false))
 ((geti x (0 : Int)).bind fun y4 =>
 (chk (bndB (some (1 : Int)) (some (IntKind.wrap .i64 ((1 : Int) + (IntKind.wrap .i64 y4)))) none x.length)
  (chk (bndB (some (IntKind.wrap .i64 ((1 : Int) + (IntKind.wrap .i64 y4)))) none none x.length)
   (some ((strOfNums (cutL (some (1 : Int)) (some (IntKind.wrap .i64 ((1 : Int) + (IntKind.wrap .i64 y4)))) x)), (cutL (some (IntKind.wrap .i64 ((1 : Int) + (IntKind.wrap .i64 y4)))) none x), true)))))))
def m_w65q (x : (List Int)) : Option (ByteArray × ((List Int) × Bool)) := p_w65q FU x
def a_w65q : Ann := (.node .leaf (.node (.join [.slot 18 .bool] [6, 7, 8, 9, 10, 11, 12, 13, 14, 15, 16, 17] .leaf .leaf) .leaf))
def S_w65q : FSpec := ⟨[.val (.sl none (.int .u8))], [.str, (.sl none (.int .u8)), .bool], m_w65q⟩

/-! impl.takeWrite -/
def p_w66q (n : Nat) (x : (List Int)) : Option ((ByteArray × (ByteArray × Bool)) × ((List Int) × Bool)) :=
((geti x (0 : Int)).bind fun y1 =>
(cond (decide (y1 > (1 : Int)))
 (some (((⟨#[]⟩ : ByteArray), ((⟨#[]⟩ : ByteArray), false)), [], false))
 ((geti x (0 : Int)).bind fun y2 =>
 (Option.bind (α := ((List Int) × (Bool × (ByteArray × (ByteArray × Bool)))))
  (chk (bndB (some (1 : Int)) none none x.length)
   ((m_w65q (cutL (some (1 : Int)) none x)).bind fun r6 =>
   (Option.bind (α := Bool)
    (cond r6.2.2
     (some (!(y2 == (1 : Int))))
     (some false)) fun j7 =>
   (cond j7
    ((m_w65q r6.2.1).bind fun r8 =>
    some (r8.2.1, r8.2.2, (r6.1, (r8.1, (y2 == (1 : Int))))))
    (some (r6.2.1, r6.2.2, (r6.1, ((⟨#[]⟩ : ByteArray), (y2 == (1 : Int)))))))))) fun j9 =>
 some (j9.2.2, j9.1, j9.2.1)))))
def m_w66q (x : (List Int)) : Option ((ByteArray × (ByteArray × Bool)) × ((List Int) × Bool)) := p_w66q FU x
def a_w66q : Ann := (.node .leaf (.node .leaf (.node .leaf (.join [.slot 0 (.sl none (.int .u8)), .slot 6 .bool, .box 1 Kd17] [17, 18, 19, 20, 21, 22, 23, 24, 25, 26, 27, 28, 29, 30, 31, 32, 33, 34, 35, 36, 37] (.node .leaf (.join [.slot 30 .bool] [25, 26, 27, 28, 29] .leaf .leaf)) .leaf))))
def S_w66q : FSpec := ⟨[.val (.sl none (.int .u8))], [Kd17, (.sl none (.int .u8)), .bool], m_w66q⟩

/-! impl.Write] -/
def p_w67q (n : Nat) (x : (List (ByteArray × (ByteArray × Bool)))) : Option Int :=
some (lenI x)
def m_w67q (x : (List (ByteArray × (ByteArray × Bool)))) : Option Int := p_w67q FU x
def a_w67q : Ann := .leaf
def S_w67q : FSpec := ⟨[.val Kd16], [(.int .i64)], m_w67q⟩

/-! impl.Write).row -/
def p_w68q (n : Nat) (x : ((ByteArray × (ByteArray × Bool)) × Int)) : Option (ByteArray × (Int × (ByteArray × Bool))) :=
some (x.1.1, (x.2, x.1.2))
def m_w68q (x : ((ByteArray × (ByteArray × Bool)) × Int)) : Option (ByteArray × (Int × (ByteArray × Bool))) := p_w68q FU x
def a_w68q : Ann := .leaf
def S_w68q : FSpec := ⟨[.val Kd17, .val (.int .i64)], [Kd13], m_w68q⟩

/-! impl.PackNumber -/
def l_w69q_1 (n : Nat) (x : Int) (z0 : (Int × (List Int))) : Option (List Int) :=
(lp (fun rec6 (z5 : (Int × (List Int))) =>
 (cond (decide (z5.1 < (lenI (List.replicate (8 : Int).toNat (0 : Int)))))
  (chk (decide (0 ≤ (IntKind.wrap .i64 ((56 : Int) - (IntKind.wrap .i64 ((8 : Int) * z5.1))))))
   ((geti z5.2 z5.1).bind fun _ =>
   ((z5.2[z5.1.toNat]?).bind fun y7 =>
   rec6 (IntKind.wrap .i64 (z5.1 + (1 : Int)), (z5.2.set z5.1.toNat (IntKind.wrap .u8 (Int.fdiv x (2 ^ (min (IntKind.wrap .i64 ((56 : Int) - (IntKind.wrap .i64 ((8 : Int) * z5.1)))).toNat 64)))))))))
  (some z5.2))) n z0)
def p_w69q (n : Nat) (x : Int) : Option (List Int) :=
(if (8 : Int) = (8 : Int) then (if 0 ≤ (8 : Int) then chk (Nat.ble (1 * (8 : Int).toNat) maxBytes)
(l_w69q_1 n x ((0 : Int), (List.replicate (8 : Int).toNat (0 : Int)))) else none) else none)
def m_w69q (x : Int) : Option (List Int) := p_w69q FU x
def a_w69q : Ann := (.node .leaf (.node .leaf (.node (.node .leaf (.loop [.slot 8 (.int .i64), .row 0 5 (.int .u8)] [4, 9, 10, 11, 12, 13, 14, 15, 16, 17, 18, 19, 20] .leaf)) .leaf)))
def S_w69q : FSpec := ⟨[.val (.int .i64)], [Kd18], m_w69q⟩

/-! impl.PackText -/
def p_w70q (n : Nat) (x : ByteArray) : Option (Int × (List Int)) :=
(cond (decide (((x.size : Nat) : Int) > (200 : Int)))
 (some ((2 : Int), []))
 (chk (Nat.ble ([IntKind.wrap .u8 ((x.size : Nat) : Int)].length + x.size) maxBytes)
 (some ((0 : Int), ([IntKind.wrap .u8 ((x.size : Nat) : Int)] ++ (bytesNums x))))))
def m_w70q (x : ByteArray) : Option (Int × (List Int)) := p_w70q FU x
def a_w70q : Ann := .leaf
def S_w70q : FSpec := ⟨[.val .str], [Kd15], m_w70q⟩

/-! impl.packWrites -/
def l_w71q_1 (n : Nat) (x_2 : (List (ByteArray × (ByteArray × Bool)))) (z0 : ((List Int) × Int)) : Option (List Int) :=
(lp (fun rec8 (z7 : ((List Int) × Int)) =>
 (cond (decide (z7.2 < (lenI x_2)))
  ((geti x_2 z7.2).bind fun y9 =>
  (Option.bind (α := Int)
   (cond y9.2.2
    (some (1 : Int))
    (some (0 : Int))) fun j10 =>
  (chk (Nat.ble ((z7.1.length + [j10].length) * 1) maxBytes)
  ((m_w70q y9.1).bind fun r11 =>
  (chk (Nat.ble (((z7.1 ++ [j10]).length + r11.2.length) * 1) maxBytes)
  (cond (!y9.2.2)
   ((m_w70q y9.2.1).bind fun r12 =>
   (chk (Nat.ble ((((z7.1 ++ [j10]) ++ r11.2).length + r12.2.length) * 1) maxBytes)
   (rec8 ((((z7.1 ++ [j10]) ++ r11.2) ++ r12.2), IntKind.wrap .i64 (z7.2 + (1 : Int))))))
   (rec8 (((z7.1 ++ [j10]) ++ r11.2), IntKind.wrap .i64 (z7.2 + (1 : Int))))))))))
  (some z7.1))) n z0)
def p_w71q (n : Nat) (x : (Int × (List (ByteArray × (ByteArray × Bool))))) : Option (List Int) :=
((m_w69q x.1).bind fun r1 =>
(l_w71q_1 n x.2 (r1, (0 : Int))))
def m_w71q (x : (Int × (List (ByteArray × (ByteArray × Bool))))) : Option (List Int) := p_w71q FU x
def a_w71q : Ann := (.node .leaf (.node .leaf (.node (.node .leaf (.loop [.slot 5 Kd18, .slot 13 (.int .i64)] [7, 8, 14, 15, 16, 17, 18, 19, 20, 21, 22, 23, 24, 25, 26, 27, 28, 29, 30, 31, 32, 33, 34, 35, 36, 37] (.node .leaf (.node .leaf (.node (.node .leaf (.node .leaf (.join [.slot 8 (.int .u8)] [17, 18] .leaf (.node (.lazy 21 .leaf) .leaf)))) .leaf))))) .leaf)))
def S_w71q : FSpec := ⟨[.val (.int .i64), .val Kd16], [Kd18], m_w71q⟩

/-! impl.WritesFault -/
def l_w72q_1 (n : Nat) (z56 : Int) (x : (List (ByteArray × (ByteArray × Bool)))) (y58_1 : ByteArray) (z0 : Int) : Option Int :=
(lp (fun rec70 (z69 : Int) =>
 (cond (decide (z69 < (lenI (cutL none (some z56) x))))
  ((geti (cutL none (some z56) x) z69).bind fun y71 =>
  (cond (y71.1.toList == y58_1.toList)
   (some z69)
   (rec70 (IntKind.wrap .i64 (z69 + (1 : Int))))))
  (some (-1 : Int)))) n z0)
def l_w72q_2 (n : Nat) (x : (List (ByteArray × (ByteArray × Bool)))) (z0 : Int) : Option (Unit ⊕ Int) :=
(lp (fun rec57 (z56 : Int) =>
 (cond (decide (z56 < (lenI x)))
  ((geti x z56).bind fun y58 =>
  ((m_w68q (y58, (1 : Int))).bind fun r59 =>
  ((m_w44q r59).bind fun r60 =>
  (cond (!(r60 == (0 : Int)))
   (some (Sum.inr r60))
   (chk (bndB none (some z56) none x.length)
    (Option.bind (α := Int)
     (l_w72q_1 n z56 x y58.1 (0 : Int)) fun j73 =>
    (cond (decide (j73 ≥ (0 : Int)))
     (some (Sum.inr (7 : Int)))
     (rec57 (IntKind.wrap .i64 (z56 + (1 : Int)))))))))))
  (some (Sum.inl ())))) n z0)
def p_w72q (n : Nat) (x : (List (ByteArray × (ByteArray × Bool)))) : Option Int :=
((m_w67q x).bind fun r1 =>
((m_w41q (r1, (1 : Int), (8 : Int))).bind fun r2 =>
(cond (!r2)
 (some (2 : Int))
 (Option.bind (α := (Unit ⊕ Int))
  (l_w72q_2 n x (0 : Int))
  (Sum.elim (fun j75 =>
 ((m_w71q ((1 : Int), x)).bind fun r76 =>
 (cond (decide ((lenI r76) > (500 : Int)))
  (some (2 : Int))
  (some (0 : Int))))) some)))))
def m_w72q (x : (List (ByteArray × (ByteArray × Bool)))) : Option Int := p_w72q FU x
def a_w72q : Ann := (.node .leaf (.node .leaf (.joinx [] [2, 3, 4, 5, 10, 11, 12, 13, 14, 15, 16, 17, 18, 19, 20, 21, 22, 23, 24, 25, 26, 27, 28] (.node .leaf (.loop [.slot 12 (.int .i64)] [2, 3, 4, 5, 13, 14, 15, 16, 17, 18, 19, 20, 21, 22, 23, 24, 25, 26, 27, 28] (.node .leaf (.node .leaf (.node (.node .leaf (.node .leaf (.node (.reg 27 (.node .leaf (.node (.regj 7 [.slot 7 (.int .i64)] [] (.node .leaf (.node (.node .leaf (.loop [.slot 8 (.int .i64)] [4, 5, 9, 10, 11, 12, 13, 14, 15, 16, 17, 18] .leaf)) .leaf)) .leaf) .leaf)) .leaf) .leaf))) .leaf))))) .leaf)))
def S_w72q : FSpec := ⟨[.val Kd16], [(.int .i64)], m_w72q⟩

/-! impl.PackWrites -/
def p_w73q (n : Nat) (x : (Int × (List (ByteArray × (ByteArray × Bool))))) : Option (Int × (List Int)) :=
((m_w43q x.1).bind fun r1 =>
(cond (!r1)
 (some ((3 : Int), []))
 ((m_w72q x.2).bind fun r2 =>
 (cond (!(r2 == (0 : Int)))
  (some (r2, []))
  ((m_w71q (x.1, x.2)).bind fun r3 =>
  some ((0 : Int), r3))))))
def m_w73q (x : (Int × (List (ByteArray × (ByteArray × Bool))))) : Option (Int × (List Int)) := p_w73q FU x
def a_w73q : Ann := .leaf
def S_w73q : FSpec := ⟨[.val (.int .i64), .val Kd16], [Kd15], m_w73q⟩

/-! impl.unpackWrites -/
def l_w74q_1 (n : Nat)  (z0 : ((List (ByteArray × (ByteArray × Bool))) × (List Int))) : Option ((List (ByteArray × (ByteArray × Bool))) ⊕ (Int × ((List (ByteArray × (ByteArray × Bool))) × Bool))) :=
(lp (fun rec11 (z10 : ((List (ByteArray × (ByteArray × Bool))) × (List Int))) =>
 (cond (decide ((lenI z10.2) > (0 : Int)))
  ((m_w66q z10.2).bind fun r12 =>
  (cond (!r12.2.2)
   (some (Sum.inr ((0 : Int), [], false)))
   (chk (Nat.ble ((z10.1.length + [r12.1].length) * 40) maxBytes)
   (rec11 ((z10.1 ++ [r12.1]), r12.2.1)))))
  (some (Sum.inl z10.1)))) n z0)
def p_w74q (n : Nat) (x : (List Int)) : Option (Int × ((List (ByteArray × (ByteArray × Bool))) × Bool)) :=
(cond (decide ((lenI x) < (8 : Int)))
 (some ((0 : Int), [], false))
 (chk (bndB none (some (8 : Int)) none x.length)
  ((m_w64q (cutL none (some (8 : Int)) x)).bind fun r1 =>
  (Option.bind (α := ((List (ByteArray × (ByteArray × Bool))) ⊕ (Int × ((List (ByteArray × (ByteArray × Bool))) × Bool))))
   (chk (bndB (some (8 : Int)) none none x.length)
    (l_w74q_1 n  (([] : List (ByteArray × (ByteArray × Bool))), (cutL (some (8 : Int)) none x))))
   (Sum.elim (fun j14 =>
  ((m_w73q (r1.2, j14)).bind fun r15 =>
  (cond (r15.1 == (0 : Int))
   ((m_w58q (r15.2, x)).bind fun r16 =>
   some (r1.2, j14, r16))
   (some (r1.2, j14, false))))) some)))))
def m_w74q (x : (List Int)) : Option (Int × ((List (ByteArray × (ByteArray × Bool))) × Bool)) := p_w74q FU x
def a_w74q : Ann := (.node .leaf (.node .leaf (.node .leaf (.joinx [.slot 6 Kd14] [2, 3, 4, 7, 8, 9, 10, 20, 21, 22, 23, 24, 25, 26, 27, 28, 29, 30, 31, 32, 33, 34, 35, 36, 37] (.node .leaf (.loop [.slot 6 Kd14, .slot 7 (.sl none (.int .u8))] [2, 3, 4, 8, 9, 10, 22, 23, 24, 25, 26, 27, 28, 29, 30, 31, 32, 33, 34, 35, 36, 37] .leaf)) .leaf))))
def S_w74q : FSpec := ⟨[.val (.sl none (.int .u8))], [(.int .i64), Kd14, .bool], m_w74q⟩

/-! impl.rowsOf -/
def l_w75q_1 (n : Nat) (x_1 : Int) (x_2 : (List (ByteArray × (ByteArray × Bool)))) (z0 : ((List (ByteArray × (Int × (ByteArray × Bool)))) × Int)) : Option (List (ByteArray × (Int × (ByteArray × Bool)))) :=
(lp (fun rec5 (z4 : ((List (ByteArray × (Int × (ByteArray × Bool)))) × Int)) =>
 (cond (decide (z4.2 < (lenI x_2)))
  ((geti x_2 z4.2).bind fun y6 =>
  ((m_w68q (y6, x_1)).bind fun r7 =>
  (chk (Nat.ble ((z4.1.length + [r7].length) * 48) maxBytes)
  (rec5 ((z4.1 ++ [r7]), IntKind.wrap .i64 (z4.2 + (1 : Int)))))))
  (some z4.1))) n z0)
def p_w75q (n : Nat) (x : (Int × (List (ByteArray × (ByteArray × Bool))))) : Option (List (ByteArray × (Int × (ByteArray × Bool)))) :=
(l_w75q_1 n x.1 x.2 (([] : List (ByteArray × (Int × (ByteArray × Bool)))), (0 : Int)))
def m_w75q (x : (Int × (List (ByteArray × (ByteArray × Bool))))) : Option (List (ByteArray × (Int × (ByteArray × Bool)))) := p_w75q FU x
def a_w75q : Ann := (.node .leaf (.node .leaf (.node (.node .leaf (.loop [.slot 5 Kd9, .slot 11 (.int .i64)] [7, 12, 13, 14, 15, 16, 17, 18, 19, 20, 21] .leaf)) .leaf)))
def S_w75q : FSpec := ⟨[.val (.int .i64), .val Kd16], [Kd9], m_w75q⟩

/-! impl.Row] -/
def p_w76q (n : Nat) (x : ((List (ByteArray × (Int × (ByteArray × Bool)))) × Bool)) : Option (List (ByteArray × (Int × (ByteArray × Bool)))) :=
sortRun okRow ((⟨#[]⟩ : ByteArray), ((0 : Int), ((⟨#[]⟩ : ByteArray), false))) rfl cfRow x.1
def m_w76q (x : ((List (ByteArray × (Int × (ByteArray × Bool)))) × Bool)) : Option (List (ByteArray × (Int × (ByteArray × Bool)))) := p_w76q FU x
def a_w76q : Ann := .leaf
def S_w76q : FSpec := ⟨[.row 179 Kd13, .fn 233], [], m_w76q⟩

/-! impl.logRows -/
def l_w77q_1 (n : Nat) (r1_2_2 : (List (List Int))) (x_2 : Int) (z0 : ((List (ByteArray × (Int × (ByteArray × Bool)))) × (Int × Int))) : Option ((List (ByteArray × (Int × (ByteArray × Bool)))) ⊕ ((List (ByteArray × (Int × (ByteArray × Bool)))) × Bool)) :=
(lp (fun rec25 (z24 : ((List (ByteArray × (Int × (ByteArray × Bool)))) × (Int × Int))) =>
 (cond (decide (z24.2.2 < (lenI r1_2_2)))
  ((geti r1_2_2 z24.2.2).bind fun _ =>
  ((r1_2_2[z24.2.2.toNat]?).bind fun y26 =>
  ((r1_2_2[z24.2.2.toNat]?).bind fun y27 =>
  ((m_w74q y27).bind fun r28 =>
  (Option.bind (α := Bool)
   (cond (!r28.2.2)
    (some true)
    (cond (decide (r28.1 ≥ x_2))
     (some true)
     (some (decide (r28.1 ≤ z24.2.1))))) fun j29 =>
  (cond j29
   (some (Sum.inr ([], false)))
   ((m_w75q (r28.1, r28.2.1)).bind fun r30 =>
   (chk (Nat.ble ((z24.1.length + r30.length) * 48) maxBytes)
   (rec25 ((z24.1 ++ r30), r28.1, IntKind.wrap .i64 (z24.2.2 + (1 : Int))))))))))))
  (some (Sum.inl z24.1)))) n z0)
def p_w77q (n : Nat) (x : (((List Int) × (List Int)) × Int)) : Option ((List (ByteArray × (Int × (ByteArray × Bool)))) × Bool) :=
((m_w63q x.1).bind fun r1 =>
((m_w61q x.1.1).bind fun r2 =>
((m_w61q x.1.2).bind fun r3 =>
(cond (!(r1.2.1 == (IntKind.wrap .i64 (r2 + r3))))
 (some ([], false))
 (Option.bind (α := ((List (ByteArray × (Int × (ByteArray × Bool)))) ⊕ ((List (ByteArray × (Int × (ByteArray × Bool)))) × Bool)))
  (l_w77q_1 n r1.2.2 x.2 (([] : List (ByteArray × (Int × (ByteArray × Bool)))), (0 : Int), (0 : Int)))
  (Sum.elim (fun j32 =>
 ((m_w76q (j32, true)).bind fun r33 =>
 some (r33, true))) some))))))
def m_w77q (x : (((List Int) × (List Int)) × Int)) : Option ((List (ByteArray × (Int × (ByteArray × Bool)))) × Bool) := p_w77q FU x
def a_w77q : Ann := (.node .leaf (.node .leaf (.node .leaf (.node .leaf (.joinx [.slot 7 Kd9] [4, 5, 8, 10, 11, 12, 13, 27, 28, 29, 30, 31, 32, 33, 34, 35, 36, 37, 38, 39, 40, 41, 42, 43, 44, 45, 46, 47, 48, 49, 50, 51, 52, 53, 54, 55, 56, 57, 58] (.node .leaf (.loop [.slot 7 Kd9, .slot 8 (.int .i64), .slot 30 (.int .i64)] [4, 5, 10, 11, 12, 13, 31, 32, 33, 34, 35, 36, 37, 38, 39, 40, 41, 42, 43, 44, 45, 46, 47, 48, 49, 50, 51, 52, 53, 54, 55, 56, 57, 58] (.node .leaf (.node .leaf (.node (.node .leaf (.node .leaf (.node (.join [.slot 51 .bool] [40, 41, 42, 43, 44, 45, 46, 47, 48, 49, 50] .leaf .leaf) .leaf))) .leaf))))) .leaf)))))
def S_w77q : FSpec := ⟨[.val Kd12, .val (.int .i64)], [Kd9, .bool], m_w77q⟩

/-! impl.Row] -/
def l_w78q_1 (n : Nat) (x_1 : (List (ByteArray × (Int × (ByteArray × Bool))))) (x_2 : (List (ByteArray × (Int × (ByteArray × Bool))))) (z0 : Int) : Option Bool :=
(lp (fun rec5 (z4 : Int) =>
 (cond (decide (z4 < (lenI x_1)))
  ((geti x_1 z4).bind fun y6 =>
  ((geti x_2 z4).bind fun y7 =>
  (cond (!((y6.1.toList == y7.1.toList) && ((y6.2.1 == y7.2.1) && ((y6.2.2.1.toList == y7.2.2.1.toList) && ((y6.2.2.2 == y7.2.2.2) && true)))))
   (some false)
   (rec5 (IntKind.wrap .i64 (z4 + (1 : Int)))))))
  (some true))) n z0)
def p_w78q (n : Nat) (x : ((List (ByteArray × (Int × (ByteArray × Bool)))) × (List (ByteArray × (Int × (ByteArray × Bool)))))) : Option Bool :=
(cond (!((lenI x.1) == (lenI x.2)))
 (some false)
 (l_w78q_1 n x.1 x.2 (0 : Int)))
def m_w78q (x : ((List (ByteArray × (Int × (ByteArray × Bool)))) × (List (ByteArray × (Int × (ByteArray × Bool)))))) : Option Bool := p_w78q FU x
def a_w78q : Ann := (.node .leaf (.node .leaf (.node (.node .leaf (.loop [.slot 13 (.int .i64)] [4, 5, 14, 15, 16, 17, 18, 19, 20, 21, 22, 23, 24, 25] .leaf)) .leaf)))
def S_w78q : FSpec := ⟨[.val Kd10, .val Kd10], [.bool], m_w78q⟩

/-! impl.EngineFault -/
def l_w79q_1 (n : Nat) (x_2_2_1 : (List (List (ByteArray × (Int × (ByteArray × Bool)))))) (z0 : Int) : Option (Unit ⊕ Int) :=
(lp (fun rec16 (z15 : Int) =>
 (cond (decide (z15 < (lenI x_2_2_1)))
  ((geti x_2_2_1 z15).bind fun y17 =>
  ((m_w51q y17).bind fun r18 =>
  (cond (!(r18 == (0 : Int)))
   (some (Sum.inr r18))
   (rec16 (IntKind.wrap .i64 (z15 + (1 : Int)))))))
  (some (Sum.inl ())))) n z0)
def l_w79q_2 (n : Nat) (x_2_1 : (List (ByteArray × (Int × (ByteArray × Bool))))) (r22 : Int) (z0 : Int) : Option Int :=
(lp (fun rec53 (z52 : Int) =>
 (cond (decide (z52 < (lenI x_2_1)))
  ((geti x_2_1 z52).bind fun y54 =>
  (cond (decide (y54.2.1 ≤ r22))
   (some z52)
   (rec53 (IntKind.wrap .i64 (z52 + (1 : Int))))))
  (some (-1 : Int)))) n z0)
def p_w79q (n : Nat) (x : (((List Int) × (List Int)) × ((List (ByteArray × (Int × (ByteArray × Bool)))) × ((List (List (ByteArray × (Int × (ByteArray × Bool))))) × Int)))) : Option Int :=
((m_w40q x.1).bind fun r1 =>
((m_w51q x.2.1).bind fun r2 =>
((m_w52q [r1, r2]).bind fun r3 =>
(cond (!(r3 == (0 : Int)))
 (some r3)
 (cond (decide ((lenI x.2.2.1) > (6 : Int)))
  (some (2 : Int))
  (Option.bind (α := (Unit ⊕ Int))
   (l_w79q_1 n x.2.2.1 (0 : Int))
   (Sum.elim (fun j20 =>
  ((m_w53q x.2.2.1).bind fun r21 =>
  ((m_w54q r21).bind fun r22 =>
  (Option.bind (α := Bool)
   ((m_w43q x.2.2.2).bind fun r25 =>
   (cond (!r25)
    (some true)
    ((m_w54q x.2.1).bind fun r26 =>
    some (decide ((if r26 > r22 then r26 else r22) ≥ x.2.2.2))))) fun j27 =>
  (cond j27
   (some (3 : Int))
   ((m_w77q (x.1, x.2.2.2)).bind fun r28 =>
   (Option.bind (α := Bool)
    (cond (!r28.2)
     (some true)
     ((m_w78q (r28.1, x.2.1)).bind fun r43 =>
     (cond (!r43)
      (some true)
      (Option.bind (α := Int)
       (l_w79q_2 n x.2.1 r22 (0 : Int)) fun j56 =>
      some (decide (j56 ≥ (0 : Int))))))) fun j57 =>
   (cond j57
    (some (1 : Int))
    (some (0 : Int)))))))))) some)))))))
def m_w79q (x : (((List Int) × (List Int)) × ((List (ByteArray × (Int × (ByteArray × Bool)))) × ((List (List (ByteArray × (Int × (ByteArray × Bool))))) × Int)))) : Option Int := p_w79q FU x
def a_w79q : Ann := (.node .leaf (.node (.node (.lazy 16 .leaf) .leaf) (.node .leaf (.joinx [] [2, 5, 6, 25, 26, 27, 28, 29, 30, 31, 32, 33, 34, 35, 36, 37] (.node .leaf (.loop [.slot 28 (.int .i64)] [2, 5, 6, 29, 30, 31, 32, 33, 34, 35, 36, 37] .leaf)) (.node .leaf (.node (.join [.slot 55 .bool] [42, 43, 44, 45, 46, 47, 48, 49, 50, 51, 52, 53, 54] .leaf .leaf) (.node .leaf (.node (.join [.slot 78 .bool] [64, 65, 66, 67, 68, 69, 70, 71, 72, 73, 74, 75, 76, 77] (.reg 77 (.node .leaf (.node (.regj 7 [.slot 7 (.int .i64)] [] (.node .leaf (.node (.node .leaf (.loop [.slot 8 (.int .i64)] [4, 5, 9, 10, 11, 12, 13, 14, 15, 16, 17, 18] .leaf)) .leaf)) .leaf) .leaf)) .leaf) .leaf) .leaf))))))))
def S_w79q : FSpec := ⟨[.val Kd4], [(.int .i64)], m_w79q⟩

/-! impl.Row] -/
def l_w80q_1 (n : Nat) (x_2_1 : Int) (z0 : (Int × (List (ByteArray × (Int × (ByteArray × Bool)))))) : Option (List (ByteArray × (Int × (ByteArray × Bool)))) :=
(lp (fun rec222 (z221 : (Int × (List (ByteArray × (Int × (ByteArray × Bool)))))) =>
 (Option.bind (α := Bool)
  (cond (decide (z221.1 > x_2_1))
   ((geti z221.2 z221.1).bind fun _ =>
   ((z221.2[z221.1.toNat]?).bind fun y226 =>
   ((geti z221.2 (IntKind.wrap .i64 (z221.1 - (1 : Int)))).bind fun _ =>
   ((z221.2[(IntKind.wrap .i64 (z221.1 - (1 : Int))).toNat]?).bind fun y227 =>
   ((m_w50q (y226, y227)).bind fun r228 =>
   some (decide (r228 < (0 : Int))))))))
   (some false)) fun j229 =>
 (cond j229
  ((geti z221.2 (IntKind.wrap .i64 (z221.1 - (1 : Int)))).bind fun _ =>
  ((z221.2[(IntKind.wrap .i64 (z221.1 - (1 : Int))).toNat]?).bind fun y230 =>
  ((geti z221.2 z221.1).bind fun _ =>
  ((z221.2[z221.1.toNat]?).bind fun y231 =>
  ((geti z221.2 z221.1).bind fun _ =>
  ((z221.2[z221.1.toNat]?).bind fun y232 =>
  ((geti (z221.2.set z221.1.toNat y230) (IntKind.wrap .i64 (z221.1 - (1 : Int)))).bind fun _ =>
  (((z221.2.set z221.1.toNat y230)[(IntKind.wrap .i64 (z221.1 - (1 : Int))).toNat]?).bind fun y233 =>
  rec222 (IntKind.wrap .i64 (z221.1 - (1 : Int)), ((z221.2.set z221.1.toNat y230).set ((IntKind.wrap .i64 (z221.1 - (1 : Int))).toNat) y231))))))))))
  (some z221.2)))) n z0)
def l_w80q_2 (n : Nat) (x_2_1 : Int) (x_2_2_1 : Int) (z0 : (Int × (List (ByteArray × (Int × (ByteArray × Bool)))))) : Option (List (ByteArray × (Int × (ByteArray × Bool)))) :=
(lp (fun rec158 (z157 : (Int × (List (ByteArray × (Int × (ByteArray × Bool)))))) =>
 (cond (decide (z157.1 < x_2_2_1))
  (Option.bind (α := (List (ByteArray × (Int × (ByteArray × Bool)))))
   (l_w80q_1 n x_2_1 (z157.1, z157.2)) fun j235 =>
  rec158 (IntKind.wrap .i64 (z157.1 + (1 : Int)), j235))
  (some z157.2))) n z0)
def p_w80q (n : Nat) (x : ((List (ByteArray × (Int × (ByteArray × Bool)))) × (Int × (Int × Bool)))) : Option (List (ByteArray × (Int × (ByteArray × Bool)))) :=
(l_w80q_2 n x.2.1 x.2.2.1 (IntKind.wrap .i64 (x.2.1 + (1 : Int)), x.1))
def m_w80q (x : ((List (ByteArray × (Int × (ByteArray × Bool)))) × (Int × (Int × Bool)))) : Option (List (ByteArray × (Int × (ByteArray × Bool)))) := p_w80q FU x
def a_w80q : Ann := (.node .leaf (.loop [.slot 8 (.int .i64), .row 0 179 Kd13] [9, 12, 13, 14, 15, 16, 17, 18, 19, 20, 21, 22, 23, 24, 25, 26, 27, 28, 29, 30, 31, 32, 33, 34, 35, 36, 37, 38, 39, 40, 41, 42, 43, 44, 45, 46, 47, 48, 49, 50, 51, 52] (.node .leaf (.join [.row 0 179 Kd13] [9, 17, 18, 19, 20, 21, 22, 23, 24, 25, 26, 27, 28, 29, 30, 31, 32, 33, 34, 35, 36, 37, 38, 39, 40, 41, 42, 43, 44, 45, 46, 47, 48, 49, 50, 51, 52] (.node .leaf (.loop [.slot 9 (.int .i64), .row 0 179 Kd13] [18, 19, 20, 21, 22, 23, 24, 25, 26, 27, 28, 29, 30, 31, 32, 33, 34, 35, 36, 37, 38, 39, 40, 41, 42, 43, 44, 45, 46, 47, 48, 49, 50, 51, 52] (.node (.join [.slot 34 .bool] [18, 19, 20, 21, 22, 23, 24, 25, 26, 27, 28, 29, 30, 31, 32, 33] .leaf .leaf) .leaf))) .leaf))))
def S_w80q : FSpec := ⟨[.row 179 Kd13, .val (.int .i64), .val (.int .i64), .fn 233], [], m_w80q⟩

/-! impl.Row] -/
def l_w81q_1 (n : Nat) (x_2_1 : Int) (x_2_2_1 : Int) (x_2_2_2_1 : Int) (z0 : (Int × (List (ByteArray × (Int × (ByteArray × Bool)))))) : Option (List (ByteArray × (Int × (ByteArray × Bool)))) :=
(lp (fun rec12 (z11 : (Int × (List (ByteArray × (Int × (ByteArray × Bool)))))) =>
 (cond (decide (z11.1 < x_2_2_2_1))
  ((geti z11.2 (IntKind.wrap .i64 (x_2_2_1 + z11.1))).bind fun _ =>
  ((z11.2[(IntKind.wrap .i64 (x_2_2_1 + z11.1)).toNat]?).bind fun y13 =>
  ((geti z11.2 (IntKind.wrap .i64 (x_2_1 + z11.1))).bind fun _ =>
  ((z11.2[(IntKind.wrap .i64 (x_2_1 + z11.1)).toNat]?).bind fun y14 =>
  ((geti z11.2 (IntKind.wrap .i64 (x_2_1 + z11.1))).bind fun _ =>
  ((z11.2[(IntKind.wrap .i64 (x_2_1 + z11.1)).toNat]?).bind fun y15 =>
  ((geti (z11.2.set ((IntKind.wrap .i64 (x_2_1 + z11.1)).toNat) y13) (IntKind.wrap .i64 (x_2_2_1 + z11.1))).bind fun _ =>
  (((z11.2.set ((IntKind.wrap .i64 (x_2_1 + z11.1)).toNat) y13)[(IntKind.wrap .i64 (x_2_2_1 + z11.1)).toNat]?).bind fun y16 =>
  rec12 (IntKind.wrap .i64 (z11.1 + (1 : Int)), ((z11.2.set ((IntKind.wrap .i64 (x_2_1 + z11.1)).toNat) y13).set ((IntKind.wrap .i64 (x_2_2_1 + z11.1)).toNat) y14))))))))))
  (some z11.2))) n z0)
def p_w81q (n : Nat) (x : ((List (ByteArray × (Int × (ByteArray × Bool)))) × (Int × (Int × (Int × Bool))))) : Option (List (ByteArray × (Int × (ByteArray × Bool)))) :=
(l_w81q_1 n x.2.1 x.2.2.1 x.2.2.2.1 ((0 : Int), x.1))
def m_w81q (x : ((List (ByteArray × (Int × (ByteArray × Bool)))) × (Int × (Int × (Int × Bool))))) : Option (List (ByteArray × (Int × (ByteArray × Bool)))) := p_w81q FU x
def a_w81q : Ann := (.node .leaf (.loop [.slot 10 (.int .i64), .row 0 179 Kd13] [11, 12, 13, 14, 15, 16, 17, 18, 19, 20, 21, 22, 23, 24, 25, 26, 27, 28, 29, 30, 31, 32, 33, 34, 35, 36, 37] .leaf))
def S_w81q : FSpec := ⟨[.row 179 Kd13, .val (.int .i64), .val (.int .i64), .val (.int .i64), .fn 233], [], m_w81q⟩

/-! impl.Row] -/
def l_w82q_1 (n : Nat) (x_2_2_1 : Int) (z0 : (Int × (Int × (List (ByteArray × (Int × (ByteArray × Bool))))))) : Option (Int × (List (ByteArray × (Int × (ByteArray × Bool))))) :=
(lp (fun rec19 (z18 : (Int × (Int × (List (ByteArray × (Int × (ByteArray × Bool))))))) =>
 (cond (!(z18.1 == z18.2.1))
  (cond (decide (z18.1 > z18.2.1))
   ((m_w81q (z18.2.2, IntKind.wrap .i64 (x_2_2_1 - z18.1), x_2_2_1, z18.2.1, true)).bind fun r20 =>
   rec19 (IntKind.wrap .i64 (z18.1 - z18.2.1), z18.2.1, r20))
   ((m_w81q (z18.2.2, IntKind.wrap .i64 (x_2_2_1 - z18.1), IntKind.wrap .i64 ((IntKind.wrap .i64 (x_2_2_1 + z18.2.1)) - z18.1), z18.1, true)).bind fun r21 =>
   rec19 (z18.1, IntKind.wrap .i64 (z18.2.1 - z18.1), r21)))
  (some (z18.1, z18.2.2)))) n z0)
def p_w82q (n : Nat) (x : ((List (ByteArray × (Int × (ByteArray × Bool)))) × (Int × (Int × (Int × Bool))))) : Option (List (ByteArray × (Int × (ByteArray × Bool)))) :=
(Option.bind (α := (Int × (List (ByteArray × (Int × (ByteArray × Bool))))))
 (l_w82q_1 n x.2.2.1 (IntKind.wrap .i64 (x.2.2.1 - x.2.1), IntKind.wrap .i64 (x.2.2.2.1 - x.2.2.1), x.1)) fun j23 =>
((m_w81q (j23.2, IntKind.wrap .i64 (x.2.2.1 - j23.1), x.2.2.1, j23.1, true)).bind fun r24 =>
some r24))
def m_w82q (x : ((List (ByteArray × (Int × (ByteArray × Bool)))) × (Int × (Int × (Int × Bool))))) : Option (List (ByteArray × (Int × (ByteArray × Bool)))) := p_w82q FU x
def a_w82q : Ann := (.node .leaf (.node .leaf (.join [.slot 10 (.int .i64), .row 0 179 Kd13] [11, 18, 19, 20, 21, 22, 23, 24, 25, 26, 27, 28, 29, 30, 31, 32, 33, 34, 35, 36, 37, 38, 39, 40, 41, 42, 43, 44, 45, 46, 47, 48, 49] (.loop [.slot 10 (.int .i64), .slot 11 (.int .i64), .row 0 179 Kd13] [18, 19, 20, 21, 22, 23, 24, 25, 26, 27, 28, 29, 30, 31, 32, 33, 34, 35, 36, 37, 38, 39, 40, 41, 42, 43, 44, 45, 46, 47, 48, 49] .leaf) .leaf)))
def S_w82q : FSpec := ⟨[.row 179 Kd13, .val (.int .i64), .val (.int .i64), .val (.int .i64), .fn 233], [], m_w82q⟩

/-! impl.Row] -/
def l_w83q_1 (n : Nat) (x_1 : (List (ByteArray × (Int × (ByteArray × Bool))))) (x_2_1 : Int) (z0 : (Int × Int)) : Option Int :=
(lp (fun rec105 (z104 : (Int × Int)) =>
 (cond (decide (z104.1 < z104.2))
  (chk (decide (0 ≤ (1 : Int)))
   ((geti x_1 (IntKind.wrap .i64 (Int.fdiv (IntKind.wrap .u64 (IntKind.wrap .i64 (z104.1 + z104.2))) (2 ^ (min (1 : Int).toNat 64))))).bind fun _ =>
   ((x_1[(IntKind.wrap .i64 (Int.fdiv (IntKind.wrap .u64 (IntKind.wrap .i64 (z104.1 + z104.2))) (2 ^ (min (1 : Int).toNat 64)))).toNat]?).bind fun y106 =>
   ((geti x_1 x_2_1).bind fun _ =>
   ((x_1[x_2_1.toNat]?).bind fun y107 =>
   ((m_w50q (y106, y107)).bind fun r108 =>
   (cond (decide (r108 < (0 : Int)))
    (rec105 (IntKind.wrap .i64 ((IntKind.wrap .i64 (Int.fdiv (IntKind.wrap .u64 (IntKind.wrap .i64 (z104.1 + z104.2))) (2 ^ (min (1 : Int).toNat 64)))) + (1 : Int)), z104.2))
    (rec105 (z104.1, IntKind.wrap .i64 (Int.fdiv (IntKind.wrap .u64 (IntKind.wrap .i64 (z104.1 + z104.2))) (2 ^ (min (1 : Int).toNat 64))))))))))))
  (some z104.1))) n z0)
def l_w83q_2 (n : Nat) (j110 : Int) (z0 : (Int × (List (ByteArray × (Int × (ByteArray × Bool)))))) : Option (Unit ⊕ (List (ByteArray × (Int × (ByteArray × Bool))))) :=
(lp (fun rec122 (z121 : (Int × (List (ByteArray × (Int × (ByteArray × Bool)))))) =>
 (cond (decide (z121.1 < (IntKind.wrap .i64 (j110 - (1 : Int)))))
  ((geti z121.2 (IntKind.wrap .i64 (z121.1 + (1 : Int)))).bind fun _ =>
  ((z121.2[(IntKind.wrap .i64 (z121.1 + (1 : Int))).toNat]?).bind fun y123 =>
  ((geti z121.2 z121.1).bind fun _ =>
  ((z121.2[z121.1.toNat]?).bind fun y124 =>
  ((geti z121.2 z121.1).bind fun _ =>
  ((z121.2[z121.1.toNat]?).bind fun y125 =>
  ((geti (z121.2.set z121.1.toNat y123) (IntKind.wrap .i64 (z121.1 + (1 : Int)))).bind fun _ =>
  (((z121.2.set z121.1.toNat y123)[(IntKind.wrap .i64 (z121.1 + (1 : Int))).toNat]?).bind fun y126 =>
  rec122 (IntKind.wrap .i64 (z121.1 + (1 : Int)), ((z121.2.set z121.1.toNat y123).set ((IntKind.wrap .i64 (z121.1 + (1 : Int))).toNat) y124))))))))))
  (some (Sum.inr z121.2)))) n z0)
def l_w83q_3 (n : Nat) (x_1 : (List (ByteArray × (Int × (ByteArray × Bool))))) (x_2_2_1 : Int) (z0 : (Int × Int)) : Option Int :=
(lp (fun rec233 (z232 : (Int × Int)) =>
 (cond (decide (z232.1 < z232.2))
  (chk (decide (0 ≤ (1 : Int)))
   ((geti x_1 x_2_2_1).bind fun _ =>
   ((x_1[x_2_2_1.toNat]?).bind fun y234 =>
   ((geti x_1 (IntKind.wrap .i64 (Int.fdiv (IntKind.wrap .u64 (IntKind.wrap .i64 (z232.1 + z232.2))) (2 ^ (min (1 : Int).toNat 64))))).bind fun _ =>
   ((x_1[(IntKind.wrap .i64 (Int.fdiv (IntKind.wrap .u64 (IntKind.wrap .i64 (z232.1 + z232.2))) (2 ^ (min (1 : Int).toNat 64)))).toNat]?).bind fun y235 =>
   ((m_w50q (y234, y235)).bind fun r236 =>
   (cond (!(decide (r236 < (0 : Int))))
    (rec233 (IntKind.wrap .i64 ((IntKind.wrap .i64 (Int.fdiv (IntKind.wrap .u64 (IntKind.wrap .i64 (z232.1 + z232.2))) (2 ^ (min (1 : Int).toNat 64)))) + (1 : Int)), z232.2))
    (rec233 (z232.1, IntKind.wrap .i64 (Int.fdiv (IntKind.wrap .u64 (IntKind.wrap .i64 (z232.1 + z232.2))) (2 ^ (min (1 : Int).toNat 64))))))))))))
  (some z232.1))) n z0)
def l_w83q_4 (n : Nat) (j238 : Int) (z0 : (Int × (List (ByteArray × (Int × (ByteArray × Bool)))))) : Option (Unit ⊕ (List (ByteArray × (Int × (ByteArray × Bool))))) :=
(lp (fun rec250 (z249 : (Int × (List (ByteArray × (Int × (ByteArray × Bool)))))) =>
 (cond (decide (z249.1 > j238))
  ((geti z249.2 (IntKind.wrap .i64 (z249.1 - (1 : Int)))).bind fun _ =>
  ((z249.2[(IntKind.wrap .i64 (z249.1 - (1 : Int))).toNat]?).bind fun y251 =>
  ((geti z249.2 z249.1).bind fun _ =>
  ((z249.2[z249.1.toNat]?).bind fun y252 =>
  ((geti z249.2 z249.1).bind fun _ =>
  ((z249.2[z249.1.toNat]?).bind fun y253 =>
  ((geti (z249.2.set z249.1.toNat y251) (IntKind.wrap .i64 (z249.1 - (1 : Int)))).bind fun _ =>
  (((z249.2.set z249.1.toNat y251)[(IntKind.wrap .i64 (z249.1 - (1 : Int))).toNat]?).bind fun y254 =>
  rec250 (IntKind.wrap .i64 (z249.1 - (1 : Int)), ((z249.2.set z249.1.toNat y251).set ((IntKind.wrap .i64 (z249.1 - (1 : Int))).toNat) y252))))))))))
  (some (Sum.inr z249.2)))) n z0)
def l_w83q_5 (n : Nat) (x_1 : (List (ByteArray × (Int × (ByteArray × Bool))))) (x_2_1 : Int) (x_2_2_1 : Int) (x_2_2_2_1 : Int) (z0 : (Int × Int)) : Option Int :=
(lp (fun rec286 (z285 : (Int × Int)) =>
 (cond (decide (z285.1 < z285.2))
  (chk (decide (0 ≤ (1 : Int)))
   ((geti x_1 (IntKind.wrap .i64 ((IntKind.wrap .i64 ((IntKind.wrap .i64 ((IntKind.wrap .i64 (Int.fdiv (IntKind.wrap .u64 (IntKind.wrap .i64 (x_2_1 + x_2_2_2_1))) (2 ^ (min (1 : Int).toNat 64)))) + x_2_2_1)) - (1 : Int))) - (IntKind.wrap .i64 (Int.fdiv (IntKind.wrap .u64 (IntKind.wrap .i64 (z285.1 + z285.2))) (2 ^ (min (1 : Int).toNat 64))))))).bind fun _ =>
   ((x_1[(IntKind.wrap .i64 ((IntKind.wrap .i64 ((IntKind.wrap .i64 ((IntKind.wrap .i64 (Int.fdiv (IntKind.wrap .u64 (IntKind.wrap .i64 (x_2_1 + x_2_2_2_1))) (2 ^ (min (1 : Int).toNat 64)))) + x_2_2_1)) - (1 : Int))) - (IntKind.wrap .i64 (Int.fdiv (IntKind.wrap .u64 (IntKind.wrap .i64 (z285.1 + z285.2))) (2 ^ (min (1 : Int).toNat 64)))))).toNat]?).bind fun y287 =>
   ((geti x_1 (IntKind.wrap .i64 (Int.fdiv (IntKind.wrap .u64 (IntKind.wrap .i64 (z285.1 + z285.2))) (2 ^ (min (1 : Int).toNat 64))))).bind fun _ =>
   ((x_1[(IntKind.wrap .i64 (Int.fdiv (IntKind.wrap .u64 (IntKind.wrap .i64 (z285.1 + z285.2))) (2 ^ (min (1 : Int).toNat 64)))).toNat]?).bind fun y288 =>
   ((m_w50q (y287, y288)).bind fun r289 =>
   (cond (!(decide (r289 < (0 : Int))))
    (rec286 (IntKind.wrap .i64 ((IntKind.wrap .i64 (Int.fdiv (IntKind.wrap .u64 (IntKind.wrap .i64 (z285.1 + z285.2))) (2 ^ (min (1 : Int).toNat 64)))) + (1 : Int)), z285.2))
    (rec286 (z285.1, IntKind.wrap .i64 (Int.fdiv (IntKind.wrap .u64 (IntKind.wrap .i64 (z285.1 + z285.2))) (2 ^ (min (1 : Int).toNat 64))))))))))))
  (some z285.1))) n z0)
def p_w83q (q : ((List (ByteArray × (Int × (ByteArray × Bool)))) × (Int × (Int × (Int × Bool)))) → Option (List (ByteArray × (Int × (ByteArray × Bool))))) (n : Nat) (x : ((List (ByteArray × (Int × (ByteArray × Bool)))) × (Int × (Int × (Int × Bool))))) : Option (List (ByteArray × (Int × (ByteArray × Bool)))) :=
(Option.bind (α := (Unit ⊕ (List (ByteArray × (Int × (ByteArray × Bool))))))
 (cond ((IntKind.wrap .i64 (x.2.2.1 - x.2.1)) == (1 : Int))
  (Option.bind (α := Int)
   (l_w83q_1 n x.1 x.2.1 (x.2.2.1, x.2.2.2.1)) fun j110 =>
  (l_w83q_2 n j110 (x.2.1, x.1)))
  (some (Sum.inl ())))
 (Sum.elim (fun j128 =>
(Option.bind (α := (Unit ⊕ (List (ByteArray × (Int × (ByteArray × Bool))))))
 (cond ((IntKind.wrap .i64 (x.2.2.2.1 - x.2.2.1)) == (1 : Int))
  (Option.bind (α := Int)
   (l_w83q_3 n x.1 x.2.2.1 (x.2.1, x.2.2.1)) fun j238 =>
  (l_w83q_4 n j238 (x.2.2.1, x.1)))
  (some (Sum.inl ())))
 (Sum.elim (fun j256 =>
(chk (decide (0 ≤ (1 : Int)))
 (Option.bind (α := (Int × Int))
  (cond (decide (x.2.2.1 > (IntKind.wrap .i64 (Int.fdiv (IntKind.wrap .u64 (IntKind.wrap .i64 (x.2.1 + x.2.2.2.1))) (2 ^ (min (1 : Int).toNat 64))))))
   (some (IntKind.wrap .i64 ((IntKind.wrap .i64 ((IntKind.wrap .i64 (Int.fdiv (IntKind.wrap .u64 (IntKind.wrap .i64 (x.2.1 + x.2.2.2.1))) (2 ^ (min (1 : Int).toNat 64)))) + x.2.2.1)) - x.2.2.2.1), IntKind.wrap .i64 (Int.fdiv (IntKind.wrap .u64 (IntKind.wrap .i64 (x.2.1 + x.2.2.2.1))) (2 ^ (min (1 : Int).toNat 64)))))
   (some (x.2.1, x.2.2.1))) fun j257 =>
 (Option.bind (α := Int)
  (l_w83q_5 n x.1 x.2.1 x.2.2.1 x.2.2.2.1 (j257.1, j257.2)) fun j291 =>
 (Option.bind (α := (List (ByteArray × (Int × (ByteArray × Bool)))))
  (Option.bind (α := Bool)
   (cond (decide (j291 < x.2.2.1))
    (some (decide (x.2.2.1 < (IntKind.wrap .i64 ((IntKind.wrap .i64 ((IntKind.wrap .i64 (Int.fdiv (IntKind.wrap .u64 (IntKind.wrap .i64 (x.2.1 + x.2.2.2.1))) (2 ^ (min (1 : Int).toNat 64)))) + x.2.2.1)) - j291)))))
    (some false)) fun j296 =>
  (cond j296
   ((m_w82q (x.1, j291, x.2.2.1, IntKind.wrap .i64 ((IntKind.wrap .i64 ((IntKind.wrap .i64 (Int.fdiv (IntKind.wrap .u64 (IntKind.wrap .i64 (x.2.1 + x.2.2.2.1))) (2 ^ (min (1 : Int).toNat 64)))) + x.2.2.1)) - j291), true)).bind fun r297 =>
   some r297)
   (some x.1))) fun j298 =>
 (Option.bind (α := (List (ByteArray × (Int × (ByteArray × Bool)))))
  (Option.bind (α := Bool)
   (cond (decide (x.2.1 < j291))
    (some (decide (j291 < (IntKind.wrap .i64 (Int.fdiv (IntKind.wrap .u64 (IntKind.wrap .i64 (x.2.1 + x.2.2.2.1))) (2 ^ (min (1 : Int).toNat 64)))))))
    (some false)) fun j303 =>
  (cond j303
   ((q (j298, x.2.1, j291, IntKind.wrap .i64 (Int.fdiv (IntKind.wrap .u64 (IntKind.wrap .i64 (x.2.1 + x.2.2.2.1))) (2 ^ (min (1 : Int).toNat 64))), true)).bind fun r304 =>
   some r304)
   (some j298))) fun j305 =>
 (Option.bind (α := Bool)
  (cond (decide ((IntKind.wrap .i64 (Int.fdiv (IntKind.wrap .u64 (IntKind.wrap .i64 (x.2.1 + x.2.2.2.1))) (2 ^ (min (1 : Int).toNat 64)))) < (IntKind.wrap .i64 ((IntKind.wrap .i64 ((IntKind.wrap .i64 (Int.fdiv (IntKind.wrap .u64 (IntKind.wrap .i64 (x.2.1 + x.2.2.2.1))) (2 ^ (min (1 : Int).toNat 64)))) + x.2.2.1)) - j291))))
   (some (decide ((IntKind.wrap .i64 ((IntKind.wrap .i64 ((IntKind.wrap .i64 (Int.fdiv (IntKind.wrap .u64 (IntKind.wrap .i64 (x.2.1 + x.2.2.2.1))) (2 ^ (min (1 : Int).toNat 64)))) + x.2.2.1)) - j291)) < x.2.2.2.1)))
   (some false)) fun j306 =>
 (cond j306
  ((q (j305, IntKind.wrap .i64 (Int.fdiv (IntKind.wrap .u64 (IntKind.wrap .i64 (x.2.1 + x.2.2.2.1))) (2 ^ (min (1 : Int).toNat 64))), IntKind.wrap .i64 ((IntKind.wrap .i64 ((IntKind.wrap .i64 (Int.fdiv (IntKind.wrap .u64 (IntKind.wrap .i64 (x.2.1 + x.2.2.2.1))) (2 ^ (min (1 : Int).toNat 64)))) + x.2.2.1)) - j291), x.2.2.2.1, true)).bind fun r307 =>
  some r307)
  (some j305))))))))) some))) some))
def R_w83q (n : Nat) : Nat → ((List (ByteArray × (Int × (ByteArray × Bool)))) × (Int × (Int × (Int × Bool)))) → Option (List (ByteArray × (Int × (ByteArray × Bool))))
  | 0, _ => none
  | d + 1, x => p_w83q (R_w83q n d) n x
def m_w83q : ((List (ByteArray × (Int × (ByteArray × Bool)))) × (Int × (Int × (Int × Bool)))) → Option (List (ByteArray × (Int × (ByteArray × Bool)))) := R_w83q FU 64
def a_w83q : Ann := (.joinx [] [25, 26, 27, 28] (.node .leaf (.node (.node .leaf (.node .leaf (.join [.slot 10 (.int .i64)] [11, 12, 31, 32, 33, 34, 35, 36, 37, 38, 39, 40, 41, 42, 43, 44, 45, 46, 47, 48, 49, 50, 51, 52, 53] (.loop [.slot 10 (.int .i64), .slot 11 (.int .i64)] [12, 31, 32, 33, 34, 35, 36, 37, 38, 39, 40, 41, 42, 43, 44, 45, 46, 47, 48, 49, 50, 51, 52, 53] .leaf) (.node (.node .leaf (.loop [.slot 13 (.int .i64), .row 0 179 Kd13] [55, 56, 57, 58, 59, 60, 61, 62, 63, 64, 65, 66, 67, 68, 69, 70, 71, 72, 73, 74, 75, 76] .leaf)) .leaf)))) .leaf)) (.joinx [] [77, 78, 79, 80] (.node .leaf (.node (.node .leaf (.node .leaf (.join [.slot 14 (.int .i64)] [15, 16, 83, 84, 85, 86, 87, 88, 89, 90, 91, 92, 93, 94, 95, 96, 97, 98, 99, 100, 101, 102, 103, 104, 105, 106] (.loop [.slot 14 (.int .i64), .slot 15 (.int .i64)] [16, 83, 84, 85, 86, 87, 88, 89, 90, 91, 92, 93, 94, 95, 96, 97, 98, 99, 100, 101, 102, 103, 104, 105, 106] .leaf) (.node (.node .leaf (.loop [.slot 17 (.int .i64), .row 0 179 Kd13] [108, 109, 110, 111, 112, 113, 114, 115, 116, 117, 118, 119, 120, 121, 122, 123, 124, 125, 126, 127, 128] .leaf)) .leaf)))) .leaf)) (.node .leaf (.node .leaf (.node .leaf (.join [.slot 20 (.int .i64), .slot 21 (.int .i64)] [138, 139, 140, 141, 142, 143, 144, 145, 146] .leaf (.node .leaf (.join [.slot 20 (.int .i64)] [21, 23, 149, 150, 151, 152, 153, 154, 155, 156, 157, 158, 159, 160, 161, 162, 163, 164, 165, 166, 167, 168, 169, 170, 171, 172, 173, 174] (.loop [.slot 20 (.int .i64), .slot 21 (.int .i64)] [23, 149, 150, 151, 152, 153, 154, 155, 156, 157, 158, 159, 160, 161, 162, 163, 164, 165, 166, 167, 168, 169, 170, 171, 172, 173, 174] .leaf) (.node .leaf (.join [.row 0 179 Kd13] [178, 179, 180, 181, 182, 183, 184, 185, 186, 187, 188, 189, 190, 191] (.join [.slot 185 .bool] [178, 179, 180, 181, 182, 183, 184] .leaf .leaf) (.join [.row 0 179 Kd13] [192, 193, 194, 195, 196, 197, 198, 199, 200, 201, 202, 203, 204, 205] (.join [.slot 199 .bool] [192, 193, 194, 195, 196, 197, 198] .leaf .leaf) (.join [.slot 213 .bool] [206, 207, 208, 209, 210, 211, 212] .leaf .leaf))))))))))))
def Q_w83q (q : ((List (ByteArray × (Int × (ByteArray × Bool)))) × (Int × (Int × (Int × Bool)))) → Option (List (ByteArray × (Int × (ByteArray × Bool))))) : FSpec := ⟨[.row 179 Kd13, .val (.int .i64), .val (.int .i64), .val (.int .i64), .fn 233], [], q⟩
def S_w83q : FSpec := ⟨[.row 179 Kd13, .val (.int .i64), .val (.int .i64), .val (.int .i64), .fn 233], [], m_w83q⟩

/-! impl.Row] -/
def l_w84q_1 (n : Nat) (x_2_1 : Int) (z0 : (Int × (Int × (List (ByteArray × (Int × (ByteArray × Bool))))))) : Option (Int × (List (ByteArray × (Int × (ByteArray × Bool))))) :=
(lp (fun rec14 (z13 : (Int × (Int × (List (ByteArray × (Int × (ByteArray × Bool))))))) =>
 (cond (decide (z13.2.1 ≤ x_2_1))
  ((m_w80q (z13.2.2, z13.1, z13.2.1, true)).bind fun r15 =>
  rec14 (z13.2.1, IntKind.wrap .i64 (z13.2.1 + (20 : Int)), r15))
  (some (z13.1, z13.2.2)))) n z0)
def l_w84q_2 (n : Nat) (x_2_1 : Int) (z57_1 : Int) (z0 : (Int × (Int × (List (ByteArray × (Int × (ByteArray × Bool))))))) : Option (Int × (List (ByteArray × (Int × (ByteArray × Bool))))) :=
(lp (fun rec72 (z71 : (Int × (Int × (List (ByteArray × (Int × (ByteArray × Bool))))))) =>
 (cond (decide (z71.2.1 ≤ x_2_1))
  ((m_w83q (z71.2.2, z71.1, IntKind.wrap .i64 (z71.1 + z57_1), z71.2.1, true)).bind fun r73 =>
  rec72 (z71.2.1, IntKind.wrap .i64 (z71.2.1 + (IntKind.wrap .i64 ((2 : Int) * z57_1))), r73))
  (some (z71.1, z71.2.2)))) n z0)
def l_w84q_3 (n : Nat) (x_2_1 : Int) (z0 : (Int × (List (ByteArray × (Int × (ByteArray × Bool)))))) : Option (List (ByteArray × (Int × (ByteArray × Bool)))) :=
(lp (fun rec58 (z57 : (Int × (List (ByteArray × (Int × (ByteArray × Bool)))))) =>
 (cond (decide (z57.1 < x_2_1))
  (Option.bind (α := (Int × (List (ByteArray × (Int × (ByteArray × Bool))))))
   (l_w84q_2 n x_2_1 z57.1 ((0 : Int), IntKind.wrap .i64 ((2 : Int) * z57.1), z57.2)) fun j75 =>
  (cond (decide ((IntKind.wrap .i64 (j75.1 + z57.1)) < x_2_1))
   ((m_w83q (j75.2, j75.1, IntKind.wrap .i64 (j75.1 + z57.1), x_2_1, true)).bind fun r76 =>
   rec58 (IntKind.wrap .i64 (z57.1 * (2 : Int)), r76))
   (rec58 (IntKind.wrap .i64 (z57.1 * (2 : Int)), j75.2))))
  (some z57.2))) n z0)
def p_w84q (n : Nat) (x : ((List (ByteArray × (Int × (ByteArray × Bool)))) × (Int × Bool))) : Option (List (ByteArray × (Int × (ByteArray × Bool)))) :=
(Option.bind (α := (Int × (List (ByteArray × (Int × (ByteArray × Bool))))))
 (l_w84q_1 n x.2.1 ((0 : Int), (20 : Int), x.1)) fun j17 =>
((m_w80q (j17.2, j17.1, x.2.1, true)).bind fun r18 =>
(l_w84q_3 n x.2.1 ((20 : Int), r18))))
def m_w84q (x : ((List (ByteArray × (Int × (ByteArray × Bool)))) × (Int × Bool))) : Option (List (ByteArray × (Int × (ByteArray × Bool)))) := p_w84q FU x
def a_w84q : Ann := (.node .leaf (.node .leaf (.join [.slot 7 (.int .i64), .row 0 179 Kd13] [8, 11, 12, 13, 14, 15, 16, 17, 18, 19, 20, 21, 22] (.loop [.slot 7 (.int .i64), .slot 8 (.int .i64), .row 0 179 Kd13] [11, 12, 13, 14, 15, 16, 17, 18, 19, 20, 21, 22] .leaf) (.node .leaf (.loop [.slot 6 (.int .i64), .row 0 179 Kd13] [7, 8, 9, 28, 29, 30, 31, 32, 33, 34, 35, 36, 37, 38, 39, 40, 41, 42, 43, 44, 45, 46, 47, 48, 49, 50, 51, 52, 53, 54, 55, 56, 57, 58, 59, 60, 61, 62] (.node .leaf (.node .leaf (.join [.slot 7 (.int .i64), .row 0 179 Kd13] [8, 33, 34, 35, 36, 37, 38, 39, 40, 41, 42, 43, 44, 45, 46, 47, 48] (.loop [.slot 7 (.int .i64), .slot 8 (.int .i64), .row 0 179 Kd13] [33, 34, 35, 36, 37, 38, 39, 40, 41, 42, 43, 44, 45, 46, 47, 48] .leaf) .leaf))))))))
def S_w84q : FSpec := ⟨[.row 179 Kd13, .val (.int .i64), .fn 233], [], m_w84q⟩

/-! impl.Row] -/
def p_w85q (n : Nat) (x : ((List (ByteArray × (Int × (ByteArray × Bool)))) × Bool)) : Option (List (ByteArray × (Int × (ByteArray × Bool)))) :=
((m_w84q (x.1, lenI x.1, true)).bind fun r1 =>
some r1)
def m_w85q (x : ((List (ByteArray × (Int × (ByteArray × Bool)))) × Bool)) : Option (List (ByteArray × (Int × (ByteArray × Bool)))) := p_w85q FU x
def a_w85q : Ann := .leaf
def S_w85q : FSpec := ⟨[.row 179 Kd13, .fn 233], [], m_w85q⟩

/-! impl.merged$1 -/
def p_w86q (n : Nat) (x : ((ByteArray × (Int × (ByteArray × Bool))) × (ByteArray × (Int × (ByteArray × Bool))))) : Option Bool :=
((m_w50q (x.1, x.2)).bind fun r1 =>
some (r1 == (0 : Int)))
def m_w86q (x : ((ByteArray × (Int × (ByteArray × Bool))) × (ByteArray × (Int × (ByteArray × Bool))))) : Option Bool := p_w86q FU x
def a_w86q : Ann := .leaf
def S_w86q : FSpec := ⟨[.val Kd13, .val Kd13], [.bool], m_w86q⟩

/-! impl.Row] -/
def l_w87q_1 (n : Nat) (x_1 : (List (ByteArray × (Int × (ByteArray × Bool))))) (z91 : Int) (z0 : (Int × (Int × (List (ByteArray × (Int × (ByteArray × Bool))))))) : Option (Int × (List (ByteArray × (Int × (ByteArray × Bool))))) :=
(lp (fun rec173 (z172 : (Int × (Int × (List (ByteArray × (Int × (ByteArray × Bool))))))) =>
 (cond (decide (z172.2.1 < (((x_1.length - z91.toNat) : Nat) : Int)))
  ((geti ((z172.2.2.drop z91.toNat).take (x_1.length - z91.toNat)) z172.2.1).bind fun _ =>
  ((z172.2.2[(z91.toNat + z172.2.1.toNat)]?).bind fun y174 =>
  ((geti ((z172.2.2.drop z91.toNat).take (x_1.length - z91.toNat)) (IntKind.wrap .i64 (z172.2.1 - (1 : Int)))).bind fun _ =>
  ((z172.2.2[(z91.toNat + (IntKind.wrap .i64 (z172.2.1 - (1 : Int))).toNat)]?).bind fun y175 =>
  ((m_w86q (y174, y175)).bind fun r176 =>
  (cond (!r176)
   ((geti ((z172.2.2.drop z91.toNat).take (x_1.length - z91.toNat)) z172.2.1).bind fun _ =>
   ((z172.2.2[(z91.toNat + z172.2.1.toNat)]?).bind fun y177 =>
   ((geti z172.2.2 z172.1).bind fun _ =>
   ((z172.2.2[z172.1.toNat]?).bind fun y178 =>
   rec173 (IntKind.wrap .i64 (z172.1 + (1 : Int)), IntKind.wrap .i64 (z172.2.1 + (1 : Int)), (z172.2.2.set z172.1.toNat y177))))))
   (rec173 (z172.1, IntKind.wrap .i64 (z172.2.1 + (1 : Int)), z172.2.2))))))))
  (some (z172.1, z172.2.2)))) n z0)
def l_w87q_2 (n : Nat) (x_1 : (List (ByteArray × (Int × (ByteArray × Bool))))) (z0 : Int) : Option ((List (ByteArray × (Int × (ByteArray × Bool)))) × Bool) :=
(lp (fun rec92 (z91 : Int) =>
 (cond (decide (z91 < (lenI x_1)))
  (Option.bind (α := (Unit ⊕ ((List (ByteArray × (Int × (ByteArray × Bool)))) × Bool)))
   ((geti x_1 z91).bind fun _ =>
   ((x_1[z91.toNat]?).bind fun y137 =>
   ((geti x_1 (IntKind.wrap .i64 (z91 - (1 : Int)))).bind fun _ =>
   ((x_1[(IntKind.wrap .i64 (z91 - (1 : Int))).toNat]?).bind fun y138 =>
   ((m_w86q (y137, y138)).bind fun r139 =>
   (cond r139
    (chk (bndB (some z91) none none x_1.length)
     (Option.bind (α := (Int × (List (ByteArray × (Int × (ByteArray × Bool))))))
      (l_w87q_1 n x_1 z91 (z91, (1 : Int), x_1)) fun j180 =>
     (chk (bndB (some j180.1) none none j180.2.length)
      (chk (bndB none (some j180.1) none (j180.2.take j180.1.toNat ++ List.replicate (j180.2.length - j180.1.toNat) ((⟨#[]⟩ : ByteArray), ((0 : Int), ((⟨#[]⟩ : ByteArray), false))) ++ j180.2.drop (j180.1.toNat + (j180.2.length - j180.1.toNat))).length)
       (some (Sum.inr (((j180.2.take j180.1.toNat ++ List.replicate (j180.2.length - j180.1.toNat) ((⟨#[]⟩ : ByteArray), ((0 : Int), ((⟨#[]⟩ : ByteArray), false))) ++ j180.2.drop (j180.1.toNat + (j180.2.length - j180.1.toNat))).take j180.1.toNat), true)))))))
    (some (Sum.inl ()))))))))
   (Sum.elim (fun j181 =>
  rec92 (IntKind.wrap .i64 (z91 + (1 : Int)))) some))
  (some (x_1, true)))) n z0)
def p_w87q (n : Nat) (x : ((List (ByteArray × (Int × (ByteArray × Bool)))) × Bool)) : Option ((List (ByteArray × (Int × (ByteArray × Bool)))) × Bool) :=
(cond (decide ((lenI x.1) < (2 : Int)))
 (some (x.1, true))
 (l_w87q_2 n x.1 (1 : Int)))
def m_w87q (x : ((List (ByteArray × (Int × (ByteArray × Bool)))) × Bool)) : Option ((List (ByteArray × (Int × (ByteArray × Bool)))) × Bool) := p_w87q FU x
def a_w87q : Ann := (.node .leaf (.node .leaf (.node (.node .leaf (.loop [.slot 5 (.int .i64)] [4, 6, 7, 12, 13, 14, 15, 16, 17, 18, 19, 20, 21, 22, 23, 24, 25, 26, 27, 28, 29, 30, 31, 32, 33, 34, 35, 36, 37, 38, 39, 40, 41, 42, 43, 44, 45, 46, 47, 48, 49, 50, 51, 52, 53, 54, 55, 56, 57, 58, 59, 60, 61, 62, 63, 64] (.node .leaf (.joinx [] [18, 19, 20, 21, 22, 23, 24, 25, 26, 27, 28] (.node .leaf (.node (.node .leaf (.join [.slot 5 (.int .i64), .row 0 179 Kd13] [7, 32, 33, 34, 35, 36, 37, 38, 39, 40, 41, 42, 43, 44, 45, 46, 47, 48, 49, 50, 51, 52, 53, 54, 55, 56, 57, 58] (.node .leaf (.loop [.slot 5 (.int .i64), .slot 7 (.int .i64), .row 0 179 Kd13] [32, 33, 34, 35, 36, 37, 38, 39, 40, 41, 42, 43, 44, 45, 46, 47, 48, 49, 50, 51, 52, 53, 54, 55, 56, 57, 58] .leaf)) (.node .leaf (.node (.own 64 Kd13 .leaf) .leaf)))) .leaf)) .leaf)))) .leaf)))
def S_w87q : FSpec := ⟨[.own 179 Kd13, .fn 243], [Kd9], m_w87q⟩

/-! impl.merged -/
def p_w88q (n : Nat) (x : (List (List (ByteArray × (Int × (ByteArray × Bool)))))) : Option (List (ByteArray × (Int × (ByteArray × Bool)))) :=
((m_w53q x).bind fun r1 =>
((m_w85q (r1, true)).bind fun r2 =>
((m_w87q (r2, true)).bind fun r3 =>
some r3.1)))
def m_w88q (x : (List (List (ByteArray × (Int × (ByteArray × Bool)))))) : Option (List (ByteArray × (Int × (ByteArray × Bool)))) := p_w88q FU x
def a_w88q : Ann := .leaf
def S_w88q : FSpec := ⟨[.val Kd8], [Kd9], m_w88q⟩

/-! impl.MergeTables -/
def l_w89q_1 (n : Nat) (x : (List (List (ByteArray × (Int × (ByteArray × Bool)))))) (z0 : Int) : Option (Unit ⊕ (Int × (List (ByteArray × (Int × (ByteArray × Bool)))))) :=
(lp (fun rec13 (z12 : Int) =>
 (cond (decide (z12 < (lenI x)))
  ((geti x z12).bind fun y14 =>
  ((m_w51q y14).bind fun r15 =>
  (cond (!(r15 == (0 : Int)))
   (some (Sum.inr (r15, [])))
   (rec13 (IntKind.wrap .i64 (z12 + (1 : Int)))))))
  (some (Sum.inl ())))) n z0)
def p_w89q (n : Nat) (x : (List (List (ByteArray × (Int × (ByteArray × Bool)))))) : Option (Int × (List (ByteArray × (Int × (ByteArray × Bool))))) :=
(cond (decide ((lenI x) > (8 : Int)))
 (some ((2 : Int), []))
 (Option.bind (α := (Unit ⊕ (Int × (List (ByteArray × (Int × (ByteArray × Bool)))))))
  (l_w89q_1 n x (0 : Int))
  (Sum.elim (fun j17 =>
 ((m_w88q x).bind fun r18 =>
 (cond (decide ((lenI r18) > (200 : Int)))
  (some ((2 : Int), []))
  (some ((0 : Int), r18))))) some)))
def m_w89q (x : (List (List (ByteArray × (Int × (ByteArray × Bool)))))) : Option (Int × (List (ByteArray × (Int × (ByteArray × Bool))))) := p_w89q FU x
def a_w89q : Ann := (.node .leaf (.node .leaf (.joinx [] [4, 5, 11, 12, 13, 14, 15, 16, 17, 18, 19, 20, 21, 22, 23] (.node .leaf (.loop [.slot 13 (.int .i64)] [4, 5, 14, 15, 16, 17, 18, 19, 20, 21, 22, 23] .leaf)) .leaf)))
def S_w89q : FSpec := ⟨[.val Kd8], [(.pair (.int .i64) Kd9)], m_w89q⟩

/-! impl.copyLog -/
def p_w90q (n : Nat) (x : ((List Int) × (List Int))) : Option ((List Int) × (List Int)) :=
((m_w60q x.1).bind fun r1 =>
((m_w60q x.2).bind fun r2 =>
some (r1, r2)))
def m_w90q (x : ((List Int) × (List Int))) : Option ((List Int) × (List Int)) := p_w90q FU x
def a_w90q : Ann := .leaf
def S_w90q : FSpec := ⟨[.val Kd12], [Kd11], m_w90q⟩

/-! impl.Row] -/
def p_w91q (n : Nat) (x : (List (ByteArray × (Int × (ByteArray × Bool))))) : Option (List (ByteArray × (Int × (ByteArray × Bool)))) :=
(cond (List.isEmpty x)
 (same
  (some [])
  (chk (Nat.ble ((([] : List (ByteArray × (Int × (ByteArray × Bool)))).length + x.length) * 48) maxBytes)
  (some (([] : List (ByteArray × (Int × (ByteArray × Bool)))) ++ x))))
 (chk (Nat.ble ((([] : List (ByteArray × (Int × (ByteArray × Bool)))).length + x.length) * 48) maxBytes)
 (some (([] : List (ByteArray × (Int × (ByteArray × Bool)))) ++ x))))
def m_w91q (x : (List (ByteArray × (Int × (ByteArray × Bool))))) : Option (List (ByteArray × (Int × (ByteArray × Bool)))) := p_w91q FU x
def a_w91q : Ann := .leaf
def S_w91q : FSpec := ⟨[.val Kd10], [Kd9], m_w91q⟩

/-! impl.copyTables -/
def l_w92q_1 (n : Nat) (x : (List (List (ByteArray × (Int × (ByteArray × Bool)))))) (z0 : ((List (List (ByteArray × (Int × (ByteArray × Bool))))) × Int)) : Option (List (List (ByteArray × (Int × (ByteArray × Bool))))) :=
(lp (fun rec5 (z4 : ((List (List (ByteArray × (Int × (ByteArray × Bool))))) × Int)) =>
 (cond (decide (z4.2 < (lenI x)))
  ((geti x z4.2).bind fun y6 =>
  ((m_w91q y6).bind fun r7 =>
  (chk (Nat.ble ((z4.1.length + [r7].length) * 24) maxBytes)
  (rec5 ((z4.1 ++ [r7]), IntKind.wrap .i64 (z4.2 + (1 : Int)))))))
  (some z4.1))) n z0)
def p_w92q (n : Nat) (x : (List (List (ByteArray × (Int × (ByteArray × Bool)))))) : Option (List (List (ByteArray × (Int × (ByteArray × Bool))))) :=
(l_w92q_1 n x (([] : List (List (ByteArray × (Int × (ByteArray × Bool))))), (0 : Int)))
def m_w92q (x : (List (List (ByteArray × (Int × (ByteArray × Bool)))))) : Option (List (List (ByteArray × (Int × (ByteArray × Bool))))) := p_w92q FU x
def a_w92q : Ann := (.node .leaf (.node (.own 6 Kd9 .leaf) (.node (.node .leaf (.loop [.slot 3 Kd5, .slot 9 (.int .i64)] [5, 10, 11, 12, 13, 14, 15, 16, 17, 18] (.node .leaf (.node .leaf (.node (.node .leaf (.own 16 Kd9 .leaf)) .leaf))))) .leaf)))
def S_w92q : FSpec := ⟨[.val Kd8], [Kd5], m_w92q⟩

/-! impl.copyEngine -/
def p_w93q (n : Nat) (x : (((List Int) × (List Int)) × ((List (ByteArray × (Int × (ByteArray × Bool)))) × ((List (List (ByteArray × (Int × (ByteArray × Bool))))) × Int)))) : Option (((List Int) × (List Int)) × ((List (ByteArray × (Int × (ByteArray × Bool)))) × ((List (List (ByteArray × (Int × (ByteArray × Bool))))) × Int))) :=
((m_w90q x.1).bind fun r1 =>
((m_w91q x.2.1).bind fun r2 =>
((m_w92q x.2.2.1).bind fun r3 =>
some (r1, (r2, (r3, x.2.2.2))))))
def m_w93q (x : (((List Int) × (List Int)) × ((List (ByteArray × (Int × (ByteArray × Bool)))) × ((List (List (ByteArray × (Int × (ByteArray × Bool))))) × Int)))) : Option (((List Int) × (List Int)) × ((List (ByteArray × (Int × (ByteArray × Bool)))) × ((List (List (ByteArray × (Int × (ByteArray × Bool))))) × Int))) := p_w93q FU x
def a_w93q : Ann := .leaf
def S_w93q : FSpec := ⟨[.val Kd4], [Kd2], m_w93q⟩

/-! impl.compacted -/
def l_w94q_1 (n : Nat) (x_1 : (List (ByteArray × (Int × (ByteArray × Bool))))) (x_2 : Int) (z0 : ((List (ByteArray × (Int × (ByteArray × Bool)))) × Int)) : Option (List (ByteArray × (Int × (ByteArray × Bool)))) :=
(lp (fun rec25 (z24 : ((List (ByteArray × (Int × (ByteArray × Bool)))) × Int)) =>
 (cond (decide (z24.2 < (lenI x_1)))
  ((geti x_1 z24.2).bind fun y26 =>
  (Option.bind (α := Bool)
   (cond (z24.2 == (0 : Int))
    (some true)
    ((geti x_1 (IntKind.wrap .i64 (z24.2 - (1 : Int)))).bind fun y29 =>
    (cond (!(y29.1.toList == y26.1.toList))
     (some true)
     ((geti x_1 (IntKind.wrap .i64 (z24.2 - (1 : Int)))).bind fun y30 =>
     some (decide (y30.2.1 > x_2)))))) fun j31 =>
  (cond j31
   (chk (Nat.ble ((z24.1.length + [y26].length) * 48) maxBytes)
   (rec25 ((z24.1 ++ [y26]), IntKind.wrap .i64 (z24.2 + (1 : Int)))))
   (rec25 (z24.1, IntKind.wrap .i64 (z24.2 + (1 : Int)))))))
  (some z24.1))) n z0)
def l_w94q_2 (n : Nat) (j33 : (List (ByteArray × (Int × (ByteArray × Bool))))) (x_2 : Int) (z0 : ((List (ByteArray × (Int × (ByteArray × Bool)))) × Int)) : Option (List (ByteArray × (Int × (ByteArray × Bool)))) :=
(lp (fun rec41 (z40 : ((List (ByteArray × (Int × (ByteArray × Bool)))) × Int)) =>
 (cond (decide (z40.2 < (lenI j33)))
  ((geti j33 z40.2).bind fun _ =>
  ((j33[z40.2.toNat]?).bind fun y42 =>
  (Option.bind (α := Bool)
   (cond (z40.2 == (IntKind.wrap .i64 ((lenI j33) - (1 : Int))))
    (some true)
    ((geti j33 (IntKind.wrap .i64 (z40.2 + (1 : Int)))).bind fun _ =>
    ((j33[(IntKind.wrap .i64 (z40.2 + (1 : Int))).toNat]?).bind fun y44 =>
    some (!(y44.1.toList == y42.1.toList))))) fun j45 =>
  (Option.bind (α := Bool)
   (cond (!y42.2.2.2)
    (some true)
    (cond (decide (y42.2.1 > x_2))
     (some true)
     (some (!j45)))) fun j46 =>
  (cond j46
   (chk (Nat.ble ((z40.1.length + [y42].length) * 48) maxBytes)
   (rec41 ((z40.1 ++ [y42]), IntKind.wrap .i64 (z40.2 + (1 : Int)))))
   (rec41 (z40.1, IntKind.wrap .i64 (z40.2 + (1 : Int)))))))))
  (some z40.1))) n z0)
def p_w94q (n : Nat) (x : ((List (ByteArray × (Int × (ByteArray × Bool)))) × Int)) : Option (List (ByteArray × (Int × (ByteArray × Bool)))) :=
(Option.bind (α := (List (ByteArray × (Int × (ByteArray × Bool)))))
 (l_w94q_1 n x.1 x.2 (([] : List (ByteArray × (Int × (ByteArray × Bool)))), (0 : Int))) fun j33 =>
(l_w94q_2 n j33 x.2 (([] : List (ByteArray × (Int × (ByteArray × Bool)))), (0 : Int))))
def m_w94q (x : ((List (ByteArray × (Int × (ByteArray × Bool)))) × Int)) : Option (List (ByteArray × (Int × (ByteArray × Bool)))) := p_w94q FU x
def a_w94q : Ann := (.node .leaf (.node .leaf (.join [.slot 5 Kd9] [6, 7, 13, 14, 15, 16, 17, 18, 19, 20, 21, 22, 23, 24, 25, 26, 27, 28, 29, 30, 31, 32, 33, 34, 35, 36, 37, 38, 39, 40, 41, 42, 43, 44, 45, 46, 47] (.node .leaf (.loop [.slot 5 Kd9, .slot 15 (.int .i64)] [6, 7, 16, 17, 18, 19, 20, 21, 22, 23, 24, 25, 26, 27, 28, 29, 30, 31, 32, 33, 34, 35, 36, 37, 38, 39, 40, 41, 42, 43, 44, 45, 46, 47] (.node .leaf (.node .leaf (.node (.node .leaf (.join [.slot 42 .bool] [20, 21, 22, 23, 24, 25, 26, 27, 28, 29, 30, 31, 32, 33, 34, 35, 36, 37, 38, 39, 40, 41] .leaf .leaf)) .leaf))))) (.node .leaf (.node (.node .leaf (.loop [.slot 8 Kd9, .slot 51 (.int .i64)] [9, 10, 11, 52, 53, 54, 55, 56, 57, 58, 59, 60, 61, 62, 63, 64, 65, 66, 67, 68, 69, 70, 71, 72, 73, 74, 75, 76, 77, 78, 79, 80, 81, 82, 83, 84, 85, 86, 87, 88, 89] (.node .leaf (.node .leaf (.node (.node .leaf (.join [.slot 11 .bool] [56, 57, 58, 59, 60, 61, 62, 63, 64, 65, 66, 67, 68, 69, 70, 71] .leaf (.join [.slot 84 .bool] [72, 73, 74, 75, 76, 77, 78, 79, 80, 81, 82, 83] .leaf .leaf))) .leaf))))) .leaf)))))
def S_w94q : FSpec := ⟨[.val Kd10, .val (.int .i64)], [Kd9], m_w94q⟩

/-! impl.CompactEngine -/
def p_w95q (n : Nat) (x : ((((List Int) × (List Int)) × ((List (ByteArray × (Int × (ByteArray × Bool)))) × ((List (List (ByteArray × (Int × (ByteArray × Bool))))) × Int))) × Int)) : Option (Int × (Int × (((List Int) × (List Int)) × ((List (ByteArray × (Int × (ByteArray × Bool)))) × ((List (List (ByteArray × (Int × (ByteArray × Bool))))) × Int))))) :=
((m_w79q x.1).bind fun r1 =>
(cond (!(r1 == (0 : Int)))
 (some (r1, ((0 : Int), (([], []), ([], ([], (0 : Int)))))))
 (cond (decide ((lenI x.1.2.2.1) < (2 : Int)))
  (some ((4 : Int), ((0 : Int), (([], []), ([], ([], (0 : Int)))))))
  ((m_w89q x.1.2.2.1).bind fun r2 =>
  (cond (!(r2.1 == (0 : Int)))
   (some (r2.1, ((0 : Int), (([], []), ([], ([], (0 : Int)))))))
   ((m_w93q x.1).bind fun r3 =>
   ((m_w94q (r2.2, x.2)).bind fun r4 =>
   some ((0 : Int), ((0 : Int), (r3.1, (r3.2.1, ([r4], r3.2.2.2))))))))))))
def m_w95q (x : ((((List Int) × (List Int)) × ((List (ByteArray × (Int × (ByteArray × Bool)))) × ((List (List (ByteArray × (Int × (ByteArray × Bool))))) × Int))) × Int)) : Option (Int × (Int × (((List Int) × (List Int)) × ((List (ByteArray × (Int × (ByteArray × Bool)))) × ((List (List (ByteArray × (Int × (ByteArray × Bool))))) × Int))))) := p_w95q FU x
def a_w95q : Ann := (.node .leaf (.node .leaf (.node .leaf (.node .leaf (.node .leaf (.node .leaf (.node (.own 34 Kd9 .leaf) .leaf)))))))
def S_w95q : FSpec := ⟨[.val Kd4, .val (.int .i64)], [(.pair (.int .i64) (.pair (.int .i64) Kd2))], m_w95q⟩

/-! laws.eqByteS -/
def l_w96q_1 (n : Nat) (x_1 : (List Int)) (x_2 : (List Int)) (z0 : Int) : Option Bool :=
(lp (fun rec5 (z4 : Int) =>
 (cond (decide (z4 < (lenI x_1)))
  ((geti x_1 z4).bind fun y6 =>
  ((geti x_2 z4).bind fun y7 =>
  (cond (!(y6 == y7))
   (some false)
   (rec5 (IntKind.wrap .i64 (z4 + (1 : Int)))))))
  (some true))) n z0)
def p_w96q (n : Nat) (x : ((List Int) × (List Int))) : Option Bool :=
(cond (!((lenI x.1) == (lenI x.2)))
 (some false)
 (l_w96q_1 n x.1 x.2 (0 : Int)))
def m_w96q (x : ((List Int) × (List Int))) : Option Bool := p_w96q FU x
def a_w96q : Ann := (.node .leaf (.node .leaf (.node (.node .leaf (.loop [.slot 5 (.int .i64)] [4, 11, 12, 13, 14, 15, 16, 17, 18, 19, 20, 21, 22, 23, 24, 25] .leaf)) .leaf)))
def S_w96q : FSpec := ⟨[.val (.sl none (.int .u8)), .val (.sl none (.int .u8))], [.bool], m_w96q⟩

/-! laws.eqLog -/
def p_w97q (n : Nat) (x : (((List Int) × (List Int)) × ((List Int) × (List Int)))) : Option Bool :=
((m_w96q (x.1.1, x.2.1)).bind fun r1 =>
(cond (!r1)
 (some false)
 ((m_w96q (x.1.2, x.2.2)).bind fun r2 =>
 (cond (!r2)
  (some false)
  (some true)))))
def m_w97q (x : (((List Int) × (List Int)) × ((List Int) × (List Int)))) : Option Bool := p_w97q FU x
def a_w97q : Ann := .leaf
def S_w97q : FSpec := ⟨[.val Kd12, .val Kd12], [.bool], m_w97q⟩

/-! laws.eqRow -/
def p_w98q (n : Nat) (x : ((ByteArray × (Int × (ByteArray × Bool))) × (ByteArray × (Int × (ByteArray × Bool))))) : Option Bool :=
(cond (!(x.1.1.toList == x.2.1.toList))
 (some false)
 (cond (!(x.1.2.1 == x.2.2.1))
  (some false)
  (cond (!(x.1.2.2.1.toList == x.2.2.2.1.toList))
   (some false)
   (cond (!(x.1.2.2.2 == x.2.2.2.2))
    (some false)
    (some true)))))
def m_w98q (x : ((ByteArray × (Int × (ByteArray × Bool))) × (ByteArray × (Int × (ByteArray × Bool))))) : Option Bool := p_w98q FU x
def a_w98q : Ann := .leaf
def S_w98q : FSpec := ⟨[.val Kd13, .val Kd13], [.bool], m_w98q⟩

/-! laws.eqRowS -/
def l_w99q_1 (n : Nat) (x_1 : (List (ByteArray × (Int × (ByteArray × Bool))))) (x_2 : (List (ByteArray × (Int × (ByteArray × Bool))))) (z0 : Int) : Option Bool :=
(lp (fun rec6 (z5 : Int) =>
 (cond (decide (z5 < (lenI x_1)))
  ((geti x_1 z5).bind fun y7 =>
  ((geti x_2 z5).bind fun y8 =>
  ((m_w98q (y7, y8)).bind fun r9 =>
  (cond (!r9)
   (some false)
   (rec6 (IntKind.wrap .i64 (z5 + (1 : Int))))))))
  (some true))) n z0)
def p_w99q (n : Nat) (x : ((List (ByteArray × (Int × (ByteArray × Bool)))) × (List (ByteArray × (Int × (ByteArray × Bool)))))) : Option Bool :=
(cond (!((lenI x.1) == (lenI x.2)))
 (some false)
 (l_w99q_1 n x.1 x.2 (0 : Int)))
def m_w99q (x : ((List (ByteArray × (Int × (ByteArray × Bool)))) × (List (ByteArray × (Int × (ByteArray × Bool)))))) : Option Bool := p_w99q FU x
def a_w99q : Ann := (.node .leaf (.node .leaf (.node (.node .leaf (.loop [.slot 5 (.int .i64)] [4, 11, 12, 13, 14, 15, 16, 17, 18, 19, 20, 21, 22, 23, 24, 25, 26] .leaf)) .leaf)))
def S_w99q : FSpec := ⟨[.val Kd10, .val Kd10], [.bool], m_w99q⟩

/-! laws.eqRowSS -/
def l_w100q_1 (n : Nat) (x_1 : (List (List (ByteArray × (Int × (ByteArray × Bool)))))) (x_2 : (List (List (ByteArray × (Int × (ByteArray × Bool)))))) (z0 : Int) : Option Bool :=
(lp (fun rec6 (z5 : Int) =>
 (cond (decide (z5 < (lenI x_1)))
  ((geti x_1 z5).bind fun y7 =>
  ((geti x_2 z5).bind fun y8 =>
  ((m_w99q (y7, y8)).bind fun r9 =>
  (cond (!r9)
   (some false)
   (rec6 (IntKind.wrap .i64 (z5 + (1 : Int))))))))
  (some true))) n z0)
def p_w100q (n : Nat) (x : ((List (List (ByteArray × (Int × (ByteArray × Bool))))) × (List (List (ByteArray × (Int × (ByteArray × Bool))))))) : Option Bool :=
(cond (!((lenI x.1) == (lenI x.2)))
 (some false)
 (l_w100q_1 n x.1 x.2 (0 : Int)))
def m_w100q (x : ((List (List (ByteArray × (Int × (ByteArray × Bool))))) × (List (List (ByteArray × (Int × (ByteArray × Bool))))))) : Option Bool := p_w100q FU x
def a_w100q : Ann := (.node .leaf (.node .leaf (.node (.node .leaf (.loop [.slot 5 (.int .i64)] [4, 11, 12, 13, 14, 15, 16, 17, 18, 19, 20, 21, 22, 23, 24, 25, 26] .leaf)) .leaf)))
def S_w100q : FSpec := ⟨[.val Kd8, .val Kd8], [.bool], m_w100q⟩

/-! laws.eqEngine -/
def p_w101q (n : Nat) (x : ((((List Int) × (List Int)) × ((List (ByteArray × (Int × (ByteArray × Bool)))) × ((List (List (ByteArray × (Int × (ByteArray × Bool))))) × Int))) × (((List Int) × (List Int)) × ((List (ByteArray × (Int × (ByteArray × Bool)))) × ((List (List (ByteArray × (Int × (ByteArray × Bool))))) × Int))))) : Option Bool :=
((m_w97q (x.1.1, x.2.1)).bind fun r1 =>
(cond (!r1)
 (some false)
 ((m_w99q (x.1.2.1, x.2.2.1)).bind fun r2 =>
 (cond (!r2)
  (some false)
  ((m_w100q (x.1.2.2.1, x.2.2.2.1)).bind fun r3 =>
  (cond (!r3)
   (some false)
   (cond (!(x.1.2.2.2 == x.2.2.2.2))
    (some false)
    (some true))))))))
def m_w101q (x : ((((List Int) × (List Int)) × ((List (ByteArray × (Int × (ByteArray × Bool)))) × ((List (List (ByteArray × (Int × (ByteArray × Bool))))) × Int))) × (((List Int) × (List Int)) × ((List (ByteArray × (Int × (ByteArray × Bool)))) × ((List (List (ByteArray × (Int × (ByteArray × Bool))))) × Int))))) : Option Bool := p_w101q FU x
def a_w101q : Ann := .leaf
def S_w101q : FSpec := ⟨[.val Kd4, .val Kd4], [.bool], m_w101q⟩

/-! laws.eqEngineResult -/
def p_w102q (n : Nat) (x : ((Int × (Int × (((List Int) × (List Int)) × ((List (ByteArray × (Int × (ByteArray × Bool)))) × ((List (List (ByteArray × (Int × (ByteArray × Bool))))) × Int))))) × (Int × (Int × (((List Int) × (List Int)) × ((List (ByteArray × (Int × (ByteArray × Bool)))) × ((List (List (ByteArray × (Int × (ByteArray × Bool))))) × Int))))))) : Option Bool :=
(cond (!(x.1.1 == x.2.1))
 (some false)
 (cond (!(x.1.2.1 == x.2.2.1))
  (some false)
  ((m_w101q (x.1.2.2, x.2.2.2)).bind fun r1 =>
  (cond (!r1)
   (some false)
   (some true)))))
def m_w102q (x : ((Int × (Int × (((List Int) × (List Int)) × ((List (ByteArray × (Int × (ByteArray × Bool)))) × ((List (List (ByteArray × (Int × (ByteArray × Bool))))) × Int))))) × (Int × (Int × (((List Int) × (List Int)) × ((List (ByteArray × (Int × (ByteArray × Bool)))) × ((List (List (ByteArray × (Int × (ByteArray × Bool))))) × Int))))))) : Option Bool := p_w102q FU x
def a_w102q : Ann := .leaf
def S_w102q : FSpec := ⟨[.val Kd1, .val Kd1], [.bool], m_w102q⟩

/-! laws.markByteS -/
def l_w103q_1 (n : Nat)  (z0 : (Int × (Int × (List Int)))) : Option (Int × (List Int)) :=
(lp (fun rec6 (z5 : (Int × (Int × (List Int)))) =>
 (cond (decide (z5.2.1 < (lenI z5.2.2)))
  ((geti z5.2.2 z5.2.1).bind fun _ =>
  ((z5.2.2[z5.2.1.toNat]?).bind fun y7 =>
  rec6 (IntKind.wrap .i64 (z5.1 + (1 : Int)), IntKind.wrap .i64 (z5.2.1 + (1 : Int)), (z5.2.2.set z5.2.1.toNat (IntKind.wrap .u8 z5.1)))))
  (some (z5.1, z5.2.2)))) n z0)
def p_w103q (n : Nat) (x : ((List Int) × Int)) : Option (Int × (List Int)) :=
(l_w103q_1 n  (x.2, (0 : Int), x.1))
def m_w103q (x : ((List Int) × Int)) : Option (Int × (List Int)) := p_w103q FU x
def a_w103q : Ann := (.node .leaf (.node (.node .leaf (.loop [.slot 1 (.int .i64), .slot 5 (.int .i64), .row 0 5 (.int .u8)] [6, 7, 8, 9, 10, 11, 12, 13, 14, 15, 16, 17, 18] .leaf)) .leaf))
def S_w103q : FSpec := ⟨[.row 5 (.int .u8), .val (.int .i64)], [(.int .i64)], m_w103q⟩

/-! laws.markText -/
def l_w104q_1 (n : Nat)  (z0 : (Int × ByteArray)) : Option ByteArray :=
(lp (fun rec3 (z2 : (Int × ByteArray)) =>
 (cond (decide (z2.1 > (0 : Int)))
  (cond ((10 : Int) == 0) none
   (chk (Nat.ble ((strOfNums [IntKind.wrap .u8 (IntKind.wrap .i64 ((48 : Int) + (Int.tmod z2.1 (10 : Int))))]).size + z2.2.size) 9223372036854775807)
    (cond ((10 : Int) == 0) none
     (rec3 (IntKind.wrap .i64 (Int.tdiv z2.1 (10 : Int)), ((strOfNums [IntKind.wrap .u8 (IntKind.wrap .i64 ((48 : Int) + (Int.tmod z2.1 (10 : Int))))]) ++ z2.2))))))
  (chk (Nat.ble ((⟨#[109]⟩ : ByteArray).size + z2.2.size) 9223372036854775807)
   (some ((⟨#[109]⟩ : ByteArray) ++ z2.2))))) n z0)
def p_w104q (n : Nat) (x : Int) : Option ByteArray :=
(cond (decide (x ≤ (0 : Int)))
 (some (⟨#[109, 48]⟩ : ByteArray))
 (l_w104q_1 n  (x, (⟨#[]⟩ : ByteArray))))
def m_w104q (x : Int) : Option ByteArray := p_w104q FU x
def a_w104q : Ann := (.node .leaf (.node .leaf (.node .leaf (.node (.loop [.slot 0 (.int .i64), .slot 3 .str] [6, 7, 8, 9, 10, 11, 12, 13, 14, 15, 16, 17] .leaf) .leaf))))
def S_w104q : FSpec := ⟨[.val (.int .i64)], [.str], m_w104q⟩

/-! laws.markRowS -/
def l_w105q_1 (n : Nat)  (z0 : (Int × (Int × (List (ByteArray × (Int × (ByteArray × Bool))))))) : Option (Int × (List (ByteArray × (Int × (ByteArray × Bool))))) :=
(lp (fun rec16 (z15 : (Int × (Int × (List (ByteArray × (Int × (ByteArray × Bool))))))) =>
 (cond (decide (z15.2.1 < (lenI z15.2.2)))
  ((m_w104q z15.1).bind fun r17 =>
  ((geti z15.2.2 z15.2.1).bind fun _ =>
  ((z15.2.2[z15.2.1.toNat]?).bind fun y18 =>
  ((geti (z15.2.2.set z15.2.1.toNat (r17, y18.2)) z15.2.1).bind fun _ =>
  (((z15.2.2.set z15.2.1.toNat (r17, y18.2))[z15.2.1.toNat]?).bind fun y19 =>
  ((m_w104q (IntKind.wrap .i64 ((IntKind.wrap .i64 (z15.1 + (1 : Int))) + (1 : Int)))).bind fun r20 =>
  ((geti ((z15.2.2.set z15.2.1.toNat (r17, y18.2)).set z15.2.1.toNat (y19.1, (IntKind.wrap .i64 (z15.1 + (1 : Int)), y19.2.2))) z15.2.1).bind fun _ =>
  ((((z15.2.2.set z15.2.1.toNat (r17, y18.2)).set z15.2.1.toNat (y19.1, (IntKind.wrap .i64 (z15.1 + (1 : Int)), y19.2.2)))[z15.2.1.toNat]?).bind fun y21 =>
  (cond ((3 : Int) == 0) none
   ((geti (((z15.2.2.set z15.2.1.toNat (r17, y18.2)).set z15.2.1.toNat (y19.1, (IntKind.wrap .i64 (z15.1 + (1 : Int)), y19.2.2))).set z15.2.1.toNat (y21.1, (y21.2.1, (r20, y21.2.2.2)))) z15.2.1).bind fun _ =>
   (((((z15.2.2.set z15.2.1.toNat (r17, y18.2)).set z15.2.1.toNat (y19.1, (IntKind.wrap .i64 (z15.1 + (1 : Int)), y19.2.2))).set z15.2.1.toNat (y21.1, (y21.2.1, (r20, y21.2.2.2))))[z15.2.1.toNat]?).bind fun y22 =>
   rec16 (IntKind.wrap .i64 ((IntKind.wrap .i64 ((IntKind.wrap .i64 ((IntKind.wrap .i64 (z15.1 + (1 : Int))) + (1 : Int))) + (1 : Int))) + (1 : Int)), IntKind.wrap .i64 (z15.2.1 + (1 : Int)), ((((z15.2.2.set z15.2.1.toNat (r17, y18.2)).set z15.2.1.toNat (y19.1, (IntKind.wrap .i64 (z15.1 + (1 : Int)), y19.2.2))).set z15.2.1.toNat (y21.1, (y21.2.1, (r20, y21.2.2.2)))).set z15.2.1.toNat (y22.1, (y22.2.1, (y22.2.2.1, ((Int.tmod (IntKind.wrap .i64 ((IntKind.wrap .i64 ((IntKind.wrap .i64 (z15.1 + (1 : Int))) + (1 : Int))) + (1 : Int))) (3 : Int)) == (0 : Int))))))))))))))))))
  (some (z15.1, z15.2.2)))) n z0)
def p_w105q (n : Nat) (x : ((List (ByteArray × (Int × (ByteArray × Bool)))) × Int)) : Option (Int × (List (ByteArray × (Int × (ByteArray × Bool))))) :=
(l_w105q_1 n  (x.2, (0 : Int), x.1))
def m_w105q (x : ((List (ByteArray × (Int × (ByteArray × Bool)))) × Int)) : Option (Int × (List (ByteArray × (Int × (ByteArray × Bool))))) := p_w105q FU x
def a_w105q : Ann := (.node .leaf (.node (.node .leaf (.loop [.slot 1 (.int .i64), .slot 5 (.int .i64), .row 0 179 Kd13] [6, 7, 8, 9, 10, 11, 12, 13, 14, 15, 16, 17, 18, 19, 20, 21, 22, 23, 24, 25, 26, 27, 28, 29, 30, 31, 32, 33, 34, 35, 36, 37, 38, 39, 40, 41, 42, 43] .leaf)) .leaf))
def S_w105q : FSpec := ⟨[.row 179 Kd13, .val (.int .i64)], [(.int .i64)], m_w105q⟩

/-! laws.markRowSS -/
def l_w106q_1 (n : Nat)  (z0 : (Int × (Int × (List (List (ByteArray × (Int × (ByteArray × Bool)))))))) : Option (Int × (List (List (ByteArray × (Int × (ByteArray × Bool)))))) :=
(lp (fun rec10 (z9 : (Int × (Int × (List (List (ByteArray × (Int × (ByteArray × Bool)))))))) =>
 (cond (decide (z9.2.1 < (lenI z9.2.2)))
  ((geti z9.2.2 z9.2.1).bind fun _ =>
  ((z9.2.2[z9.2.1.toNat]?).bind fun y11 =>
  ((z9.2.2[z9.2.1.toNat]?).bind fun y12 =>
  ((m_w105q (y12, z9.1)).bind fun r13 =>
  rec10 (r13.1, IntKind.wrap .i64 (z9.2.1 + (1 : Int)), (z9.2.2.set z9.2.1.toNat r13.2))))))
  (some (z9.1, z9.2.2)))) n z0)
def p_w106q (n : Nat) (x : ((List (List (ByteArray × (Int × (ByteArray × Bool))))) × Int)) : Option (Int × (List (List (ByteArray × (Int × (ByteArray × Bool)))))) :=
(l_w106q_1 n  (x.2, (0 : Int), x.1))
def m_w106q (x : ((List (List (ByteArray × (Int × (ByteArray × Bool))))) × Int)) : Option (Int × (List (List (ByteArray × (Int × (ByteArray × Bool)))))) := p_w106q FU x
def a_w106q : Ann := (.node .leaf (.node (.node .leaf (.loop [.slot 1 (.int .i64), .slot 5 (.int .i64), .row 0 31 Kd9] [6, 7, 8, 9, 10, 11, 12, 13, 14, 15, 16, 17] .leaf)) .leaf))
def S_w106q : FSpec := ⟨[.row 31 Kd9, .val (.int .i64)], [(.int .i64)], m_w106q⟩

/-! laws.heldByteS -/
def l_w107q_1 (n : Nat) (x_1 : (List Int)) (z0 : (Int × Int)) : Option Int :=
(lp (fun rec4 (z3 : (Int × Int)) =>
 (cond (decide (z3.2 < (lenI x_1)))
  ((geti x_1 z3.2).bind fun y5 =>
  (cond (!(y5 == (IntKind.wrap .u8 z3.1)))
   (some (-1 : Int))
   (rec4 (IntKind.wrap .i64 (z3.1 + (1 : Int)), IntKind.wrap .i64 (z3.2 + (1 : Int))))))
  (some z3.1))) n z0)
def p_w107q (n : Nat) (x : ((List Int) × Int)) : Option Int :=
(l_w107q_1 n x.1 (x.2, (0 : Int)))
def m_w107q (x : ((List Int) × Int)) : Option Int := p_w107q FU x
def a_w107q : Ann := (.node .leaf (.node (.node .leaf (.loop [.slot 1 (.int .i64), .slot 5 (.int .i64)] [4, 6, 7, 8, 9, 10, 11, 12, 13, 14, 15, 16, 17, 18, 19, 20] .leaf)) .leaf))
def S_w107q : FSpec := ⟨[.val (.sl none (.int .u8)), .val (.int .i64)], [(.int .i64)], m_w107q⟩

/-! laws.heldLog -/
def p_w108q (n : Nat) (x : (((List Int) × (List Int)) × Int)) : Option Int :=
((m_w107q (x.1.1, x.2)).bind fun r1 =>
(cond (decide (r1 < (0 : Int)))
 (some (-1 : Int))
 ((m_w107q (x.1.2, r1)).bind fun r2 =>
 (cond (decide (r2 < (0 : Int)))
  (some (-1 : Int))
  (some r2)))))
def m_w108q (x : (((List Int) × (List Int)) × Int)) : Option Int := p_w108q FU x
def a_w108q : Ann := .leaf
def S_w108q : FSpec := ⟨[.val Kd12, .val (.int .i64)], [(.int .i64)], m_w108q⟩

/-! laws.heldRowS -/
def l_w109q_1 (n : Nat) (x_1 : (List (ByteArray × (Int × (ByteArray × Bool))))) (z0 : (Int × Int)) : Option Int :=
(lp (fun rec9 (z8 : (Int × Int)) =>
 (cond (decide (z8.2 < (lenI x_1)))
  ((geti x_1 z8.2).bind fun y10 =>
  ((m_w104q z8.1).bind fun r11 =>
  (cond (!(y10.1.toList == r11.toList))
   (some (-1 : Int))
   ((geti x_1 z8.2).bind fun y12 =>
   (cond (!(y12.2.1 == (IntKind.wrap .i64 (z8.1 + (1 : Int)))))
    (some (-1 : Int))
    ((geti x_1 z8.2).bind fun y13 =>
    ((m_w104q (IntKind.wrap .i64 ((IntKind.wrap .i64 (z8.1 + (1 : Int))) + (1 : Int)))).bind fun r14 =>
    (cond (!(y13.2.2.1.toList == r14.toList))
     (some (-1 : Int))
     ((geti x_1 z8.2).bind fun y15 =>
     (cond ((3 : Int) == 0) none
      (cond (!(y15.2.2.2 == ((Int.tmod (IntKind.wrap .i64 ((IntKind.wrap .i64 ((IntKind.wrap .i64 (z8.1 + (1 : Int))) + (1 : Int))) + (1 : Int))) (3 : Int)) == (0 : Int))))
       (some (-1 : Int))
       (rec9 (IntKind.wrap .i64 ((IntKind.wrap .i64 ((IntKind.wrap .i64 ((IntKind.wrap .i64 (z8.1 + (1 : Int))) + (1 : Int))) + (1 : Int))) + (1 : Int)), IntKind.wrap .i64 (z8.2 + (1 : Int)))))))))))))))
  (some z8.1))) n z0)
def p_w109q (n : Nat) (x : ((List (ByteArray × (Int × (ByteArray × Bool)))) × Int)) : Option Int :=
(l_w109q_1 n x.1 (x.2, (0 : Int)))
def m_w109q (x : ((List (ByteArray × (Int × (ByteArray × Bool)))) × Int)) : Option Int := p_w109q FU x
def a_w109q : Ann := (.node .leaf (.node (.node .leaf (.loop [.slot 1 (.int .i64), .slot 5 (.int .i64)] [4, 6, 7, 8, 9, 10, 11, 12, 13, 14, 15, 16, 17, 18, 19, 20, 21, 22, 23, 24, 25, 26, 27, 28, 29, 30, 31, 32, 33, 34, 35, 36, 37, 38, 39, 40, 41, 42, 43, 44, 45, 46, 47, 48, 49, 50, 51] .leaf)) .leaf))
def S_w109q : FSpec := ⟨[.val Kd10, .val (.int .i64)], [(.int .i64)], m_w109q⟩

/-! laws.heldRowSS -/
def l_w110q_1 (n : Nat) (x_1 : (List (List (ByteArray × (Int × (ByteArray × Bool)))))) (z0 : (Int × Int)) : Option Int :=
(lp (fun rec5 (z4 : (Int × Int)) =>
 (cond (decide (z4.2 < (lenI x_1)))
  ((geti x_1 z4.2).bind fun y6 =>
  ((m_w109q (y6, z4.1)).bind fun r7 =>
  (cond (decide (r7 < (0 : Int)))
   (some (-1 : Int))
   (rec5 (r7, IntKind.wrap .i64 (z4.2 + (1 : Int)))))))
  (some z4.1))) n z0)
def p_w110q (n : Nat) (x : ((List (List (ByteArray × (Int × (ByteArray × Bool))))) × Int)) : Option Int :=
(l_w110q_1 n x.1 (x.2, (0 : Int)))
def m_w110q (x : ((List (List (ByteArray × (Int × (ByteArray × Bool))))) × Int)) : Option Int := p_w110q FU x
def a_w110q : Ann := (.node .leaf (.node (.node .leaf (.loop [.slot 1 (.int .i64), .slot 5 (.int .i64)] [4, 6, 7, 8, 9, 10, 11, 12, 13, 14, 15, 16, 17, 18, 19] .leaf)) .leaf))
def S_w110q : FSpec := ⟨[.val Kd8, .val (.int .i64)], [(.int .i64)], m_w110q⟩

/-! laws.heldEngine -/
def p_w111q (n : Nat) (x : ((((List Int) × (List Int)) × ((List (ByteArray × (Int × (ByteArray × Bool)))) × ((List (List (ByteArray × (Int × (ByteArray × Bool))))) × Int))) × Int)) : Option Int :=
((m_w108q (x.1.1, x.2)).bind fun r1 =>
(cond (decide (r1 < (0 : Int)))
 (some (-1 : Int))
 ((m_w109q (x.1.2.1, r1)).bind fun r2 =>
 (cond (decide (r2 < (0 : Int)))
  (some (-1 : Int))
  ((m_w110q (x.1.2.2.1, r2)).bind fun r3 =>
  (cond (decide (r3 < (0 : Int)))
   (some (-1 : Int))
   (some r3)))))))
def m_w111q (x : ((((List Int) × (List Int)) × ((List (ByteArray × (Int × (ByteArray × Bool)))) × ((List (List (ByteArray × (Int × (ByteArray × Bool))))) × Int))) × Int)) : Option Int := p_w111q FU x
def a_w111q : Ann := .leaf
def S_w111q : FSpec := ⟨[.val Kd4, .val (.int .i64)], [(.int .i64)], m_w111q⟩

/-! laws.heldEngineResult -/
def p_w112q (n : Nat) (x : ((Int × (Int × (((List Int) × (List Int)) × ((List (ByteArray × (Int × (ByteArray × Bool)))) × ((List (List (ByteArray × (Int × (ByteArray × Bool))))) × Int))))) × Int)) : Option Int :=
((m_w111q (x.1.2.2, x.2)).bind fun r1 =>
(cond (decide (r1 < (0 : Int)))
 (some (-1 : Int))
 (some r1)))
def m_w112q (x : ((Int × (Int × (((List Int) × (List Int)) × ((List (ByteArray × (Int × (ByteArray × Bool)))) × ((List (List (ByteArray × (Int × (ByteArray × Bool))))) × Int))))) × Int)) : Option Int := p_w112q FU x
def a_w112q : Ann := .leaf
def S_w112q : FSpec := ⟨[.val Kd1, .val (.int .i64)], [(.int .i64)], m_w112q⟩

/-! laws.FnExactCompactEngine -/
def p_w113q (n : Nat) (x : ((((List Int) × (List Int)) × ((List (ByteArray × (Int × (ByteArray × Bool)))) × ((List (List (ByteArray × (Int × (ByteArray × Bool))))) × Int))) × Int)) : Option Bool :=
((m_w5q (x.1, (1048576 : Int))).bind fun r1 =>
(cond (decide (r1 < (0 : Int)))
 (some true)
 ((m_w11q x.1).bind fun r2 =>
 ((m_w39q (r2, x.2)).bind fun r3 =>
 ((m_w11q x.1).bind fun r4 =>
 ((m_w95q (r4, x.2)).bind fun r5 =>
 ((m_w102q (r5, r3)).bind fun r6 =>
 (cond (!r6)
  (some false)
  ((m_w11q x.1).bind fun r7 =>
  ((m_w101q (r4, r7)).bind fun r8 =>
  (cond (!r8)
   (some false)
   ((m_w103q (r4.1.1, (1 : Int))).bind fun r9 =>
   ((m_w103q (r4.1.2, r9.1)).bind fun r10 =>
   ((m_w105q (r4.2.1, r10.1)).bind fun r11 =>
   ((m_w106q (r4.2.2.1, r11.1)).bind fun r12 =>
   (Option.bind (α := Bool)
    (cond (decide (r12.1 < (0 : Int)))
     (some true)
     ((m_w102q (r5, r3)).bind fun r14 =>
     some (!r14))) fun j15 =>
   (cond j15
    (some false)
    ((m_w103q (r5.2.2.1.1, (1 : Int))).bind fun r16 =>
    ((m_w103q (r5.2.2.1.2, r16.1)).bind fun r17 =>
    ((m_w105q (r5.2.2.2.1, r17.1)).bind fun r18 =>
    ((m_w106q (r5.2.2.2.2.1, r18.1)).bind fun r19 =>
    ((m_w112q ((r5.1, (r5.2.1, ((r16.2, r17.2), (r18.2, (r19.2, r5.2.2.2.2.2))))), (1 : Int))).bind fun r20 =>
    (cond (decide (r20 < (0 : Int)))
     (some false)
     (cond (!(r20 == r19.1))
      (some false)
      ((m_w11q x.1).bind fun r21 =>
      ((m_w95q (r21, x.2)).bind fun r22 =>
      ((m_w102q (r22, r3)).bind fun r23 =>
      (cond (!r23)
       (some false)
       ((m_w112q ((r5.1, (r5.2.1, ((r16.2, r17.2), (r18.2, (r19.2, r5.2.2.2.2.2))))), (1 : Int))).bind fun r24 =>
       (cond (decide (r24 < (0 : Int)))
        (some false)
        (cond (!(r24 == r19.1))
         (some false)
         (some true))))))))))))))))))))))))))))))))
def m_w113q (x : ((((List Int) × (List Int)) × ((List (ByteArray × (Int × (ByteArray × Bool)))) × ((List (List (ByteArray × (Int × (ByteArray × Bool))))) × Int))) × Int)) : Option Bool := p_w113q FU x
def a_w113q : Ann := (.node .leaf (.node .leaf (.node .leaf (.node .leaf (.node .leaf (.node .leaf (.node .leaf (.node .leaf (.node .leaf (.node .leaf (.node .leaf (.node (.join [.slot 46 .bool] [39, 40, 41, 42, 43, 44, 45] .leaf .leaf) .leaf))))))))))))
def S_w113q : FSpec := ⟨[.val Kd4, .val (.int .i64)], [.bool], m_w113q⟩

def T : Tab := [
  (2, ⟨false, 1, 8, [], 0, [.int .i64 0], some (.int .i64), [0]⟩),
  (3, ⟨false, 1, 8, [], 0, [.int .i64 0], some (.int .i64), [0]⟩),
  (4, ⟨false, 1, 1, [], 0, [.bool false], some .bool, [1]⟩),
  (5, ⟨false, 1, 1, [], 0, [.int .u8 0], some (.int .u8), [0]⟩),
  (9, ⟨false, 1, 16, [], 0, [.str ⟨#[]⟩], some .str, [2]⟩),
  (22, ⟨false, 1, 24, [], 5, [.nil], some (.sl none (.int .u8)), []⟩),
  (24, ⟨true, 2, 48, [(0, 1, 22), (1, 1, 22)], 0, [.nil, .nil], some Kd12, []⟩),
  (25, ⟨false, 1, 24, [], 173, [.nil], some Kd10, []⟩),
  (26, ⟨false, 1, 24, [], 25, [.nil], some Kd8, []⟩),
  (28, ⟨true, 5, 104, [(0, 2, 24), (2, 1, 25), (3, 1, 26), (4, 1, 2)], 0, [.nil, .nil, .nil, .nil, .int .i64 0], some Kd4, []⟩),
  (30, ⟨true, 2, 48, [(0, 1, 22), (1, 1, 22)], 0, [.nil, .nil], some Kd12, []⟩),
  (31, ⟨false, 1, 24, [], 179, [.nil], some Kd10, []⟩),
  (32, ⟨false, 1, 24, [], 31, [.nil], some Kd8, []⟩),
  (34, ⟨true, 5, 104, [(0, 2, 30), (2, 1, 31), (3, 1, 32), (4, 1, 2)], 0, [.nil, .nil, .nil, .nil, .int .i64 0], some Kd4, []⟩),
  (36, ⟨true, 7, 120, [(0, 1, 2), (1, 1, 2), (2, 5, 34)], 0, [.int .i64 0, .int .i64 0, .nil, .nil, .nil, .nil, .int .i64 0], some Kd1, []⟩),
  (85, ⟨true, 2, 32, [(0, 1, 2), (1, 1, 31)], 0, [.int .i64 0, .nil], some Kd6, []⟩),
  (119, ⟨false, 1, 24, [], 2, [.nil], some (.sl none (.int .i64)), []⟩),
  (173, ⟨true, 4, 48, [(0, 1, 9), (1, 1, 2), (2, 1, 9), (3, 1, 4)], 0, [.str ⟨#[]⟩, .int .i64 0, .str ⟨#[]⟩, .bool false], some Kd13, [2, 0, 2, 1]⟩),
  (179, ⟨true, 4, 48, [(0, 1, 9), (1, 1, 2), (2, 1, 9), (3, 1, 4)], 0, [.str ⟨#[]⟩, .int .i64 0, .str ⟨#[]⟩, .bool false], some Kd13, [2, 0, 2, 1]⟩),
  (286, ⟨false, 1, 24, [], 22, [.nil], some (.sl none (.sl none (.int .u8))), []⟩),
  (289, ⟨false, 1, 24, [], 366, [.nil], some Kd16, []⟩),
  (297, ⟨true, 3, 40, [(0, 1, 2), (1, 1, 2), (2, 1, 286)], 0, [.int .i64 0, .int .i64 0, .nil], some (.pair (.int .i64) (.pair (.int .i64) (.sl none (.sl none (.int .u8))))), []⟩),
  (357, ⟨false, 1, 8, [], 0, [.int .u64 0], some (.int .u64), [0]⟩),
  (366, ⟨true, 3, 40, [(0, 1, 9), (1, 1, 9), (2, 1, 4)], 0, [.str ⟨#[]⟩, .str ⟨#[]⟩, .bool false], some Kd17, [2, 2, 1]⟩),
  (370, ⟨true, 2, 32, [(0, 1, 2), (1, 1, 22)], 0, [.int .i64 0, .nil], some (.pair (.int .i64) (.sl none (.int .u8))), []⟩),
  (378, ⟨true, 2, 16, [(0, 1, 2), (1, 1, 2)], 0, [.int .i64 0, .int .i64 0], some (.pair (.int .i64) (.int .i64)), [0, 0]⟩),
  (444, ⟨false, 1, 8, [], 0, [.int .u64 0], some (.int .u64), [0]⟩),
  (449, ⟨false, 1, 24, [], 3, [.nil], some (.sl none (.int .i64)), []⟩)]
def G_w0q : Env := (115, S_w0q) :: []
def G_w1q : Env := (32, S_w1q) :: G_w0q
def G_w2q : Env := (116, S_w2q) :: G_w1q
def G_w3q : Env := (33, S_w3q) :: G_w2q
def G_w4q : Env := (34, S_w4q) :: G_w3q
def G_w5q : Env := (7, S_w5q) :: G_w4q
def G_w6q : Env := (124, S_w6q) :: G_w5q
def G_w7q : Env := (39, S_w7q) :: G_w6q
def G_w8q : Env := (125, S_w8q) :: G_w7q
def G_w9q : Env := (40, S_w9q) :: G_w8q
def G_w10q : Env := (41, S_w10q) :: G_w9q
def G_w11q : Env := (9, S_w11q) :: G_w10q
def G_w12q : Env := (117, S_w12q) :: G_w11q
def G_w13q : Env := (106, S_w13q) :: G_w12q
def G_w14q : Env := (225, S_w14q) :: G_w13q
def G_w15q : Env := (226, S_w15q) :: G_w14q
def G_w16q : Env := (118, S_w16q) :: G_w15q
def G_w17q : Env := (119, S_w17q) :: G_w16q
def G_w18q : Env := (228, S_w18q) :: G_w17q
def G_w19q : Env := (333, S_w19q) :: G_w18q
def G_w20q : Env := (227, S_w20q) :: G_w19q
def G_w21q : Env := (334, S_w21q) :: G_w20q
def G_w22q : Env := (335, S_w22q) :: G_w21q
def G_w23q : Env := (486, S_w23q) :: G_w22q
def G_w24q : Env := (487, S_w24q) :: G_w23q
def G_w25q : Env := (420, S_w25q) :: G_w24q
def G_w26q : Env := (419, S_w26q) :: G_w25q
def G_w27q : Env := (336, S_w27q) :: G_w26q
def G_w28q : Env := (229, S_w28q) :: G_w27q
def G_w29q : Env := (230, S_w29q) :: G_w28q
def G_w30q : Env := (231, S_w30q) :: G_w29q
def G_w31q : Env := (120, S_w31q) :: G_w30q
def G_w32q : Env := (121, S_w32q) :: G_w31q
def G_w33q : Env := (35, S_w33q) :: G_w32q
def G_w34q : Env := (122, S_w34q) :: G_w33q
def G_w35q : Env := (36, S_w35q) :: G_w34q
def G_w36q : Env := (123, S_w36q) :: G_w35q
def G_w37q : Env := (37, S_w37q) :: G_w36q
def G_w38q : Env := (38, S_w38q) :: G_w37q
def G_w39q : Env := (8, S_w39q) :: G_w38q
def G_w40q : Env := (126, S_w40q) :: G_w39q
def G_w41q : Env := (68, S_w41q) :: G_w40q
def G_w42q : Env := (337, S_w42q) :: G_w41q
def G_w43q : Env := (130, S_w43q) :: G_w42q
def G_w44q : Env := (232, S_w44q) :: G_w43q
def G_w45q : Env := (421, S_w45q) :: G_w44q
def G_w46q : Env := (339, S_w46q) :: G_w45q
def G_w47q : Env := (318, S_w47q) :: G_w46q
def G_w48q : Env := (198, S_w48q) :: G_w47q
def G_w49q : Env := (338, S_w49q) :: G_w48q
def G_w50q : Env := (233, S_w50q) :: G_w49q
def G_w51q : Env := (127, S_w51q) :: G_w50q
def G_w52q : Env := (73, S_w52q) :: G_w51q
def G_w53q : Env := (129, S_w53q) :: G_w52q
def G_w54q : Env := (128, S_w54q) :: G_w53q
def G_w55q : Env := (341, S_w55q) :: G_w54q
def G_w56q : Env := (490, S_w56q) :: G_w55q
def G_w57q : Env := (489, S_w57q) :: G_w56q
def G_w58q : Env := (345, S_w58q) :: G_w57q
def G_w59q : Env := (422, S_w59q) :: G_w58q
def G_w60q : Env := (244, S_w60q) :: G_w59q
def G_w61q : Env := (236, S_w61q) :: G_w60q
def G_w62q : Env := (340, S_w62q) :: G_w61q
def G_w63q : Env := (235, S_w63q) :: G_w62q
def G_w64q : Env := (342, S_w64q) :: G_w63q
def G_w65q : Env := (424, S_w65q) :: G_w64q
def G_w66q : Env := (343, S_w66q) :: G_w65q
def G_w67q : Env := (491, S_w67q) :: G_w66q
def G_w68q : Env := (346, S_w68q) :: G_w67q
def G_w69q : Env := (494, S_w69q) :: G_w68q
def G_w70q : Env := (495, S_w70q) :: G_w69q
def G_w71q : Env := (426, S_w71q) :: G_w70q
def G_w72q : Env := (425, S_w72q) :: G_w71q
def G_w73q : Env := (344, S_w73q) :: G_w72q
def G_w74q : Env := (237, S_w74q) :: G_w73q
def G_w75q : Env := (238, S_w75q) :: G_w74q
def G_w76q : Env := (239, S_w76q) :: G_w75q
def G_w77q : Env := (131, S_w77q) :: G_w76q
def G_w78q : Env := (132, S_w78q) :: G_w77q
def G_w79q : Env := (42, S_w79q) :: G_w78q
def G_w80q : Env := (427, S_w80q) :: G_w79q
def G_w81q : Env := (517, S_w81q) :: G_w80q
def G_w82q : Env := (499, S_w82q) :: G_w81q
def G_w83q : Env := (435, S_w83q) :: G_w82q
def G_w84q : Env := (348, S_w84q) :: G_w83q
def G_w85q : Env := (241, S_w85q) :: G_w84q
def G_w86q : Env := (243, S_w86q) :: G_w85q
def G_w87q : Env := (242, S_w87q) :: G_w86q
def G_w88q : Env := (135, S_w88q) :: G_w87q
def G_w89q : Env := (43, S_w89q) :: G_w88q
def G_w90q : Env := (136, S_w90q) :: G_w89q
def G_w91q : Env := (137, S_w91q) :: G_w90q
def G_w92q : Env := (138, S_w92q) :: G_w91q
def G_w93q : Env := (44, S_w93q) :: G_w92q
def G_w94q : Env := (45, S_w94q) :: G_w93q
def G_w95q : Env := (10, S_w95q) :: G_w94q
def G_w96q : Env := (139, S_w96q) :: G_w95q
def G_w97q : Env := (46, S_w97q) :: G_w96q
def G_w98q : Env := (140, S_w98q) :: G_w97q
def G_w99q : Env := (47, S_w99q) :: G_w98q
def G_w100q : Env := (48, S_w100q) :: G_w99q
def G_w101q : Env := (12, S_w101q) :: G_w100q
def G_w102q : Env := (11, S_w102q) :: G_w101q
def G_w103q : Env := (141, S_w103q) :: G_w102q
def G_w104q : Env := (142, S_w104q) :: G_w103q
def G_w105q : Env := (50, S_w105q) :: G_w104q
def G_w106q : Env := (51, S_w106q) :: G_w105q
def G_w107q : Env := (245, S_w107q) :: G_w106q
def G_w108q : Env := (143, S_w108q) :: G_w107q
def G_w109q : Env := (144, S_w109q) :: G_w108q
def G_w110q : Env := (145, S_w110q) :: G_w109q
def G_w111q : Env := (52, S_w111q) :: G_w110q
def G_w112q : Env := (15, S_w112q) :: G_w111q
def G_w113q : Env := (3, S_w113q) :: G_w112q
end
end Go.RvP
