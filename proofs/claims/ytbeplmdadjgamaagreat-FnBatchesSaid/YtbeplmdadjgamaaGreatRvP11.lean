/- The plain functions that the evaluator comes to, for FnBatches. No condition. -/
import Derived.Test.YtbeplmdadjgamaaGreatRvL
import Derived.Test.YtbeplmdadjgamaaGreatRvS7
namespace Go.RvP
open Go Go.Rv
noncomputable section
def rg (a : Nat) : Nat → List Nat
  | 0 => []
  | n + 1 => a :: rg (a + 1) n
abbrev Ty50 : Type := ((List (List Int)) × Int)
abbrev Ty49 : Type := ((List Int) × (List Int))
abbrev Ty48 : Type := (Int × ((List Int) × Int))
abbrev Ty47 : Type := (((List Int) × Int) × Int)
abbrev Ty46 : Type := (ByteArray × (ByteArray × Bool))
abbrev Ty45 : Type := (Int × Ty49)
abbrev Ty44 : Type := (Int × (Int × (List (List Int))))
abbrev Ty43 : Type := ((List Int) × ((List Int) × Int))
abbrev Ty42 : Type := (((List Int) × Int) × (List Int))
abbrev Ty41 : Type := (Ty49 × Int)
abbrev Ty40 : Type := (List Ty46)
abbrev Ty39 : Type := (Ty49 × (List Int))
abbrev Ty38 : Type := (ByteArray × (Int × (ByteArray × Bool)))
abbrev Ty37 : Type := (Ty40 × Int)
abbrev Ty36 : Type := (Int × Ty40)
abbrev Ty35 : Type := (List Ty38)
abbrev Ty34 : Type := (((List Int) × Int) × Ty49)
abbrev Ty33 : Type := (List Ty35)
abbrev Ty32 : Type := (Int × Ty35)
abbrev Ty31 : Type := (Ty35 × Int)
abbrev Ty30 : Type := (Unit ⊕ Ty35)
abbrev Ty29 : Type := (Ty35 × Bool)
abbrev Ty28 : Type := (Int × (Ty40 × Bool))
abbrev Ty27 : Type := (Ty40 × ((List Int) × Int))
abbrev Ty26 : Type := (Int × Ty32)
abbrev Ty25 : Type := (Ty38 × ((List Int) × Int))
abbrev Ty24 : Type := (Ty35 × (Int × Int))
abbrev Ty23 : Type := (Ty35 × (Int × Bool))
abbrev Ty22 : Type := (Unit ⊕ Ty32)
abbrev Ty21 : Type := (Ty35 × (ByteArray × Int))
abbrev Ty20 : Type := (Ty35 × ((List Int) × Int))
abbrev Ty19 : Type := (Ty40 × Ty48)
abbrev Ty18 : Type := (Ty35 × (Int × (Int × Bool)))
abbrev Ty17 : Type := (Ty35 × Ty48)
abbrev Ty16 : Type := (Ty35 × (Int × (Int × (Int × Bool))))
abbrev Ty15 : Type := (Ty38 × Ty38)
abbrev Ty14 : Type := (Ty35 × Ty38)
abbrev Ty13 : Type := (Ty35 × Ty35)
abbrev Ty12 : Type := (Ty40 ⊕ Ty28)
abbrev Ty11 : Type := (Ty35 ⊕ Ty29)
abbrev Ty10 : Type := (Ty31 ⊕ Ty29)
abbrev Ty9 : Type := (Ty49 × (Ty35 × (Ty33 × Int)))
abbrev Ty8 : Type := (Ty9 × Int)
abbrev Ty7 : Type := (Int × Ty9)
abbrev Ty6 : Type := (Int × Ty7)
abbrev Ty5 : Type := (Ty9 × (ByteArray × Int))
abbrev Ty4 : Type := (Ty9 × ((List Int) × Int))
abbrev Ty3 : Type := (((List Int) × Int) × Ty9)
abbrev Ty2 : Type := (Int × Ty3)
abbrev Ty1 : Type := (Ty9 × (Ty40 × Bool))
abbrev Kd20 : Kd := (.sl none (.int .i64))
abbrev Kd19 : Kd := (.sl (some 5) (.int .u8))
abbrev Kd18 : Kd := (.pair .str (.pair .str .bool))
abbrev Kd17 : Kd := (.pair (.sl none (.int .u8)) (.int .i64))
abbrev Kd16 : Kd := (.sl none Kd18)
abbrev Kd15 : Kd := (.pair (.int .i64) Kd19)
abbrev Kd14 : Kd := (.sl (some 99) Kd18)
abbrev Kd13 : Kd := (.pair (.sl none (.int .u8)) (.sl none (.int .u8)))
abbrev Kd12 : Kd := (.pair .str (.pair (.int .i64) (.pair .str .bool)))
abbrev Kd11 : Kd := (.pair Kd19 Kd19)
abbrev Kd10 : Kd := (.sl none Kd12)
abbrev Kd9 : Kd := (.sl (some 78) Kd12)
abbrev Kd8 : Kd := (.sl none Kd10)
abbrev Kd7 : Kd := (.pair (.int .i64) Kd11)
abbrev Kd6 : Kd := (.pair (.int .i64) (.pair (.int .i64) (.sl (some 43) Kd19)))
abbrev Kd5 : Kd := (.sl (some 53) Kd9)
abbrev Kd4 : Kd := (.pair (.int .i64) Kd9)
abbrev Kd3 : Kd := (.pair Kd13 (.pair Kd10 (.pair Kd8 (.int .i64))))
abbrev Kd2 : Kd := (.pair Kd11 (.pair Kd9 (.pair Kd5 (.int .i64))))
abbrev Kd1 : Kd := (.pair (.int .i64) (.pair (.int .i64) Kd2))
def p_w0q (n : Nat) (x : (List Int)) : Option Bool :=
some (decide ((lenI x) > (1048576 : Int)))
def m_w0q := p_w0q FU
def a_w0q : Ann := .leaf
def S_w0q : FSpec := ⟨[.val (.sl none (.int .u8))], [.bool], m_w0q⟩
def p_w1q (n : Nat) (x : (Int × (Int × Int))) : Option Bool :=
(cond (decide (x.1 ≥ x.2.1))
 (some (decide (x.1 ≤ x.2.2)))
 (some false))
def m_w1q := p_w1q FU
def a_w1q : Ann := .leaf
def S_w1q : FSpec := ⟨[.val (.int .i64), .val (.int .i64), .val (.int .i64)], [.bool], m_w1q⟩
def p_w2q (n : Nat) (x : Int) : Option Ty6 :=
((m_w1q (x, (1 : Int), (1000000 : Int))).bind fun r1 =>
(cond (!r1)
 (some ((3 : Int), ((0 : Int), (([], []), ([], ([], (0 : Int)))))))
 (some ((0 : Int), ((0 : Int), (([], []), ([], ([], x))))))))
def m_w2q := p_w2q FU
def a_w2q : Ann := .leaf
def S_w2q : FSpec := ⟨[.val (.int .i64)], [Kd1], m_w2q⟩
def p_w3q (n : Nat) (x : Ty47) : Option Ty48 :=
(cond (decide (x.2 < (1 : Int)))
 (some ((0 : Int), (x.1.1, IntKind.wrap .i64 (x.1.2 + (1 : Int)))))
 (cond ((lenI x.1.1) == (0 : Int))
 (cond (x.2 == 0) none
 (some (Int.tmod (IntKind.wrap .i64 ((IntKind.wrap .i64 ((IntKind.wrap .i64 (x.1.2 + (1 : Int))) - (1 : Int))) * (7 : Int))) x.2, (x.1.1, IntKind.wrap .i64 (x.1.2 + (1 : Int))))))
 (cond ((lenI x.1.1) == 0) none
 ((geti x.1.1 (Int.tmod (IntKind.wrap .i64 ((IntKind.wrap .i64 (x.1.2 + (1 : Int))) - (1 : Int))) (lenI x.1.1))).bind fun y1 =>
 (cond ((lenI x.1.1) == 0) none
 (cond (decide (x.2 > (200 : Int)))
 (cond ((lenI x.1.1) == 0) none
 ((geti x.1.1 (Int.tmod (IntKind.wrap .i64 ((IntKind.wrap .i64 ((IntKind.wrap .i64 (x.1.2 + (1 : Int))) - (1 : Int))) + (1 : Int))) (lenI x.1.1))).bind fun y2 =>
 (cond (x.2 == 0) none
 (some (Int.tmod (IntKind.wrap .i64 ((IntKind.wrap .i64 ((IntKind.wrap .i64 ((IntKind.wrap .i64 ((IntKind.wrap .i64 y1) + (IntKind.wrap .i64 ((IntKind.wrap .i64 (Int.tdiv (IntKind.wrap .i64 ((IntKind.wrap .i64 (x.1.2 + (1 : Int))) - (1 : Int))) (lenI x.1.1))) * (37 : Int))))) * (251 : Int))) + (IntKind.wrap .i64 ((IntKind.wrap .i64 y2) * (13 : Int))))) + (IntKind.wrap .i64 ((IntKind.wrap .i64 (x.1.2 + (1 : Int))) - (1 : Int))))) x.2, (x.1.1, IntKind.wrap .i64 (x.1.2 + (1 : Int))))))))
 (cond (x.2 == 0) none
 (some (Int.tmod (IntKind.wrap .i64 ((IntKind.wrap .i64 y1) + (IntKind.wrap .i64 ((IntKind.wrap .i64 (Int.tdiv (IntKind.wrap .i64 ((IntKind.wrap .i64 (x.1.2 + (1 : Int))) - (1 : Int))) (lenI x.1.1))) * (37 : Int))))) x.2, (x.1.1, IntKind.wrap .i64 (x.1.2 + (1 : Int))))))))))))
def m_w3q := p_w3q FU
def a_w3q : Ann := .leaf
def S_w3q : FSpec := ⟨[.box Kd17, .val (.int .i64)], [(.int .i64)], m_w3q⟩
def p_w4q (n : Nat) (x : Ty49) : Option Int :=
(cond (decide ((IntKind.wrap .i64 ((lenI x.1) + (lenI x.2))) > (6000 : Int)))
 (some (2 : Int))
 (some (0 : Int)))
def m_w4q := p_w4q FU
def a_w4q : Ann := .leaf
def S_w4q : FSpec := ⟨[.val Kd13], [(.int .i64)], m_w4q⟩
def p_w5q (n : Nat) (x : Ty38) : Option Int :=
(Option.bind (α := Bool)
 (cond (decide (((x.1.size : Nat) : Int) < (1 : Int)))
 (some true)
 (cond (decide (((x.1.size : Nat) : Int) > (20 : Int)))
 (some true)
 (cond x.2.2.2
 (some (!(x.2.2.1.toList == (⟨#[]⟩ : ByteArray).toList)))
 (some false)))) fun j1 =>
(cond j1
 (some (1 : Int))
 (cond (decide (((x.2.2.1.size : Nat) : Int) > (100 : Int)))
 (some (2 : Int))
 ((m_w1q (x.2.1, (1 : Int), (1000000 : Int))).bind fun r2 =>
 (cond (!r2)
 (some (3 : Int))
 (some (0 : Int)))))))
def m_w5q := p_w5q FU
def a_w5q : Ann := (.node .leaf (.node (.join [.slot 21 .bool] (rg 3 18) .leaf .leaf) .leaf))
def S_w5q : FSpec := ⟨[.val Kd12], [(.int .i64)], m_w5q⟩
def p_w6q (n : Nat) (x : Ty15) : Option Bool :=
(cond (!(x.1.1.toList == x.2.1.toList))
 (some (Op.bytesLess x.1.1.toList x.2.1.toList))
 (some (decide (x.1.2.1 > x.2.2.1))))
def m_w6q := p_w6q FU
def a_w6q : Ann := .leaf
def S_w6q : FSpec := ⟨[.val Kd12, .val Kd12], [.bool], m_w6q⟩
def l_w7q_1 (n : Nat) (x : Ty35) (z0 : Int) : Option Int :=
(lp (fun rec12 (z11 : Int) =>
 (cond (decide (z11 < (lenI x)))
 ((geti x z11).bind fun y13 =>
 ((m_w5q y13).bind fun r14 =>
 (cond (!(r14 == (0 : Int)))
 (some r14)
 (Option.bind (α := Bool)
 (cond (decide (z11 > (0 : Int)))
 ((geti x (IntKind.wrap .i64 (z11 - (1 : Int)))).bind fun y18 =>
 ((geti x z11).bind fun y19 =>
 ((m_w6q (y18, y19)).bind fun r20 =>
 some (!r20))))
 (some false)) fun j21 =>
 (cond j21
 (some (1 : Int))
 (rec12 (IntKind.wrap .i64 (z11 + (1 : Int)))))))))
 (some (0 : Int)))) n z0)
def p_w7q (n : Nat) (x : Ty35) : Option Int :=
(cond (decide ((lenI x) > (200 : Int)))
 (some (2 : Int))
 (l_w7q_1 n x (0 : Int)))
def m_w7q := p_w7q FU
def a_w7q : Ann := (.node .leaf (.node .leaf (.node (.node .leaf (.loop [.slot 3 (.int .i64)] ([2, 4] ++ rg 8 29) (.node .leaf (.node (.node .leaf (.join [.slot 36 .bool] (rg 22 14) .leaf .leaf)) .leaf)))) .leaf)))
def S_w7q : FSpec := ⟨[.val Kd10], [(.int .i64)], m_w7q⟩
def l_w8q_1 (n : Nat) (x_1 : Ty35) (x_2 : Int) (z0 : Int) : Option Bool :=
(lp (fun rec4 (z3 : Int) =>
 (cond (decide (z3 < (lenI x_1)))
 ((geti x_1 z3).bind fun y5 =>
 (cond (decide (y5.2.1 ≥ x_2))
 (some false)
 (rec4 (IntKind.wrap .i64 (z3 + (1 : Int))))))
 (some true))) n z0)
def p_w8q (n : Nat) (x : Ty31) : Option Bool :=
(l_w8q_1 n x.1 x.2 (0 : Int))
def m_w8q := p_w8q FU
def a_w8q : Ann := (.node .leaf (.node (.node .leaf (.loop [.slot 5 (.int .i64)] ([4] ++ rg 6 13) .leaf)) .leaf))
def S_w8q : FSpec := ⟨[.val Kd10, .val (.int .i64)], [.bool], m_w8q⟩
def p_w9q (n : Nat) (x : Ty49) : Option Ty49 :=
(chk (Nat.ble (x.1.length * 1) maxBytes)
(chk (Nat.ble ((x.1.length + x.2.length) * 1) maxBytes)
(some ((x.1 ++ x.2), []))))
def m_w9q := p_w9q FU
def a_w9q : Ann := (.node .leaf (.node (.lazy 3 .leaf) .leaf))
def S_w9q : FSpec := ⟨[.val Kd13], [Kd11], m_w9q⟩
def l_w10q_1 (n : Nat) (x : (List Int)) (z0 : (Int × Int)) : Option Int :=
(lp (fun rec4 (z3 : (Int × Int)) =>
 (cond (decide (z3.2 < (lenI x)))
 ((geti x z3.2).bind fun y5 =>
 (cond ((65521 : Int) == 0) none
 (rec4 (Int.tmod (IntKind.wrap .i64 ((IntKind.wrap .i64 ((IntKind.wrap .i64 (z3.1 * (257 : Int))) + (IntKind.wrap .i64 y5))) + (1 : Int))) (65521 : Int), IntKind.wrap .i64 (z3.2 + (1 : Int))))))
 (some z3.1))) n z0)
def p_w10q (n : Nat) (x : (List Int)) : Option Int :=
(l_w10q_1 n x ((1 : Int), (0 : Int)))
def m_w10q := p_w10q FU
def a_w10q : Ann := (.node .leaf (.node .leaf (.node (.node .leaf (.loop [.slot 3 (.int .i64), .slot 4 (.int .i64)] (rg 5 16) .leaf)) .leaf)))
def S_w10q : FSpec := ⟨[.val (.sl none (.int .u8))], [(.int .i64)], m_w10q⟩
def l_w11q_1 (n : Nat) (x : (List Int)) (z0 : Ty50) : Option Ty50 :=
(lp (fun rec9 (z8 : Ty50) =>
 (cond (decide ((IntKind.wrap .i64 (z8.2 + (4 : Int))) < (lenI x)))
 ((geti x z8.2).bind fun y10 =>
 ((geti x (IntKind.wrap .i64 (z8.2 + (1 : Int)))).bind fun y11 =>
 (Option.bind (α := Bool)
 (cond (decide ((IntKind.wrap .i64 ((IntKind.wrap .i64 ((IntKind.wrap .i64 y10) * (256 : Int))) + (IntKind.wrap .i64 y11))) < (1 : Int)))
 (some true)
 (cond (decide ((IntKind.wrap .i64 ((IntKind.wrap .i64 ((IntKind.wrap .i64 y10) * (256 : Int))) + (IntKind.wrap .i64 y11))) > (500 : Int)))
 (some true)
 (some (decide ((IntKind.wrap .i64 ((IntKind.wrap .i64 (z8.2 + (4 : Int))) + (IntKind.wrap .i64 ((IntKind.wrap .i64 ((IntKind.wrap .i64 y10) * (256 : Int))) + (IntKind.wrap .i64 y11))))) > (lenI x)))))) fun j12 =>
 (cond j12
 (some (z8.1, z8.2))
 (chk (bndB (some (IntKind.wrap .i64 (z8.2 + (4 : Int)))) (some (IntKind.wrap .i64 ((IntKind.wrap .i64 (z8.2 + (4 : Int))) + (IntKind.wrap .i64 ((IntKind.wrap .i64 ((IntKind.wrap .i64 y10) * (256 : Int))) + (IntKind.wrap .i64 y11)))))) none x.length)
 ((geti x (IntKind.wrap .i64 (z8.2 + (2 : Int)))).bind fun y13 =>
 ((geti x (IntKind.wrap .i64 (z8.2 + (3 : Int)))).bind fun y14 =>
 ((m_w10q (cutL (some (IntKind.wrap .i64 (z8.2 + (4 : Int)))) (some (IntKind.wrap .i64 ((IntKind.wrap .i64 (z8.2 + (4 : Int))) + (IntKind.wrap .i64 ((IntKind.wrap .i64 ((IntKind.wrap .i64 y10) * (256 : Int))) + (IntKind.wrap .i64 y11)))))) x)).bind fun r15 =>
 (cond (!(r15 == (IntKind.wrap .i64 ((IntKind.wrap .i64 ((IntKind.wrap .i64 y13) * (256 : Int))) + (IntKind.wrap .i64 y14)))))
 (some (z8.1, z8.2))
 (chk (Nat.ble ((([] : List Int).length + (cutL (some (IntKind.wrap .i64 (z8.2 + (4 : Int)))) (some (IntKind.wrap .i64 ((IntKind.wrap .i64 (z8.2 + (4 : Int))) + (IntKind.wrap .i64 ((IntKind.wrap .i64 ((IntKind.wrap .i64 y10) * (256 : Int))) + (IntKind.wrap .i64 y11)))))) x).length) * 1) maxBytes)
 (chk (Nat.ble ((z8.1.length + ([(([] : List Int) ++ (cutL (some (IntKind.wrap .i64 (z8.2 + (4 : Int)))) (some (IntKind.wrap .i64 ((IntKind.wrap .i64 (z8.2 + (4 : Int))) + (IntKind.wrap .i64 ((IntKind.wrap .i64 ((IntKind.wrap .i64 y10) * (256 : Int))) + (IntKind.wrap .i64 y11)))))) x))] : List (List Int)).length) * 24) maxBytes)
 (rec9 ((z8.1 ++ [(([] : List Int) ++ (cutL (some (IntKind.wrap .i64 (z8.2 + (4 : Int)))) (some (IntKind.wrap .i64 ((IntKind.wrap .i64 (z8.2 + (4 : Int))) + (IntKind.wrap .i64 ((IntKind.wrap .i64 ((IntKind.wrap .i64 y10) * (256 : Int))) + (IntKind.wrap .i64 y11)))))) x))]), IntKind.wrap .i64 ((IntKind.wrap .i64 (z8.2 + (4 : Int))) + (IntKind.wrap .i64 ((IntKind.wrap .i64 ((IntKind.wrap .i64 y10) * (256 : Int))) + (IntKind.wrap .i64 y11)))))))))))))))))
 (some (z8.1, z8.2)))) n z0)
def p_w11q (n : Nat) (x : (List Int)) : Option Ty50 :=
(l_w11q_1 n x (([] : List (List Int)), (0 : Int)))
def m_w11q := p_w11q FU
def a_w11q : Ann := (.node .leaf (.node (.own 8 Kd19 .leaf) (.node .leaf (.node (.loop [.slot 4 (.sl (some 43) Kd19), .slot 5 (.int .i64)] ([6, 7] ++ rg 9 68) (.node .leaf (.node .leaf (.node (.join [.slot 41 .bool] (rg 27 14) .leaf .leaf) (.node .leaf (.node .leaf (.node (.own 71 Kd19 .leaf) .leaf))))))) .leaf))))
def S_w11q : FSpec := ⟨[.val (.sl none (.int .u8))], [(.sl (some 43) Kd19), (.int .i64)], m_w11q⟩
def l_w12q_1 (n : Nat) (x : (List Int)) (z0 : (Int × Int)) : Option Int :=
(lp (fun rec4 (z3 : (Int × Int)) =>
 (cond (decide (z3.2 < (8 : Int)))
 ((geti x z3.2).bind fun y5 =>
 rec4 (IntKind.wrap .u64 ((IntKind.wrap .u64 (z3.1 * (256 : Int))) + (IntKind.wrap .u64 y5)), IntKind.wrap .i64 (z3.2 + (1 : Int))))
 (some (IntKind.wrap .i64 z3.1)))) n z0)
def p_w12q (n : Nat) (x : (List Int)) : Option Int :=
(l_w12q_1 n x ((0 : Int), (0 : Int)))
def m_w12q := p_w12q FU
def a_w12q : Ann := (.node .leaf (.node .leaf (.node (.node .leaf (.loop [.slot 3 (.int .u64), .slot 4 (.int .i64)] (rg 5 12) .leaf)) .leaf)))
def S_w12q : FSpec := ⟨[.val (.sl none (.int .u8))], [(.int .i64)], m_w12q⟩
def p_w13q (n : Nat) (x : ((List Int) × Int)) : Option (ByteArray × Int) :=
(Option.bind (α := Bool)
 (cond (decide (x.2 ≥ (lenI x.1)))
 (some true)
 ((geti x.1 x.2).bind fun y2 =>
 some (decide ((IntKind.wrap .i64 ((IntKind.wrap .i64 (x.2 + (1 : Int))) + (IntKind.wrap .i64 y2))) > (lenI x.1))))) fun j3 =>
(cond j3
 (some ((⟨#[]⟩ : ByteArray), (-1 : Int)))
 ((geti x.1 x.2).bind fun y4 =>
 (chk (bndB (some (IntKind.wrap .i64 (x.2 + (1 : Int)))) (some (IntKind.wrap .i64 ((IntKind.wrap .i64 (x.2 + (1 : Int))) + (IntKind.wrap .i64 y4)))) none x.1.length)
 (some ((strOfNums (cutL (some (IntKind.wrap .i64 (x.2 + (1 : Int)))) (some (IntKind.wrap .i64 ((IntKind.wrap .i64 (x.2 + (1 : Int))) + (IntKind.wrap .i64 y4)))) x.1)), IntKind.wrap .i64 ((IntKind.wrap .i64 (x.2 + (1 : Int))) + (IntKind.wrap .i64 y4))))))))
def m_w13q := p_w13q FU
def a_w13q : Ann := (.node .leaf (.node (.join [.slot 23 .bool] (rg 7 16) .leaf .leaf) .leaf))
def S_w13q : FSpec := ⟨[.val (.sl none (.int .u8)), .val (.int .i64)], [.str, (.int .i64)], m_w13q⟩
def l_w14q_1 (n : Nat) (x : Int) (z0 : ((List Int) × Int)) : Option (List Int) :=
(lp (fun rec3 (z2 : ((List Int) × Int)) =>
 (cond (decide (z2.2 ≥ (0 : Int)))
 (chk (decide (0 ≤ (IntKind.wrap .u64 (IntKind.wrap .i64 ((8 : Int) * z2.2)))))
 (chk (Nat.ble ((z2.1.length + [IntKind.wrap .u8 (Int.fdiv (IntKind.wrap .u64 x) (2 ^ (min (IntKind.wrap .u64 (IntKind.wrap .i64 ((8 : Int) * z2.2))).toNat 64)))].length) * 1) maxBytes)
 (rec3 ((z2.1 ++ [IntKind.wrap .u8 (Int.fdiv (IntKind.wrap .u64 x) (2 ^ (min (IntKind.wrap .u64 (IntKind.wrap .i64 ((8 : Int) * z2.2))).toNat 64)))]), IntKind.wrap .i64 (z2.2 - (1 : Int))))))
 (some z2.1))) n z0)
def p_w14q (n : Nat) (x : Int) : Option (List Int) :=
(l_w14q_1 n x (([] : List Int), (7 : Int)))
def m_w14q := p_w14q FU
def a_w14q : Ann := (.node .leaf (.node .leaf (.node (.node .leaf (.loop [.slot 3 Kd19, .slot 4 (.int .i64)] (rg 6 14) .leaf)) .leaf)))
def S_w14q : FSpec := ⟨[.val (.int .i64)], [Kd19], m_w14q⟩
def p_w15q (n : Nat) (x : ByteArray) : Option (Int × (List Int)) :=
(cond (decide (((x.size : Nat) : Int) > (200 : Int)))
 (some ((2 : Int), []))
 (chk (Nat.ble (([IntKind.wrap .u8 ((x.size : Nat) : Int)].length + (bytesNums x).length) * 1) maxBytes)
 (some ((0 : Int), ([IntKind.wrap .u8 ((x.size : Nat) : Int)] ++ (bytesNums x))))))
def m_w15q := p_w15q FU
def a_w15q : Ann := (.node .leaf (.node .leaf (.node (.own 12 (.int .u8) .leaf) .leaf)))
def S_w15q : FSpec := ⟨[.val .str], [Kd15], m_w15q⟩
def l_w16q_1 (n : Nat) (x_2 : Ty40) (z0 : ((List Int) × Int)) : Option (List Int) :=
(lp (fun rec8 (z7 : ((List Int) × Int)) =>
 (cond (decide (z7.2 < (lenI x_2)))
 ((geti x_2 z7.2).bind fun y9 =>
 (Option.bind (α := (List Int))
 (cond y9.2.2
 (chk (Nat.ble ((z7.1.length + [(1 : Int)].length) * 1) maxBytes)
 (some (z7.1 ++ [(1 : Int)])))
 (chk (Nat.ble ((z7.1.length + [(0 : Int)].length) * 1) maxBytes)
 (some (z7.1 ++ [(0 : Int)])))) fun j10 =>
 ((m_w15q y9.1).bind fun r11 =>
 (chk (Nat.ble ((j10.length + r11.2.length) * 1) maxBytes)
 (cond (!y9.2.2)
 ((m_w15q y9.2.1).bind fun r12 =>
 (chk (Nat.ble (((j10 ++ r11.2).length + r12.2.length) * 1) maxBytes)
 (rec8 (((j10 ++ r11.2) ++ r12.2), IntKind.wrap .i64 (z7.2 + (1 : Int))))))
 (rec8 ((j10 ++ r11.2), IntKind.wrap .i64 (z7.2 + (1 : Int)))))))))
 (some z7.1))) n z0)
def p_w16q (n : Nat) (x : Ty36) : Option (List Int) :=
((m_w14q x.1).bind fun r1 =>
(l_w16q_1 n x.2 (r1, (0 : Int))))
def m_w16q := p_w16q FU
def a_w16q : Ann := (.node .leaf (.node .leaf (.node (.node .leaf (.loop [.slot 5 Kd19, .slot 6 (.int .i64)] ([7] ++ rg 10 33) (.node .leaf (.node (.node .leaf (.join [.slot 5 Kd19] (rg 20 8) .leaf .leaf)) .leaf)))) .leaf)))
def S_w16q : FSpec := ⟨[.val (.int .i64), .val Kd16], [Kd19], m_w16q⟩
def l_w17q_1 (n : Nat) (z58 : Int) (x : Ty40) (y68_1 : ByteArray) (z0 : Int) : Option (Unit ⊕ (Unit ⊕ Int)) :=
(lp (fun rec73 (z72 : Int) =>
 (cond (decide (z72 < z58))
 ((geti x z72).bind fun y74 =>
 (cond (y74.1.toList == y68_1.toList)
 (some (Sum.inr (Sum.inr (7 : Int))))
 (rec73 (IntKind.wrap .i64 (z72 + (1 : Int))))))
 (some (Sum.inl ())))) n z0)
def l_w17q_2 (n : Nat) (x : Ty40) (z0 : Int) : Option (Unit ⊕ Int) :=
(lp (fun rec59 (z58 : Int) =>
 (cond (decide (z58 < (lenI x)))
 (Option.bind (α := (Unit ⊕ (Unit ⊕ Int)))
 ((geti x z58).bind fun y68 =>
 ((m_w5q (y68.1, ((1 : Int), y68.2))).bind fun r69 =>
 (cond (!(r69 == (0 : Int)))
 (some (Sum.inr (Sum.inr r69)))
 (l_w17q_1 n z58 x y68.1 (0 : Int)))))
 (Sum.elim (fun j76 =>
 rec59 (IntKind.wrap .i64 (z58 + (1 : Int)))) some))
 (some (Sum.inl ())))) n z0)
def p_w17q (n : Nat) (x : Ty40) : Option Int :=
(Option.bind (α := Bool)
 (cond (decide ((lenI x) < (1 : Int)))
 (some true)
 (some (decide ((lenI x) > (8 : Int))))) fun j1 =>
(cond j1
 (some (2 : Int))
 (Option.bind (α := (Unit ⊕ Int))
 (l_w17q_2 n x (0 : Int))
 (Sum.elim (fun j78 =>
 ((m_w16q ((1 : Int), x)).bind fun r79 =>
 (cond (decide ((lenI r79) > (500 : Int)))
 (some (2 : Int))
 (some (0 : Int))))) some))))
def m_w17q := p_w17q FU
def a_w17q : Ann := (.node .leaf (.node (.join [.slot 14 .bool] (rg 7 7) .leaf .leaf) (.joinx [] ([2, 3, 4, 5, 6] ++ rg 15 34) (.node .leaf (.loop [.slot 3 (.int .i64)] ([2, 4, 5, 6] ++ rg 15 34) (.node .leaf (.joinx [] ([2, 4, 5, 6] ++ rg 21 14 ++ rg 36 13) (.node .leaf (.node .leaf (.node .leaf (.loop [.slot 6 (.int .i64)] ([2] ++ rg 36 13) .leaf)))) .leaf)))) .leaf)))
def S_w17q : FSpec := ⟨[.val Kd16], [(.int .i64)], m_w17q⟩
def p_w18q (n : Nat) (x : Ty36) : Option (Int × (List Int)) :=
((m_w1q (x.1, (1 : Int), (1000000 : Int))).bind fun r1 =>
(cond (!r1)
 (some ((3 : Int), []))
 ((m_w17q x.2).bind fun r2 =>
 (cond (!(r2 == (0 : Int)))
 (some (r2, []))
 ((m_w16q (x.1, x.2)).bind fun r3 =>
 some ((0 : Int), r3))))))
def m_w18q := p_w18q FU
def a_w18q : Ann := .leaf
def S_w18q : FSpec := ⟨[.val (.int .i64), .val Kd16], [Kd15], m_w18q⟩
def l_w19q_1 (n : Nat) (x : (List Int)) (z0 : Ty37) : Option Ty12 :=
(lp (fun rec26 (z25 : Ty37) =>
 (cond (decide (z25.2 < (lenI x)))
 ((geti x z25.2).bind fun y27 =>
 ((geti x z25.2).bind fun y28 =>
 (cond (decide (y28 > (1 : Int)))
 (some (Sum.inr ((0 : Int), [], false)))
 ((m_w13q (x, IntKind.wrap .i64 (z25.2 + (1 : Int)))).bind fun r29 =>
 (cond (decide (r29.2 < (0 : Int)))
 (some (Sum.inr ((0 : Int), [], false)))
 (Option.bind (α := ((Int × Ty46) ⊕ Ty12))
 (cond (!(y27 == (1 : Int)))
 ((m_w13q (x, r29.2)).bind fun r31 =>
 (cond (decide (r31.2 < (0 : Int)))
 (some (Sum.inr (Sum.inr ((0 : Int), [], false))))
 (some (Sum.inl (r31.2, (r29.1, (r31.1, (y27 == (1 : Int)))))))))
 (some (Sum.inl (r29.2, (r29.1, ((⟨#[]⟩ : ByteArray), (y27 == (1 : Int))))))))
 (Sum.elim (fun j32 =>
 (chk (Nat.ble ((z25.1.length + [j32.2].length) * 40) maxBytes)
 (rec26 ((z25.1 ++ [j32.2]), j32.1)))) some)))))))
 (some (Sum.inl z25.1)))) n z0)
def p_w19q (n : Nat) (x : (List Int)) : Option Ty28 :=
(cond (decide ((lenI x) < (8 : Int)))
 (some ((0 : Int), [], false))
 (chk (bndB none (some (8 : Int)) none x.length)
 ((m_w12q (cutL none (some (8 : Int)) x)).bind fun r1 =>
 (Option.bind (α := Ty12)
 (l_w19q_1 n x (([] : List Ty46), (8 : Int)))
 (Sum.elim (fun j34 =>
 ((m_w18q (r1, j34)).bind fun r35 =>
 some (r1, j34, (r35.1 == (0 : Int))))) some)))))
def m_w19q := p_w19q FU
def a_w19q : Ann := (.node .leaf (.node .leaf (.node .leaf (.node .leaf (.node .leaf (.joinx [.slot 6 Kd14] ([2, 3, 4] ++ rg 7 6 ++ rg 20 45) (.loop [.slot 6 Kd14, .slot 7 (.int .i64)] ([2, 3, 4, 8, 9, 10, 11, 12] ++ rg 20 45) (.node .leaf (.node .leaf (.node .leaf (.node .leaf (.node .leaf (.node .leaf (.node .leaf (.joinx [.slot 7 (.int .i64), .box 2 Kd18] ([11, 12] ++ rg 47 14) .leaf .leaf))))))))) .leaf))))))
def S_w19q : FSpec := ⟨[.val (.sl none (.int .u8))], [(.int .i64), Kd14, .bool], m_w19q⟩
def l_w20q_1 (n : Nat) (x_1 : Int) (x_2 : Ty40) (z0 : Ty31) : Option Ty35 :=
(lp (fun rec6 (z5 : Ty31) =>
 (cond (decide (z5.2 < (lenI x_2)))
 ((geti x_2 z5.2).bind fun y7 =>
 ((geti x_2 z5.2).bind fun y8 =>
 ((geti x_2 z5.2).bind fun y9 =>
 (chk (Nat.ble ((z5.1.length + [(y7.1, (x_1, (y8.2.1, y9.2.2)))].length) * 48) maxBytes)
 (rec6 ((z5.1 ++ [(y7.1, (x_1, (y8.2.1, y9.2.2)))]), IntKind.wrap .i64 (z5.2 + (1 : Int))))))))
 (some z5.1))) n z0)
def p_w20q (n : Nat) (x : Ty36) : Option Ty35 :=
(l_w20q_1 n x.1 x.2 (([] : List Ty38), (0 : Int)))
def m_w20q := p_w20q FU
def a_w20q : Ann := (.node .leaf (.node .leaf (.node (.node .leaf (.loop [.slot 5 Kd9, .slot 6 (.int .i64)] (rg 8 26) (.node .leaf (.node (.lazy 32 .leaf) .leaf)))) .leaf)))
def S_w20q : FSpec := ⟨[.val (.int .i64), .val Kd16], [Kd9], m_w20q⟩
def l_w21q_1 (n : Nat) (x_1 : Ty35) (x_2 : Ty38) (z0 : Int) : Option Int :=
(lp (fun rec22 (z21 : Int) =>
 (Option.bind (α := Bool)
 (cond (decide (z21 < (lenI x_1)))
 ((geti x_1 z21).bind fun _ =>
 ((x_1[z21.toNat]?).bind fun y25 =>
 ((m_w6q (y25, x_2)).bind fun r26 =>
 some r26)))
 (some false)) fun j27 =>
 (cond j27
 (rec22 (IntKind.wrap .i64 (z21 + (1 : Int))))
 (some z21)))) n z0)
def p_w21q (n : Nat) (x : Ty14) : Option Ty29 :=
(Option.bind (α := Int)
 (l_w21q_1 n x.1 x.2 (0 : Int)) fun j29 =>
(Option.bind (α := Bool)
 (cond (decide (j29 < (lenI x.1)))
 ((geti x.1 j29).bind fun _ =>
 ((x.1[j29.toNat]?).bind fun y32 =>
 ((m_w6q (x.2, y32)).bind fun r33 =>
 some (!r33))))
 (some false)) fun j34 =>
(cond j34
 (some (x.1, true))
 (chk (bndB none (some j29) none x.1.length)
 (chk (bndB (some j29) none none x.1.length)
 (chk (Nat.ble (((x.1.drop 0).take j29.toNat).length * 48) maxBytes)
 (chk (Nat.ble ((((x.1.drop 0).take j29.toNat).length + [x.2].length) * 48) maxBytes)
 (chk (Nat.ble (((((x.1.drop 0).take j29.toNat) ++ [x.2]).length + ((x.1.drop j29.toNat).take (x.1.length - j29.toNat)).length) * 48) maxBytes)
 (some (((((x.1.drop 0).take j29.toNat) ++ [x.2]) ++ ((x.1.drop j29.toNat).take (x.1.length - j29.toNat))), true))))))))))
def m_w21q := p_w21q FU
def a_w21q : Ann := (.node .leaf (.node .leaf (.join [.slot 5 (.int .i64)] (rg 6 14) (.loop [.slot 5 (.int .i64)] (rg 6 14) (.node (.join [.slot 17 .bool] (rg 6 11) .leaf .leaf) .leaf)) (.node (.join [.slot 32 .bool] (rg 20 12) .leaf .leaf) (.node (.lazy 40 (.lazy 34 .leaf)) .leaf)))))
def S_w21q : FSpec := ⟨[.own 78 Kd12, .val Kd12], [Kd9], m_w21q⟩
def l_w22q_1 (n : Nat) (r50 : Ty35) (r48_1 : Int) (z0 : Ty31) : Option Ty10 :=
(lp (fun rec55 (z54 : Ty31) =>
 (cond (decide (z54.2 < (lenI r50)))
 ((geti r50 z54.2).bind fun _ =>
 ((r50[z54.2.toNat]?).bind fun y56 =>
 ((m_w21q (z54.1, y56)).bind fun r57 =>
 rec55 (r57.1, IntKind.wrap .i64 (z54.2 + (1 : Int))))))
 (some (Sum.inl (z54.1, r48_1))))) n z0)
def l_w22q_2 (n : Nat) (r2_1 : (List (List Int))) (x_2 : Int) (z0 : Ty24) : Option Ty29 :=
(lp (fun rec32 (z31 : Ty24) =>
 (cond (decide (z31.2.2 < (lenI r2_1)))
 (Option.bind (α := Ty10)
 ((geti r2_1 z31.2.2).bind fun _ =>
 ((r2_1[z31.2.2.toNat]?).bind fun y46 =>
 ((r2_1[z31.2.2.toNat]?).bind fun y47 =>
 ((m_w19q y47).bind fun r48 =>
 (Option.bind (α := Bool)
 (cond (!r48.2.2)
 (some true)
 (cond (decide (r48.1 ≤ z31.2.1))
 (some true)
 (some (decide (r48.1 ≥ x_2))))) fun j49 =>
 (cond j49
 (some (Sum.inr ([], false)))
 ((m_w20q (r48.1, r48.2.1)).bind fun r50 =>
 (l_w22q_1 n r50 r48.1 (z31.1, (0 : Int))))))))))
 (Sum.elim (fun j59 =>
 rec32 (j59.1, j59.2, IntKind.wrap .i64 (z31.2.2 + (1 : Int)))) some))
 (some (z31.1, true)))) n z0)
def p_w22q (n : Nat) (x : Ty41) : Option Ty29 :=
((m_w9q x.1).bind fun r1 =>
((m_w11q r1.1).bind fun r2 =>
(cond (decide (r2.2 < (IntKind.wrap .i64 ((lenI x.1.1) + (lenI x.1.2)))))
 (some ([], false))
 (l_w22q_2 n r2.1 x.2 (([] : List Ty38), (0 : Int), (0 : Int))))))
def m_w22q := p_w22q FU
def a_w22q : Ann := (.node .leaf (.node .leaf (.node .leaf (.node .leaf (.node .leaf (.node (.node .leaf (.loop [.slot 8 Kd9, .slot 9 (.int .i64), .slot 10 (.int .i64)] ([4, 5, 11, 12, 13, 14, 15] ++ rg 33 43) (.node .leaf (.joinx [.slot 8 Kd9, .slot 9 (.int .i64)] ([11, 12, 13, 14, 15] ++ rg 39 37) (.node .leaf (.node (.join [.slot 59 .bool] (rg 48 11) .leaf .leaf) (.node .leaf (.node .leaf (.node .leaf (.loop [.slot 8 Kd9, .slot 15 (.int .i64)] (rg 64 12) .leaf)))))) .leaf)))) .leaf))))))
def S_w22q : FSpec := ⟨[.val Kd13, .val (.int .i64)], [Kd9, .bool], m_w22q⟩
def l_w23q_1 (n : Nat) (x_1 : Ty35) (x_2 : Ty35) (z0 : Int) : Option Bool :=
(lp (fun rec5 (z4 : Int) =>
 (cond (decide (z4 < (lenI x_1)))
 ((geti x_1 z4).bind fun y6 =>
 ((geti x_2 z4).bind fun y7 =>
 (cond (!((y6.1.toList == y7.1.toList) && ((y6.2.1 == y7.2.1) && ((y6.2.2.1.toList == y7.2.2.1.toList) && ((y6.2.2.2 == y7.2.2.2) && true)))))
 (some false)
 (rec5 (IntKind.wrap .i64 (z4 + (1 : Int)))))))
 (some true))) n z0)
def p_w23q (n : Nat) (x : Ty13) : Option Bool :=
(cond (!((lenI x.1) == (lenI x.2)))
 (some false)
 (l_w23q_1 n x.1 x.2 (0 : Int)))
def m_w23q := p_w23q FU
def a_w23q : Ann := (.node .leaf (.node .leaf (.node (.node .leaf (.loop [.slot 5 (.int .i64)] ([4] ++ rg 11 15) .leaf)) .leaf)))
def S_w23q : FSpec := ⟨[.val Kd10, .val Kd10], [.bool], m_w23q⟩
def l_w24q_1 (n : Nat) (x_2_2_1 : Ty33) (z0 : Int) : Option (Unit ⊕ Int) :=
(lp (fun rec15 (z14 : Int) =>
 (cond (decide (z14 < (lenI x_2_2_1)))
 ((geti x_2_2_1 z14).bind fun y16 =>
 ((m_w7q y16).bind fun r17 =>
 (cond (!(r17 == (0 : Int)))
 (some (Sum.inr r17))
 (rec15 (IntKind.wrap .i64 (z14 + (1 : Int)))))))
 (some (Sum.inl ())))) n z0)
def l_w24q_2 (n : Nat) (x_2_2_1 : Ty33) (x_2_2_2 : Int) (z0 : Int) : Option (Unit ⊕ Int) :=
(lp (fun rec37 (z36 : Int) =>
 (cond (decide (z36 < (lenI x_2_2_1)))
 ((geti x_2_2_1 z36).bind fun y38 =>
 ((m_w8q (y38, x_2_2_2)).bind fun r39 =>
 (cond (!r39)
 (some (Sum.inr (3 : Int)))
 (rec37 (IntKind.wrap .i64 (z36 + (1 : Int)))))))
 (some (Sum.inl ())))) n z0)
def l_w24q_3 (n : Nat) (x_2_1 : Ty35) (x_2_2_1 : Ty33) (z68 : Int) (z0 : Int) : Option (Unit ⊕ Int) :=
(lp (fun rec85 (z84 : Int) =>
 (cond (decide (z84 < (lenI x_2_2_1)))
 ((geti x_2_2_1 z84).bind fun y86 =>
 ((geti x_2_1 z68).bind fun y87 =>
 ((m_w8q (y86, y87.2.1)).bind fun r88 =>
 (cond (!r88)
 (some (Sum.inr (1 : Int)))
 (rec85 (IntKind.wrap .i64 (z84 + (1 : Int))))))))
 (some (Sum.inl ())))) n z0)
def l_w24q_4 (n : Nat) (x_2_1 : Ty35) (x_2_2_1 : Ty33) (z0 : Int) : Option Int :=
(lp (fun rec69 (z68 : Int) =>
 (cond (decide (z68 < (lenI x_2_1)))
 (Option.bind (α := (Unit ⊕ Int))
 (l_w24q_3 n x_2_1 x_2_2_1 z68 (0 : Int))
 (Sum.elim (fun j90 =>
 rec69 (IntKind.wrap .i64 (z68 + (1 : Int)))) some))
 (some (0 : Int)))) n z0)
def p_w24q (n : Nat) (x : Ty9) : Option Int :=
((m_w4q x.1).bind fun r1 =>
(cond (!(r1 == (0 : Int)))
 (some r1)
 ((m_w7q x.2.1).bind fun r2 =>
 (cond (!(r2 == (0 : Int)))
 (some r2)
 (cond (decide ((lenI x.2.2.1) > (6 : Int)))
 (some (2 : Int))
 (Option.bind (α := (Unit ⊕ Int))
 (l_w24q_1 n x.2.2.1 (0 : Int))
 (Sum.elim (fun j19 =>
 (Option.bind (α := Bool)
 ((m_w1q (x.2.2.2, (1 : Int), (1000000 : Int))).bind fun r22 =>
 (cond (!r22)
 (some true)
 ((m_w8q (x.2.1, x.2.2.2)).bind fun r23 =>
 some (!r23)))) fun j24 =>
 (cond j24
 (some (3 : Int))
 (Option.bind (α := (Unit ⊕ Int))
 (l_w24q_2 n x.2.2.1 x.2.2.2 (0 : Int))
 (Sum.elim (fun j41 =>
 ((m_w22q (x.1, x.2.2.2)).bind fun r42 =>
 (Option.bind (α := Bool)
 (cond (!r42.2)
 (some true)
 ((m_w23q (r42.1, x.2.1)).bind fun r44 =>
 some (!r44))) fun j45 =>
 (cond j45
 (some (1 : Int))
 (l_w24q_4 n x.2.1 x.2.2.1 (0 : Int)))))) some))))) some)))))))
def m_w24q := p_w24q FU
def a_w24q : Ann := (.node .leaf (.node .leaf (.node .leaf (.node .leaf (.joinx [] ([2, 5, 6] ++ rg 28 16) (.node .leaf (.loop [.slot 5 (.int .i64)] ([2, 6] ++ rg 28 16) .leaf)) (.node (.join [.slot 55 .bool] (rg 44 11) .leaf .leaf) (.joinx [] ([2, 7] ++ rg 56 16) (.node .leaf (.loop [.slot 7 (.int .i64)] ([2] ++ rg 56 16) .leaf)) (.node .leaf (.node (.join [.slot 88 .bool] (rg 80 8) .leaf .leaf) (.node (.node .leaf (.loop [.slot 10 (.int .i64)] ([2, 11] ++ rg 89 27) (.node .leaf (.joinx [] ([2, 11] ++ rg 96 20) (.node .leaf (.loop [.slot 11 (.int .i64)] ([2] ++ rg 96 20) .leaf)) .leaf)))) .leaf))))))))))
def S_w24q : FSpec := ⟨[.val Kd3], [(.int .i64)], m_w24q⟩
def p_w25q (n : Nat) (x : Ty49) : Option Ty49 :=
(chk (Nat.ble (x.1.length * 1) maxBytes)
(chk (Nat.ble (x.2.length * 1) maxBytes)
(some x)))
def m_w25q := p_w25q FU
def a_w25q : Ann := (.node .leaf (.node (.lazy 7 (.lazy 3 .leaf)) .leaf))
def S_w25q : FSpec := ⟨[.val Kd13], [Kd11], m_w25q⟩
def l_w26q_1 (n : Nat) (x_2_2_1 : Ty33) (z0 : Ty7) : Option Ty9 :=
(lp (fun rec7 (z6 : Ty7) =>
 (cond (decide (z6.1 < (lenI x_2_2_1)))
 ((geti x_2_2_1 z6.1).bind fun y8 =>
 (chk (Nat.ble (y8.length * 48) maxBytes)
 (chk (Nat.ble ((z6.2.2.2.1.length + [y8].length) * 24) maxBytes)
 (rec7 (IntKind.wrap .i64 (z6.1 + (1 : Int)), (z6.2.1, (z6.2.2.1, ((z6.2.2.2.1 ++ [y8]), z6.2.2.2.2))))))))
 (some z6.2))) n z0)
def p_w26q (n : Nat) (x : Ty9) : Option Ty9 :=
(same
 ((m_w25q x.1).bind fun r1 =>
 (dup 1
 (chk (Nat.ble (x.2.1.length * 48) maxBytes)
 (l_w26q_1 n x.2.2.1 ((0 : Int), (r1, (x.2.1, ([], x.2.2.2))))))))
 ((m_w25q x.1).bind fun r1 =>
 (chk (Nat.ble (x.2.1.length * 48) maxBytes)
 (l_w26q_1 n x.2.2.1 ((0 : Int), (r1, (x.2.1, ([], x.2.2.2))))))))
def m_w26q := p_w26q FU
def a_w26q : Ann := (.node .leaf (.node (.lazy 8 .leaf) (.node (.node .leaf (.loop [.slot 4 (.int .i64), .box 1000003 Kd2] (rg 15 19) (.node .leaf (.node (.own 31 Kd9 (.lazy 24 .leaf)) .leaf)))) .leaf)))
def S_w26q : FSpec := ⟨[.val Kd3], [Kd2], m_w26q⟩
def p_w27q (n : Nat) (x : Ty9) : Option Ty6 :=
((m_w24q x).bind fun r1 =>
(cond (!(r1 == (0 : Int)))
 (some (r1, ((0 : Int), (([], []), ([], ([], (0 : Int)))))))
 (cond ((lenI x.2.1) == (0 : Int))
 (some ((4 : Int), ((0 : Int), (([], []), ([], ([], (0 : Int)))))))
 (cond (decide ((lenI x.2.2.1) ≥ (6 : Int)))
 (some ((2 : Int), ((0 : Int), (([], []), ([], ([], (0 : Int)))))))
 ((m_w26q x).bind fun r2 =>
 (chk (Nat.ble (([r2.2.1].length + r2.2.2.1.length) * 24) maxBytes)
 (some ((0 : Int), ((0 : Int), (([], []), ([], (([r2.2.1] ++ r2.2.2.1), x.2.2.2))))))))))))
def m_w27q := p_w27q FU
def a_w27q : Ann := (.node .leaf (.node .leaf (.node .leaf (.node .leaf (.node .leaf (.node (.own 25 Kd9 .leaf) .leaf))))))
def S_w27q : FSpec := ⟨[.val Kd3], [Kd1], m_w27q⟩
def l_w28q_1 (n : Nat) (x : Ty33) (z27_2 : Int) (z0 : Ty31) : Option Ty35 :=
(lp (fun rec47 (z46 : Ty31) =>
 ((geti x z27_2).bind fun y48 =>
 (cond (decide (z46.2 < (lenI y48)))
 ((geti x z27_2).bind fun y49 =>
 ((geti y49 z46.2).bind fun y50 =>
 ((m_w21q (z46.1, y50)).bind fun r51 =>
 rec47 (r51.1, IntKind.wrap .i64 (z46.2 + (1 : Int))))))
 (some z46.1)))) n z0)
def l_w28q_2 (n : Nat) (x : Ty33) (z0 : Ty31) : Option Ty35 :=
(lp (fun rec28 (z27 : Ty31) =>
 (cond (decide (z27.2 < (lenI x)))
 (Option.bind (α := Ty35)
 (l_w28q_1 n x z27.2 (z27.1, (0 : Int))) fun j53 =>
 rec28 (j53, IntKind.wrap .i64 (z27.2 + (1 : Int))))
 (some z27.1))) n z0)
def p_w28q (n : Nat) (x : Ty33) : Option Ty35 :=
(l_w28q_2 n x (([] : List Ty38), (0 : Int)))
def m_w28q := p_w28q FU
def a_w28q : Ann := (.node .leaf (.node .leaf (.node (.node .leaf (.loop [.slot 3 Kd9, .slot 4 (.int .i64)] ([5] ++ rg 7 24) (.node .leaf (.join [.slot 3 Kd9] ([5] ++ rg 13 18) (.node .leaf (.loop [.slot 3 Kd9, .slot 5 (.int .i64)] (rg 13 18) .leaf)) .leaf)))) .leaf)))
def S_w28q : FSpec := ⟨[.val Kd8], [Kd9], m_w28q⟩
def l_w29q_1 (n : Nat) (x : Ty33) (z0 : Int) : Option Ty22 :=
(lp (fun rec13 (z12 : Int) =>
 (cond (decide (z12 < (lenI x)))
 ((geti x z12).bind fun y14 =>
 ((m_w7q y14).bind fun r15 =>
 (cond (!(r15 == (0 : Int)))
 (some (Sum.inr (r15, [])))
 (rec13 (IntKind.wrap .i64 (z12 + (1 : Int)))))))
 (some (Sum.inl ())))) n z0)
def p_w29q (n : Nat) (x : Ty33) : Option Ty32 :=
(cond (decide ((lenI x) > (8 : Int)))
 (some ((2 : Int), []))
 (Option.bind (α := Ty22)
 (l_w29q_1 n x (0 : Int))
 (Sum.elim (fun j17 =>
 ((m_w28q x).bind fun r18 =>
 (cond (decide ((lenI r18) > (200 : Int)))
 (some ((2 : Int), []))
 (some ((0 : Int), r18))))) some)))
def m_w29q := p_w29q FU
def a_w29q : Ann := (.node .leaf (.node .leaf (.joinx [] ([3, 4] ++ rg 10 15) (.node .leaf (.loop [.slot 3 (.int .i64)] ([4] ++ rg 10 15) .leaf)) .leaf)))
def S_w29q : FSpec := ⟨[.val Kd8], [Kd4], m_w29q⟩
def l_w30q_1 (n : Nat) (z141_2 : Int) (x_1 : Ty35) (x_2 : Int) (z0 : (Bool × Int)) : Option Bool :=
(lp (fun rec180 (z179 : (Bool × Int)) =>
 (cond (decide (z179.2 < z141_2))
 (cond z179.1
 (rec180 (true, IntKind.wrap .i64 (z179.2 + (1 : Int))))
 ((geti x_1 z179.2).bind fun y181 =>
 ((geti x_1 z141_2).bind fun y182 =>
 (cond (y181.1.toList == y182.1.toList)
 ((geti x_1 z179.2).bind fun y183 =>
 rec180 ((decide (y183.2.1 ≤ x_2)), IntKind.wrap .i64 (z179.2 + (1 : Int))))
 (rec180 (false, IntKind.wrap .i64 (z179.2 + (1 : Int))))))))
 (some z179.1))) n z0)
def l_w30q_2 (n : Nat) (x_1 : Ty35) (x_2 : Int) (z0 : Ty31) : Option Ty35 :=
(lp (fun rec142 (z141 : Ty31) =>
 (cond (decide (z141.2 < (lenI x_1)))
 (Option.bind (α := Ty35)
 (Option.bind (α := Bool)
 (l_w30q_1 n z141.2 x_1 x_2 (false, (0 : Int))) fun j185 =>
 (cond (!j185)
 ((geti x_1 z141.2).bind fun y186 =>
 (chk (Nat.ble ((z141.1.length + [y186].length) * 48) maxBytes)
 (some (z141.1 ++ [y186]))))
 (some z141.1))) fun j187 =>
 rec142 (j187, IntKind.wrap .i64 (z141.2 + (1 : Int))))
 (some z141.1))) n z0)
def l_w30q_3 (n : Nat) (j189 : Ty35) (x_2 : Int) (z0 : Ty31) : Option Ty35 :=
(lp (fun rec203 (z202 : Ty31) =>
 (cond (decide (z202.2 < (lenI j189)))
 (Option.bind (α := Bool)
 (cond (z202.2 == (IntKind.wrap .i64 ((lenI j189) - (1 : Int))))
 (some true)
 ((geti j189 (IntKind.wrap .i64 (z202.2 + (1 : Int)))).bind fun _ =>
 ((j189[(IntKind.wrap .i64 (z202.2 + (1 : Int))).toNat]?).bind fun y206 =>
 ((geti j189 z202.2).bind fun _ =>
 ((j189[z202.2.toNat]?).bind fun y207 =>
 some (!(y206.1.toList == y207.1.toList))))))) fun j208 =>
 (Option.bind (α := Bool)
 ((geti j189 z202.2).bind fun _ =>
 ((j189[z202.2.toNat]?).bind fun y211 =>
 (cond (!y211.2.2.2)
 (some true)
 ((geti j189 z202.2).bind fun _ =>
 ((j189[z202.2.toNat]?).bind fun y212 =>
 (cond (decide (y212.2.1 > x_2))
 (some true)
 (some (!j208)))))))) fun j213 =>
 (cond j213
 ((geti j189 z202.2).bind fun _ =>
 ((j189[z202.2.toNat]?).bind fun y214 =>
 (chk (Nat.ble ((z202.1.length + [y214].length) * 48) maxBytes)
 (rec203 ((z202.1 ++ [y214]), IntKind.wrap .i64 (z202.2 + (1 : Int)))))))
 (rec203 (z202.1, IntKind.wrap .i64 (z202.2 + (1 : Int)))))))
 (some z202.1))) n z0)
def p_w30q (n : Nat) (x : Ty31) : Option Ty35 :=
(Option.bind (α := Ty35)
 (l_w30q_2 n x.1 x.2 (([] : List Ty38), (0 : Int))) fun j189 =>
(l_w30q_3 n j189 x.2 (([] : List Ty38), (0 : Int))))
def m_w30q := p_w30q FU
def a_w30q : Ann := (.node .leaf (.node .leaf (.join [.slot 5 Kd9] ([6, 7, 8] ++ rg 13 43) (.node .leaf (.loop [.slot 5 Kd9, .slot 6 (.int .i64)] ([7, 8] ++ rg 13 43) (.node .leaf (.join [.slot 5 Kd9] ([7, 8] ++ rg 19 37) (.node .leaf (.join [.slot 7 .bool] ([8] ++ rg 19 28) (.node .leaf (.loop [.slot 7 .bool, .slot 8 (.int .i64)] (rg 19 28) .leaf)) .leaf)) .leaf)))) (.node .leaf (.node (.node .leaf (.loop [.slot 9 Kd9, .slot 10 (.int .i64)] ([11] ++ rg 57 51) (.node .leaf (.node (.join [.slot 11 .bool] (rg 63 19) .leaf (.join [.slot 100 .bool] (rg 82 18) .leaf .leaf)) .leaf)))) .leaf)))))
def S_w30q : FSpec := ⟨[.val Kd10, .val (.int .i64)], [Kd9], m_w30q⟩
def p_w31q (n : Nat) (x : Ty8) : Option Ty6 :=
((m_w24q x.1).bind fun r1 =>
(cond (!(r1 == (0 : Int)))
 (some (r1, ((0 : Int), (([], []), ([], ([], (0 : Int)))))))
 (cond (decide ((lenI x.1.2.2.1) < (2 : Int)))
 (some ((4 : Int), ((0 : Int), (([], []), ([], ([], (0 : Int)))))))
 ((m_w29q x.1.2.2.1).bind fun r2 =>
 (cond (!(r2.1 == (0 : Int)))
 (some (r2.1, ((0 : Int), (([], []), ([], ([], (0 : Int)))))))
 ((m_w26q x.1).bind fun r3 =>
 ((m_w30q (r2.2, x.2)).bind fun r4 =>
 some ((0 : Int), ((0 : Int), (r3.1, (r3.2.1, ([r4], r3.2.2.2))))))))))))
def m_w31q := p_w31q FU
def a_w31q : Ann := (.node .leaf (.node .leaf (.node .leaf (.node .leaf (.node .leaf (.node .leaf (.node (.own 34 Kd9 .leaf) .leaf)))))))
def S_w31q : FSpec := ⟨[.val Kd3, .val (.int .i64)], [Kd1], m_w31q⟩
def p_w32q (n : Nat) (x : ((List Int) × Int)) : Option (ByteArray × ((List Int) × Int)) :=
((m_w3q (x, (5 : Int))).bind fun r1 =>
((geti [(⟨#[97]⟩ : ByteArray), (⟨#[98]⟩ : ByteArray), (⟨#[97, 98]⟩ : ByteArray), (⟨#[107, 49]⟩ : ByteArray), (⟨#[107, 50]⟩ : ByteArray)] r1.1).bind fun _ =>
(([(⟨#[97]⟩ : ByteArray), (⟨#[98]⟩ : ByteArray), (⟨#[97, 98]⟩ : ByteArray), (⟨#[107, 49]⟩ : ByteArray), (⟨#[107, 50]⟩ : ByteArray)][r1.1.toNat]?).bind fun y2 =>
some (y2, r1.2))))
def m_w32q := p_w32q FU
def a_w32q : Ann := .leaf
def S_w32q : FSpec := ⟨[.box Kd17], [.str], m_w32q⟩
def p_w33q (n : Nat) (x : Ty47) : Option (Bool × ((List Int) × Int)) :=
((m_w3q (x.1, x.2)).bind fun r1 =>
some ((r1.1 == (0 : Int)), r1.2))
def m_w33q := p_w33q FU
def a_w33q : Ann := .leaf
def S_w33q : FSpec := ⟨[.box Kd17, .val (.int .i64)], [.bool], m_w33q⟩
def p_w34q (n : Nat) (x : ((List Int) × Int)) : Option Ty25 :=
((m_w32q x).bind fun r1 =>
((m_w3q (r1.2, (9 : Int))).bind fun r2 =>
((m_w3q (r2.2, (4 : Int))).bind fun r3 =>
((geti [(⟨#[120]⟩ : ByteArray), (⟨#[121]⟩ : ByteArray), (⟨#[]⟩ : ByteArray), (⟨#[122, 122]⟩ : ByteArray)] r3.1).bind fun _ =>
(([(⟨#[120]⟩ : ByteArray), (⟨#[121]⟩ : ByteArray), (⟨#[]⟩ : ByteArray), (⟨#[122, 122]⟩ : ByteArray)][r3.1.toNat]?).bind fun y4 =>
((m_w33q (r3.2, (4 : Int))).bind fun r5 =>
(cond r5.1
 (some ((r1.1, (IntKind.wrap .i64 ((1 : Int) + r2.1), ((⟨#[]⟩ : ByteArray), true))), r5.2))
 (some ((r1.1, (IntKind.wrap .i64 ((1 : Int) + r2.1), (y4, false))), r5.2)))))))))
def m_w34q := p_w34q FU
def a_w34q : Ann := .leaf
def S_w34q : FSpec := ⟨[.box Kd17], [Kd12], m_w34q⟩
def l_w35q_1 (n : Nat)  (z0 : Ty19) : Option Ty27 :=
(lp (fun rec21 (z20 : Ty19) =>
 (cond (decide (z20.2.1 > (0 : Int)))
 ((m_w34q z20.2.2).bind fun r22 =>
 (chk (Nat.ble (z20.1.length * 40) maxBytes)
 (chk (Nat.ble ((z20.1.length + [(r22.1.1, r22.1.2.2)].length) * 40) maxBytes)
 ((m_w17q (z20.1 ++ [(r22.1.1, r22.1.2.2)])).bind fun r23 =>
 (cond (r23 == (0 : Int))
 (rec21 ((z20.1 ++ [(r22.1.1, r22.1.2.2)]), IntKind.wrap .i64 (z20.2.1 - (1 : Int)), r22.2))
 (rec21 (z20.1, IntKind.wrap .i64 (z20.2.1 - (1 : Int)), r22.2)))))))
 (some (z20.1, z20.2.2)))) n z0)
def l_w35q_2 (n : Nat)  (z0 : Ty46) : Option Ty46 :=
(lp (fun rec74 (z73 : Ty46) =>
 (cond (decide (((z73.2.1.size : Nat) : Int) < (100 : Int)))
 (chk (Nat.ble (z73.2.1.size + (⟨#[119]⟩ : ByteArray).size) 9223372036854775807)
 (rec74 (z73.1, ((z73.2.1 ++ (⟨#[119]⟩ : ByteArray)), z73.2.2))))
 (some z73))) n z0)
def l_w35q_3 (n : Nat) (r26_2 : ((List Int) × Int)) (z0 : Ty37) : Option Ty27 :=
(lp (fun rec54 (z53 : Ty37) =>
 (cond (decide (z53.2 < (5 : Int)))
 (Option.bind (α := Ty40)
 (chk (Nat.ble ((⟨#[107, 101, 121]⟩ : ByteArray).size + (strOfNums [IntKind.wrap .u8 (IntKind.wrap .i64 ((65 : Int) + z53.2))]).size) 9223372036854775807)
 (Option.bind (α := Ty46)
 (l_w35q_2 n  (((⟨#[107, 101, 121]⟩ : ByteArray) ++ (strOfNums [IntKind.wrap .u8 (IntKind.wrap .i64 ((65 : Int) + z53.2))])), ((⟨#[]⟩ : ByteArray), false))) fun j76 =>
 (chk (Nat.ble ((z53.1.length + [j76].length) * 40) maxBytes)
 (some (z53.1 ++ [j76]))))) fun j77 =>
 rec54 (j77, IntKind.wrap .i64 (z53.2 + (1 : Int))))
 (some (z53.1, r26_2)))) n z0)
def p_w35q (n : Nat) (x : ((List Int) × Int)) : Option Ty27 :=
(Option.bind (α := Ty27)
 ((m_w3q (x, (3 : Int))).bind fun r13 =>
 (l_w35q_1 n  (([] : List Ty46), IntKind.wrap .i64 ((1 : Int) + r13.1), r13.2))) fun j25 =>
((m_w3q (j25.2, (20 : Int))).bind fun r26 =>
(cond (r26.1 == (0 : Int))
 ((geti j25.1 (0 : Int)).bind fun _ =>
 ((j25.1[(0 : Int).toNat]?).bind fun y27 =>
 some ((j25.1.set ((0 : Int).toNat) ((⟨#[]⟩ : ByteArray), y27.2)), r26.2)))
 (cond (r26.1 == (1 : Int))
 ((geti j25.1 (0 : Int)).bind fun _ =>
 ((j25.1[(0 : Int).toNat]?).bind fun y28 =>
 (chk (Nat.ble ((j25.1.length + [y28].length) * 40) maxBytes)
 (some ((j25.1 ++ [y28]), r26.2)))))
 (cond (r26.1 == (2 : Int))
 (some ([], r26.2))
 (cond (r26.1 == (3 : Int))
 (if (9 : Int) = (9 : Int) then (if 0 ≤ (9 : Int) then chk (Nat.ble (40 * (9 : Int).toNat) maxBytes)
 (some ((List.replicate (9 : Int).toNat ((⟨#[]⟩ : ByteArray), ((⟨#[]⟩ : ByteArray), false))), r26.2)) else none) else none)
 (cond (r26.1 == (4 : Int))
 (l_w35q_3 n r26.2 (j25.1, (0 : Int)))
 (some (j25.1, r26.2)))))))))
def m_w35q := p_w35q FU
def a_w35q : Ann := (.node .leaf (.node .leaf (.join [.slot 3 Kd14, .box 0 Kd17] ([4, 5, 6, 7] ++ rg 11 26) (.node .leaf (.loop [.slot 3 Kd14, .slot 4 (.int .i64), .box 0 Kd17] ([5, 6, 7] ++ rg 14 23) (.node .leaf (.node (.node .leaf (.node .leaf (.node (.lazy 31 (.lazy 27 .leaf)) .leaf))) .leaf)))) (.node (.node .leaf (.node .leaf (.node .leaf (.node .leaf (.node .leaf (.node .leaf (.node .leaf (.node .leaf (.node .leaf (.node .leaf (.node (.node .leaf (.loop [.slot 3 Kd14, .slot 8 (.int .i64)] ([9] ++ rg 59 23) (.node .leaf (.join [.slot 3 Kd14] ([9] ++ rg 63 19) (.node .leaf (.join [.box 5 Kd18] (rg 70 8) (.loop [.box 5 Kd18] (rg 70 8) .leaf) .leaf)) .leaf)))) .leaf))))))))))) .leaf))))
def S_w35q : FSpec := ⟨[.box Kd17], [Kd14], m_w35q⟩
def p_w36q (n : Nat) (x : Int) : Option (List Int) :=
(cond ((256 : Int) == 0) none
 (cond ((256 : Int) == 0) none
 (some [IntKind.wrap .u8 (IntKind.wrap .i64 (Int.tdiv x (256 : Int))), IntKind.wrap .u8 (Int.tmod x (256 : Int))])))
def m_w36q := p_w36q FU
def a_w36q : Ann := .leaf
def S_w36q : FSpec := ⟨[.val (.int .i64)], [Kd19], m_w36q⟩
def p_w37q (n : Nat) (x : (List Int)) : Option (List Int) :=
((m_w36q (lenI x)).bind fun r1 =>
((m_w10q x).bind fun r2 =>
((m_w36q r2).bind fun r3 =>
(chk (Nat.ble ((r1.length + r3.length) * 1) maxBytes)
(chk (Nat.ble (((r1 ++ r3).length + x.length) * 1) maxBytes)
(some ((r1 ++ r3) ++ x)))))))
def m_w37q := p_w37q FU
def a_w37q : Ann := .leaf
def S_w37q : FSpec := ⟨[.val (.sl none (.int .u8))], [Kd19], m_w37q⟩
def p_w38q (n : Nat) (x : Ty39) : Option Ty41 :=
((m_w25q x.1).bind fun r1 =>
((m_w37q x.2).bind fun r2 =>
(chk (Nat.ble ((r1.2.length + r2.length) * 1) maxBytes)
((m_w4q (r1.1, (r1.2 ++ r2))).bind fun r3 =>
some ((r1.1, (r1.2 ++ r2)), r3)))))
def m_w38q := p_w38q FU
def a_w38q : Ann := .leaf
def S_w38q : FSpec := ⟨[.val Kd13, .val (.sl none (.int .u8))], [Kd11, (.int .i64)], m_w38q⟩
def l_w39q_1 (n : Nat) (r9 : Ty35) (z0 : Ty7) : Option Ty9 :=
(lp (fun rec28 (z27 : Ty7) =>
 (cond (decide (z27.1 < (lenI r9)))
 ((geti r9 z27.1).bind fun _ =>
 ((r9[z27.1.toNat]?).bind fun y29 =>
 ((m_w21q (z27.2.2.1, y29)).bind fun r30 =>
 rec28 (IntKind.wrap .i64 (z27.1 + (1 : Int)), (z27.2.1, (r30.1, z27.2.2.2))))))
 (some z27.2))) n z0)
def p_w39q (n : Nat) (x : Ty1) : Option Ty6 :=
((m_w24q x.1).bind fun r1 =>
(cond (!(r1 == (0 : Int)))
 (some (r1, ((0 : Int), (([], []), ([], ([], (0 : Int)))))))
 ((m_w17q x.2.1).bind fun r2 =>
 (cond (!(r2 == (0 : Int)))
 (some (r2, ((0 : Int), (([], []), ([], ([], (0 : Int)))))))
 (cond (x.1.2.2.2 == (1000000 : Int))
 (some ((3 : Int), ((0 : Int), (([], []), ([], ([], (0 : Int)))))))
 ((m_w26q x.1).bind fun r3 =>
 (same
 ((m_w16q (x.1.2.2.2, x.2.1)).bind fun r4 =>
 (dup 1
 ((m_w38q (x.1.1, r4)).bind fun r5 =>
 (cond (!(r5.2 == (0 : Int)))
 (some (r5.2, ((0 : Int), (([], []), ([], ([], (0 : Int)))))))
 (Option.bind (α := Ty49)
 (cond x.2.2
 ((m_w9q r5.1).bind fun r7 =>
 some r7)
 (some r5.1)) fun j8 =>
 ((m_w20q (x.1.2.2.2, x.2.1)).bind fun r9 =>
 (Option.bind (α := Ty9)
 (l_w39q_1 n r9 ((0 : Int), (j8, r3.2))) fun j32 =>
 (cond (decide ((lenI j32.2.1) > (200 : Int)))
 (some ((2 : Int), ((0 : Int), (([], []), ([], ([], (0 : Int)))))))
 (some ((0 : Int), (x.1.2.2.2, (j32.1, (j32.2.1, (j32.2.2.1, IntKind.wrap .i64 (x.1.2.2.2 + (1 : Int))))))))))))))))
 ((m_w16q (x.1.2.2.2, x.2.1)).bind fun r4 =>
 ((m_w38q (x.1.1, r4)).bind fun r5 =>
 (cond (!(r5.2 == (0 : Int)))
 (some (r5.2, ((0 : Int), (([], []), ([], ([], (0 : Int)))))))
 (Option.bind (α := Ty49)
 (cond x.2.2
 ((m_w9q r5.1).bind fun r7 =>
 some r7)
 (some r5.1)) fun j8 =>
 ((m_w20q (x.1.2.2.2, x.2.1)).bind fun r9 =>
 (Option.bind (α := Ty9)
 (l_w39q_1 n r9 ((0 : Int), (j8, r3.2))) fun j32 =>
 (cond (decide ((lenI j32.2.1) > (200 : Int)))
 (some ((2 : Int), ((0 : Int), (([], []), ([], ([], (0 : Int)))))))
 (some ((0 : Int), (x.1.2.2.2, (j32.1, (j32.2.1, (j32.2.2.1, IntKind.wrap .i64 (x.1.2.2.2 + (1 : Int))))))))))))))))))))))
def m_w39q := p_w39q FU
def a_w39q : Ann := (.node .leaf (.node .leaf (.node .leaf (.node .leaf (.node .leaf (.node .leaf (.node .leaf (.join [.box 1000010 Kd11] [46, 47, 48] .leaf (.node .leaf (.node .leaf (.join [.box 1000009 Kd2] ([13] ++ rg 55 14) (.node .leaf (.loop [.slot 13 (.int .i64), .box 1000009 Kd2] (rg 55 14) .leaf)) .leaf)))))))))))
def S_w39q : FSpec := ⟨[.val Kd3, .val Kd16, .val .bool], [Kd1], m_w39q⟩
def p_w40q (n : Nat) (x : Ty42) : Option Ty48 :=
((m_w3q (x.1, lenI x.2)).bind fun r1 =>
((geti x.2 r1.1).bind fun y2 =>
some (y2, r1.2)))
def m_w40q := p_w40q FU
def a_w40q : Ann := .leaf
def S_w40q : FSpec := ⟨[.box Kd17, .val Kd20], [(.int .i64)], m_w40q⟩
def l_w41q_1 (n : Nat)  (z0 : (((List Int) × Int) × Ty38)) : Option Ty25 :=
(lp (fun rec11 (z10 : (((List Int) × Int) × Ty38)) =>
 ((m_w3q (z10.1, (2 : Int))).bind fun r12 =>
 (cond (decide (((z10.2.2.2.1.size : Nat) : Int) < (IntKind.wrap .i64 ((100 : Int) + r12.1))))
 (chk (Nat.ble (z10.2.2.2.1.size + (⟨#[118]⟩ : ByteArray).size) 9223372036854775807)
 (rec11 (r12.2, (z10.2.1, (z10.2.2.1, ((z10.2.2.2.1 ++ (⟨#[118]⟩ : ByteArray)), z10.2.2.2.2))))))
 (some (z10.2, r12.2))))) n z0)
def p_w41q (n : Nat) (x : ((List Int) × Int)) : Option Ty25 :=
((m_w34q x).bind fun r1 =>
((m_w3q (r1.2, (12 : Int))).bind fun r2 =>
(cond (r2.1 == (0 : Int))
 ((m_w3q (r2.2, (3 : Int))).bind fun r3 =>
 ((geti [(⟨#[]⟩ : ByteArray), (⟨#[97, 98, 99, 100, 101, 102, 103, 104, 105, 106, 107, 108, 109, 110, 111, 112, 113, 114, 115, 116]⟩ : ByteArray), (⟨#[97, 98, 99, 100, 101, 102, 103, 104, 105, 106, 107, 108, 109, 110, 111, 112, 113, 114, 115, 116, 117]⟩ : ByteArray)] r3.1).bind fun _ =>
 (([(⟨#[]⟩ : ByteArray), (⟨#[97, 98, 99, 100, 101, 102, 103, 104, 105, 106, 107, 108, 109, 110, 111, 112, 113, 114, 115, 116]⟩ : ByteArray), (⟨#[97, 98, 99, 100, 101, 102, 103, 104, 105, 106, 107, 108, 109, 110, 111, 112, 113, 114, 115, 116, 117]⟩ : ByteArray)][r3.1.toNat]?).bind fun y4 =>
 some ((y4, r1.1.2), r3.2))))
 (cond (r2.1 == (1 : Int))
 ((m_w40q (r2.2, [(0 : Int), (-1 : Int), (1000000 : Int), (1000001 : Int)])).bind fun r5 =>
 some ((r1.1.1, (r5.1, r1.1.2.2)), r5.2))
 (cond (r2.1 == (2 : Int))
 (l_w41q_1 n  (r2.2, r1.1))
 (some (r1.1, r2.2)))))))
def m_w41q := p_w41q FU
def a_w41q : Ann := (.node .leaf (.node .leaf (.node (.node .leaf (.node .leaf (.node .leaf (.node .leaf (.node .leaf (.node .leaf (.node (.loop [.box 0 Kd17, .box 2 Kd12] (rg 24 11) .leaf) .leaf))))))) .leaf)))
def S_w41q : FSpec := ⟨[.box Kd17], [Kd12], m_w41q⟩
def l_w42q_1 (n : Nat)  (z0 : Ty17) : Option Ty20 :=
(lp (fun rec21 (z20 : Ty17) =>
 (cond (decide (z20.2.1 > (0 : Int)))
 ((m_w34q z20.2.2).bind fun r22 =>
 ((m_w21q (z20.1, r22.1)).bind fun r23 =>
 rec21 (r23.1, IntKind.wrap .i64 (z20.2.1 - (1 : Int)), r22.2)))
 (some (z20.1, z20.2.2)))) n z0)
def p_w42q (n : Nat) (x : ((List Int) × Int)) : Option Ty20 :=
(Option.bind (α := Ty20)
 ((m_w3q (x, (9 : Int))).bind fun r13 =>
 (l_w42q_1 n  (([] : List Ty38), r13.1, r13.2))) fun j25 =>
(cond ((lenI j25.1) == (0 : Int))
 (some (j25.1, j25.2))
 ((m_w3q (j25.2, (20 : Int))).bind fun r26 =>
 (cond (r26.1 == (0 : Int))
 ((m_w3q (r26.2, lenI j25.1)).bind fun r27 =>
 ((m_w41q r27.2).bind fun r28 =>
 ((geti j25.1 r27.1).bind fun _ =>
 ((j25.1[r27.1.toNat]?).bind fun y29 =>
 some ((j25.1.set r27.1.toNat r28.1), r28.2)))))
 (cond (r26.1 == (1 : Int))
 ((geti j25.1 (0 : Int)).bind fun _ =>
 ((j25.1[(0 : Int).toNat]?).bind fun y30 =>
 (chk (Nat.ble ((j25.1.length + [y30].length) * 48) maxBytes)
 (some ((j25.1 ++ [y30]), r26.2)))))
 (cond (r26.1 == (2 : Int))
 (if (201 : Int) = (201 : Int) then (if 0 ≤ (201 : Int) then chk (Nat.ble (48 * (201 : Int).toNat) maxBytes)
 (some ((List.replicate (201 : Int).toNat ((⟨#[]⟩ : ByteArray), ((0 : Int), ((⟨#[]⟩ : ByteArray), false)))), r26.2)) else none) else none)
 (some (j25.1, r26.2))))))))
def m_w42q := p_w42q FU
def a_w42q : Ann := (.node .leaf (.node .leaf (.join [.slot 3 Kd9, .box 0 Kd17] ([4] ++ rg 6 10) (.node .leaf (.loop [.slot 3 Kd9, .slot 4 (.int .i64), .box 0 Kd17] (rg 8 8) .leaf)) .leaf)))
def S_w42q : FSpec := ⟨[.box Kd17], [Kd9], m_w42q⟩
def l_w43q_1 (n : Nat)  (z0 : ((List Int) × Ty48)) : Option Ty43 :=
(lp (fun rec10 (z9 : ((List Int) × Ty48)) =>
 (cond (decide (z9.2.1 > (0 : Int)))
 ((m_w3q (z9.2.2, (256 : Int))).bind fun r11 =>
 (chk (Nat.ble ((z9.1.length + [IntKind.wrap .u8 r11.1].length) * 1) maxBytes)
 (rec10 ((z9.1 ++ [IntKind.wrap .u8 r11.1]), IntKind.wrap .i64 (z9.2.1 - (1 : Int)), r11.2))))
 (some (z9.1, z9.2.2)))) n z0)
def p_w43q (n : Nat) (x : ((List Int) × Int)) : Option Ty43 :=
((m_w3q (x, (9 : Int))).bind fun r1 =>
((m_w3q (r1.2, (9 : Int))).bind fun r2 =>
((m_w3q (r2.2, (9 : Int))).bind fun r3 =>
((m_w40q (r3.2, [IntKind.wrap .i64 ((1 : Int) + r1.1), IntKind.wrap .i64 ((1 : Int) + r2.1), IntKind.wrap .i64 ((1 : Int) + r3.1), (0 : Int), (500 : Int), (501 : Int)])).bind fun r4 =>
(l_w43q_1 n  (([] : List Int), r4.1, r4.2))))))
def m_w43q := p_w43q FU
def a_w43q : Ann := (.node .leaf (.node .leaf (.node (.node .leaf (.loop [.slot 3 Kd19, .slot 4 (.int .i64), .box 0 Kd17] (rg 18 10) .leaf)) .leaf)))
def S_w43q : FSpec := ⟨[.box Kd17], [Kd19], m_w43q⟩
def p_w44q (n : Nat) (x : Ty42) : Option Ty43 :=
(chk (Nat.ble ((([] : List Int).length + x.2.length) * 1) maxBytes)
(cond ((lenI (([] : List Int) ++ x.2)) == (0 : Int))
 ((m_w3q (x.1, (256 : Int))).bind fun r1 =>
 some ([IntKind.wrap .u8 r1.1], r1.2))
 ((m_w3q (x.1, lenI (([] : List Int) ++ x.2))).bind fun r2 =>
 ((m_w3q (r2.2, (3 : Int))).bind fun r3 =>
 (cond (r3.1 == (0 : Int))
 ((m_w3q (r3.2, (256 : Int))).bind fun r4 =>
 ((geti (([] : List Int) ++ x.2) r2.1).bind fun _ =>
 (((([] : List Int) ++ x.2)[r2.1.toNat]?).bind fun y5 =>
 some (((([] : List Int) ++ x.2).set r2.1.toNat (IntKind.wrap .u8 r4.1)), r4.2))))
 (cond (r3.1 == (1 : Int))
 (chk (bndB none (some r2.1) none (([] : List Int) ++ x.2).length)
 (some (((([] : List Int) ++ x.2).take r2.1.toNat), r3.2)))
 (cond (r3.1 == (2 : Int))
 ((m_w3q (r3.2, (6 : Int))).bind fun r6 =>
 (chk (Nat.ble (((([] : List Int) ++ x.2).length + [IntKind.wrap .u8 r6.1].length) * 1) maxBytes)
 (some (((([] : List Int) ++ x.2) ++ [IntKind.wrap .u8 r6.1]), r6.2))))
 (some ((([] : List Int) ++ x.2), r3.2)))))))))
def m_w44q := p_w44q FU
def a_w44q : Ann := (.node .leaf (.node .leaf (.node .leaf (.node .leaf (.node (.node .leaf (.node .leaf (.node .leaf (.node .leaf (.node (.own 35 (.int .u8) .leaf) .leaf))))) .leaf)))))
def S_w44q : FSpec := ⟨[.box Kd17, .val (.sl none (.int .u8))], [Kd19], m_w44q⟩
def l_w45q_1 (n : Nat)  (z0 : (Int × Ty34)) : Option Ty34 :=
(lp (fun rec46 (z45 : (Int × Ty34)) =>
 (cond (decide (z45.1 > (0 : Int)))
 ((m_w43q z45.2.1).bind fun r47 =>
 (Option.bind (α := Bool)
 (cond (decide ((lenI r47.1) < (1 : Int)))
 (some true)
 (some (decide ((lenI r47.1) > (500 : Int))))) fun j48 =>
 (cond j48
 (rec46 (IntKind.wrap .i64 (z45.1 - (1 : Int)), r47.2, z45.2.2))
 ((m_w38q (z45.2.2, r47.1)).bind fun r49 =>
 (cond (r49.2 == (0 : Int))
 ((m_w33q (r47.2, (3 : Int))).bind fun r50 =>
 (cond r50.1
 ((m_w9q r49.1).bind fun r51 =>
 rec46 (IntKind.wrap .i64 (z45.1 - (1 : Int)), r50.2, r51))
 (rec46 (IntKind.wrap .i64 (z45.1 - (1 : Int)), r50.2, r49.1))))
 ((m_w33q (r47.2, (3 : Int))).bind fun r52 =>
 (cond r52.1
 ((m_w9q z45.2.2).bind fun r53 =>
 rec46 (IntKind.wrap .i64 (z45.1 - (1 : Int)), r52.2, r53))
 (rec46 (IntKind.wrap .i64 (z45.1 - (1 : Int)), r52.2, z45.2.2)))))))))
 (some (z45.2.1, z45.2.2)))) n z0)
def p_w45q (n : Nat) (x : ((List Int) × Int)) : Option (Ty49 × ((List Int) × Int)) :=
(Option.bind (α := Ty34)
 ((m_w3q (x, (6 : Int))).bind fun r28 =>
 (l_w45q_1 n  (r28.1, r28.2, ([], [])))) fun j55 =>
((m_w3q (j55.1, (16 : Int))).bind fun r56 =>
(cond (r56.1 == (0 : Int))
 ((m_w44q (r56.2, j55.2.2)).bind fun r57 =>
 some ((j55.2.1, r57.1), r57.2))
 (cond (r56.1 == (1 : Int))
 ((m_w44q (r56.2, j55.2.1)).bind fun r58 =>
 some ((r58.1, j55.2.2), r58.2))
 (cond (r56.1 == (2 : Int))
 ((m_w3q (r56.2, (2 : Int))).bind fun r59 =>
 (if (IntKind.wrap .i64 ((6000 : Int) + r59.1)) = (IntKind.wrap .i64 ((6000 : Int) + r59.1)) then (if 0 ≤ (IntKind.wrap .i64 ((6000 : Int) + r59.1)) then chk (Nat.ble (1 * (IntKind.wrap .i64 ((6000 : Int) + r59.1)).toNat) maxBytes)
 (some (((List.replicate (IntKind.wrap .i64 ((6000 : Int) + r59.1)).toNat (0 : Int)), j55.2.2), r59.2)) else none) else none))
 (some (j55.2, r56.2)))))))
def m_w45q := p_w45q FU
def a_w45q : Ann := (.node .leaf (.node .leaf (.join [.box 0 Kd17, .box 2 Kd11] ([4, 5, 6, 7] ++ rg 9 29) (.node .leaf (.loop [.slot 4 (.int .i64), .box 0 Kd17, .box 2 Kd11] ([5, 6, 7] ++ rg 11 27) (.node .leaf (.node (.node .leaf (.node (.join [.slot 24 .bool] (rg 17 7) .leaf .leaf) .leaf)) .leaf)))) .leaf)))
def S_w45q : FSpec := ⟨[.box Kd17], [Kd11], m_w45q⟩
def l_w46q_1 (n : Nat)  (z0 : Ty2) : Option Ty3 :=
(lp (fun rec87 (z86 : Ty2) =>
 (cond (decide (z86.1 > (0 : Int)))
 (Option.bind (α := (((List Int) × Int) × Ty6))
 ((m_w3q (z86.2.1, (6 : Int))).bind fun r95 =>
 (cond (r95.1 == (0 : Int))
 ((m_w27q z86.2.2).bind fun r96 =>
 some (r95.2, r96))
 (cond (r95.1 == (1 : Int))
 ((m_w3q (r95.2, (6 : Int))).bind fun r97 =>
 ((m_w31q (z86.2.2, r97.1)).bind fun r98 =>
 some (r97.2, r98)))
 ((m_w35q r95.2).bind fun r99 =>
 ((m_w33q (r99.2, (2 : Int))).bind fun r100 =>
 ((m_w39q (z86.2.2, r99.1, r100.1)).bind fun r101 =>
 some (r100.2, r101))))))) fun j102 =>
 (cond (j102.2.1 == (0 : Int))
 (rec87 (IntKind.wrap .i64 (z86.1 - (1 : Int)), j102.1, j102.2.2.2))
 (rec87 (IntKind.wrap .i64 (z86.1 - (1 : Int)), j102.1, z86.2.2))))
 (some (z86.2.1, z86.2.2)))) n z0)
def p_w46q (n : Nat) (x : ((List Int) × Int)) : Option Ty4 :=
((m_w2q (1 : Int)).bind fun r1 =>
(Option.bind (α := Ty3)
 ((m_w3q (x, (9 : Int))).bind fun r53 =>
 (l_w46q_1 n  (r53.1, r53.2, r1.2.2))) fun j104 =>
((m_w3q (j104.1, (24 : Int))).bind fun r105 =>
(cond (r105.1 == (0 : Int))
 ((m_w40q (r105.2, [(0 : Int), (1 : Int), (1000000 : Int), (1000001 : Int)])).bind fun r106 =>
 some ((j104.2.1, (j104.2.2.1, (j104.2.2.2.1, r106.1))), r106.2))
 (cond (r105.1 == (1 : Int))
 ((m_w42q r105.2).bind fun r107 =>
 some ((j104.2.1, (r107.1, j104.2.2.2)), r107.2))
 (cond (r105.1 == (2 : Int))
 ((m_w42q r105.2).bind fun r108 =>
 (chk (Nat.ble ((j104.2.2.2.1.length + [r108.1].length) * 24) maxBytes)
 (some ((j104.2.1, (j104.2.2.1, ((j104.2.2.2.1 ++ [r108.1]), j104.2.2.2.2))), r108.2))))
 (cond (r105.1 == (3 : Int))
 ((m_w45q r105.2).bind fun r109 =>
 some ((r109.1, j104.2.2), r109.2))
 (cond (r105.1 == (4 : Int))
 (if (7 : Int) = (7 : Int) then (if 0 ≤ (7 : Int) then chk (Nat.ble (24 * (7 : Int).toNat) maxBytes)
 (some ((j104.2.1, (j104.2.2.1, ((List.replicate (7 : Int).toNat []), j104.2.2.2.2))), r105.2)) else none) else none)
 (cond (r105.1 == (5 : Int))
 (chk (Nat.ble ((j104.2.1.2.length + [(0 : Int), (9 : Int)].length) * 1) maxBytes)
 (some (((j104.2.1.1, (j104.2.1.2 ++ [(0 : Int), (9 : Int)])), j104.2.2), r105.2)))
 (some (j104.2, r105.2)))))))))))
def m_w46q := p_w46q FU
def a_w46q : Ann := (.node .leaf (.node .leaf (.join [.box 0 Kd17, .box 7 Kd2] ([4, 5] ++ rg 8 30) (.node .leaf (.loop [.slot 4 (.int .i64), .box 0 Kd17, .box 7 Kd2] ([5] ++ rg 10 28) (.node .leaf (.node (.node .leaf (.join [.box 0 Kd17, .box 13 Kd1] (rg 15 18) .leaf .leaf)) .leaf)))) (.node (.node .leaf (.node .leaf (.node .leaf (.node .leaf (.node .leaf (.node .leaf (.node (.own 57 Kd9 .leaf) (.node .leaf (.node .leaf (.node .leaf (.node (.own 67 Kd9 .leaf) .leaf))))))))))) .leaf))))
def S_w46q : FSpec := ⟨[.box Kd17], [Kd2], m_w46q⟩
def p_w47q (n : Nat) (x : (List Int)) : Option Ty1 :=
((m_w46q (x, (0 : Int))).bind fun r1 =>
((m_w35q r1.2).bind fun r2 =>
((m_w33q (r2.2, (2 : Int))).bind fun r3 =>
some (r1.1, r2.1, r3.1))))
def m_w47q := p_w47q FU
def a_w47q : Ann := .leaf
def S_w47q : FSpec := ⟨[.val (.sl none (.int .u8))], [Kd2, Kd14, .bool], m_w47q⟩
def p_w48q (n : Nat) (x : Ty49) : Option Int :=
(cond (decide ((IntKind.wrap .i64 ((lenI x.1) + (lenI x.2))) > (6000 : Int)))
 (some (2 : Int))
 (some (0 : Int)))
def m_w48q := p_w48q FU
def a_w48q : Ann := .leaf
def S_w48q : FSpec := ⟨[.val Kd13], [(.int .i64)], m_w48q⟩
def p_w49q (n : Nat) (x : (Int × (Int × Int))) : Option Bool :=
(cond (decide (x.1 ≥ x.2.1))
 (some (decide (x.1 ≤ x.2.2)))
 (some false))
def m_w49q := p_w49q FU
def a_w49q : Ann := .leaf
def S_w49q : FSpec := ⟨[.val (.int .i64), .val (.int .i64), .val (.int .i64)], [.bool], m_w49q⟩
def p_w50q (n : Nat) (x : ByteArray) : Option Bool :=
((m_w49q (((x.size : Nat) : Int), (1 : Int), (20 : Int))).bind fun r1 =>
some r1)
def m_w50q := p_w50q FU
def a_w50q : Ann := .leaf
def S_w50q : FSpec := ⟨[.val .str], [.bool], m_w50q⟩
def p_w51q (n : Nat) (x : Int) : Option Bool :=
((m_w49q (x, (1 : Int), (1000000 : Int))).bind fun r1 =>
some r1)
def m_w51q := p_w51q FU
def a_w51q : Ann := .leaf
def S_w51q : FSpec := ⟨[.val (.int .i64)], [.bool], m_w51q⟩
def p_w52q (n : Nat) (x : Ty38) : Option Int :=
(Option.bind (α := Bool)
 ((m_w50q x.1).bind fun r2 =>
 (cond (!r2)
 (some true)
 (cond x.2.2.2
 (some (!(x.2.2.1.toList == (⟨#[]⟩ : ByteArray).toList)))
 (some false)))) fun j3 =>
(cond j3
 (some (1 : Int))
 (cond (decide (((x.2.2.1.size : Nat) : Int) > (100 : Int)))
 (some (2 : Int))
 ((m_w51q x.2.1).bind fun r4 =>
 (cond (!r4)
 (some (3 : Int))
 (some (0 : Int)))))))
def m_w52q := p_w52q FU
def a_w52q : Ann := (.node .leaf (.node (.join [.slot 3 .bool] (rg 4 13) .leaf .leaf) .leaf))
def S_w52q : FSpec := ⟨[.val Kd12], [(.int .i64)], m_w52q⟩
def p_w53q (n : Nat) (x : (ByteArray × ByteArray)) : Option Int :=
some (cmpB x.1 x.2)
def m_w53q := p_w53q FU
def a_w53q : Ann := .leaf
def S_w53q : FSpec := ⟨[.val .str, .val .str], [(.int .i64)], m_w53q⟩
def p_w54q (n : Nat) (x : (ByteArray × ByteArray)) : Option Int :=
((m_w53q (x.1, x.2)).bind fun r1 =>
some r1)
def m_w54q := p_w54q FU
def a_w54q : Ann := .leaf
def S_w54q : FSpec := ⟨[.val .str, .val .str], [(.int .i64)], m_w54q⟩
def p_w55q (n : Nat) (x : Int) : Option Bool :=
some (!(x == x))
def m_w55q := p_w55q FU
def a_w55q : Ann := .leaf
def S_w55q : FSpec := ⟨[.val (.int .i64)], [.bool], m_w55q⟩
def p_w56q (n : Nat) (x : (Int × Int)) : Option Int :=
((m_w55q x.1).bind fun r1 =>
((m_w55q x.2).bind fun r2 =>
(cond r1
 (cond r2
 (some (0 : Int))
 (some (-1 : Int)))
 (cond r2
 (some (1 : Int))
 (cond (decide (x.1 < x.2))
 (some (-1 : Int))
 (cond (decide (x.1 > x.2))
 (some (1 : Int))
 (some (0 : Int))))))))
def m_w56q := p_w56q FU
def a_w56q : Ann := .leaf
def S_w56q : FSpec := ⟨[.val (.int .i64), .val (.int .i64)], [(.int .i64)], m_w56q⟩
def l_w57q_1 (n : Nat) (x : (List Int)) (z0 : Int) : Option Int :=
(lp (fun rec4 (z3 : Int) =>
 (cond (decide (z3 < (lenI x)))
 ((geti x z3).bind fun y5 =>
 (cond (!(y5 == (0 : Int)))
 (some y5)
 (rec4 (IntKind.wrap .i64 (z3 + (1 : Int))))))
 (some (0 : Int)))) n z0)
def p_w57q (n : Nat) (x : (List Int)) : Option Int :=
(l_w57q_1 n x (0 : Int))
def m_w57q := p_w57q FU
def a_w57q : Ann := (.node .leaf (.node .leaf (.node (.node .leaf (.loop [.slot 8 (.int .i64)] ([2, 5] ++ rg 9 8) .leaf)) .leaf)))
def S_w57q : FSpec := ⟨[.val Kd20], [(.int .i64)], m_w57q⟩
def p_w58q (n : Nat) (x : Ty15) : Option Int :=
((m_w54q (x.1.1, x.2.1)).bind fun r1 =>
((m_w56q (x.2.2.1, x.1.2.1)).bind fun r2 =>
((m_w57q [r1, r2]).bind fun r3 =>
some r3)))
def m_w58q := p_w58q FU
def a_w58q : Ann := (.node .leaf (.node (.lazy 15 .leaf) .leaf))
def S_w58q : FSpec := ⟨[.val Kd12, .val Kd12], [(.int .i64)], m_w58q⟩
def l_w59q_1 (n : Nat) (x : Ty35) (z0 : Int) : Option Int :=
(lp (fun rec10 (z9 : Int) =>
 (cond (decide (z9 < (lenI x)))
 ((geti x z9).bind fun y11 =>
 ((m_w52q y11).bind fun r12 =>
 (cond (!(r12 == (0 : Int)))
 (some r12)
 (Option.bind (α := Bool)
 (cond (decide (z9 > (0 : Int)))
 ((geti x (IntKind.wrap .i64 (z9 - (1 : Int)))).bind fun y15 =>
 ((m_w58q (y15, y11)).bind fun r16 =>
 some (decide (r16 ≥ (0 : Int)))))
 (some false)) fun j17 =>
 (cond j17
 (some (1 : Int))
 (rec10 (IntKind.wrap .i64 (z9 + (1 : Int)))))))))
 (some (0 : Int)))) n z0)
def p_w59q (n : Nat) (x : Ty35) : Option Int :=
(cond (decide ((lenI x) > (200 : Int)))
 (some (2 : Int))
 (l_w59q_1 n x (0 : Int)))
def m_w59q := p_w59q FU
def a_w59q : Ann := (.node .leaf (.node .leaf (.node (.node .leaf (.loop [.slot 11 (.int .i64)] ([2, 3, 4, 5] ++ rg 12 22) (.node .leaf (.node .leaf (.node (.node .leaf (.node .leaf (.join [.slot 32 .bool] (rg 21 11) .leaf .leaf))) .leaf))))) .leaf)))
def S_w59q : FSpec := ⟨[.val Kd10], [(.int .i64)], m_w59q⟩
def l_w60q_1 (n : Nat) (x : (List Int)) (z0 : Int) : Option Int :=
(lp (fun rec4 (z3 : Int) =>
 (cond (decide (z3 < (lenI x)))
 ((geti x z3).bind fun y5 =>
 (cond (!(y5 == (0 : Int)))
 (some y5)
 (rec4 (IntKind.wrap .i64 (z3 + (1 : Int))))))
 (some (0 : Int)))) n z0)
def p_w60q (n : Nat) (x : (List Int)) : Option Int :=
(l_w60q_1 n x (0 : Int))
def m_w60q := p_w60q FU
def a_w60q : Ann := (.node .leaf (.node (.node .leaf (.loop [.slot 7 (.int .i64)] ([2, 4] ++ rg 8 7) .leaf)) .leaf))
def S_w60q : FSpec := ⟨[.val Kd20], [(.int .i64)], m_w60q⟩
def l_w61q_1 (n : Nat) (x : Ty33) (z0 : (Int × Int)) : Option Int :=
(lp (fun rec10 (z9 : (Int × Int)) =>
 (cond (decide (z9.2 < (lenI x)))
 ((geti x z9.2).bind fun y11 =>
 (cond (decide ((IntKind.wrap .i64 (z9.1 + (lenI y11))) < (0 : Int)))
 none
 (rec10 (IntKind.wrap .i64 (z9.1 + (lenI y11)), IntKind.wrap .i64 (z9.2 + (1 : Int))))))
 (some z9.1))) n z0)
def l_w61q_2 (n : Nat) (x : Ty33) (z0 : Ty31) : Option Ty35 :=
(lp (fun rec18 (z17 : Ty31) =>
 (cond (decide (z17.2 < (lenI x)))
 ((geti x z17.2).bind fun y19 =>
 (chk (Nat.ble ((z17.1.length + y19.length) * 48) maxBytes)
 (rec18 ((z17.1 ++ y19), IntKind.wrap .i64 (z17.2 + (1 : Int))))))
 (some z17.1))) n z0)
def p_w61q (n : Nat) (x : Ty33) : Option Ty35 :=
(Option.bind (α := Int)
 (l_w61q_1 n x ((0 : Int), (0 : Int))) fun j13 =>
(Option.bind (α := Ty35)
 (cond (decide (j13 < (0 : Int)))
 none
 (cond (decide ((IntKind.wrap .i64 (j13 - (IntKind.wrap .i64 ((0 : Int) - (0 : Int))))) > (0 : Int)))
 (chk (bndB none (some (0 : Int)) none 0)
 (chk (decide (0 < (IntKind.wrap .i64 (j13 - (IntKind.wrap .i64 ((0 : Int) - (0 : Int)))))) && Nat.ble (48 * (IntKind.wrap .i64 (j13 - (IntKind.wrap .i64 ((0 : Int) - (0 : Int))))).toNat) maxBytes)
 (chk (bndB none (some (0 : Int)) none (List.replicate (IntKind.wrap .i64 (j13 - (IntKind.wrap .i64 ((0 : Int) - (0 : Int))))).toNat ((⟨#[]⟩ : ByteArray), ((0 : Int), ((⟨#[]⟩ : ByteArray), false)))).length)
 (some ((List.replicate (IntKind.wrap .i64 (j13 - (IntKind.wrap .i64 ((0 : Int) - (0 : Int))))).toNat ((⟨#[]⟩ : ByteArray), ((0 : Int), ((⟨#[]⟩ : ByteArray), false)))).take (0 : Int).toNat)))))
 (some []))) fun j14 =>
(l_w61q_2 n x (j14, (0 : Int)))))
def m_w61q := p_w61q FU
def a_w61q : Ann := (.node .leaf (.node .leaf (.join [.slot 3 (.int .i64)] ([5] ++ rg 9 14) (.node .leaf (.loop [.slot 3 (.int .i64), .slot 11 (.int .i64)] ([5] ++ rg 12 11) .leaf)) (.node (.regj 24 [.slot 24 Kd9] [] (.node .leaf (.node .leaf (.node (.node .leaf (.node .leaf (.node (.own 25 Kd12 .leaf) .leaf))) .leaf))) .leaf) (.node (.node .leaf (.loop [.slot 6 Kd9, .slot 27 (.int .i64)] ([8] ++ rg 28 7) .leaf)) .leaf)))))
def S_w61q : FSpec := ⟨[.val Kd8], [Kd9], m_w61q⟩
def l_w62q_1 (n : Nat) (x : Ty35) (z0 : (Int × Int)) : Option Int :=
(lp (fun rec4 (z3 : (Int × Int)) =>
 (cond (decide (z3.2 < (lenI x)))
 ((geti x z3.2).bind fun y5 =>
 rec4 ((if y5.2.1 > z3.1 then y5.2.1 else z3.1), IntKind.wrap .i64 (z3.2 + (1 : Int))))
 (some z3.1))) n z0)
def p_w62q (n : Nat) (x : Ty35) : Option Int :=
(l_w62q_1 n x ((0 : Int), (0 : Int)))
def m_w62q := p_w62q FU
def a_w62q : Ann := (.node .leaf (.node .leaf (.node (.node .leaf (.loop [.slot 3 (.int .i64), .slot 8 (.int .i64)] ([5] ++ rg 9 8) .leaf)) .leaf)))
def S_w62q : FSpec := ⟨[.val Kd10], [(.int .i64)], m_w62q⟩
def l_w63q_1 (n : Nat) (x : (List (List Int))) (z0 : (Int × Int)) : Option Int :=
(lp (fun rec10 (z9 : (Int × Int)) =>
 (cond (decide (z9.2 < (lenI x)))
 ((geti x z9.2).bind fun y11 =>
 (cond (decide ((IntKind.wrap .i64 (z9.1 + (lenI y11))) < (0 : Int)))
 none
 (rec10 (IntKind.wrap .i64 (z9.1 + (lenI y11)), IntKind.wrap .i64 (z9.2 + (1 : Int))))))
 (some z9.1))) n z0)
def l_w63q_2 (n : Nat) (x : (List (List Int))) (z0 : ((List Int) × Int)) : Option (List Int) :=
(lp (fun rec18 (z17 : ((List Int) × Int)) =>
 (cond (decide (z17.2 < (lenI x)))
 ((geti x z17.2).bind fun y19 =>
 (chk (Nat.ble ((z17.1.length + y19.length) * 1) maxBytes)
 (rec18 ((z17.1 ++ y19), IntKind.wrap .i64 (z17.2 + (1 : Int))))))
 (some z17.1))) n z0)
def p_w63q (n : Nat) (x : (List (List Int))) : Option (List Int) :=
(Option.bind (α := Int)
 (l_w63q_1 n x ((0 : Int), (0 : Int))) fun j13 =>
(Option.bind (α := (List Int))
 (cond (decide (j13 < (0 : Int)))
 none
 (cond (decide ((IntKind.wrap .i64 (j13 - (IntKind.wrap .i64 ((0 : Int) - (0 : Int))))) > (0 : Int)))
 (chk (bndB none (some (0 : Int)) none 0)
 (chk (decide (0 < (IntKind.wrap .i64 (j13 - (IntKind.wrap .i64 ((0 : Int) - (0 : Int)))))) && Nat.ble (1 * (IntKind.wrap .i64 (j13 - (IntKind.wrap .i64 ((0 : Int) - (0 : Int))))).toNat) maxBytes)
 (chk (bndB none (some (0 : Int)) none (List.replicate (IntKind.wrap .i64 (j13 - (IntKind.wrap .i64 ((0 : Int) - (0 : Int))))).toNat (0 : Int)).length)
 (some ((List.replicate (IntKind.wrap .i64 (j13 - (IntKind.wrap .i64 ((0 : Int) - (0 : Int))))).toNat (0 : Int)).take (0 : Int).toNat)))))
 (some []))) fun j14 =>
(l_w63q_2 n x (j14, (0 : Int)))))
def m_w63q := p_w63q FU
def a_w63q : Ann := (.node .leaf (.node .leaf (.join [.slot 3 (.int .i64)] ([5] ++ rg 9 14) (.node .leaf (.loop [.slot 3 (.int .i64), .slot 11 (.int .i64)] ([5] ++ rg 12 11) .leaf)) (.node (.regj 24 [.slot 24 Kd19] [] (.node .leaf (.node .leaf (.node (.node .leaf (.node .leaf (.node (.own 25 (.int .u8) .leaf) .leaf))) .leaf))) .leaf) (.node (.node .leaf (.loop [.slot 6 Kd19, .slot 27 (.int .i64)] ([8] ++ rg 28 7) .leaf)) .leaf)))))
def S_w63q : FSpec := ⟨[.val (.sl none (.sl none (.int .u8)))], [Kd19], m_w63q⟩
def l_w64q_1 (n : Nat) (x : (List Int)) (z0 : (Int × Int)) : Option Int :=
(lp (fun rec4 (z3 : (Int × Int)) =>
 (cond (decide (z3.2 < (lenI x)))
 ((geti x z3.2).bind fun y5 =>
 (cond ((65521 : Int) == 0) none
 (rec4 (Int.tmod (IntKind.wrap .i64 ((IntKind.wrap .i64 ((IntKind.wrap .i64 (z3.1 * (257 : Int))) + (IntKind.wrap .i64 y5))) + (1 : Int))) (65521 : Int), IntKind.wrap .i64 (z3.2 + (1 : Int))))))
 (some z3.1))) n z0)
def p_w64q (n : Nat) (x : (List Int)) : Option Int :=
(l_w64q_1 n x ((1 : Int), (0 : Int)))
def m_w64q := p_w64q FU
def a_w64q : Ann := (.node .leaf (.node .leaf (.node (.node .leaf (.loop [.slot 3 (.int .i64), .slot 8 (.int .i64)] ([5] ++ rg 9 11) .leaf)) .leaf)))
def S_w64q : FSpec := ⟨[.val (.sl none (.int .u8))], [(.int .i64)], m_w64q⟩
def p_w65q (n : Nat) (x : Int) : Option (List Int) :=
(chk (decide (0 ≤ (8 : Int)))
 (some [IntKind.wrap .u8 (Int.fdiv x (2 ^ (min (8 : Int).toNat 64))), IntKind.wrap .u8 x]))
def m_w65q := p_w65q FU
def a_w65q : Ann := .leaf
def S_w65q : FSpec := ⟨[.val (.int .i64)], [Kd19], m_w65q⟩
def p_w66q (n : Nat) (x : Ty49) : Option Bool :=
some ((strOfNums x.1).toList == (strOfNums x.2).toList)
def m_w66q := p_w66q FU
def a_w66q : Ann := .leaf
def S_w66q : FSpec := ⟨[.val (.sl none (.int .u8)), .val (.sl none (.int .u8))], [.bool], m_w66q⟩
def p_w67q (n : Nat) (x : (List Int)) : Option ((List Int) × Bool) :=
(cond (decide ((lenI x) < (4 : Int)))
 (some ([], false))
 ((geti x (0 : Int)).bind fun y1 =>
 (chk (decide (0 ≤ (8 : Int)))
 ((geti x (1 : Int)).bind fun y2 =>
 (Option.bind (α := Bool)
 ((m_w49q (IntKind.wrap .i64 ((IntKind.wrap .i64 ((IntKind.wrap .i64 y1) * 2 ^ (min (8 : Int).toNat 64))) + (IntKind.wrap .i64 y2)), (1 : Int), (500 : Int))).bind fun r4 =>
 (cond (!r4)
 (some true)
 (some (decide ((lenI x) < (IntKind.wrap .i64 ((4 : Int) + (IntKind.wrap .i64 ((IntKind.wrap .i64 ((IntKind.wrap .i64 y1) * 2 ^ (min (8 : Int).toNat 64))) + (IntKind.wrap .i64 y2)))))))))) fun j5 =>
 (cond j5
 (some ([], false))
 (chk (bndB (some (4 : Int)) (some (IntKind.wrap .i64 ((4 : Int) + (IntKind.wrap .i64 ((IntKind.wrap .i64 ((IntKind.wrap .i64 y1) * 2 ^ (min (8 : Int).toNat 64))) + (IntKind.wrap .i64 y2)))))) none x.length)
 (chk (bndB (some (2 : Int)) (some (4 : Int)) none x.length)
 ((m_w64q (cutL (some (4 : Int)) (some (IntKind.wrap .i64 ((4 : Int) + (IntKind.wrap .i64 ((IntKind.wrap .i64 ((IntKind.wrap .i64 y1) * 2 ^ (min (8 : Int).toNat 64))) + (IntKind.wrap .i64 y2)))))) x)).bind fun r6 =>
 ((m_w65q r6).bind fun r7 =>
 ((m_w66q ((cutL (some (2 : Int)) (some (4 : Int)) x), r7)).bind fun r8 =>
 some ((cutL (some (4 : Int)) (some (IntKind.wrap .i64 ((4 : Int) + (IntKind.wrap .i64 ((IntKind.wrap .i64 ((IntKind.wrap .i64 y1) * 2 ^ (min (8 : Int).toNat 64))) + (IntKind.wrap .i64 y2)))))) x), r8))))))))))))
def m_w67q := p_w67q FU
def a_w67q : Ann := (.node .leaf (.node .leaf (.node .leaf (.node (.join [.slot 28 .bool] (rg 19 9) .leaf .leaf) .leaf))))
def S_w67q : FSpec := ⟨[.val (.sl none (.int .u8))], [(.sl none (.int .u8)), .bool], m_w67q⟩
def p_w68q (n : Nat) (x : (List Int)) : Option (List Int) :=
(cond (List.isEmpty x)
 (same
 (some [])
 (chk (Nat.ble ((([] : List Int).length + x.length) * 1) maxBytes)
 (some (([] : List Int) ++ x))))
 (chk (Nat.ble ((([] : List Int).length + x.length) * 1) maxBytes)
 (some (([] : List Int) ++ x))))
def m_w68q := p_w68q FU
def a_w68q : Ann := .leaf
def S_w68q : FSpec := ⟨[.val (.sl none (.int .u8))], [Kd19], m_w68q⟩
def p_w69q (n : Nat) (x : (List Int)) : Option Int :=
some (lenI x)
def m_w69q := p_w69q FU
def a_w69q : Ann := .leaf
def S_w69q : FSpec := ⟨[.val (.sl none (.int .u8))], [(.int .i64)], m_w69q⟩
def l_w70q_1 (n : Nat) (x : (List Int)) (z0 : Ty44) : Option Ty44 :=
(lp (fun rec10 (z9 : Ty44) =>
 (chk (bndB (some z9.2.1) none none x.length)
 ((m_w67q (cutL (some z9.2.1) none x)).bind fun r11 =>
 (cond (!r11.2)
 (some z9)
 ((m_w68q r11.1).bind fun r12 =>
 (chk (Nat.ble ((z9.2.2.length + [r12].length) * 24) maxBytes)
 ((m_w69q r11.1).bind fun r13 =>
 rec10 (z9.1, (IntKind.wrap .i64 (z9.2.1 + (IntKind.wrap .i64 ((4 : Int) + r13))), (z9.2.2 ++ [r12])))))))))) n z0)
def p_w70q (n : Nat) (x : (List Int)) : Option Ty44 :=
(cond (decide ((lenI x) > (6000 : Int)))
 (some ((2 : Int), ((0 : Int), [])))
 (l_w70q_1 n x ((0 : Int), ((0 : Int), []))))
def m_w70q := p_w70q FU
def a_w70q : Ann := (.node .leaf (.node .leaf (.node .leaf (.loop [.box 1 Kd6] ([4, 5] ++ rg 11 25) (.node .leaf (.node .leaf (.node (.own 26 Kd19 .leaf) .leaf)))))))
def S_w70q : FSpec := ⟨[.val (.sl none (.int .u8))], [Kd6], m_w70q⟩
def p_w71q (n : Nat) (x : Ty49) : Option Ty44 :=
((m_w48q x).bind fun r1 =>
(cond (!(r1 == (0 : Int)))
 (some (r1, ((0 : Int), [])))
 ((m_w63q [x.1, x.2]).bind fun r2 =>
 ((m_w70q r2).bind fun r3 =>
 some r3))))
def m_w71q := p_w71q FU
def a_w71q : Ann := .leaf
def S_w71q : FSpec := ⟨[.val Kd13], [Kd6], m_w71q⟩
def l_w72q_1 (n : Nat) (x : (List Int)) (z0 : (Int × Int)) : Option (Int × Int) :=
(lp (fun rec4 (z3 : (Int × Int)) =>
 (cond (decide (z3.2 < (lenI x)))
 ((geti x z3.2).bind fun y5 =>
 (chk (decide (0 ≤ (8 : Int)))
 (rec4 (IntKind.wrap .u64 ((IntKind.wrap .u64 (z3.1 * 2 ^ (min (8 : Int).toNat 64))) + (IntKind.wrap .u64 y5)), IntKind.wrap .i64 (z3.2 + (1 : Int))))))
 (some ((0 : Int), IntKind.wrap .i64 z3.1)))) n z0)
def p_w72q (n : Nat) (x : (List Int)) : Option (Int × Int) :=
(cond (!((lenI x) == (8 : Int)))
 (some ((1 : Int), (0 : Int)))
 (l_w72q_1 n x ((0 : Int), (0 : Int))))
def m_w72q := p_w72q FU
def a_w72q : Ann := (.node .leaf (.node .leaf (.node .leaf (.node (.node .leaf (.loop [.slot 3 (.int .u64), .slot 12 (.int .i64)] ([5] ++ rg 13 9) .leaf)) .leaf))))
def S_w72q : FSpec := ⟨[.val (.sl none (.int .u8))], [(.pair (.int .i64) (.int .i64))], m_w72q⟩
def p_w73q (n : Nat) (x : (List Int)) : Option (ByteArray × ((List Int) × Bool)) :=
(Option.bind (α := Bool)
 (cond ((lenI x) == (0 : Int))
 (some true)
 ((geti x (0 : Int)).bind fun y2 =>
 some (decide ((lenI x) < (IntKind.wrap .i64 ((1 : Int) + (IntKind.wrap .i64 y2))))))) fun j3 =>
(cond j3
 (some ((⟨#[]⟩ : ByteArray), [], false))
 ((geti x (0 : Int)).bind fun y4 =>
 (chk (bndB (some (1 : Int)) (some (IntKind.wrap .i64 ((1 : Int) + (IntKind.wrap .i64 y4)))) none x.length)
 (chk (bndB (some (IntKind.wrap .i64 ((1 : Int) + (IntKind.wrap .i64 y4)))) none none x.length)
 (some ((strOfNums (cutL (some (1 : Int)) (some (IntKind.wrap .i64 ((1 : Int) + (IntKind.wrap .i64 y4)))) x)), (cutL (some (IntKind.wrap .i64 ((1 : Int) + (IntKind.wrap .i64 y4)))) none x), true)))))))
def m_w73q := p_w73q FU
def a_w73q : Ann := (.node .leaf (.node (.join [.slot 18 .bool] (rg 6 12) .leaf .leaf) .leaf))
def S_w73q : FSpec := ⟨[.val (.sl none (.int .u8))], [.str, (.sl none (.int .u8)), .bool], m_w73q⟩
def p_w74q (n : Nat) (x : (List Int)) : Option (Ty46 × ((List Int) × Bool)) :=
((geti x (0 : Int)).bind fun y1 =>
(cond (decide (y1 > (1 : Int)))
 (some (((⟨#[]⟩ : ByteArray), ((⟨#[]⟩ : ByteArray), false)), [], false))
 ((geti x (0 : Int)).bind fun y2 =>
 (Option.bind (α := ((List Int) × (Bool × Ty46)))
 (chk (bndB (some (1 : Int)) none none x.length)
 ((m_w73q (cutL (some (1 : Int)) none x)).bind fun r6 =>
 (Option.bind (α := Bool)
 (cond r6.2.2
 (some (!(y2 == (1 : Int))))
 (some false)) fun j7 =>
 (cond j7
 ((m_w73q r6.2.1).bind fun r8 =>
 some (r8.2.1, r8.2.2, (r6.1, (r8.1, (y2 == (1 : Int))))))
 (some (r6.2.1, r6.2.2, (r6.1, ((⟨#[]⟩ : ByteArray), (y2 == (1 : Int)))))))))) fun j9 =>
 some (j9.2.2, j9.1, j9.2.1)))))
def m_w74q := p_w74q FU
def a_w74q : Ann := (.node .leaf (.node .leaf (.node .leaf (.join [.slot 0 (.sl none (.int .u8)), .slot 6 .bool, .box 1 Kd18] (rg 17 21) (.node .leaf (.join [.slot 30 .bool] [25, 26, 27, 28, 29] .leaf .leaf)) .leaf))))
def S_w74q : FSpec := ⟨[.val (.sl none (.int .u8))], [Kd18, (.sl none (.int .u8)), .bool], m_w74q⟩
def p_w75q (n : Nat) (x : Ty40) : Option Int :=
some (lenI x)
def m_w75q := p_w75q FU
def a_w75q : Ann := .leaf
def S_w75q : FSpec := ⟨[.val Kd16], [(.int .i64)], m_w75q⟩
def p_w76q (n : Nat) (x : (Ty46 × Int)) : Option Ty38 :=
some (x.1.1, (x.2, x.1.2))
def m_w76q := p_w76q FU
def a_w76q : Ann := .leaf
def S_w76q : FSpec := ⟨[.val Kd18, .val (.int .i64)], [Kd12], m_w76q⟩
def l_w77q_1 (n : Nat) (x : Int) (z0 : (Int × (List Int))) : Option (List Int) :=
(lp (fun rec6 (z5 : (Int × (List Int))) =>
 (cond (decide (z5.1 < (lenI (List.replicate (8 : Int).toNat (0 : Int)))))
 (chk (decide (0 ≤ (IntKind.wrap .i64 ((56 : Int) - (IntKind.wrap .i64 ((8 : Int) * z5.1))))))
 ((geti z5.2 z5.1).bind fun _ =>
 ((z5.2[z5.1.toNat]?).bind fun y7 =>
 rec6 (IntKind.wrap .i64 (z5.1 + (1 : Int)), (z5.2.set z5.1.toNat (IntKind.wrap .u8 (Int.fdiv x (2 ^ (min (IntKind.wrap .i64 ((56 : Int) - (IntKind.wrap .i64 ((8 : Int) * z5.1)))).toNat 64)))))))))
 (some z5.2))) n z0)
def p_w77q (n : Nat) (x : Int) : Option (List Int) :=
(if (8 : Int) = (8 : Int) then (if 0 ≤ (8 : Int) then chk (Nat.ble (1 * (8 : Int).toNat) maxBytes)
(l_w77q_1 n x ((0 : Int), (List.replicate (8 : Int).toNat (0 : Int)))) else none) else none)
def m_w77q := p_w77q FU
def a_w77q : Ann := (.node .leaf (.node .leaf (.node (.node .leaf (.loop [.slot 8 (.int .i64), .row 0 5 (.int .u8)] ([4] ++ rg 9 12) .leaf)) .leaf)))
def S_w77q : FSpec := ⟨[.val (.int .i64)], [Kd19], m_w77q⟩
def p_w78q (n : Nat) (x : ByteArray) : Option (Int × (List Int)) :=
(cond (decide (((x.size : Nat) : Int) > (200 : Int)))
 (some ((2 : Int), []))
 (chk (Nat.ble ([IntKind.wrap .u8 ((x.size : Nat) : Int)].length + x.size) maxBytes)
 (some ((0 : Int), ([IntKind.wrap .u8 ((x.size : Nat) : Int)] ++ (bytesNums x))))))
def m_w78q := p_w78q FU
def a_w78q : Ann := .leaf
def S_w78q : FSpec := ⟨[.val .str], [Kd15], m_w78q⟩
def l_w79q_1 (n : Nat) (x_2 : Ty40) (z0 : ((List Int) × Int)) : Option (List Int) :=
(lp (fun rec8 (z7 : ((List Int) × Int)) =>
 (cond (decide (z7.2 < (lenI x_2)))
 ((geti x_2 z7.2).bind fun y9 =>
 (Option.bind (α := Int)
 (cond y9.2.2
 (some (1 : Int))
 (some (0 : Int))) fun j10 =>
 (chk (Nat.ble ((z7.1.length + [j10].length) * 1) maxBytes)
 ((m_w78q y9.1).bind fun r11 =>
 (chk (Nat.ble (((z7.1 ++ [j10]).length + r11.2.length) * 1) maxBytes)
 (cond (!y9.2.2)
 ((m_w78q y9.2.1).bind fun r12 =>
 (chk (Nat.ble ((((z7.1 ++ [j10]) ++ r11.2).length + r12.2.length) * 1) maxBytes)
 (rec8 ((((z7.1 ++ [j10]) ++ r11.2) ++ r12.2), IntKind.wrap .i64 (z7.2 + (1 : Int))))))
 (rec8 (((z7.1 ++ [j10]) ++ r11.2), IntKind.wrap .i64 (z7.2 + (1 : Int))))))))))
 (some z7.1))) n z0)
def p_w79q (n : Nat) (x : Ty36) : Option (List Int) :=
((m_w77q x.1).bind fun r1 =>
(l_w79q_1 n x.2 (r1, (0 : Int))))
def m_w79q := p_w79q FU
def a_w79q : Ann := (.node .leaf (.node .leaf (.node (.node .leaf (.loop [.slot 5 Kd19, .slot 13 (.int .i64)] ([7, 8] ++ rg 14 24) (.node .leaf (.node .leaf (.node (.node .leaf (.node .leaf (.join [.slot 8 (.int .u8)] [17, 18] .leaf (.node (.lazy 21 .leaf) .leaf)))) .leaf))))) .leaf)))
def S_w79q : FSpec := ⟨[.val (.int .i64), .val Kd16], [Kd19], m_w79q⟩
def l_w80q_1 (n : Nat) (z56 : Int) (x : Ty40) (y58_1 : ByteArray) (z0 : Int) : Option Int :=
(lp (fun rec70 (z69 : Int) =>
 (cond (decide (z69 < (lenI (cutL none (some z56) x))))
 ((geti (cutL none (some z56) x) z69).bind fun y71 =>
 (cond (y71.1.toList == y58_1.toList)
 (some z69)
 (rec70 (IntKind.wrap .i64 (z69 + (1 : Int))))))
 (some (-1 : Int)))) n z0)
def l_w80q_2 (n : Nat) (x : Ty40) (z0 : Int) : Option (Unit ⊕ Int) :=
(lp (fun rec57 (z56 : Int) =>
 (cond (decide (z56 < (lenI x)))
 ((geti x z56).bind fun y58 =>
 ((m_w76q (y58, (1 : Int))).bind fun r59 =>
 ((m_w52q r59).bind fun r60 =>
 (cond (!(r60 == (0 : Int)))
 (some (Sum.inr r60))
 (chk (bndB none (some z56) none x.length)
 (Option.bind (α := Int)
 (l_w80q_1 n z56 x y58.1 (0 : Int)) fun j73 =>
 (cond (decide (j73 ≥ (0 : Int)))
 (some (Sum.inr (7 : Int)))
 (rec57 (IntKind.wrap .i64 (z56 + (1 : Int)))))))))))
 (some (Sum.inl ())))) n z0)
def p_w80q (n : Nat) (x : Ty40) : Option Int :=
((m_w75q x).bind fun r1 =>
((m_w49q (r1, (1 : Int), (8 : Int))).bind fun r2 =>
(cond (!r2)
 (some (2 : Int))
 (Option.bind (α := (Unit ⊕ Int))
 (l_w80q_2 n x (0 : Int))
 (Sum.elim (fun j75 =>
 ((m_w79q ((1 : Int), x)).bind fun r76 =>
 (cond (decide ((lenI r76) > (500 : Int)))
 (some (2 : Int))
 (some (0 : Int))))) some)))))
def m_w80q := p_w80q FU
def a_w80q : Ann := (.node .leaf (.node .leaf (.joinx [] ([2, 3, 4, 5] ++ rg 10 19) (.node .leaf (.loop [.slot 12 (.int .i64)] ([2, 3, 4, 5] ++ rg 13 16) (.node .leaf (.node .leaf (.node (.node .leaf (.node .leaf (.node (.reg 27 (.node .leaf (.node (.regj 7 [.slot 7 (.int .i64)] [] (.node .leaf (.node (.node .leaf (.loop [.slot 8 (.int .i64)] ([4, 5] ++ rg 9 10) .leaf)) .leaf)) .leaf) .leaf)) .leaf) .leaf))) .leaf))))) .leaf)))
def S_w80q : FSpec := ⟨[.val Kd16], [(.int .i64)], m_w80q⟩
def p_w81q (n : Nat) (x : Ty36) : Option (Int × (List Int)) :=
((m_w51q x.1).bind fun r1 =>
(cond (!r1)
 (some ((3 : Int), []))
 ((m_w80q x.2).bind fun r2 =>
 (cond (!(r2 == (0 : Int)))
 (some (r2, []))
 ((m_w79q (x.1, x.2)).bind fun r3 =>
 some ((0 : Int), r3))))))
def m_w81q := p_w81q FU
def a_w81q : Ann := .leaf
def S_w81q : FSpec := ⟨[.val (.int .i64), .val Kd16], [Kd15], m_w81q⟩
def l_w82q_1 (n : Nat)  (z0 : (Ty40 × (List Int))) : Option Ty12 :=
(lp (fun rec11 (z10 : (Ty40 × (List Int))) =>
 (cond (decide ((lenI z10.2) > (0 : Int)))
 ((m_w74q z10.2).bind fun r12 =>
 (cond (!r12.2.2)
 (some (Sum.inr ((0 : Int), [], false)))
 (chk (Nat.ble ((z10.1.length + [r12.1].length) * 40) maxBytes)
 (rec11 ((z10.1 ++ [r12.1]), r12.2.1)))))
 (some (Sum.inl z10.1)))) n z0)
def p_w82q (n : Nat) (x : (List Int)) : Option Ty28 :=
(cond (decide ((lenI x) < (8 : Int)))
 (some ((0 : Int), [], false))
 (chk (bndB none (some (8 : Int)) none x.length)
 ((m_w72q (cutL none (some (8 : Int)) x)).bind fun r1 =>
 (Option.bind (α := Ty12)
 (chk (bndB (some (8 : Int)) none none x.length)
 (l_w82q_1 n  (([] : List Ty46), (cutL (some (8 : Int)) none x))))
 (Sum.elim (fun j14 =>
 ((m_w81q (r1.2, j14)).bind fun r15 =>
 (cond (r15.1 == (0 : Int))
 ((m_w66q (r15.2, x)).bind fun r16 =>
 some (r1.2, j14, r16))
 (some (r1.2, j14, false))))) some)))))
def m_w82q := p_w82q FU
def a_w82q : Ann := (.node .leaf (.node .leaf (.node .leaf (.joinx [.slot 6 Kd14] ([2, 3, 4, 7, 8, 9, 10] ++ rg 20 18) (.node .leaf (.loop [.slot 6 Kd14, .slot 7 (.sl none (.int .u8))] ([2, 3, 4, 8, 9, 10] ++ rg 22 16) .leaf)) .leaf))))
def S_w82q : FSpec := ⟨[.val (.sl none (.int .u8))], [(.int .i64), Kd14, .bool], m_w82q⟩
def l_w83q_1 (n : Nat) (x_1 : Int) (x_2 : Ty40) (z0 : Ty31) : Option Ty35 :=
(lp (fun rec5 (z4 : Ty31) =>
 (cond (decide (z4.2 < (lenI x_2)))
 ((geti x_2 z4.2).bind fun y6 =>
 ((m_w76q (y6, x_1)).bind fun r7 =>
 (chk (Nat.ble ((z4.1.length + [r7].length) * 48) maxBytes)
 (rec5 ((z4.1 ++ [r7]), IntKind.wrap .i64 (z4.2 + (1 : Int)))))))
 (some z4.1))) n z0)
def p_w83q (n : Nat) (x : Ty36) : Option Ty35 :=
(l_w83q_1 n x.1 x.2 (([] : List Ty38), (0 : Int)))
def m_w83q := p_w83q FU
def a_w83q : Ann := (.node .leaf (.node .leaf (.node (.node .leaf (.loop [.slot 5 Kd9, .slot 11 (.int .i64)] ([7] ++ rg 12 10) .leaf)) .leaf)))
def S_w83q : FSpec := ⟨[.val (.int .i64), .val Kd16], [Kd9], m_w83q⟩
def p_w84q (n : Nat) (x : Ty29) : Option Ty35 :=
sortRun okRow ((⟨#[]⟩ : ByteArray), ((0 : Int), ((⟨#[]⟩ : ByteArray), false))) rfl cfRow x.1
def m_w84q := p_w84q FU
def a_w84q : Ann := .leaf
def S_w84q : FSpec := ⟨[.row 78 Kd12, .fn 193], [], m_w84q⟩
def l_w85q_1 (n : Nat) (r1_2_2 : (List (List Int))) (x_2 : Int) (z0 : Ty24) : Option Ty11 :=
(lp (fun rec25 (z24 : Ty24) =>
 (cond (decide (z24.2.2 < (lenI r1_2_2)))
 ((geti r1_2_2 z24.2.2).bind fun _ =>
 ((r1_2_2[z24.2.2.toNat]?).bind fun y26 =>
 ((r1_2_2[z24.2.2.toNat]?).bind fun y27 =>
 ((m_w82q y27).bind fun r28 =>
 (Option.bind (α := Bool)
 (cond (!r28.2.2)
 (some true)
 (cond (decide (r28.1 ≥ x_2))
 (some true)
 (some (decide (r28.1 ≤ z24.2.1))))) fun j29 =>
 (cond j29
 (some (Sum.inr ([], false)))
 ((m_w83q (r28.1, r28.2.1)).bind fun r30 =>
 (chk (Nat.ble ((z24.1.length + r30.length) * 48) maxBytes)
 (rec25 ((z24.1 ++ r30), r28.1, IntKind.wrap .i64 (z24.2.2 + (1 : Int))))))))))))
 (some (Sum.inl z24.1)))) n z0)
def p_w85q (n : Nat) (x : Ty41) : Option Ty29 :=
((m_w71q x.1).bind fun r1 =>
((m_w69q x.1.1).bind fun r2 =>
((m_w69q x.1.2).bind fun r3 =>
(cond (!(r1.2.1 == (IntKind.wrap .i64 (r2 + r3))))
 (some ([], false))
 (Option.bind (α := Ty11)
 (l_w85q_1 n r1.2.2 x.2 (([] : List Ty38), (0 : Int), (0 : Int)))
 (Sum.elim (fun j32 =>
 ((m_w84q (j32, true)).bind fun r33 =>
 some (r33, true))) some))))))
def m_w85q := p_w85q FU
def a_w85q : Ann := (.node .leaf (.node .leaf (.node .leaf (.node .leaf (.joinx [.slot 7 Kd9] ([4, 5, 8, 10, 11, 12, 13] ++ rg 27 32) (.node .leaf (.loop [.slot 7 Kd9, .slot 8 (.int .i64), .slot 30 (.int .i64)] ([4, 5, 10, 11, 12, 13] ++ rg 31 28) (.node .leaf (.node .leaf (.node (.node .leaf (.node .leaf (.node (.join [.slot 51 .bool] (rg 40 11) .leaf .leaf) .leaf))) .leaf))))) .leaf)))))
def S_w85q : FSpec := ⟨[.val Kd13, .val (.int .i64)], [Kd9, .bool], m_w85q⟩
def l_w86q_1 (n : Nat) (x_1 : Ty35) (x_2 : Ty35) (z0 : Int) : Option Bool :=
(lp (fun rec5 (z4 : Int) =>
 (cond (decide (z4 < (lenI x_1)))
 ((geti x_1 z4).bind fun y6 =>
 ((geti x_2 z4).bind fun y7 =>
 (cond (!((y6.1.toList == y7.1.toList) && ((y6.2.1 == y7.2.1) && ((y6.2.2.1.toList == y7.2.2.1.toList) && ((y6.2.2.2 == y7.2.2.2) && true)))))
 (some false)
 (rec5 (IntKind.wrap .i64 (z4 + (1 : Int)))))))
 (some true))) n z0)
def p_w86q (n : Nat) (x : Ty13) : Option Bool :=
(cond (!((lenI x.1) == (lenI x.2)))
 (some false)
 (l_w86q_1 n x.1 x.2 (0 : Int)))
def m_w86q := p_w86q FU
def a_w86q : Ann := (.node .leaf (.node .leaf (.node (.node .leaf (.loop [.slot 13 (.int .i64)] ([4, 5] ++ rg 14 12) .leaf)) .leaf)))
def S_w86q : FSpec := ⟨[.val Kd10, .val Kd10], [.bool], m_w86q⟩
def l_w87q_1 (n : Nat) (x_2_2_1 : Ty33) (z0 : Int) : Option (Unit ⊕ Int) :=
(lp (fun rec16 (z15 : Int) =>
 (cond (decide (z15 < (lenI x_2_2_1)))
 ((geti x_2_2_1 z15).bind fun y17 =>
 ((m_w59q y17).bind fun r18 =>
 (cond (!(r18 == (0 : Int)))
 (some (Sum.inr r18))
 (rec16 (IntKind.wrap .i64 (z15 + (1 : Int)))))))
 (some (Sum.inl ())))) n z0)
def l_w87q_2 (n : Nat) (x_2_1 : Ty35) (r22 : Int) (z0 : Int) : Option Int :=
(lp (fun rec53 (z52 : Int) =>
 (cond (decide (z52 < (lenI x_2_1)))
 ((geti x_2_1 z52).bind fun y54 =>
 (cond (decide (y54.2.1 ≤ r22))
 (some z52)
 (rec53 (IntKind.wrap .i64 (z52 + (1 : Int))))))
 (some (-1 : Int)))) n z0)
def p_w87q (n : Nat) (x : Ty9) : Option Int :=
((m_w48q x.1).bind fun r1 =>
((m_w59q x.2.1).bind fun r2 =>
((m_w60q [r1, r2]).bind fun r3 =>
(cond (!(r3 == (0 : Int)))
 (some r3)
 (cond (decide ((lenI x.2.2.1) > (6 : Int)))
 (some (2 : Int))
 (Option.bind (α := (Unit ⊕ Int))
 (l_w87q_1 n x.2.2.1 (0 : Int))
 (Sum.elim (fun j20 =>
 ((m_w61q x.2.2.1).bind fun r21 =>
 ((m_w62q r21).bind fun r22 =>
 (Option.bind (α := Bool)
 ((m_w51q x.2.2.2).bind fun r25 =>
 (cond (!r25)
 (some true)
 ((m_w62q x.2.1).bind fun r26 =>
 some (decide ((if r26 > r22 then r26 else r22) ≥ x.2.2.2))))) fun j27 =>
 (cond j27
 (some (3 : Int))
 ((m_w85q (x.1, x.2.2.2)).bind fun r28 =>
 (Option.bind (α := Bool)
 (cond (!r28.2)
 (some true)
 ((m_w86q (r28.1, x.2.1)).bind fun r43 =>
 (cond (!r43)
 (some true)
 (Option.bind (α := Int)
 (l_w87q_2 n x.2.1 r22 (0 : Int)) fun j56 =>
 some (decide (j56 ≥ (0 : Int))))))) fun j57 =>
 (cond j57
 (some (1 : Int))
 (some (0 : Int)))))))))) some)))))))
def m_w87q := p_w87q FU
def a_w87q : Ann := (.node .leaf (.node (.node (.lazy 16 .leaf) .leaf) (.node .leaf (.joinx [] ([2, 5, 6] ++ rg 25 13) (.node .leaf (.loop [.slot 28 (.int .i64)] ([2, 5, 6] ++ rg 29 9) .leaf)) (.node .leaf (.node (.join [.slot 55 .bool] (rg 42 13) .leaf .leaf) (.node .leaf (.node (.join [.slot 78 .bool] (rg 64 14) (.reg 77 (.node .leaf (.node (.regj 7 [.slot 7 (.int .i64)] [] (.node .leaf (.node (.node .leaf (.loop [.slot 8 (.int .i64)] ([4, 5] ++ rg 9 10) .leaf)) .leaf)) .leaf) .leaf)) .leaf) .leaf) .leaf))))))))
def S_w87q : FSpec := ⟨[.val Kd3], [(.int .i64)], m_w87q⟩
def p_w88q (n : Nat) (x : (List Int)) : Option (List Int) :=
((m_w69q x).bind fun r1 =>
((m_w65q r1).bind fun r2 =>
((m_w64q x).bind fun r3 =>
((m_w65q r3).bind fun r4 =>
(chk (Nat.ble ((r2.length + r4.length) * 1) maxBytes)
(chk (Nat.ble (((r2 ++ r4).length + x.length) * 1) maxBytes)
(some ((r2 ++ r4) ++ x))))))))
def m_w88q := p_w88q FU
def a_w88q : Ann := .leaf
def S_w88q : FSpec := ⟨[.val (.sl none (.int .u8))], [Kd19], m_w88q⟩
def p_w89q (n : Nat) (x : (List Int)) : Option (Int × (List Int)) :=
((m_w69q x).bind fun r1 =>
((m_w49q (r1, (1 : Int), (500 : Int))).bind fun r2 =>
(cond (!r2)
 (some ((2 : Int), []))
 ((m_w88q x).bind fun r3 =>
 some ((0 : Int), r3)))))
def m_w89q := p_w89q FU
def a_w89q : Ann := .leaf
def S_w89q : FSpec := ⟨[.val (.sl none (.int .u8))], [Kd15], m_w89q⟩
def p_w90q (n : Nat) (x : Ty49) : Option Ty49 :=
((m_w68q x.1).bind fun r1 =>
((m_w68q x.2).bind fun r2 =>
some (r1, r2)))
def m_w90q := p_w90q FU
def a_w90q : Ann := .leaf
def S_w90q : FSpec := ⟨[.val Kd13], [Kd11], m_w90q⟩
def p_w91q (n : Nat) (x : Ty39) : Option Ty45 :=
((m_w89q x.2).bind fun r1 =>
((m_w48q x.1).bind fun r2 =>
((m_w60q [r2, r1.1]).bind fun r3 =>
(cond (!(r3 == (0 : Int)))
 (some (r3, ([], [])))
 ((m_w90q x.1).bind fun r4 =>
 (chk (Nat.ble ((r4.2.length + r1.2.length) * 1) maxBytes)
 ((m_w48q (r4.1, (r4.2 ++ r1.2))).bind fun r5 =>
 (cond (!(r5 == (0 : Int)))
 (some ((2 : Int), ([], [])))
 (some ((0 : Int), (r4.1, (r4.2 ++ r1.2))))))))))))
def m_w91q := p_w91q FU
def a_w91q : Ann := (.node .leaf (.node .leaf (.node (.node (.lazy 14 .leaf) .leaf) .leaf)))
def S_w91q : FSpec := ⟨[.val Kd13, .val (.sl none (.int .u8))], [Kd7], m_w91q⟩
def p_w92q (n : Nat) (x : Ty49) : Option Ty45 :=
((m_w48q x).bind fun r1 =>
(cond (!(r1 == (0 : Int)))
 (some (r1, ([], [])))
 ((m_w63q [x.1, x.2]).bind fun r2 =>
 some ((0 : Int), (r2, [])))))
def m_w92q := p_w92q FU
def a_w92q : Ann := .leaf
def S_w92q : FSpec := ⟨[.val Kd13], [Kd7], m_w92q⟩
def p_w93q (n : Nat) (x : Ty35) : Option Ty35 :=
(cond (List.isEmpty x)
 (same
 (some [])
 (chk (Nat.ble ((([] : List Ty38).length + x.length) * 48) maxBytes)
 (some (([] : List Ty38) ++ x))))
 (chk (Nat.ble ((([] : List Ty38).length + x.length) * 48) maxBytes)
 (some (([] : List Ty38) ++ x))))
def m_w93q := p_w93q FU
def a_w93q : Ann := .leaf
def S_w93q : FSpec := ⟨[.val Kd10], [Kd9], m_w93q⟩
def l_w94q_1 (n : Nat) (x : Ty33) (z0 : (Ty33 × Int)) : Option Ty33 :=
(lp (fun rec5 (z4 : (Ty33 × Int)) =>
 (cond (decide (z4.2 < (lenI x)))
 ((geti x z4.2).bind fun y6 =>
 ((m_w93q y6).bind fun r7 =>
 (chk (Nat.ble ((z4.1.length + [r7].length) * 24) maxBytes)
 (rec5 ((z4.1 ++ [r7]), IntKind.wrap .i64 (z4.2 + (1 : Int)))))))
 (some z4.1))) n z0)
def p_w94q (n : Nat) (x : Ty33) : Option Ty33 :=
(l_w94q_1 n x (([] : List Ty35), (0 : Int)))
def m_w94q := p_w94q FU
def a_w94q : Ann := (.node .leaf (.node (.own 6 Kd9 .leaf) (.node (.node .leaf (.loop [.slot 3 Kd5, .slot 9 (.int .i64)] ([5] ++ rg 10 9) (.node .leaf (.node .leaf (.node (.node .leaf (.own 16 Kd9 .leaf)) .leaf))))) .leaf)))
def S_w94q : FSpec := ⟨[.val Kd8], [Kd5], m_w94q⟩
def p_w95q (n : Nat) (x : Ty9) : Option Ty9 :=
((m_w90q x.1).bind fun r1 =>
((m_w93q x.2.1).bind fun r2 =>
((m_w94q x.2.2.1).bind fun r3 =>
some (r1, (r2, (r3, x.2.2.2))))))
def m_w95q := p_w95q FU
def a_w95q : Ann := .leaf
def S_w95q : FSpec := ⟨[.val Kd3], [Kd2], m_w95q⟩
def p_w96q (n : Nat) (x : Ty1) : Option Ty6 :=
((m_w80q x.2.1).bind fun r1 =>
(cond (!(r1 == (0 : Int)))
 (some (r1, ((0 : Int), (([], []), ([], ([], (0 : Int)))))))
 (cond (x.1.2.2.2 == (1000000 : Int))
 (some ((3 : Int), ((0 : Int), (([], []), ([], ([], (0 : Int)))))))
 (same
 ((m_w79q (x.1.2.2.2, x.2.1)).bind fun r2 =>
 (dup 1
 ((m_w91q (x.1.1, r2)).bind fun r3 =>
 (cond (!(r3.1 == (0 : Int)))
 (some (r3.1, ((0 : Int), (([], []), ([], ([], (0 : Int)))))))
 (Option.bind (α := Ty45)
 (cond x.2.2
 ((m_w92q r3.2).bind fun r5 =>
 some r5)
 (some r3)) fun j6 =>
 ((m_w95q x.1).bind fun r7 =>
 ((m_w83q (x.1.2.2.2, x.2.1)).bind fun r8 =>
 (chk (Nat.ble ((r7.2.1.length + r8.length) * 48) maxBytes)
 ((m_w84q ((r7.2.1 ++ r8), true)).bind fun r9 =>
 (cond (decide ((lenI r9) > (200 : Int)))
 (some ((2 : Int), ((0 : Int), (([], []), ([], ([], (0 : Int)))))))
 (some ((0 : Int), (x.1.2.2.2, (j6.2, (r9, (r7.2.2.1, IntKind.wrap .i64 (x.1.2.2.2 + (1 : Int))))))))))))))))))
 ((m_w79q (x.1.2.2.2, x.2.1)).bind fun r2 =>
 ((m_w91q (x.1.1, r2)).bind fun r3 =>
 (cond (!(r3.1 == (0 : Int)))
 (some (r3.1, ((0 : Int), (([], []), ([], ([], (0 : Int)))))))
 (Option.bind (α := Ty45)
 (cond x.2.2
 ((m_w92q r3.2).bind fun r5 =>
 some r5)
 (some r3)) fun j6 =>
 ((m_w95q x.1).bind fun r7 =>
 ((m_w83q (x.1.2.2.2, x.2.1)).bind fun r8 =>
 (chk (Nat.ble ((r7.2.1.length + r8.length) * 48) maxBytes)
 ((m_w84q ((r7.2.1 ++ r8), true)).bind fun r9 =>
 (cond (decide ((lenI r9) > (200 : Int)))
 (some ((2 : Int), ((0 : Int), (([], []), ([], ([], (0 : Int)))))))
 (some ((0 : Int), (x.1.2.2.2, (j6.2, (r9, (r7.2.2.1, IntKind.wrap .i64 (x.1.2.2.2 + (1 : Int)))))))))))))))))))))
def m_w96q := p_w96q FU
def a_w96q : Ann := (.node .leaf (.node .leaf (.node .leaf (.node .leaf (.node .leaf (.join [.box 1000008 Kd7] [33, 34, 35, 36] .leaf .leaf))))))
def S_w96q : FSpec := ⟨[.val Kd3, .val Kd16, .val .bool], [Kd1], m_w96q⟩
def p_w97q (n : Nat) (x : Ty1) : Option Ty6 :=
((m_w87q x.1).bind fun r1 =>
(cond (!(r1 == (0 : Int)))
 (some (r1, ((0 : Int), (([], []), ([], ([], (0 : Int)))))))
 ((m_w96q (x.1, x.2.1, x.2.2)).bind fun r2 =>
 some r2)))
def m_w97q := p_w97q FU
def a_w97q : Ann := .leaf
def S_w97q : FSpec := ⟨[.val Kd3, .val Kd16, .val .bool], [Kd1], m_w97q⟩
def l_w98q_1 (n : Nat) (x_2_1 : Int) (z0 : Ty32) : Option Ty35 :=
(lp (fun rec222 (z221 : Ty32) =>
 (Option.bind (α := Bool)
 (cond (decide (z221.1 > x_2_1))
 ((geti z221.2 z221.1).bind fun _ =>
 ((z221.2[z221.1.toNat]?).bind fun y226 =>
 ((geti z221.2 (IntKind.wrap .i64 (z221.1 - (1 : Int)))).bind fun _ =>
 ((z221.2[(IntKind.wrap .i64 (z221.1 - (1 : Int))).toNat]?).bind fun y227 =>
 ((m_w58q (y226, y227)).bind fun r228 =>
 some (decide (r228 < (0 : Int))))))))
 (some false)) fun j229 =>
 (cond j229
 ((geti z221.2 (IntKind.wrap .i64 (z221.1 - (1 : Int)))).bind fun _ =>
 ((z221.2[(IntKind.wrap .i64 (z221.1 - (1 : Int))).toNat]?).bind fun y230 =>
 ((geti z221.2 z221.1).bind fun _ =>
 ((z221.2[z221.1.toNat]?).bind fun y231 =>
 ((geti z221.2 z221.1).bind fun _ =>
 ((z221.2[z221.1.toNat]?).bind fun y232 =>
 ((geti (z221.2.set z221.1.toNat y230) (IntKind.wrap .i64 (z221.1 - (1 : Int)))).bind fun _ =>
 (((z221.2.set z221.1.toNat y230)[(IntKind.wrap .i64 (z221.1 - (1 : Int))).toNat]?).bind fun y233 =>
 rec222 (IntKind.wrap .i64 (z221.1 - (1 : Int)), ((z221.2.set z221.1.toNat y230).set ((IntKind.wrap .i64 (z221.1 - (1 : Int))).toNat) y231))))))))))
 (some z221.2)))) n z0)
def l_w98q_2 (n : Nat) (x_2_1 : Int) (x_2_2_1 : Int) (z0 : Ty32) : Option Ty35 :=
(lp (fun rec158 (z157 : Ty32) =>
 (cond (decide (z157.1 < x_2_2_1))
 (Option.bind (α := Ty35)
 (l_w98q_1 n x_2_1 (z157.1, z157.2)) fun j235 =>
 rec158 (IntKind.wrap .i64 (z157.1 + (1 : Int)), j235))
 (some z157.2))) n z0)
def p_w98q (n : Nat) (x : Ty18) : Option Ty35 :=
(l_w98q_2 n x.2.1 x.2.2.1 (IntKind.wrap .i64 (x.2.1 + (1 : Int)), x.1))
def m_w98q := p_w98q FU
def a_w98q : Ann := (.node .leaf (.loop [.slot 8 (.int .i64), .row 0 78 Kd12] ([9] ++ rg 12 41) (.node .leaf (.join [.row 0 78 Kd12] ([9] ++ rg 17 36) (.node .leaf (.loop [.slot 9 (.int .i64), .row 0 78 Kd12] (rg 18 35) (.node (.join [.slot 34 .bool] (rg 18 16) .leaf .leaf) .leaf))) .leaf))))
def S_w98q : FSpec := ⟨[.row 78 Kd12, .val (.int .i64), .val (.int .i64), .fn 193], [], m_w98q⟩
def l_w99q_1 (n : Nat) (x_2_1 : Int) (x_2_2_1 : Int) (x_2_2_2_1 : Int) (z0 : Ty32) : Option Ty35 :=
(lp (fun rec12 (z11 : Ty32) =>
 (cond (decide (z11.1 < x_2_2_2_1))
 ((geti z11.2 (IntKind.wrap .i64 (x_2_2_1 + z11.1))).bind fun _ =>
 ((z11.2[(IntKind.wrap .i64 (x_2_2_1 + z11.1)).toNat]?).bind fun y13 =>
 ((geti z11.2 (IntKind.wrap .i64 (x_2_1 + z11.1))).bind fun _ =>
 ((z11.2[(IntKind.wrap .i64 (x_2_1 + z11.1)).toNat]?).bind fun y14 =>
 ((geti z11.2 (IntKind.wrap .i64 (x_2_1 + z11.1))).bind fun _ =>
 ((z11.2[(IntKind.wrap .i64 (x_2_1 + z11.1)).toNat]?).bind fun y15 =>
 ((geti (z11.2.set ((IntKind.wrap .i64 (x_2_1 + z11.1)).toNat) y13) (IntKind.wrap .i64 (x_2_2_1 + z11.1))).bind fun _ =>
 (((z11.2.set ((IntKind.wrap .i64 (x_2_1 + z11.1)).toNat) y13)[(IntKind.wrap .i64 (x_2_2_1 + z11.1)).toNat]?).bind fun y16 =>
 rec12 (IntKind.wrap .i64 (z11.1 + (1 : Int)), ((z11.2.set ((IntKind.wrap .i64 (x_2_1 + z11.1)).toNat) y13).set ((IntKind.wrap .i64 (x_2_2_1 + z11.1)).toNat) y14))))))))))
 (some z11.2))) n z0)
def p_w99q (n : Nat) (x : Ty16) : Option Ty35 :=
(l_w99q_1 n x.2.1 x.2.2.1 x.2.2.2.1 ((0 : Int), x.1))
def m_w99q := p_w99q FU
def a_w99q : Ann := (.node .leaf (.loop [.slot 10 (.int .i64), .row 0 78 Kd12] (rg 11 27) .leaf))
def S_w99q : FSpec := ⟨[.row 78 Kd12, .val (.int .i64), .val (.int .i64), .val (.int .i64), .fn 193], [], m_w99q⟩
def l_w100q_1 (n : Nat) (x_2_2_1 : Int) (z0 : Ty26) : Option Ty32 :=
(lp (fun rec19 (z18 : Ty26) =>
 (cond (!(z18.1 == z18.2.1))
 (cond (decide (z18.1 > z18.2.1))
 ((m_w99q (z18.2.2, IntKind.wrap .i64 (x_2_2_1 - z18.1), x_2_2_1, z18.2.1, true)).bind fun r20 =>
 rec19 (IntKind.wrap .i64 (z18.1 - z18.2.1), z18.2.1, r20))
 ((m_w99q (z18.2.2, IntKind.wrap .i64 (x_2_2_1 - z18.1), IntKind.wrap .i64 ((IntKind.wrap .i64 (x_2_2_1 + z18.2.1)) - z18.1), z18.1, true)).bind fun r21 =>
 rec19 (z18.1, IntKind.wrap .i64 (z18.2.1 - z18.1), r21)))
 (some (z18.1, z18.2.2)))) n z0)
def p_w100q (n : Nat) (x : Ty16) : Option Ty35 :=
(Option.bind (α := Ty32)
 (l_w100q_1 n x.2.2.1 (IntKind.wrap .i64 (x.2.2.1 - x.2.1), IntKind.wrap .i64 (x.2.2.2.1 - x.2.2.1), x.1)) fun j23 =>
((m_w99q (j23.2, IntKind.wrap .i64 (x.2.2.1 - j23.1), x.2.2.1, j23.1, true)).bind fun r24 =>
some r24))
def m_w100q := p_w100q FU
def a_w100q : Ann := (.node .leaf (.node .leaf (.join [.slot 10 (.int .i64), .row 0 78 Kd12] ([11] ++ rg 18 32) (.loop [.slot 10 (.int .i64), .slot 11 (.int .i64), .row 0 78 Kd12] (rg 18 32) .leaf) .leaf)))
def S_w100q : FSpec := ⟨[.row 78 Kd12, .val (.int .i64), .val (.int .i64), .val (.int .i64), .fn 193], [], m_w100q⟩
def l_w101q_1 (n : Nat) (x_1 : Ty35) (x_2_1 : Int) (z0 : (Int × Int)) : Option Int :=
(lp (fun rec105 (z104 : (Int × Int)) =>
 (cond (decide (z104.1 < z104.2))
 (chk (decide (0 ≤ (1 : Int)))
 ((geti x_1 (IntKind.wrap .i64 (Int.fdiv (IntKind.wrap .u64 (IntKind.wrap .i64 (z104.1 + z104.2))) (2 ^ (min (1 : Int).toNat 64))))).bind fun _ =>
 ((x_1[(IntKind.wrap .i64 (Int.fdiv (IntKind.wrap .u64 (IntKind.wrap .i64 (z104.1 + z104.2))) (2 ^ (min (1 : Int).toNat 64)))).toNat]?).bind fun y106 =>
 ((geti x_1 x_2_1).bind fun _ =>
 ((x_1[x_2_1.toNat]?).bind fun y107 =>
 ((m_w58q (y106, y107)).bind fun r108 =>
 (cond (decide (r108 < (0 : Int)))
 (rec105 (IntKind.wrap .i64 ((IntKind.wrap .i64 (Int.fdiv (IntKind.wrap .u64 (IntKind.wrap .i64 (z104.1 + z104.2))) (2 ^ (min (1 : Int).toNat 64)))) + (1 : Int)), z104.2))
 (rec105 (z104.1, IntKind.wrap .i64 (Int.fdiv (IntKind.wrap .u64 (IntKind.wrap .i64 (z104.1 + z104.2))) (2 ^ (min (1 : Int).toNat 64))))))))))))
 (some z104.1))) n z0)
def l_w101q_2 (n : Nat) (j110 : Int) (z0 : Ty32) : Option Ty30 :=
(lp (fun rec122 (z121 : Ty32) =>
 (cond (decide (z121.1 < (IntKind.wrap .i64 (j110 - (1 : Int)))))
 ((geti z121.2 (IntKind.wrap .i64 (z121.1 + (1 : Int)))).bind fun _ =>
 ((z121.2[(IntKind.wrap .i64 (z121.1 + (1 : Int))).toNat]?).bind fun y123 =>
 ((geti z121.2 z121.1).bind fun _ =>
 ((z121.2[z121.1.toNat]?).bind fun y124 =>
 ((geti z121.2 z121.1).bind fun _ =>
 ((z121.2[z121.1.toNat]?).bind fun y125 =>
 ((geti (z121.2.set z121.1.toNat y123) (IntKind.wrap .i64 (z121.1 + (1 : Int)))).bind fun _ =>
 (((z121.2.set z121.1.toNat y123)[(IntKind.wrap .i64 (z121.1 + (1 : Int))).toNat]?).bind fun y126 =>
 rec122 (IntKind.wrap .i64 (z121.1 + (1 : Int)), ((z121.2.set z121.1.toNat y123).set ((IntKind.wrap .i64 (z121.1 + (1 : Int))).toNat) y124))))))))))
 (some (Sum.inr z121.2)))) n z0)
def l_w101q_3 (n : Nat) (x_1 : Ty35) (x_2_2_1 : Int) (z0 : (Int × Int)) : Option Int :=
(lp (fun rec233 (z232 : (Int × Int)) =>
 (cond (decide (z232.1 < z232.2))
 (chk (decide (0 ≤ (1 : Int)))
 ((geti x_1 x_2_2_1).bind fun _ =>
 ((x_1[x_2_2_1.toNat]?).bind fun y234 =>
 ((geti x_1 (IntKind.wrap .i64 (Int.fdiv (IntKind.wrap .u64 (IntKind.wrap .i64 (z232.1 + z232.2))) (2 ^ (min (1 : Int).toNat 64))))).bind fun _ =>
 ((x_1[(IntKind.wrap .i64 (Int.fdiv (IntKind.wrap .u64 (IntKind.wrap .i64 (z232.1 + z232.2))) (2 ^ (min (1 : Int).toNat 64)))).toNat]?).bind fun y235 =>
 ((m_w58q (y234, y235)).bind fun r236 =>
 (cond (!(decide (r236 < (0 : Int))))
 (rec233 (IntKind.wrap .i64 ((IntKind.wrap .i64 (Int.fdiv (IntKind.wrap .u64 (IntKind.wrap .i64 (z232.1 + z232.2))) (2 ^ (min (1 : Int).toNat 64)))) + (1 : Int)), z232.2))
 (rec233 (z232.1, IntKind.wrap .i64 (Int.fdiv (IntKind.wrap .u64 (IntKind.wrap .i64 (z232.1 + z232.2))) (2 ^ (min (1 : Int).toNat 64))))))))))))
 (some z232.1))) n z0)
def l_w101q_4 (n : Nat) (j238 : Int) (z0 : Ty32) : Option Ty30 :=
(lp (fun rec250 (z249 : Ty32) =>
 (cond (decide (z249.1 > j238))
 ((geti z249.2 (IntKind.wrap .i64 (z249.1 - (1 : Int)))).bind fun _ =>
 ((z249.2[(IntKind.wrap .i64 (z249.1 - (1 : Int))).toNat]?).bind fun y251 =>
 ((geti z249.2 z249.1).bind fun _ =>
 ((z249.2[z249.1.toNat]?).bind fun y252 =>
 ((geti z249.2 z249.1).bind fun _ =>
 ((z249.2[z249.1.toNat]?).bind fun y253 =>
 ((geti (z249.2.set z249.1.toNat y251) (IntKind.wrap .i64 (z249.1 - (1 : Int)))).bind fun _ =>
 (((z249.2.set z249.1.toNat y251)[(IntKind.wrap .i64 (z249.1 - (1 : Int))).toNat]?).bind fun y254 =>
 rec250 (IntKind.wrap .i64 (z249.1 - (1 : Int)), ((z249.2.set z249.1.toNat y251).set ((IntKind.wrap .i64 (z249.1 - (1 : Int))).toNat) y252))))))))))
 (some (Sum.inr z249.2)))) n z0)
def l_w101q_5 (n : Nat) (x_1 : Ty35) (x_2_1 : Int) (x_2_2_1 : Int) (x_2_2_2_1 : Int) (z0 : (Int × Int)) : Option Int :=
(lp (fun rec286 (z285 : (Int × Int)) =>
 (cond (decide (z285.1 < z285.2))
 (chk (decide (0 ≤ (1 : Int)))
 ((geti x_1 (IntKind.wrap .i64 ((IntKind.wrap .i64 ((IntKind.wrap .i64 ((IntKind.wrap .i64 (Int.fdiv (IntKind.wrap .u64 (IntKind.wrap .i64 (x_2_1 + x_2_2_2_1))) (2 ^ (min (1 : Int).toNat 64)))) + x_2_2_1)) - (1 : Int))) - (IntKind.wrap .i64 (Int.fdiv (IntKind.wrap .u64 (IntKind.wrap .i64 (z285.1 + z285.2))) (2 ^ (min (1 : Int).toNat 64))))))).bind fun _ =>
 ((x_1[(IntKind.wrap .i64 ((IntKind.wrap .i64 ((IntKind.wrap .i64 ((IntKind.wrap .i64 (Int.fdiv (IntKind.wrap .u64 (IntKind.wrap .i64 (x_2_1 + x_2_2_2_1))) (2 ^ (min (1 : Int).toNat 64)))) + x_2_2_1)) - (1 : Int))) - (IntKind.wrap .i64 (Int.fdiv (IntKind.wrap .u64 (IntKind.wrap .i64 (z285.1 + z285.2))) (2 ^ (min (1 : Int).toNat 64)))))).toNat]?).bind fun y287 =>
 ((geti x_1 (IntKind.wrap .i64 (Int.fdiv (IntKind.wrap .u64 (IntKind.wrap .i64 (z285.1 + z285.2))) (2 ^ (min (1 : Int).toNat 64))))).bind fun _ =>
 ((x_1[(IntKind.wrap .i64 (Int.fdiv (IntKind.wrap .u64 (IntKind.wrap .i64 (z285.1 + z285.2))) (2 ^ (min (1 : Int).toNat 64)))).toNat]?).bind fun y288 =>
 ((m_w58q (y287, y288)).bind fun r289 =>
 (cond (!(decide (r289 < (0 : Int))))
 (rec286 (IntKind.wrap .i64 ((IntKind.wrap .i64 (Int.fdiv (IntKind.wrap .u64 (IntKind.wrap .i64 (z285.1 + z285.2))) (2 ^ (min (1 : Int).toNat 64)))) + (1 : Int)), z285.2))
 (rec286 (z285.1, IntKind.wrap .i64 (Int.fdiv (IntKind.wrap .u64 (IntKind.wrap .i64 (z285.1 + z285.2))) (2 ^ (min (1 : Int).toNat 64))))))))))))
 (some z285.1))) n z0)
def p_w101q (q : Ty16 → Option Ty35) (n : Nat) (x : Ty16) : Option Ty35 :=
(Option.bind (α := Ty30)
 (cond ((IntKind.wrap .i64 (x.2.2.1 - x.2.1)) == (1 : Int))
 (Option.bind (α := Int)
 (l_w101q_1 n x.1 x.2.1 (x.2.2.1, x.2.2.2.1)) fun j110 =>
 (l_w101q_2 n j110 (x.2.1, x.1)))
 (some (Sum.inl ())))
 (Sum.elim (fun j128 =>
(Option.bind (α := Ty30)
 (cond ((IntKind.wrap .i64 (x.2.2.2.1 - x.2.2.1)) == (1 : Int))
 (Option.bind (α := Int)
 (l_w101q_3 n x.1 x.2.2.1 (x.2.1, x.2.2.1)) fun j238 =>
 (l_w101q_4 n j238 (x.2.2.1, x.1)))
 (some (Sum.inl ())))
 (Sum.elim (fun j256 =>
(chk (decide (0 ≤ (1 : Int)))
 (Option.bind (α := (Int × Int))
 (cond (decide (x.2.2.1 > (IntKind.wrap .i64 (Int.fdiv (IntKind.wrap .u64 (IntKind.wrap .i64 (x.2.1 + x.2.2.2.1))) (2 ^ (min (1 : Int).toNat 64))))))
 (some (IntKind.wrap .i64 ((IntKind.wrap .i64 ((IntKind.wrap .i64 (Int.fdiv (IntKind.wrap .u64 (IntKind.wrap .i64 (x.2.1 + x.2.2.2.1))) (2 ^ (min (1 : Int).toNat 64)))) + x.2.2.1)) - x.2.2.2.1), IntKind.wrap .i64 (Int.fdiv (IntKind.wrap .u64 (IntKind.wrap .i64 (x.2.1 + x.2.2.2.1))) (2 ^ (min (1 : Int).toNat 64)))))
 (some (x.2.1, x.2.2.1))) fun j257 =>
 (Option.bind (α := Int)
 (l_w101q_5 n x.1 x.2.1 x.2.2.1 x.2.2.2.1 (j257.1, j257.2)) fun j291 =>
 (Option.bind (α := Ty35)
 (Option.bind (α := Bool)
 (cond (decide (j291 < x.2.2.1))
 (some (decide (x.2.2.1 < (IntKind.wrap .i64 ((IntKind.wrap .i64 ((IntKind.wrap .i64 (Int.fdiv (IntKind.wrap .u64 (IntKind.wrap .i64 (x.2.1 + x.2.2.2.1))) (2 ^ (min (1 : Int).toNat 64)))) + x.2.2.1)) - j291)))))
 (some false)) fun j296 =>
 (cond j296
 ((m_w100q (x.1, j291, x.2.2.1, IntKind.wrap .i64 ((IntKind.wrap .i64 ((IntKind.wrap .i64 (Int.fdiv (IntKind.wrap .u64 (IntKind.wrap .i64 (x.2.1 + x.2.2.2.1))) (2 ^ (min (1 : Int).toNat 64)))) + x.2.2.1)) - j291), true)).bind fun r297 =>
 some r297)
 (some x.1))) fun j298 =>
 (Option.bind (α := Ty35)
 (Option.bind (α := Bool)
 (cond (decide (x.2.1 < j291))
 (some (decide (j291 < (IntKind.wrap .i64 (Int.fdiv (IntKind.wrap .u64 (IntKind.wrap .i64 (x.2.1 + x.2.2.2.1))) (2 ^ (min (1 : Int).toNat 64)))))))
 (some false)) fun j303 =>
 (cond j303
 ((q (j298, x.2.1, j291, IntKind.wrap .i64 (Int.fdiv (IntKind.wrap .u64 (IntKind.wrap .i64 (x.2.1 + x.2.2.2.1))) (2 ^ (min (1 : Int).toNat 64))), true)).bind fun r304 =>
 some r304)
 (some j298))) fun j305 =>
 (Option.bind (α := Bool)
 (cond (decide ((IntKind.wrap .i64 (Int.fdiv (IntKind.wrap .u64 (IntKind.wrap .i64 (x.2.1 + x.2.2.2.1))) (2 ^ (min (1 : Int).toNat 64)))) < (IntKind.wrap .i64 ((IntKind.wrap .i64 ((IntKind.wrap .i64 (Int.fdiv (IntKind.wrap .u64 (IntKind.wrap .i64 (x.2.1 + x.2.2.2.1))) (2 ^ (min (1 : Int).toNat 64)))) + x.2.2.1)) - j291))))
 (some (decide ((IntKind.wrap .i64 ((IntKind.wrap .i64 ((IntKind.wrap .i64 (Int.fdiv (IntKind.wrap .u64 (IntKind.wrap .i64 (x.2.1 + x.2.2.2.1))) (2 ^ (min (1 : Int).toNat 64)))) + x.2.2.1)) - j291)) < x.2.2.2.1)))
 (some false)) fun j306 =>
 (cond j306
 ((q (j305, IntKind.wrap .i64 (Int.fdiv (IntKind.wrap .u64 (IntKind.wrap .i64 (x.2.1 + x.2.2.2.1))) (2 ^ (min (1 : Int).toNat 64))), IntKind.wrap .i64 ((IntKind.wrap .i64 ((IntKind.wrap .i64 (Int.fdiv (IntKind.wrap .u64 (IntKind.wrap .i64 (x.2.1 + x.2.2.2.1))) (2 ^ (min (1 : Int).toNat 64)))) + x.2.2.1)) - j291), x.2.2.2.1, true)).bind fun r307 =>
 some r307)
 (some j305))))))))) some))) some))
def R_w101q (n : Nat) : Nat → Ty16 → Option Ty35
 | 0, _ => none
 | d + 1, x => p_w101q (R_w101q n d) n x
def m_w101q : Ty16 → Option Ty35 := R_w101q FU 64
def a_w101q : Ann := (.joinx [] [25, 26, 27, 28] (.node .leaf (.node (.node .leaf (.node .leaf (.join [.slot 10 (.int .i64)] ([11, 12] ++ rg 31 23) (.loop [.slot 10 (.int .i64), .slot 11 (.int .i64)] ([12] ++ rg 31 23) .leaf) (.node (.node .leaf (.loop [.slot 13 (.int .i64), .row 0 78 Kd12] (rg 55 22) .leaf)) .leaf)))) .leaf)) (.joinx [] [77, 78, 79, 80] (.node .leaf (.node (.node .leaf (.node .leaf (.join [.slot 14 (.int .i64)] ([15, 16] ++ rg 83 24) (.loop [.slot 14 (.int .i64), .slot 15 (.int .i64)] ([16] ++ rg 83 24) .leaf) (.node (.node .leaf (.loop [.slot 17 (.int .i64), .row 0 78 Kd12] (rg 108 21) .leaf)) .leaf)))) .leaf)) (.node .leaf (.node .leaf (.node .leaf (.join [.slot 20 (.int .i64), .slot 21 (.int .i64)] (rg 138 9) .leaf (.node .leaf (.join [.slot 20 (.int .i64)] ([21, 23] ++ rg 149 26) (.loop [.slot 20 (.int .i64), .slot 21 (.int .i64)] ([23] ++ rg 149 26) .leaf) (.node .leaf (.join [.row 0 78 Kd12] (rg 178 14) (.join [.slot 185 .bool] (rg 178 7) .leaf .leaf) (.join [.row 0 78 Kd12] (rg 192 14) (.join [.slot 199 .bool] (rg 192 7) .leaf .leaf) (.join [.slot 213 .bool] (rg 206 7) .leaf .leaf))))))))))))
def Q_w101q (q : Ty16 → Option Ty35) : FSpec := ⟨[.row 78 Kd12, .val (.int .i64), .val (.int .i64), .val (.int .i64), .fn 193], [], q⟩
def S_w101q : FSpec := ⟨[.row 78 Kd12, .val (.int .i64), .val (.int .i64), .val (.int .i64), .fn 193], [], m_w101q⟩
def l_w102q_1 (n : Nat) (x_2_1 : Int) (z0 : Ty26) : Option Ty32 :=
(lp (fun rec14 (z13 : Ty26) =>
 (cond (decide (z13.2.1 ≤ x_2_1))
 ((m_w98q (z13.2.2, z13.1, z13.2.1, true)).bind fun r15 =>
 rec14 (z13.2.1, IntKind.wrap .i64 (z13.2.1 + (20 : Int)), r15))
 (some (z13.1, z13.2.2)))) n z0)
def l_w102q_2 (n : Nat) (x_2_1 : Int) (z57_1 : Int) (z0 : Ty26) : Option Ty32 :=
(lp (fun rec72 (z71 : Ty26) =>
 (cond (decide (z71.2.1 ≤ x_2_1))
 ((m_w101q (z71.2.2, z71.1, IntKind.wrap .i64 (z71.1 + z57_1), z71.2.1, true)).bind fun r73 =>
 rec72 (z71.2.1, IntKind.wrap .i64 (z71.2.1 + (IntKind.wrap .i64 ((2 : Int) * z57_1))), r73))
 (some (z71.1, z71.2.2)))) n z0)
def l_w102q_3 (n : Nat) (x_2_1 : Int) (z0 : Ty32) : Option Ty35 :=
(lp (fun rec58 (z57 : Ty32) =>
 (cond (decide (z57.1 < x_2_1))
 (Option.bind (α := Ty32)
 (l_w102q_2 n x_2_1 z57.1 ((0 : Int), IntKind.wrap .i64 ((2 : Int) * z57.1), z57.2)) fun j75 =>
 (cond (decide ((IntKind.wrap .i64 (j75.1 + z57.1)) < x_2_1))
 ((m_w101q (j75.2, j75.1, IntKind.wrap .i64 (j75.1 + z57.1), x_2_1, true)).bind fun r76 =>
 rec58 (IntKind.wrap .i64 (z57.1 * (2 : Int)), r76))
 (rec58 (IntKind.wrap .i64 (z57.1 * (2 : Int)), j75.2))))
 (some z57.2))) n z0)
def p_w102q (n : Nat) (x : Ty23) : Option Ty35 :=
(Option.bind (α := Ty32)
 (l_w102q_1 n x.2.1 ((0 : Int), (20 : Int), x.1)) fun j17 =>
((m_w98q (j17.2, j17.1, x.2.1, true)).bind fun r18 =>
(l_w102q_3 n x.2.1 ((20 : Int), r18))))
def m_w102q := p_w102q FU
def a_w102q : Ann := (.node .leaf (.node .leaf (.join [.slot 7 (.int .i64), .row 0 78 Kd12] ([8] ++ rg 11 12) (.loop [.slot 7 (.int .i64), .slot 8 (.int .i64), .row 0 78 Kd12] (rg 11 12) .leaf) (.node .leaf (.loop [.slot 6 (.int .i64), .row 0 78 Kd12] ([7, 8, 9] ++ rg 28 35) (.node .leaf (.node .leaf (.join [.slot 7 (.int .i64), .row 0 78 Kd12] ([8] ++ rg 33 16) (.loop [.slot 7 (.int .i64), .slot 8 (.int .i64), .row 0 78 Kd12] (rg 33 16) .leaf) .leaf))))))))
def S_w102q : FSpec := ⟨[.row 78 Kd12, .val (.int .i64), .fn 193], [], m_w102q⟩
def p_w103q (n : Nat) (x : Ty29) : Option Ty35 :=
((m_w102q (x.1, lenI x.1, true)).bind fun r1 =>
some r1)
def m_w103q := p_w103q FU
def a_w103q : Ann := .leaf
def S_w103q : FSpec := ⟨[.row 78 Kd12, .fn 193], [], m_w103q⟩
def p_w104q (n : Nat) (x : Ty15) : Option Bool :=
((m_w58q (x.1, x.2)).bind fun r1 =>
some (r1 == (0 : Int)))
def m_w104q := p_w104q FU
def a_w104q : Ann := .leaf
def S_w104q : FSpec := ⟨[.val Kd12, .val Kd12], [.bool], m_w104q⟩
def l_w105q_1 (n : Nat) (x_1 : Ty35) (z91 : Int) (z0 : Ty26) : Option Ty32 :=
(lp (fun rec173 (z172 : Ty26) =>
 (cond (decide (z172.2.1 < (((x_1.length - z91.toNat) : Nat) : Int)))
 ((geti ((z172.2.2.drop z91.toNat).take (x_1.length - z91.toNat)) z172.2.1).bind fun _ =>
 ((z172.2.2[(z91.toNat + z172.2.1.toNat)]?).bind fun y174 =>
 ((geti ((z172.2.2.drop z91.toNat).take (x_1.length - z91.toNat)) (IntKind.wrap .i64 (z172.2.1 - (1 : Int)))).bind fun _ =>
 ((z172.2.2[(z91.toNat + (IntKind.wrap .i64 (z172.2.1 - (1 : Int))).toNat)]?).bind fun y175 =>
 ((m_w104q (y174, y175)).bind fun r176 =>
 (cond (!r176)
 ((geti ((z172.2.2.drop z91.toNat).take (x_1.length - z91.toNat)) z172.2.1).bind fun _ =>
 ((z172.2.2[(z91.toNat + z172.2.1.toNat)]?).bind fun y177 =>
 ((geti z172.2.2 z172.1).bind fun _ =>
 ((z172.2.2[z172.1.toNat]?).bind fun y178 =>
 rec173 (IntKind.wrap .i64 (z172.1 + (1 : Int)), IntKind.wrap .i64 (z172.2.1 + (1 : Int)), (z172.2.2.set z172.1.toNat y177))))))
 (rec173 (z172.1, IntKind.wrap .i64 (z172.2.1 + (1 : Int)), z172.2.2))))))))
 (some (z172.1, z172.2.2)))) n z0)
def l_w105q_2 (n : Nat) (x_1 : Ty35) (z0 : Int) : Option Ty29 :=
(lp (fun rec92 (z91 : Int) =>
 (cond (decide (z91 < (lenI x_1)))
 (Option.bind (α := (Unit ⊕ Ty29))
 ((geti x_1 z91).bind fun _ =>
 ((x_1[z91.toNat]?).bind fun y137 =>
 ((geti x_1 (IntKind.wrap .i64 (z91 - (1 : Int)))).bind fun _ =>
 ((x_1[(IntKind.wrap .i64 (z91 - (1 : Int))).toNat]?).bind fun y138 =>
 ((m_w104q (y137, y138)).bind fun r139 =>
 (cond r139
 (chk (bndB (some z91) none none x_1.length)
 (Option.bind (α := Ty32)
 (l_w105q_1 n x_1 z91 (z91, (1 : Int), x_1)) fun j180 =>
 (chk (bndB (some j180.1) none none j180.2.length)
 (chk (bndB none (some j180.1) none (j180.2.take j180.1.toNat ++ List.replicate (j180.2.length - j180.1.toNat) ((⟨#[]⟩ : ByteArray), ((0 : Int), ((⟨#[]⟩ : ByteArray), false))) ++ j180.2.drop (j180.1.toNat + (j180.2.length - j180.1.toNat))).length)
 (some (Sum.inr (((j180.2.take j180.1.toNat ++ List.replicate (j180.2.length - j180.1.toNat) ((⟨#[]⟩ : ByteArray), ((0 : Int), ((⟨#[]⟩ : ByteArray), false))) ++ j180.2.drop (j180.1.toNat + (j180.2.length - j180.1.toNat))).take j180.1.toNat), true)))))))
 (some (Sum.inl ()))))))))
 (Sum.elim (fun j181 =>
 rec92 (IntKind.wrap .i64 (z91 + (1 : Int)))) some))
 (some (x_1, true)))) n z0)
def p_w105q (n : Nat) (x : Ty29) : Option Ty29 :=
(cond (decide ((lenI x.1) < (2 : Int)))
 (some (x.1, true))
 (l_w105q_2 n x.1 (1 : Int)))
def m_w105q := p_w105q FU
def a_w105q : Ann := (.node .leaf (.node .leaf (.node (.node .leaf (.loop [.slot 5 (.int .i64)] ([4, 6, 7] ++ rg 12 53) (.node .leaf (.joinx [] (rg 18 11) (.node .leaf (.node (.node .leaf (.join [.slot 5 (.int .i64), .row 0 78 Kd12] ([7] ++ rg 32 27) (.node .leaf (.loop [.slot 5 (.int .i64), .slot 7 (.int .i64), .row 0 78 Kd12] (rg 32 27) .leaf)) (.node .leaf (.node (.own 64 Kd12 .leaf) .leaf)))) .leaf)) .leaf)))) .leaf)))
def S_w105q : FSpec := ⟨[.own 78 Kd12, .fn 295], [Kd9], m_w105q⟩
def p_w106q (n : Nat) (x : Ty33) : Option Ty35 :=
((m_w61q x).bind fun r1 =>
((m_w103q (r1, true)).bind fun r2 =>
((m_w105q (r2, true)).bind fun r3 =>
some r3.1)))
def m_w106q := p_w106q FU
def a_w106q : Ann := .leaf
def S_w106q : FSpec := ⟨[.val Kd8], [Kd9], m_w106q⟩
def l_w107q_1 (n : Nat) (x : Ty33) (z0 : Int) : Option Ty22 :=
(lp (fun rec13 (z12 : Int) =>
 (cond (decide (z12 < (lenI x)))
 ((geti x z12).bind fun y14 =>
 ((m_w59q y14).bind fun r15 =>
 (cond (!(r15 == (0 : Int)))
 (some (Sum.inr (r15, [])))
 (rec13 (IntKind.wrap .i64 (z12 + (1 : Int)))))))
 (some (Sum.inl ())))) n z0)
def p_w107q (n : Nat) (x : Ty33) : Option Ty32 :=
(cond (decide ((lenI x) > (8 : Int)))
 (some ((2 : Int), []))
 (Option.bind (α := Ty22)
 (l_w107q_1 n x (0 : Int))
 (Sum.elim (fun j17 =>
 ((m_w106q x).bind fun r18 =>
 (cond (decide ((lenI r18) > (200 : Int)))
 (some ((2 : Int), []))
 (some ((0 : Int), r18))))) some)))
def m_w107q := p_w107q FU
def a_w107q : Ann := (.node .leaf (.node .leaf (.joinx [] ([4, 5] ++ rg 11 13) (.node .leaf (.loop [.slot 13 (.int .i64)] ([4, 5] ++ rg 14 10) .leaf)) .leaf)))
def S_w107q : FSpec := ⟨[.val Kd8], [Kd4], m_w107q⟩
def p_w108q (n : Nat) (x : Ty9) : Option Ty32 :=
(chk (Nat.ble (([x.2.1].length + x.2.2.1.length) * 24) maxBytes)
((m_w107q ([x.2.1] ++ x.2.2.1)).bind fun r1 =>
some r1))
def m_w108q := p_w108q FU
def a_w108q : Ann := .leaf
def S_w108q : FSpec := ⟨[.val Kd3], [Kd4], m_w108q⟩
def p_w109q (n : Nat) (x : Ty9) : Option Ty32 :=
((m_w87q x).bind fun r1 =>
(cond (!(r1 == (0 : Int)))
 (some (r1, []))
 ((m_w108q x).bind fun r2 =>
 some r2)))
def m_w109q := p_w109q FU
def a_w109q : Ann := .leaf
def S_w109q : FSpec := ⟨[.val Kd3], [Kd4], m_w109q⟩
def p_w110q (n : Nat) (x : Ty9) : Option Ty33 :=
(chk (Nat.ble (([x.2.1].length + x.2.2.1.length) * 24) maxBytes)
(some ([x.2.1] ++ x.2.2.1)))
def m_w110q := p_w110q FU
def a_w110q : Ann := .leaf
def S_w110q : FSpec := ⟨[.val Kd3], [(.sl (some 53) Kd10)], m_w110q⟩
def p_w111q (n : Nat) (x : Ty9) : Option Ty32 :=
((m_w24q x).bind fun r1 =>
(cond (!(r1 == (0 : Int)))
 (some (r1, []))
 ((m_w110q x).bind fun r2 =>
 ((m_w29q r2).bind fun r3 =>
 some r3))))
def m_w111q := p_w111q FU
def a_w111q : Ann := .leaf
def S_w111q : FSpec := ⟨[.val Kd3], [Kd4], m_w111q⟩
def l_w112q_1 (n : Nat) (x_1 : Ty35) (x_2_1 : ByteArray) (x_2_2 : Int) (z0 : Int) : Option Int :=
(lp (fun rec13 (z12 : Int) =>
 (cond (decide (z12 < (lenI x_1)))
 ((geti x_1 z12).bind fun y14 =>
 (Option.bind (α := Bool)
 (cond (y14.1.toList == x_2_1.toList)
 (some (decide (y14.2.1 ≤ x_2_2)))
 (some false)) fun j15 =>
 (cond j15
 (some z12)
 (rec13 (IntKind.wrap .i64 (z12 + (1 : Int)))))))
 (some (-1 : Int)))) n z0)
def p_w112q (n : Nat) (x : Ty21) : Option (Ty38 × Bool) :=
(Option.bind (α := Int)
 (l_w112q_1 n x.1 x.2.1 x.2.2 (0 : Int)) fun j17 =>
(cond (decide (j17 < (0 : Int)))
 (some (((⟨#[]⟩ : ByteArray), ((0 : Int), ((⟨#[]⟩ : ByteArray), false))), false))
 ((geti x.1 j17).bind fun y18 =>
 some (y18, true))))
def m_w112q := p_w112q FU
def a_w112q : Ann := (.node .leaf (.node (.regj 11 [.slot 11 (.int .i64)] [] (.node .leaf (.node (.node .leaf (.loop [.slot 8 (.int .i64)] ([4, 5] ++ rg 9 10) (.node .leaf (.node .leaf (.node (.node .leaf (.node (.regj 16 [.slot 16 .bool] [] .leaf .leaf) .leaf)) .leaf))))) .leaf)) .leaf) .leaf))
def S_w112q : FSpec := ⟨[.val Kd10, .val .str, .val (.int .i64)], [Kd12, .bool], m_w112q⟩
def p_w113q (n : Nat) (x : Ty21) : Option (Int × ByteArray) :=
((m_w59q x.1).bind fun r1 =>
(cond (!(r1 == (0 : Int)))
 (some (r1, (⟨#[]⟩ : ByteArray)))
 ((m_w112q (x.1, x.2.1, x.2.2)).bind fun r2 =>
 (Option.bind (α := Bool)
 (cond (!r2.2)
 (some true)
 (some r2.1.2.2.2)) fun j3 =>
 (cond j3
 (some ((4 : Int), (⟨#[]⟩ : ByteArray)))
 (some ((0 : Int), r2.1.2.2.1)))))))
def m_w113q := p_w113q FU
def a_w113q : Ann := (.node .leaf (.node .leaf (.node .leaf (.node (.join [.slot 28 .bool] [23, 24, 25, 26, 27] .leaf .leaf) .leaf))))
def S_w113q : FSpec := ⟨[.val Kd10, .val .str, .val (.int .i64)], [(.pair (.int .i64) .str)], m_w113q⟩
def p_w114q (n : Nat) (x : Ty5) : Option (Int × ByteArray) :=
((m_w109q x.1).bind fun r1 =>
(cond (!(r1.1 == (0 : Int)))
 (some (r1.1, (⟨#[]⟩ : ByteArray)))
 ((m_w113q (r1.2, x.2.1, x.2.2)).bind fun r2 =>
 some r2)))
def m_w114q := p_w114q FU
def a_w114q : Ann := .leaf
def S_w114q : FSpec := ⟨[.val Kd3, .val .str, .val (.int .i64)], [(.pair (.int .i64) .str)], m_w114q⟩
def l_w115q_1 (n : Nat) (r2_1 : Ty9) (r2_2_1 : Ty40) (r3_2_1 : Int) (r3_2_2 : Ty9) (z0 : Int) : Option Bool :=
(lp (fun rec32 (z31 : Int) =>
 (cond (decide (z31 < (lenI r2_2_1)))
 ((geti r2_2_1 z31).bind fun _ =>
 ((r2_2_1[z31.toNat]?).bind fun y33 =>
 (dup 1
 ((m_w114q (r3_2_2, y33.1, r3_2_1)).bind fun r34 =>
 (Option.bind (α := Bool)
 ((geti r2_2_1 z31).bind fun _ =>
 ((r2_2_1[z31.toNat]?).bind fun y38 =>
 (cond (!(y38.2.2 == (r34.1 == (4 : Int))))
 (some true)
 ((geti r2_2_1 z31).bind fun _ =>
 ((r2_2_1[z31.toNat]?).bind fun y39 =>
 (cond (!y39.2.2)
 ((geti r2_2_1 z31).bind fun _ =>
 ((r2_2_1[z31.toNat]?).bind fun y40 =>
 some (!(r34.2.toList == y40.2.1.toList))))
 (some false))))))) fun j41 =>
 (cond j41
 (some false)
 (Option.bind (α := Bool)
 ((m_w109q r2_1).bind fun r47 =>
 (cond (r47.1 == (0 : Int))
 ((geti r2_2_1 z31).bind fun _ =>
 ((r2_2_1[z31.toNat]?).bind fun y48 =>
 ((geti r2_2_1 z31).bind fun _ =>
 ((r2_2_1[z31.toNat]?).bind fun y49 =>
 ((m_w114q (r3_2_2, y48.1, IntKind.wrap .i64 (r3_2_1 - (1 : Int)))).bind fun r50 =>
 ((m_w114q (r2_1, y49.1, IntKind.wrap .i64 (r3_2_1 - (1 : Int)))).bind fun r51 =>
 some (!((r50.1 == r51.1) && ((r50.2.toList == r51.2.toList) && true)))))))))
 (some false))) fun j52 =>
 (cond j52
 (some false)
 (rec32 (IntKind.wrap .i64 (z31 + (1 : Int))))))))))))
 (some true))) n z0)
def p_w115q (n : Nat) (x : (List Int)) : Option Bool :=
((m_w0q x).bind fun r1 =>
(cond r1
 (some true)
 ((m_w47q x).bind fun r2 =>
 ((m_w97q (r2.1, r2.2.1, r2.2.2)).bind fun r3 =>
 (cond (!(r3.1 == (0 : Int)))
 ((m_w39q (r2.1, r2.2.1, r2.2.2)).bind fun r4 =>
 some (r4.1 == r3.1))
 (Option.bind (α := Bool)
 ((m_w87q r3.2.2).bind fun r6 =>
 (cond (!(r6 == (0 : Int)))
 (some true)
 (cond (!(r3.2.1 == r2.1.2.2.2))
 (some true)
 (some (!(r3.2.2.2.2.2 == (IntKind.wrap .i64 (r2.1.2.2.2 + (1 : Int))))))))) fun j7 =>
 (cond j7
 (some false)
 ((m_w109q r3.2.2).bind fun r8 =>
 (cond (!(r8.1 == (0 : Int)))
 ((m_w111q r3.2.2).bind fun r9 =>
 some (r9.1 == r8.1))
 (l_w115q_1 n r2.1 r2.2.1 r3.2.1 r3.2.2 (0 : Int)))))))))))
def m_w115q := p_w115q FU
def a_w115q : Ann := (.node .leaf (.node .leaf (.node .leaf (.node .leaf (.node .leaf (.node (.join [.slot 52 .bool] (rg 33 19) .leaf .leaf) (.node .leaf (.node (.node .leaf (.loop [.slot 8 (.int .i64)] ([2, 9] ++ rg 66 71) (.node .leaf (.node (.node .leaf (.node (.join [.slot 108 .bool] (rg 82 26) .leaf .leaf) (.join [.slot 136 .bool] (rg 109 27) .leaf .leaf))) .leaf)))) .leaf))))))))
def S_w115q : FSpec := ⟨[.val (.sl none (.int .u8))], [.bool], m_w115q⟩
def T : Tab := [
 (2, ⟨false, 1, 8, [], 0, [.int .i64 0], some (.int .i64), [0]⟩),
 (3, ⟨false, 1, 8, [], 0, [.int .i64 0], some (.int .i64), [0]⟩),
 (4, ⟨false, 1, 1, [], 0, [.bool false], some .bool, [1]⟩),
 (5, ⟨false, 1, 1, [], 0, [.int .u8 0], some (.int .u8), [0]⟩),
 (9, ⟨false, 1, 16, [], 0, [.str ⟨#[]⟩], some .str, [2]⟩),
 (25, ⟨false, 1, 24, [], 2, [.nil], some Kd20, []⟩),
 (43, ⟨false, 1, 24, [], 5, [.nil], some (.sl none (.int .u8)), []⟩),
 (52, ⟨true, 2, 48, [(0, 1, 43), (1, 1, 43)], 0, [.nil, .nil], some Kd13, []⟩),
 (53, ⟨false, 1, 24, [], 78, [.nil], some Kd10, []⟩),
 (54, ⟨false, 1, 24, [], 53, [.nil], some Kd8, []⟩),
 (56, ⟨true, 5, 104, [(0, 2, 52), (2, 1, 53), (3, 1, 54), (4, 1, 2)], 0, [.nil, .nil, .nil, .nil, .int .i64 0], some Kd3, []⟩),
 (61, ⟨true, 7, 120, [(0, 1, 2), (1, 1, 2), (2, 5, 56)], 0, [.int .i64 0, .int .i64 0, .nil, .nil, .nil, .nil, .int .i64 0], some (.pair (.int .i64) (.pair (.int .i64) Kd3)), []⟩),
 (70, ⟨false, 1, 24, [], 43, [.nil], some (.sl none (.sl none (.int .u8))), []⟩),
 (72, ⟨true, 3, 40, [(0, 1, 2), (1, 1, 2), (2, 1, 70)], 0, [.int .i64 0, .int .i64 0, .nil], some (.pair (.int .i64) (.pair (.int .i64) (.sl none (.sl none (.int .u8))))), []⟩),
 (75, ⟨true, 2, 32, [(0, 1, 2), (1, 1, 53)], 0, [.int .i64 0, .nil], some (.pair (.int .i64) Kd10), []⟩),
 (78, ⟨true, 4, 48, [(0, 1, 9), (1, 1, 2), (2, 1, 9), (3, 1, 4)], 0, [.str ⟨#[]⟩, .int .i64 0, .str ⟨#[]⟩, .bool false], some Kd12, [2, 0, 2, 1]⟩),
 (81, ⟨true, 2, 24, [(0, 1, 2), (1, 1, 9)], 0, [.int .i64 0, .str ⟨#[]⟩], some (.pair (.int .i64) .str), [0, 2]⟩),
 (91, ⟨false, 1, 24, [], 99, [.nil], some Kd16, []⟩),
 (99, ⟨true, 3, 40, [(0, 1, 9), (1, 1, 9), (2, 1, 4)], 0, [.str ⟨#[]⟩, .str ⟨#[]⟩, .bool false], some Kd18, [2, 2, 1]⟩),
 (100, ⟨false, 1, 24, [], 9, [.nil], some (.sl none .str), []⟩),
 (148, ⟨true, 3, 56, [(0, 1, 2), (1, 2, 52)], 0, [.int .i64 0, .nil, .nil], some (.pair (.int .i64) Kd13), []⟩),
 (233, ⟨true, 2, 32, [(0, 1, 43), (1, 1, 2)], 0, [.nil, .int .i64 0], some Kd17, []⟩),
 (243, ⟨true, 2, 16, [(0, 1, 2), (1, 1, 2)], 0, [.int .i64 0, .int .i64 0], some (.pair (.int .i64) (.int .i64)), [0, 0]⟩),
 (248, ⟨true, 2, 32, [(0, 1, 2), (1, 1, 43)], 0, [.int .i64 0, .nil], some (.pair (.int .i64) (.sl none (.int .u8))), []⟩),
 (294, ⟨false, 1, 8, [], 0, [.int .u64 0], some (.int .u64), [0]⟩),
 (297, ⟨false, 1, 8, [], 0, [.int .u64 0], some (.int .u64), [0]⟩),
 (321, ⟨false, 1, 24, [], 3, [.nil], some Kd20, []⟩)]
def G_w0q : Env := (33, S_w0q) :: []
def G_w1q : Env := (63, S_w1q) :: G_w0q
def G_w2q : Env := (208, S_w2q) :: G_w1q
def G_w3q : Env := (113, S_w3q) :: G_w2q
def G_w4q : Env := (83, S_w4q) :: G_w3q
def G_w5q : Env := (186, S_w5q) :: G_w4q
def G_w6q : Env := (187, S_w6q) :: G_w5q
def G_w7q : Env := (84, S_w7q) :: G_w6q
def G_w8q : Env := (85, S_w8q) :: G_w7q
def G_w9q : Env := (132, S_w9q) :: G_w8q
def G_w10q : Env := (268, S_w10q) :: G_w9q
def G_w11q : Env := (188, S_w11q) :: G_w10q
def G_w12q : Env := (269, S_w12q) :: G_w11q
def G_w13q : Env := (270, S_w13q) :: G_w12q
def G_w14q : Env := (226, S_w14q) :: G_w13q
def G_w15q : Env := (227, S_w15q) :: G_w14q
def G_w16q : Env := (131, S_w16q) :: G_w15q
def G_w17q : Env := (129, S_w17q) :: G_w16q
def G_w18q : Env := (271, S_w18q) :: G_w17q
def G_w19q : Env := (189, S_w19q) :: G_w18q
def G_w20q : Env := (133, S_w20q) :: G_w19q
def G_w21q : Env := (134, S_w21q) :: G_w20q
def G_w22q : Env := (86, S_w22q) :: G_w21q
def G_w23q : Env := (87, S_w23q) :: G_w22q
def G_w24q : Env := (23, S_w24q) :: G_w23q
def G_w25q : Env := (201, S_w25q) :: G_w24q
def G_w26q : Env := (104, S_w26q) :: G_w25q
def G_w27q : Env := (27, S_w27q) :: G_w26q
def G_w28q : Env := (224, S_w28q) :: G_w27q
def G_w29q : Env := (125, S_w29q) :: G_w28q
def G_w30q : Env := (143, S_w30q) :: G_w29q
def G_w31q : Env := (56, S_w31q) :: G_w30q
def G_w32q : Env := (292, S_w32q) :: G_w31q
def G_w33q : Env := (140, S_w33q) :: G_w32q
def G_w34q : Env := (232, S_w34q) :: G_w33q
def G_w35q : Env := (139, S_w35q) :: G_w34q
def G_w36q : Env := (285, S_w36q) :: G_w35q
def G_w37q : Env := (225, S_w37q) :: G_w36q
def G_w38q : Env := (130, S_w38q) :: G_w37q
def G_w39q : Env := (48, S_w39q) :: G_w38q
def G_w40q : Env := (112, S_w40q) :: G_w39q
def G_w41q : Env := (278, S_w41q) :: G_w40q
def G_w42q : Env := (209, S_w42q) :: G_w41q
def G_w43q : Env := (279, S_w43q) :: G_w42q
def G_w44q : Env := (280, S_w44q) :: G_w43q
def G_w45q : Env := (210, S_w45q) :: G_w44q
def G_w46q : Env := (111, S_w46q) :: G_w45q
def G_w47q : Env := (53, S_w47q) :: G_w46q
def G_w48q : Env := (92, S_w48q) :: G_w47q
def G_w49q : Env := (195, S_w49q) :: G_w48q
def G_w50q : Env := (272, S_w50q) :: G_w49q
def G_w51q : Env := (96, S_w51q) :: G_w50q
def G_w52q : Env := (192, S_w52q) :: G_w51q
def G_w53q : Env := (322, S_w53q) :: G_w52q
def G_w54q : Env := (274, S_w54q) :: G_w53q
def G_w55q : Env := (316, S_w55q) :: G_w54q
def G_w56q : Env := (261, S_w56q) :: G_w55q
def G_w57q : Env := (273, S_w57q) :: G_w56q
def G_w58q : Env := (193, S_w58q) :: G_w57q
def G_w59q : Env := (93, S_w59q) :: G_w58q
def G_w60q : Env := (91, S_w60q) :: G_w59q
def G_w61q : Env := (95, S_w61q) :: G_w60q
def G_w62q : Env := (94, S_w62q) :: G_w61q
def G_w63q : Env := (120, S_w63q) :: G_w62q
def G_w64q : Env := (282, S_w64q) :: G_w63q
def G_w65q : Env := (281, S_w65q) :: G_w64q
def G_w66q : Env := (220, S_w66q) :: G_w65q
def G_w67q : Env := (214, S_w67q) :: G_w66q
def G_w68q : Env := (215, S_w68q) :: G_w67q
def G_w69q : Env := (196, S_w69q) :: G_w68q
def G_w70q : Env := (119, S_w70q) :: G_w69q
def G_w71q : Env := (37, S_w71q) :: G_w70q
def G_w72q : Env := (217, S_w72q) :: G_w71q
def G_w73q : Env := (283, S_w73q) :: G_w72q
def G_w74q : Env := (218, S_w74q) :: G_w73q
def G_w75q : Env := (286, S_w75q) :: G_w74q
def G_w76q : Env := (221, S_w76q) :: G_w75q
def G_w77q : Env := (290, S_w77q) :: G_w76q
def G_w78q : Env := (291, S_w78q) :: G_w77q
def G_w79q : Env := (230, S_w79q) :: G_w78q
def G_w80q : Env := (228, S_w80q) :: G_w79q
def G_w81q : Env := (219, S_w81q) :: G_w80q
def G_w82q : Env := (121, S_w82q) :: G_w81q
def G_w83q : Env := (122, S_w83q) :: G_w82q
def G_w84q : Env := (197, S_w84q) :: G_w83q
def G_w85q : Env := (97, S_w85q) :: G_w84q
def G_w86q : Env := (98, S_w86q) :: G_w85q
def G_w87q : Env := (25, S_w87q) :: G_w86q
def G_w88q : Env := (334, S_w88q) :: G_w87q
def G_w89q : Env := (289, S_w89q) :: G_w88q
def G_w90q : Env := (202, S_w90q) :: G_w89q
def G_w91q : Env := (229, S_w91q) :: G_w90q
def G_w92q : Env := (231, S_w92q) :: G_w91q
def G_w93q : Env := (203, S_w93q) :: G_w92q
def G_w94q : Env := (204, S_w94q) :: G_w93q
def G_w95q : Env := (105, S_w95q) :: G_w94q
def G_w96q : Env := (136, S_w96q) :: G_w95q
def G_w97q : Env := (50, S_w97q) :: G_w96q
def G_w98q : Env := (323, S_w98q) :: G_w97q
def G_w99q : Env := (366, S_w99q) :: G_w98q
def G_w100q : Env := (362, S_w100q) :: G_w99q
def G_w101q : Env := (349, S_w101q) :: G_w100q
def G_w102q : Env := (335, S_w102q) :: G_w101q
def G_w103q : Env := (293, S_w103q) :: G_w102q
def G_w104q : Env := (295, S_w104q) :: G_w103q
def G_w105q : Env := (294, S_w105q) :: G_w104q
def G_w106q : Env := (233, S_w106q) :: G_w105q
def G_w107q : Env := (141, S_w107q) :: G_w106q
def G_w108q : Env := (126, S_w108q) :: G_w107q
def G_w109q : Env := (43, S_w109q) :: G_w108q
def G_w110q : Env := (117, S_w110q) :: G_w109q
def G_w111q : Env := (42, S_w111q) :: G_w110q
def G_w112q : Env := (223, S_w112q) :: G_w111q
def G_w113q : Env := (124, S_w113q) :: G_w112q
def G_w114q : Env := (40, S_w114q) :: G_w113q
def G_w115q : Env := (11, S_w115q) :: G_w114q
end
end Go.RvP
