/- The plain functions that the evaluator comes to, for FnEngineCrashes. No condition. -/
import Derived.Test.YtbeplmdadjgamaaGreatRvL
import Derived.Test.YtbeplmdadjgamaaGreatRvS7
namespace Go.RvP
open Go Go.Rv
noncomputable section
def rg (a : Nat) : Nat → List Nat
  | 0 => []
  | n + 1 => a :: rg (a + 1) n
abbrev Ty42 : Type := ((List (List Int)) × Int)
abbrev Ty41 : Type := ((List Int) × (List Int))
abbrev Ty40 : Type := (Int × ((List Int) × Int))
abbrev Ty39 : Type := (((List Int) × Int) × Int)
abbrev Ty38 : Type := (ByteArray × (ByteArray × Bool))
abbrev Ty37 : Type := (Int × Ty41)
abbrev Ty36 : Type := (Int × (Int × (List (List Int))))
abbrev Ty35 : Type := ((List Int) × ((List Int) × Int))
abbrev Ty34 : Type := (((List Int) × Int) × (List Int))
abbrev Ty33 : Type := (Ty41 × Int)
abbrev Ty32 : Type := (List Ty38)
abbrev Ty31 : Type := (ByteArray × (Int × (ByteArray × Bool)))
abbrev Ty30 : Type := (Ty32 × Int)
abbrev Ty29 : Type := (Int × Ty32)
abbrev Ty28 : Type := (List Ty31)
abbrev Ty27 : Type := (((List Int) × Int) × Ty41)
abbrev Ty26 : Type := (List Ty28)
abbrev Ty25 : Type := (Int × Ty28)
abbrev Ty24 : Type := (Ty28 × Int)
abbrev Ty23 : Type := (Ty28 × Bool)
abbrev Ty22 : Type := (Int × (Ty32 × Bool))
abbrev Ty21 : Type := (Ty32 × ((List Int) × Int))
abbrev Ty20 : Type := (Ty31 × ((List Int) × Int))
abbrev Ty19 : Type := (Ty28 × (Int × Int))
abbrev Ty18 : Type := (Unit ⊕ Ty25)
abbrev Ty17 : Type := (Ty28 × ((List Int) × Int))
abbrev Ty16 : Type := (Ty32 × Ty40)
abbrev Ty15 : Type := (Ty28 × Ty40)
abbrev Ty14 : Type := (Ty31 × Ty31)
abbrev Ty13 : Type := (Ty28 × Ty31)
abbrev Ty12 : Type := (Ty28 × Ty28)
abbrev Ty11 : Type := (Ty32 ⊕ Ty22)
abbrev Ty10 : Type := (Ty28 ⊕ Ty23)
abbrev Ty9 : Type := (Ty24 ⊕ Ty23)
abbrev Ty8 : Type := (Ty41 × (Ty28 × (Ty26 × Int)))
abbrev Ty7 : Type := (Ty8 × Int)
abbrev Ty6 : Type := (Int × Ty8)
abbrev Ty5 : Type := (Int × Ty6)
abbrev Ty4 : Type := (Ty8 × ((List Int) × Int))
abbrev Ty3 : Type := (((List Int) × Int) × Ty8)
abbrev Ty2 : Type := (Int × Ty3)
abbrev Ty1 : Type := (Ty8 × (Ty32 × Bool))
abbrev Kd21 : Kd := (.sl none (.int .i64))
abbrev Kd20 : Kd := (.sl (some 5) (.int .u8))
abbrev Kd19 : Kd := (.pair .str (.pair .str .bool))
abbrev Kd18 : Kd := (.pair (.sl none (.int .u8)) (.int .i64))
abbrev Kd17 : Kd := (.sl none Kd19)
abbrev Kd16 : Kd := (.pair (.int .i64) Kd20)
abbrev Kd15 : Kd := (.sl (some 99) Kd19)
abbrev Kd14 : Kd := (.pair (.sl none (.int .u8)) (.sl none (.int .u8)))
abbrev Kd13 : Kd := (.pair .str (.pair (.int .i64) (.pair .str .bool)))
abbrev Kd12 : Kd := (.pair Kd20 Kd20)
abbrev Kd11 : Kd := (.sl none Kd13)
abbrev Kd10 : Kd := (.sl (some 78) Kd13)
abbrev Kd9 : Kd := (.sl none Kd11)
abbrev Kd8 : Kd := (.pair (.int .i64) Kd12)
abbrev Kd7 : Kd := (.pair (.int .i64) (.pair (.int .i64) (.sl (some 43) Kd20)))
abbrev Kd6 : Kd := (.sl (some 53) Kd10)
abbrev Kd5 : Kd := (.pair (.int .i64) Kd10)
abbrev Kd4 : Kd := (.pair Kd14 (.pair Kd11 (.pair Kd9 (.int .i64))))
abbrev Kd3 : Kd := (.pair Kd12 (.pair Kd10 (.pair Kd6 (.int .i64))))
abbrev Kd2 : Kd := (.pair (.int .i64) (.pair (.int .i64) Kd4))
abbrev Kd1 : Kd := (.pair (.int .i64) (.pair (.int .i64) Kd3))
def p_w0q (n : Nat) (x : (List Int)) : Option Bool :=
some (decide ((lenI x) > (1048576 : Int)))
def m_w0q := p_w0q FU
def a_w0q : Ann := .leaf
def S_w0q : FSpec := ⟨[.val (.sl none (.int .u8))], [.bool], m_w0q⟩
def p_w1q (n : Nat) (x : (Int × (Int × Int))) : Option Bool :=
(cond (decide (x.1 ≥ x.2.1))
 (some (decide (x.1 ≤ x.2.2)))
 (some false))
def m_w1q := p_w1q FU
def a_w1q : Ann := .leaf
def S_w1q : FSpec := ⟨[.val (.int .i64), .val (.int .i64), .val (.int .i64)], [.bool], m_w1q⟩
def p_w2q (n : Nat) (x : Int) : Option Ty5 :=
((m_w1q (x, (1 : Int), (1000000 : Int))).bind fun r1 =>
(cond (!r1)
 (some ((3 : Int), ((0 : Int), (([], []), ([], ([], (0 : Int)))))))
 (some ((0 : Int), ((0 : Int), (([], []), ([], ([], x))))))))
def m_w2q := p_w2q FU
def a_w2q : Ann := .leaf
def S_w2q : FSpec := ⟨[.val (.int .i64)], [Kd1], m_w2q⟩
def p_w3q (n : Nat) (x : Ty39) : Option Ty40 :=
(cond (decide (x.2 < (1 : Int)))
 (some ((0 : Int), (x.1.1, IntKind.wrap .i64 (x.1.2 + (1 : Int)))))
 (cond ((lenI x.1.1) == (0 : Int))
 (cond (x.2 == 0) none
 (some (Int.tmod (IntKind.wrap .i64 ((IntKind.wrap .i64 ((IntKind.wrap .i64 (x.1.2 + (1 : Int))) - (1 : Int))) * (7 : Int))) x.2, (x.1.1, IntKind.wrap .i64 (x.1.2 + (1 : Int))))))
 (cond ((lenI x.1.1) == 0) none
 ((geti x.1.1 (Int.tmod (IntKind.wrap .i64 ((IntKind.wrap .i64 (x.1.2 + (1 : Int))) - (1 : Int))) (lenI x.1.1))).bind fun y1 =>
 (cond ((lenI x.1.1) == 0) none
 (cond (decide (x.2 > (200 : Int)))
 (cond ((lenI x.1.1) == 0) none
 ((geti x.1.1 (Int.tmod (IntKind.wrap .i64 ((IntKind.wrap .i64 ((IntKind.wrap .i64 (x.1.2 + (1 : Int))) - (1 : Int))) + (1 : Int))) (lenI x.1.1))).bind fun y2 =>
 (cond (x.2 == 0) none
 (some (Int.tmod (IntKind.wrap .i64 ((IntKind.wrap .i64 ((IntKind.wrap .i64 ((IntKind.wrap .i64 ((IntKind.wrap .i64 y1) + (IntKind.wrap .i64 ((IntKind.wrap .i64 (Int.tdiv (IntKind.wrap .i64 ((IntKind.wrap .i64 (x.1.2 + (1 : Int))) - (1 : Int))) (lenI x.1.1))) * (37 : Int))))) * (251 : Int))) + (IntKind.wrap .i64 ((IntKind.wrap .i64 y2) * (13 : Int))))) + (IntKind.wrap .i64 ((IntKind.wrap .i64 (x.1.2 + (1 : Int))) - (1 : Int))))) x.2, (x.1.1, IntKind.wrap .i64 (x.1.2 + (1 : Int))))))))
 (cond (x.2 == 0) none
 (some (Int.tmod (IntKind.wrap .i64 ((IntKind.wrap .i64 y1) + (IntKind.wrap .i64 ((IntKind.wrap .i64 (Int.tdiv (IntKind.wrap .i64 ((IntKind.wrap .i64 (x.1.2 + (1 : Int))) - (1 : Int))) (lenI x.1.1))) * (37 : Int))))) x.2, (x.1.1, IntKind.wrap .i64 (x.1.2 + (1 : Int))))))))))))
def m_w3q := p_w3q FU
def a_w3q : Ann := .leaf
def S_w3q : FSpec := ⟨[.box Kd18, .val (.int .i64)], [(.int .i64)], m_w3q⟩
def p_w4q (n : Nat) (x : Ty41) : Option Int :=
(cond (decide ((IntKind.wrap .i64 ((lenI x.1) + (lenI x.2))) > (6000 : Int)))
 (some (2 : Int))
 (some (0 : Int)))
def m_w4q := p_w4q FU
def a_w4q : Ann := .leaf
def S_w4q : FSpec := ⟨[.val Kd14], [(.int .i64)], m_w4q⟩
def p_w5q (n : Nat) (x : Ty31) : Option Int :=
(Option.bind (α := Bool)
 (cond (decide (((x.1.size : Nat) : Int) < (1 : Int)))
 (some true)
 (cond (decide (((x.1.size : Nat) : Int) > (20 : Int)))
 (some true)
 (cond x.2.2.2
 (some (!(x.2.2.1.toList == (⟨#[]⟩ : ByteArray).toList)))
 (some false)))) fun j1 =>
(cond j1
 (some (1 : Int))
 (cond (decide (((x.2.2.1.size : Nat) : Int) > (100 : Int)))
 (some (2 : Int))
 ((m_w1q (x.2.1, (1 : Int), (1000000 : Int))).bind fun r2 =>
 (cond (!r2)
 (some (3 : Int))
 (some (0 : Int)))))))
def m_w5q := p_w5q FU
def a_w5q : Ann := (.node .leaf (.node (.join [.slot 21 .bool] (rg 3 18) .leaf .leaf) .leaf))
def S_w5q : FSpec := ⟨[.val Kd13], [(.int .i64)], m_w5q⟩
def p_w6q (n : Nat) (x : Ty14) : Option Bool :=
(cond (!(x.1.1.toList == x.2.1.toList))
 (some (Op.bytesLess x.1.1.toList x.2.1.toList))
 (some (decide (x.1.2.1 > x.2.2.1))))
def m_w6q := p_w6q FU
def a_w6q : Ann := .leaf
def S_w6q : FSpec := ⟨[.val Kd13, .val Kd13], [.bool], m_w6q⟩
def l_w7q_1 (n : Nat) (x : Ty28) (z0 : Int) : Option Int :=
(lp (fun rec12 (z11 : Int) =>
 (cond (decide (z11 < (lenI x)))
 ((geti x z11).bind fun y13 =>
 ((m_w5q y13).bind fun r14 =>
 (cond (!(r14 == (0 : Int)))
 (some r14)
 (Option.bind (α := Bool)
 (cond (decide (z11 > (0 : Int)))
 ((geti x (IntKind.wrap .i64 (z11 - (1 : Int)))).bind fun y18 =>
 ((geti x z11).bind fun y19 =>
 ((m_w6q (y18, y19)).bind fun r20 =>
 some (!r20))))
 (some false)) fun j21 =>
 (cond j21
 (some (1 : Int))
 (rec12 (IntKind.wrap .i64 (z11 + (1 : Int)))))))))
 (some (0 : Int)))) n z0)
def p_w7q (n : Nat) (x : Ty28) : Option Int :=
(cond (decide ((lenI x) > (200 : Int)))
 (some (2 : Int))
 (l_w7q_1 n x (0 : Int)))
def m_w7q := p_w7q FU
def a_w7q : Ann := (.node .leaf (.node .leaf (.node (.node .leaf (.loop [.slot 3 (.int .i64)] ([2, 4] ++ rg 8 29) (.node .leaf (.node (.node .leaf (.join [.slot 36 .bool] (rg 22 14) .leaf .leaf)) .leaf)))) .leaf)))
def S_w7q : FSpec := ⟨[.val Kd11], [(.int .i64)], m_w7q⟩
def l_w8q_1 (n : Nat) (x_1 : Ty28) (x_2 : Int) (z0 : Int) : Option Bool :=
(lp (fun rec4 (z3 : Int) =>
 (cond (decide (z3 < (lenI x_1)))
 ((geti x_1 z3).bind fun y5 =>
 (cond (decide (y5.2.1 ≥ x_2))
 (some false)
 (rec4 (IntKind.wrap .i64 (z3 + (1 : Int))))))
 (some true))) n z0)
def p_w8q (n : Nat) (x : Ty24) : Option Bool :=
(l_w8q_1 n x.1 x.2 (0 : Int))
def m_w8q := p_w8q FU
def a_w8q : Ann := (.node .leaf (.node (.node .leaf (.loop [.slot 5 (.int .i64)] ([4] ++ rg 6 13) .leaf)) .leaf))
def S_w8q : FSpec := ⟨[.val Kd11, .val (.int .i64)], [.bool], m_w8q⟩
def p_w9q (n : Nat) (x : Ty41) : Option Ty41 :=
(chk (Nat.ble (x.1.length * 1) maxBytes)
(chk (Nat.ble ((x.1.length + x.2.length) * 1) maxBytes)
(some ((x.1 ++ x.2), []))))
def m_w9q := p_w9q FU
def a_w9q : Ann := (.node .leaf (.node (.lazy 3 .leaf) .leaf))
def S_w9q : FSpec := ⟨[.val Kd14], [Kd12], m_w9q⟩
def l_w10q_1 (n : Nat) (x : (List Int)) (z0 : (Int × Int)) : Option Int :=
(lp (fun rec4 (z3 : (Int × Int)) =>
 (cond (decide (z3.2 < (lenI x)))
 ((geti x z3.2).bind fun y5 =>
 (cond ((65521 : Int) == 0) none
 (rec4 (Int.tmod (IntKind.wrap .i64 ((IntKind.wrap .i64 ((IntKind.wrap .i64 (z3.1 * (257 : Int))) + (IntKind.wrap .i64 y5))) + (1 : Int))) (65521 : Int), IntKind.wrap .i64 (z3.2 + (1 : Int))))))
 (some z3.1))) n z0)
def p_w10q (n : Nat) (x : (List Int)) : Option Int :=
(l_w10q_1 n x ((1 : Int), (0 : Int)))
def m_w10q := p_w10q FU
def a_w10q : Ann := (.node .leaf (.node .leaf (.node (.node .leaf (.loop [.slot 3 (.int .i64), .slot 4 (.int .i64)] (rg 5 16) .leaf)) .leaf)))
def S_w10q : FSpec := ⟨[.val (.sl none (.int .u8))], [(.int .i64)], m_w10q⟩
def l_w11q_1 (n : Nat) (x : (List Int)) (z0 : Ty42) : Option Ty42 :=
(lp (fun rec9 (z8 : Ty42) =>
 (cond (decide ((IntKind.wrap .i64 (z8.2 + (4 : Int))) < (lenI x)))
 ((geti x z8.2).bind fun y10 =>
 ((geti x (IntKind.wrap .i64 (z8.2 + (1 : Int)))).bind fun y11 =>
 (Option.bind (α := Bool)
 (cond (decide ((IntKind.wrap .i64 ((IntKind.wrap .i64 ((IntKind.wrap .i64 y10) * (256 : Int))) + (IntKind.wrap .i64 y11))) < (1 : Int)))
 (some true)
 (cond (decide ((IntKind.wrap .i64 ((IntKind.wrap .i64 ((IntKind.wrap .i64 y10) * (256 : Int))) + (IntKind.wrap .i64 y11))) > (500 : Int)))
 (some true)
 (some (decide ((IntKind.wrap .i64 ((IntKind.wrap .i64 (z8.2 + (4 : Int))) + (IntKind.wrap .i64 ((IntKind.wrap .i64 ((IntKind.wrap .i64 y10) * (256 : Int))) + (IntKind.wrap .i64 y11))))) > (lenI x)))))) fun j12 =>
 (cond j12
 (some (z8.1, z8.2))
 (chk (bndB (some (IntKind.wrap .i64 (z8.2 + (4 : Int)))) (some (IntKind.wrap .i64 ((IntKind.wrap .i64 (z8.2 + (4 : Int))) + (IntKind.wrap .i64 ((IntKind.wrap .i64 ((IntKind.wrap .i64 y10) * (256 : Int))) + (IntKind.wrap .i64 y11)))))) none x.length)
 ((geti x (IntKind.wrap .i64 (z8.2 + (2 : Int)))).bind fun y13 =>
 ((geti x (IntKind.wrap .i64 (z8.2 + (3 : Int)))).bind fun y14 =>
 ((m_w10q (cutL (some (IntKind.wrap .i64 (z8.2 + (4 : Int)))) (some (IntKind.wrap .i64 ((IntKind.wrap .i64 (z8.2 + (4 : Int))) + (IntKind.wrap .i64 ((IntKind.wrap .i64 ((IntKind.wrap .i64 y10) * (256 : Int))) + (IntKind.wrap .i64 y11)))))) x)).bind fun r15 =>
 (cond (!(r15 == (IntKind.wrap .i64 ((IntKind.wrap .i64 ((IntKind.wrap .i64 y13) * (256 : Int))) + (IntKind.wrap .i64 y14)))))
 (some (z8.1, z8.2))
 (chk (Nat.ble ((([] : List Int).length + (cutL (some (IntKind.wrap .i64 (z8.2 + (4 : Int)))) (some (IntKind.wrap .i64 ((IntKind.wrap .i64 (z8.2 + (4 : Int))) + (IntKind.wrap .i64 ((IntKind.wrap .i64 ((IntKind.wrap .i64 y10) * (256 : Int))) + (IntKind.wrap .i64 y11)))))) x).length) * 1) maxBytes)
 (chk (Nat.ble ((z8.1.length + ([(([] : List Int) ++ (cutL (some (IntKind.wrap .i64 (z8.2 + (4 : Int)))) (some (IntKind.wrap .i64 ((IntKind.wrap .i64 (z8.2 + (4 : Int))) + (IntKind.wrap .i64 ((IntKind.wrap .i64 ((IntKind.wrap .i64 y10) * (256 : Int))) + (IntKind.wrap .i64 y11)))))) x))] : List (List Int)).length) * 24) maxBytes)
 (rec9 ((z8.1 ++ [(([] : List Int) ++ (cutL (some (IntKind.wrap .i64 (z8.2 + (4 : Int)))) (some (IntKind.wrap .i64 ((IntKind.wrap .i64 (z8.2 + (4 : Int))) + (IntKind.wrap .i64 ((IntKind.wrap .i64 ((IntKind.wrap .i64 y10) * (256 : Int))) + (IntKind.wrap .i64 y11)))))) x))]), IntKind.wrap .i64 ((IntKind.wrap .i64 (z8.2 + (4 : Int))) + (IntKind.wrap .i64 ((IntKind.wrap .i64 ((IntKind.wrap .i64 y10) * (256 : Int))) + (IntKind.wrap .i64 y11)))))))))))))))))
 (some (z8.1, z8.2)))) n z0)
def p_w11q (n : Nat) (x : (List Int)) : Option Ty42 :=
(l_w11q_1 n x (([] : List (List Int)), (0 : Int)))
def m_w11q := p_w11q FU
def a_w11q : Ann := (.node .leaf (.node (.own 8 Kd20 .leaf) (.node .leaf (.node (.loop [.slot 4 (.sl (some 43) Kd20), .slot 5 (.int .i64)] ([6, 7] ++ rg 9 68) (.node .leaf (.node .leaf (.node (.join [.slot 41 .bool] (rg 27 14) .leaf .leaf) (.node .leaf (.node .leaf (.node (.own 71 Kd20 .leaf) .leaf))))))) .leaf))))
def S_w11q : FSpec := ⟨[.val (.sl none (.int .u8))], [(.sl (some 43) Kd20), (.int .i64)], m_w11q⟩
def l_w12q_1 (n : Nat) (x : (List Int)) (z0 : (Int × Int)) : Option Int :=
(lp (fun rec4 (z3 : (Int × Int)) =>
 (cond (decide (z3.2 < (8 : Int)))
 ((geti x z3.2).bind fun y5 =>
 rec4 (IntKind.wrap .u64 ((IntKind.wrap .u64 (z3.1 * (256 : Int))) + (IntKind.wrap .u64 y5)), IntKind.wrap .i64 (z3.2 + (1 : Int))))
 (some (IntKind.wrap .i64 z3.1)))) n z0)
def p_w12q (n : Nat) (x : (List Int)) : Option Int :=
(l_w12q_1 n x ((0 : Int), (0 : Int)))
def m_w12q := p_w12q FU
def a_w12q : Ann := (.node .leaf (.node .leaf (.node (.node .leaf (.loop [.slot 3 (.int .u64), .slot 4 (.int .i64)] (rg 5 12) .leaf)) .leaf)))
def S_w12q : FSpec := ⟨[.val (.sl none (.int .u8))], [(.int .i64)], m_w12q⟩
def p_w13q (n : Nat) (x : ((List Int) × Int)) : Option (ByteArray × Int) :=
(Option.bind (α := Bool)
 (cond (decide (x.2 ≥ (lenI x.1)))
 (some true)
 ((geti x.1 x.2).bind fun y2 =>
 some (decide ((IntKind.wrap .i64 ((IntKind.wrap .i64 (x.2 + (1 : Int))) + (IntKind.wrap .i64 y2))) > (lenI x.1))))) fun j3 =>
(cond j3
 (some ((⟨#[]⟩ : ByteArray), (-1 : Int)))
 ((geti x.1 x.2).bind fun y4 =>
 (chk (bndB (some (IntKind.wrap .i64 (x.2 + (1 : Int)))) (some (IntKind.wrap .i64 ((IntKind.wrap .i64 (x.2 + (1 : Int))) + (IntKind.wrap .i64 y4)))) none x.1.length)
 (some ((strOfNums (cutL (some (IntKind.wrap .i64 (x.2 + (1 : Int)))) (some (IntKind.wrap .i64 ((IntKind.wrap .i64 (x.2 + (1 : Int))) + (IntKind.wrap .i64 y4)))) x.1)), IntKind.wrap .i64 ((IntKind.wrap .i64 (x.2 + (1 : Int))) + (IntKind.wrap .i64 y4))))))))
def m_w13q := p_w13q FU
def a_w13q : Ann := (.node .leaf (.node (.join [.slot 23 .bool] (rg 7 16) .leaf .leaf) .leaf))
def S_w13q : FSpec := ⟨[.val (.sl none (.int .u8)), .val (.int .i64)], [.str, (.int .i64)], m_w13q⟩
def l_w14q_1 (n : Nat) (x : Int) (z0 : ((List Int) × Int)) : Option (List Int) :=
(lp (fun rec3 (z2 : ((List Int) × Int)) =>
 (cond (decide (z2.2 ≥ (0 : Int)))
 (chk (decide (0 ≤ (IntKind.wrap .u64 (IntKind.wrap .i64 ((8 : Int) * z2.2)))))
 (chk (Nat.ble ((z2.1.length + [IntKind.wrap .u8 (Int.fdiv (IntKind.wrap .u64 x) (2 ^ (min (IntKind.wrap .u64 (IntKind.wrap .i64 ((8 : Int) * z2.2))).toNat 64)))].length) * 1) maxBytes)
 (rec3 ((z2.1 ++ [IntKind.wrap .u8 (Int.fdiv (IntKind.wrap .u64 x) (2 ^ (min (IntKind.wrap .u64 (IntKind.wrap .i64 ((8 : Int) * z2.2))).toNat 64)))]), IntKind.wrap .i64 (z2.2 - (1 : Int))))))
 (some z2.1))) n z0)
def p_w14q (n : Nat) (x : Int) : Option (List Int) :=
(l_w14q_1 n x (([] : List Int), (7 : Int)))
def m_w14q := p_w14q FU
def a_w14q : Ann := (.node .leaf (.node .leaf (.node (.node .leaf (.loop [.slot 3 Kd20, .slot 4 (.int .i64)] (rg 6 14) .leaf)) .leaf)))
def S_w14q : FSpec := ⟨[.val (.int .i64)], [Kd20], m_w14q⟩
def p_w15q (n : Nat) (x : ByteArray) : Option (Int × (List Int)) :=
(cond (decide (((x.size : Nat) : Int) > (200 : Int)))
 (some ((2 : Int), []))
 (chk (Nat.ble (([IntKind.wrap .u8 ((x.size : Nat) : Int)].length + (bytesNums x).length) * 1) maxBytes)
 (some ((0 : Int), ([IntKind.wrap .u8 ((x.size : Nat) : Int)] ++ (bytesNums x))))))
def m_w15q := p_w15q FU
def a_w15q : Ann := (.node .leaf (.node .leaf (.node (.own 12 (.int .u8) .leaf) .leaf)))
def S_w15q : FSpec := ⟨[.val .str], [Kd16], m_w15q⟩
def l_w16q_1 (n : Nat) (x_2 : Ty32) (z0 : ((List Int) × Int)) : Option (List Int) :=
(lp (fun rec8 (z7 : ((List Int) × Int)) =>
 (cond (decide (z7.2 < (lenI x_2)))
 ((geti x_2 z7.2).bind fun y9 =>
 (Option.bind (α := (List Int))
 (cond y9.2.2
 (chk (Nat.ble ((z7.1.length + [(1 : Int)].length) * 1) maxBytes)
 (some (z7.1 ++ [(1 : Int)])))
 (chk (Nat.ble ((z7.1.length + [(0 : Int)].length) * 1) maxBytes)
 (some (z7.1 ++ [(0 : Int)])))) fun j10 =>
 ((m_w15q y9.1).bind fun r11 =>
 (chk (Nat.ble ((j10.length + r11.2.length) * 1) maxBytes)
 (cond (!y9.2.2)
 ((m_w15q y9.2.1).bind fun r12 =>
 (chk (Nat.ble (((j10 ++ r11.2).length + r12.2.length) * 1) maxBytes)
 (rec8 (((j10 ++ r11.2) ++ r12.2), IntKind.wrap .i64 (z7.2 + (1 : Int))))))
 (rec8 ((j10 ++ r11.2), IntKind.wrap .i64 (z7.2 + (1 : Int)))))))))
 (some z7.1))) n z0)
def p_w16q (n : Nat) (x : Ty29) : Option (List Int) :=
((m_w14q x.1).bind fun r1 =>
(l_w16q_1 n x.2 (r1, (0 : Int))))
def m_w16q := p_w16q FU
def a_w16q : Ann := (.node .leaf (.node .leaf (.node (.node .leaf (.loop [.slot 5 Kd20, .slot 6 (.int .i64)] ([7] ++ rg 10 33) (.node .leaf (.node (.node .leaf (.join [.slot 5 Kd20] (rg 20 8) .leaf .leaf)) .leaf)))) .leaf)))
def S_w16q : FSpec := ⟨[.val (.int .i64), .val Kd17], [Kd20], m_w16q⟩
def l_w17q_1 (n : Nat) (z58 : Int) (x : Ty32) (y68_1 : ByteArray) (z0 : Int) : Option (Unit ⊕ (Unit ⊕ Int)) :=
(lp (fun rec73 (z72 : Int) =>
 (cond (decide (z72 < z58))
 ((geti x z72).bind fun y74 =>
 (cond (y74.1.toList == y68_1.toList)
 (some (Sum.inr (Sum.inr (7 : Int))))
 (rec73 (IntKind.wrap .i64 (z72 + (1 : Int))))))
 (some (Sum.inl ())))) n z0)
def l_w17q_2 (n : Nat) (x : Ty32) (z0 : Int) : Option (Unit ⊕ Int) :=
(lp (fun rec59 (z58 : Int) =>
 (cond (decide (z58 < (lenI x)))
 (Option.bind (α := (Unit ⊕ (Unit ⊕ Int)))
 ((geti x z58).bind fun y68 =>
 ((m_w5q (y68.1, ((1 : Int), y68.2))).bind fun r69 =>
 (cond (!(r69 == (0 : Int)))
 (some (Sum.inr (Sum.inr r69)))
 (l_w17q_1 n z58 x y68.1 (0 : Int)))))
 (Sum.elim (fun j76 =>
 rec59 (IntKind.wrap .i64 (z58 + (1 : Int)))) some))
 (some (Sum.inl ())))) n z0)
def p_w17q (n : Nat) (x : Ty32) : Option Int :=
(Option.bind (α := Bool)
 (cond (decide ((lenI x) < (1 : Int)))
 (some true)
 (some (decide ((lenI x) > (8 : Int))))) fun j1 =>
(cond j1
 (some (2 : Int))
 (Option.bind (α := (Unit ⊕ Int))
 (l_w17q_2 n x (0 : Int))
 (Sum.elim (fun j78 =>
 ((m_w16q ((1 : Int), x)).bind fun r79 =>
 (cond (decide ((lenI r79) > (500 : Int)))
 (some (2 : Int))
 (some (0 : Int))))) some))))
def m_w17q := p_w17q FU
def a_w17q : Ann := (.node .leaf (.node (.join [.slot 14 .bool] (rg 7 7) .leaf .leaf) (.joinx [] ([2, 3, 4, 5, 6] ++ rg 15 34) (.node .leaf (.loop [.slot 3 (.int .i64)] ([2, 4, 5, 6] ++ rg 15 34) (.node .leaf (.joinx [] ([2, 4, 5, 6] ++ rg 21 14 ++ rg 36 13) (.node .leaf (.node .leaf (.node .leaf (.loop [.slot 6 (.int .i64)] ([2] ++ rg 36 13) .leaf)))) .leaf)))) .leaf)))
def S_w17q : FSpec := ⟨[.val Kd17], [(.int .i64)], m_w17q⟩
def p_w18q (n : Nat) (x : Ty29) : Option (Int × (List Int)) :=
((m_w1q (x.1, (1 : Int), (1000000 : Int))).bind fun r1 =>
(cond (!r1)
 (some ((3 : Int), []))
 ((m_w17q x.2).bind fun r2 =>
 (cond (!(r2 == (0 : Int)))
 (some (r2, []))
 ((m_w16q (x.1, x.2)).bind fun r3 =>
 some ((0 : Int), r3))))))
def m_w18q := p_w18q FU
def a_w18q : Ann := .leaf
def S_w18q : FSpec := ⟨[.val (.int .i64), .val Kd17], [Kd16], m_w18q⟩
def l_w19q_1 (n : Nat) (x : (List Int)) (z0 : Ty30) : Option Ty11 :=
(lp (fun rec26 (z25 : Ty30) =>
 (cond (decide (z25.2 < (lenI x)))
 ((geti x z25.2).bind fun y27 =>
 ((geti x z25.2).bind fun y28 =>
 (cond (decide (y28 > (1 : Int)))
 (some (Sum.inr ((0 : Int), [], false)))
 ((m_w13q (x, IntKind.wrap .i64 (z25.2 + (1 : Int)))).bind fun r29 =>
 (cond (decide (r29.2 < (0 : Int)))
 (some (Sum.inr ((0 : Int), [], false)))
 (Option.bind (α := ((Int × Ty38) ⊕ Ty11))
 (cond (!(y27 == (1 : Int)))
 ((m_w13q (x, r29.2)).bind fun r31 =>
 (cond (decide (r31.2 < (0 : Int)))
 (some (Sum.inr (Sum.inr ((0 : Int), [], false))))
 (some (Sum.inl (r31.2, (r29.1, (r31.1, (y27 == (1 : Int)))))))))
 (some (Sum.inl (r29.2, (r29.1, ((⟨#[]⟩ : ByteArray), (y27 == (1 : Int))))))))
 (Sum.elim (fun j32 =>
 (chk (Nat.ble ((z25.1.length + [j32.2].length) * 40) maxBytes)
 (rec26 ((z25.1 ++ [j32.2]), j32.1)))) some)))))))
 (some (Sum.inl z25.1)))) n z0)
def p_w19q (n : Nat) (x : (List Int)) : Option Ty22 :=
(cond (decide ((lenI x) < (8 : Int)))
 (some ((0 : Int), [], false))
 (chk (bndB none (some (8 : Int)) none x.length)
 ((m_w12q (cutL none (some (8 : Int)) x)).bind fun r1 =>
 (Option.bind (α := Ty11)
 (l_w19q_1 n x (([] : List Ty38), (8 : Int)))
 (Sum.elim (fun j34 =>
 ((m_w18q (r1, j34)).bind fun r35 =>
 some (r1, j34, (r35.1 == (0 : Int))))) some)))))
def m_w19q := p_w19q FU
def a_w19q : Ann := (.node .leaf (.node .leaf (.node .leaf (.node .leaf (.node .leaf (.joinx [.slot 6 Kd15] ([2, 3, 4] ++ rg 7 6 ++ rg 20 45) (.loop [.slot 6 Kd15, .slot 7 (.int .i64)] ([2, 3, 4, 8, 9, 10, 11, 12] ++ rg 20 45) (.node .leaf (.node .leaf (.node .leaf (.node .leaf (.node .leaf (.node .leaf (.node .leaf (.joinx [.slot 7 (.int .i64), .box 2 Kd19] ([11, 12] ++ rg 47 14) .leaf .leaf))))))))) .leaf))))))
def S_w19q : FSpec := ⟨[.val (.sl none (.int .u8))], [(.int .i64), Kd15, .bool], m_w19q⟩
def l_w20q_1 (n : Nat) (x_1 : Int) (x_2 : Ty32) (z0 : Ty24) : Option Ty28 :=
(lp (fun rec6 (z5 : Ty24) =>
 (cond (decide (z5.2 < (lenI x_2)))
 ((geti x_2 z5.2).bind fun y7 =>
 ((geti x_2 z5.2).bind fun y8 =>
 ((geti x_2 z5.2).bind fun y9 =>
 (chk (Nat.ble ((z5.1.length + [(y7.1, (x_1, (y8.2.1, y9.2.2)))].length) * 48) maxBytes)
 (rec6 ((z5.1 ++ [(y7.1, (x_1, (y8.2.1, y9.2.2)))]), IntKind.wrap .i64 (z5.2 + (1 : Int))))))))
 (some z5.1))) n z0)
def p_w20q (n : Nat) (x : Ty29) : Option Ty28 :=
(l_w20q_1 n x.1 x.2 (([] : List Ty31), (0 : Int)))
def m_w20q := p_w20q FU
def a_w20q : Ann := (.node .leaf (.node .leaf (.node (.node .leaf (.loop [.slot 5 Kd10, .slot 6 (.int .i64)] (rg 8 26) (.node .leaf (.node (.lazy 32 .leaf) .leaf)))) .leaf)))
def S_w20q : FSpec := ⟨[.val (.int .i64), .val Kd17], [Kd10], m_w20q⟩
def l_w21q_1 (n : Nat) (x_1 : Ty28) (x_2 : Ty31) (z0 : Int) : Option Int :=
(lp (fun rec22 (z21 : Int) =>
 (Option.bind (α := Bool)
 (cond (decide (z21 < (lenI x_1)))
 ((geti x_1 z21).bind fun _ =>
 ((x_1[z21.toNat]?).bind fun y25 =>
 ((m_w6q (y25, x_2)).bind fun r26 =>
 some r26)))
 (some false)) fun j27 =>
 (cond j27
 (rec22 (IntKind.wrap .i64 (z21 + (1 : Int))))
 (some z21)))) n z0)
def p_w21q (n : Nat) (x : Ty13) : Option Ty23 :=
(Option.bind (α := Int)
 (l_w21q_1 n x.1 x.2 (0 : Int)) fun j29 =>
(Option.bind (α := Bool)
 (cond (decide (j29 < (lenI x.1)))
 ((geti x.1 j29).bind fun _ =>
 ((x.1[j29.toNat]?).bind fun y32 =>
 ((m_w6q (x.2, y32)).bind fun r33 =>
 some (!r33))))
 (some false)) fun j34 =>
(cond j34
 (some (x.1, true))
 (chk (bndB none (some j29) none x.1.length)
 (chk (bndB (some j29) none none x.1.length)
 (chk (Nat.ble (((x.1.drop 0).take j29.toNat).length * 48) maxBytes)
 (chk (Nat.ble ((((x.1.drop 0).take j29.toNat).length + [x.2].length) * 48) maxBytes)
 (chk (Nat.ble (((((x.1.drop 0).take j29.toNat) ++ [x.2]).length + ((x.1.drop j29.toNat).take (x.1.length - j29.toNat)).length) * 48) maxBytes)
 (some (((((x.1.drop 0).take j29.toNat) ++ [x.2]) ++ ((x.1.drop j29.toNat).take (x.1.length - j29.toNat))), true))))))))))
def m_w21q := p_w21q FU
def a_w21q : Ann := (.node .leaf (.node .leaf (.join [.slot 5 (.int .i64)] (rg 6 14) (.loop [.slot 5 (.int .i64)] (rg 6 14) (.node (.join [.slot 17 .bool] (rg 6 11) .leaf .leaf) .leaf)) (.node (.join [.slot 32 .bool] (rg 20 12) .leaf .leaf) (.node (.lazy 40 (.lazy 34 .leaf)) .leaf)))))
def S_w21q : FSpec := ⟨[.own 78 Kd13, .val Kd13], [Kd10], m_w21q⟩
def l_w22q_1 (n : Nat) (r50 : Ty28) (r48_1 : Int) (z0 : Ty24) : Option Ty9 :=
(lp (fun rec55 (z54 : Ty24) =>
 (cond (decide (z54.2 < (lenI r50)))
 ((geti r50 z54.2).bind fun _ =>
 ((r50[z54.2.toNat]?).bind fun y56 =>
 ((m_w21q (z54.1, y56)).bind fun r57 =>
 rec55 (r57.1, IntKind.wrap .i64 (z54.2 + (1 : Int))))))
 (some (Sum.inl (z54.1, r48_1))))) n z0)
def l_w22q_2 (n : Nat) (r2_1 : (List (List Int))) (x_2 : Int) (z0 : Ty19) : Option Ty23 :=
(lp (fun rec32 (z31 : Ty19) =>
 (cond (decide (z31.2.2 < (lenI r2_1)))
 (Option.bind (α := Ty9)
 ((geti r2_1 z31.2.2).bind fun _ =>
 ((r2_1[z31.2.2.toNat]?).bind fun y46 =>
 ((r2_1[z31.2.2.toNat]?).bind fun y47 =>
 ((m_w19q y47).bind fun r48 =>
 (Option.bind (α := Bool)
 (cond (!r48.2.2)
 (some true)
 (cond (decide (r48.1 ≤ z31.2.1))
 (some true)
 (some (decide (r48.1 ≥ x_2))))) fun j49 =>
 (cond j49
 (some (Sum.inr ([], false)))
 ((m_w20q (r48.1, r48.2.1)).bind fun r50 =>
 (l_w22q_1 n r50 r48.1 (z31.1, (0 : Int))))))))))
 (Sum.elim (fun j59 =>
 rec32 (j59.1, j59.2, IntKind.wrap .i64 (z31.2.2 + (1 : Int)))) some))
 (some (z31.1, true)))) n z0)
def p_w22q (n : Nat) (x : Ty33) : Option Ty23 :=
((m_w9q x.1).bind fun r1 =>
((m_w11q r1.1).bind fun r2 =>
(cond (decide (r2.2 < (IntKind.wrap .i64 ((lenI x.1.1) + (lenI x.1.2)))))
 (some ([], false))
 (l_w22q_2 n r2.1 x.2 (([] : List Ty31), (0 : Int), (0 : Int))))))
def m_w22q := p_w22q FU
def a_w22q : Ann := (.node .leaf (.node .leaf (.node .leaf (.node .leaf (.node .leaf (.node (.node .leaf (.loop [.slot 8 Kd10, .slot 9 (.int .i64), .slot 10 (.int .i64)] ([4, 5, 11, 12, 13, 14, 15] ++ rg 33 43) (.node .leaf (.joinx [.slot 8 Kd10, .slot 9 (.int .i64)] ([11, 12, 13, 14, 15] ++ rg 39 37) (.node .leaf (.node (.join [.slot 59 .bool] (rg 48 11) .leaf .leaf) (.node .leaf (.node .leaf (.node .leaf (.loop [.slot 8 Kd10, .slot 15 (.int .i64)] (rg 64 12) .leaf)))))) .leaf)))) .leaf))))))
def S_w22q : FSpec := ⟨[.val Kd14, .val (.int .i64)], [Kd10, .bool], m_w22q⟩
def l_w23q_1 (n : Nat) (x_1 : Ty28) (x_2 : Ty28) (z0 : Int) : Option Bool :=
(lp (fun rec5 (z4 : Int) =>
 (cond (decide (z4 < (lenI x_1)))
 ((geti x_1 z4).bind fun y6 =>
 ((geti x_2 z4).bind fun y7 =>
 (cond (!((y6.1.toList == y7.1.toList) && ((y6.2.1 == y7.2.1) && ((y6.2.2.1.toList == y7.2.2.1.toList) && ((y6.2.2.2 == y7.2.2.2) && true)))))
 (some false)
 (rec5 (IntKind.wrap .i64 (z4 + (1 : Int)))))))
 (some true))) n z0)
def p_w23q (n : Nat) (x : Ty12) : Option Bool :=
(cond (!((lenI x.1) == (lenI x.2)))
 (some false)
 (l_w23q_1 n x.1 x.2 (0 : Int)))
def m_w23q := p_w23q FU
def a_w23q : Ann := (.node .leaf (.node .leaf (.node (.node .leaf (.loop [.slot 5 (.int .i64)] ([4] ++ rg 11 15) .leaf)) .leaf)))
def S_w23q : FSpec := ⟨[.val Kd11, .val Kd11], [.bool], m_w23q⟩
def l_w24q_1 (n : Nat) (x_2_2_1 : Ty26) (z0 : Int) : Option (Unit ⊕ Int) :=
(lp (fun rec15 (z14 : Int) =>
 (cond (decide (z14 < (lenI x_2_2_1)))
 ((geti x_2_2_1 z14).bind fun y16 =>
 ((m_w7q y16).bind fun r17 =>
 (cond (!(r17 == (0 : Int)))
 (some (Sum.inr r17))
 (rec15 (IntKind.wrap .i64 (z14 + (1 : Int)))))))
 (some (Sum.inl ())))) n z0)
def l_w24q_2 (n : Nat) (x_2_2_1 : Ty26) (x_2_2_2 : Int) (z0 : Int) : Option (Unit ⊕ Int) :=
(lp (fun rec37 (z36 : Int) =>
 (cond (decide (z36 < (lenI x_2_2_1)))
 ((geti x_2_2_1 z36).bind fun y38 =>
 ((m_w8q (y38, x_2_2_2)).bind fun r39 =>
 (cond (!r39)
 (some (Sum.inr (3 : Int)))
 (rec37 (IntKind.wrap .i64 (z36 + (1 : Int)))))))
 (some (Sum.inl ())))) n z0)
def l_w24q_3 (n : Nat) (x_2_1 : Ty28) (x_2_2_1 : Ty26) (z68 : Int) (z0 : Int) : Option (Unit ⊕ Int) :=
(lp (fun rec85 (z84 : Int) =>
 (cond (decide (z84 < (lenI x_2_2_1)))
 ((geti x_2_2_1 z84).bind fun y86 =>
 ((geti x_2_1 z68).bind fun y87 =>
 ((m_w8q (y86, y87.2.1)).bind fun r88 =>
 (cond (!r88)
 (some (Sum.inr (1 : Int)))
 (rec85 (IntKind.wrap .i64 (z84 + (1 : Int))))))))
 (some (Sum.inl ())))) n z0)
def l_w24q_4 (n : Nat) (x_2_1 : Ty28) (x_2_2_1 : Ty26) (z0 : Int) : Option Int :=
(lp (fun rec69 (z68 : Int) =>
 (cond (decide (z68 < (lenI x_2_1)))
 (Option.bind (α := (Unit ⊕ Int))
 (l_w24q_3 n x_2_1 x_2_2_1 z68 (0 : Int))
 (Sum.elim (fun j90 =>
 rec69 (IntKind.wrap .i64 (z68 + (1 : Int)))) some))
 (some (0 : Int)))) n z0)
def p_w24q (n : Nat) (x : Ty8) : Option Int :=
((m_w4q x.1).bind fun r1 =>
(cond (!(r1 == (0 : Int)))
 (some r1)
 ((m_w7q x.2.1).bind fun r2 =>
 (cond (!(r2 == (0 : Int)))
 (some r2)
 (cond (decide ((lenI x.2.2.1) > (6 : Int)))
 (some (2 : Int))
 (Option.bind (α := (Unit ⊕ Int))
 (l_w24q_1 n x.2.2.1 (0 : Int))
 (Sum.elim (fun j19 =>
 (Option.bind (α := Bool)
 ((m_w1q (x.2.2.2, (1 : Int), (1000000 : Int))).bind fun r22 =>
 (cond (!r22)
 (some true)
 ((m_w8q (x.2.1, x.2.2.2)).bind fun r23 =>
 some (!r23)))) fun j24 =>
 (cond j24
 (some (3 : Int))
 (Option.bind (α := (Unit ⊕ Int))
 (l_w24q_2 n x.2.2.1 x.2.2.2 (0 : Int))
 (Sum.elim (fun j41 =>
 ((m_w22q (x.1, x.2.2.2)).bind fun r42 =>
 (Option.bind (α := Bool)
 (cond (!r42.2)
 (some true)
 ((m_w23q (r42.1, x.2.1)).bind fun r44 =>
 some (!r44))) fun j45 =>
 (cond j45
 (some (1 : Int))
 (l_w24q_4 n x.2.1 x.2.2.1 (0 : Int)))))) some))))) some)))))))
def m_w24q := p_w24q FU
def a_w24q : Ann := (.node .leaf (.node .leaf (.node .leaf (.node .leaf (.joinx [] ([2, 5, 6] ++ rg 28 16) (.node .leaf (.loop [.slot 5 (.int .i64)] ([2, 6] ++ rg 28 16) .leaf)) (.node (.join [.slot 55 .bool] (rg 44 11) .leaf .leaf) (.joinx [] ([2, 7] ++ rg 56 16) (.node .leaf (.loop [.slot 7 (.int .i64)] ([2] ++ rg 56 16) .leaf)) (.node .leaf (.node (.join [.slot 88 .bool] (rg 80 8) .leaf .leaf) (.node (.node .leaf (.loop [.slot 10 (.int .i64)] ([2, 11] ++ rg 89 27) (.node .leaf (.joinx [] ([2, 11] ++ rg 96 20) (.node .leaf (.loop [.slot 11 (.int .i64)] ([2] ++ rg 96 20) .leaf)) .leaf)))) .leaf))))))))))
def S_w24q : FSpec := ⟨[.val Kd4], [(.int .i64)], m_w24q⟩
def p_w25q (n : Nat) (x : Ty41) : Option Ty41 :=
(chk (Nat.ble (x.1.length * 1) maxBytes)
(chk (Nat.ble (x.2.length * 1) maxBytes)
(some x)))
def m_w25q := p_w25q FU
def a_w25q : Ann := (.node .leaf (.node (.lazy 7 (.lazy 3 .leaf)) .leaf))
def S_w25q : FSpec := ⟨[.val Kd14], [Kd12], m_w25q⟩
def l_w26q_1 (n : Nat) (x_2_2_1 : Ty26) (z0 : Ty6) : Option Ty8 :=
(lp (fun rec7 (z6 : Ty6) =>
 (cond (decide (z6.1 < (lenI x_2_2_1)))
 ((geti x_2_2_1 z6.1).bind fun y8 =>
 (chk (Nat.ble (y8.length * 48) maxBytes)
 (chk (Nat.ble ((z6.2.2.2.1.length + [y8].length) * 24) maxBytes)
 (rec7 (IntKind.wrap .i64 (z6.1 + (1 : Int)), (z6.2.1, (z6.2.2.1, ((z6.2.2.2.1 ++ [y8]), z6.2.2.2.2))))))))
 (some z6.2))) n z0)
def p_w26q (n : Nat) (x : Ty8) : Option Ty8 :=
(same
 ((m_w25q x.1).bind fun r1 =>
 (dup 1
 (chk (Nat.ble (x.2.1.length * 48) maxBytes)
 (l_w26q_1 n x.2.2.1 ((0 : Int), (r1, (x.2.1, ([], x.2.2.2))))))))
 ((m_w25q x.1).bind fun r1 =>
 (chk (Nat.ble (x.2.1.length * 48) maxBytes)
 (l_w26q_1 n x.2.2.1 ((0 : Int), (r1, (x.2.1, ([], x.2.2.2))))))))
def m_w26q := p_w26q FU
def a_w26q : Ann := (.node .leaf (.node (.lazy 8 .leaf) (.node (.node .leaf (.loop [.slot 4 (.int .i64), .box 1000003 Kd3] (rg 15 19) (.node .leaf (.node (.own 31 Kd10 (.lazy 24 .leaf)) .leaf)))) .leaf)))
def S_w26q : FSpec := ⟨[.val Kd4], [Kd3], m_w26q⟩
def p_w27q (n : Nat) (x : Ty8) : Option Ty5 :=
((m_w24q x).bind fun r1 =>
(cond (!(r1 == (0 : Int)))
 (some (r1, ((0 : Int), (([], []), ([], ([], (0 : Int)))))))
 (cond ((lenI x.2.1) == (0 : Int))
 (some ((4 : Int), ((0 : Int), (([], []), ([], ([], (0 : Int)))))))
 (cond (decide ((lenI x.2.2.1) ≥ (6 : Int)))
 (some ((2 : Int), ((0 : Int), (([], []), ([], ([], (0 : Int)))))))
 ((m_w26q x).bind fun r2 =>
 (chk (Nat.ble (([r2.2.1].length + r2.2.2.1.length) * 24) maxBytes)
 (some ((0 : Int), ((0 : Int), (([], []), ([], (([r2.2.1] ++ r2.2.2.1), x.2.2.2))))))))))))
def m_w27q := p_w27q FU
def a_w27q : Ann := (.node .leaf (.node .leaf (.node .leaf (.node .leaf (.node .leaf (.node (.own 25 Kd10 .leaf) .leaf))))))
def S_w27q : FSpec := ⟨[.val Kd4], [Kd1], m_w27q⟩
def l_w28q_1 (n : Nat) (x : Ty26) (z27_2 : Int) (z0 : Ty24) : Option Ty28 :=
(lp (fun rec47 (z46 : Ty24) =>
 ((geti x z27_2).bind fun y48 =>
 (cond (decide (z46.2 < (lenI y48)))
 ((geti x z27_2).bind fun y49 =>
 ((geti y49 z46.2).bind fun y50 =>
 ((m_w21q (z46.1, y50)).bind fun r51 =>
 rec47 (r51.1, IntKind.wrap .i64 (z46.2 + (1 : Int))))))
 (some z46.1)))) n z0)
def l_w28q_2 (n : Nat) (x : Ty26) (z0 : Ty24) : Option Ty28 :=
(lp (fun rec28 (z27 : Ty24) =>
 (cond (decide (z27.2 < (lenI x)))
 (Option.bind (α := Ty28)
 (l_w28q_1 n x z27.2 (z27.1, (0 : Int))) fun j53 =>
 rec28 (j53, IntKind.wrap .i64 (z27.2 + (1 : Int))))
 (some z27.1))) n z0)
def p_w28q (n : Nat) (x : Ty26) : Option Ty28 :=
(l_w28q_2 n x (([] : List Ty31), (0 : Int)))
def m_w28q := p_w28q FU
def a_w28q : Ann := (.node .leaf (.node .leaf (.node (.node .leaf (.loop [.slot 3 Kd10, .slot 4 (.int .i64)] ([5] ++ rg 7 24) (.node .leaf (.join [.slot 3 Kd10] ([5] ++ rg 13 18) (.node .leaf (.loop [.slot 3 Kd10, .slot 5 (.int .i64)] (rg 13 18) .leaf)) .leaf)))) .leaf)))
def S_w28q : FSpec := ⟨[.val Kd9], [Kd10], m_w28q⟩
def l_w29q_1 (n : Nat) (x : Ty26) (z0 : Int) : Option Ty18 :=
(lp (fun rec13 (z12 : Int) =>
 (cond (decide (z12 < (lenI x)))
 ((geti x z12).bind fun y14 =>
 ((m_w7q y14).bind fun r15 =>
 (cond (!(r15 == (0 : Int)))
 (some (Sum.inr (r15, [])))
 (rec13 (IntKind.wrap .i64 (z12 + (1 : Int)))))))
 (some (Sum.inl ())))) n z0)
def p_w29q (n : Nat) (x : Ty26) : Option Ty25 :=
(cond (decide ((lenI x) > (8 : Int)))
 (some ((2 : Int), []))
 (Option.bind (α := Ty18)
 (l_w29q_1 n x (0 : Int))
 (Sum.elim (fun j17 =>
 ((m_w28q x).bind fun r18 =>
 (cond (decide ((lenI r18) > (200 : Int)))
 (some ((2 : Int), []))
 (some ((0 : Int), r18))))) some)))
def m_w29q := p_w29q FU
def a_w29q : Ann := (.node .leaf (.node .leaf (.joinx [] ([3, 4] ++ rg 10 15) (.node .leaf (.loop [.slot 3 (.int .i64)] ([4] ++ rg 10 15) .leaf)) .leaf)))
def S_w29q : FSpec := ⟨[.val Kd9], [Kd5], m_w29q⟩
def l_w30q_1 (n : Nat) (z141_2 : Int) (x_1 : Ty28) (x_2 : Int) (z0 : (Bool × Int)) : Option Bool :=
(lp (fun rec180 (z179 : (Bool × Int)) =>
 (cond (decide (z179.2 < z141_2))
 (cond z179.1
 (rec180 (true, IntKind.wrap .i64 (z179.2 + (1 : Int))))
 ((geti x_1 z179.2).bind fun y181 =>
 ((geti x_1 z141_2).bind fun y182 =>
 (cond (y181.1.toList == y182.1.toList)
 ((geti x_1 z179.2).bind fun y183 =>
 rec180 ((decide (y183.2.1 ≤ x_2)), IntKind.wrap .i64 (z179.2 + (1 : Int))))
 (rec180 (false, IntKind.wrap .i64 (z179.2 + (1 : Int))))))))
 (some z179.1))) n z0)
def l_w30q_2 (n : Nat) (x_1 : Ty28) (x_2 : Int) (z0 : Ty24) : Option Ty28 :=
(lp (fun rec142 (z141 : Ty24) =>
 (cond (decide (z141.2 < (lenI x_1)))
 (Option.bind (α := Ty28)
 (Option.bind (α := Bool)
 (l_w30q_1 n z141.2 x_1 x_2 (false, (0 : Int))) fun j185 =>
 (cond (!j185)
 ((geti x_1 z141.2).bind fun y186 =>
 (chk (Nat.ble ((z141.1.length + [y186].length) * 48) maxBytes)
 (some (z141.1 ++ [y186]))))
 (some z141.1))) fun j187 =>
 rec142 (j187, IntKind.wrap .i64 (z141.2 + (1 : Int))))
 (some z141.1))) n z0)
def l_w30q_3 (n : Nat) (j189 : Ty28) (x_2 : Int) (z0 : Ty24) : Option Ty28 :=
(lp (fun rec203 (z202 : Ty24) =>
 (cond (decide (z202.2 < (lenI j189)))
 (Option.bind (α := Bool)
 (cond (z202.2 == (IntKind.wrap .i64 ((lenI j189) - (1 : Int))))
 (some true)
 ((geti j189 (IntKind.wrap .i64 (z202.2 + (1 : Int)))).bind fun _ =>
 ((j189[(IntKind.wrap .i64 (z202.2 + (1 : Int))).toNat]?).bind fun y206 =>
 ((geti j189 z202.2).bind fun _ =>
 ((j189[z202.2.toNat]?).bind fun y207 =>
 some (!(y206.1.toList == y207.1.toList))))))) fun j208 =>
 (Option.bind (α := Bool)
 ((geti j189 z202.2).bind fun _ =>
 ((j189[z202.2.toNat]?).bind fun y211 =>
 (cond (!y211.2.2.2)
 (some true)
 ((geti j189 z202.2).bind fun _ =>
 ((j189[z202.2.toNat]?).bind fun y212 =>
 (cond (decide (y212.2.1 > x_2))
 (some true)
 (some (!j208)))))))) fun j213 =>
 (cond j213
 ((geti j189 z202.2).bind fun _ =>
 ((j189[z202.2.toNat]?).bind fun y214 =>
 (chk (Nat.ble ((z202.1.length + [y214].length) * 48) maxBytes)
 (rec203 ((z202.1 ++ [y214]), IntKind.wrap .i64 (z202.2 + (1 : Int)))))))
 (rec203 (z202.1, IntKind.wrap .i64 (z202.2 + (1 : Int)))))))
 (some z202.1))) n z0)
def p_w30q (n : Nat) (x : Ty24) : Option Ty28 :=
(Option.bind (α := Ty28)
 (l_w30q_2 n x.1 x.2 (([] : List Ty31), (0 : Int))) fun j189 =>
(l_w30q_3 n j189 x.2 (([] : List Ty31), (0 : Int))))
def m_w30q := p_w30q FU
def a_w30q : Ann := (.node .leaf (.node .leaf (.join [.slot 5 Kd10] ([6, 7, 8] ++ rg 13 43) (.node .leaf (.loop [.slot 5 Kd10, .slot 6 (.int .i64)] ([7, 8] ++ rg 13 43) (.node .leaf (.join [.slot 5 Kd10] ([7, 8] ++ rg 19 37) (.node .leaf (.join [.slot 7 .bool] ([8] ++ rg 19 28) (.node .leaf (.loop [.slot 7 .bool, .slot 8 (.int .i64)] (rg 19 28) .leaf)) .leaf)) .leaf)))) (.node .leaf (.node (.node .leaf (.loop [.slot 9 Kd10, .slot 10 (.int .i64)] ([11] ++ rg 57 51) (.node .leaf (.node (.join [.slot 11 .bool] (rg 63 19) .leaf (.join [.slot 100 .bool] (rg 82 18) .leaf .leaf)) .leaf)))) .leaf)))))
def S_w30q : FSpec := ⟨[.val Kd11, .val (.int .i64)], [Kd10], m_w30q⟩
def p_w31q (n : Nat) (x : Ty7) : Option Ty5 :=
((m_w24q x.1).bind fun r1 =>
(cond (!(r1 == (0 : Int)))
 (some (r1, ((0 : Int), (([], []), ([], ([], (0 : Int)))))))
 (cond (decide ((lenI x.1.2.2.1) < (2 : Int)))
 (some ((4 : Int), ((0 : Int), (([], []), ([], ([], (0 : Int)))))))
 ((m_w29q x.1.2.2.1).bind fun r2 =>
 (cond (!(r2.1 == (0 : Int)))
 (some (r2.1, ((0 : Int), (([], []), ([], ([], (0 : Int)))))))
 ((m_w26q x.1).bind fun r3 =>
 ((m_w30q (r2.2, x.2)).bind fun r4 =>
 some ((0 : Int), ((0 : Int), (r3.1, (r3.2.1, ([r4], r3.2.2.2))))))))))))
def m_w31q := p_w31q FU
def a_w31q : Ann := (.node .leaf (.node .leaf (.node .leaf (.node .leaf (.node .leaf (.node .leaf (.node (.own 34 Kd10 .leaf) .leaf)))))))
def S_w31q : FSpec := ⟨[.val Kd4, .val (.int .i64)], [Kd1], m_w31q⟩
def p_w32q (n : Nat) (x : ((List Int) × Int)) : Option (ByteArray × ((List Int) × Int)) :=
((m_w3q (x, (5 : Int))).bind fun r1 =>
((geti [(⟨#[97]⟩ : ByteArray), (⟨#[98]⟩ : ByteArray), (⟨#[97, 98]⟩ : ByteArray), (⟨#[107, 49]⟩ : ByteArray), (⟨#[107, 50]⟩ : ByteArray)] r1.1).bind fun _ =>
(([(⟨#[97]⟩ : ByteArray), (⟨#[98]⟩ : ByteArray), (⟨#[97, 98]⟩ : ByteArray), (⟨#[107, 49]⟩ : ByteArray), (⟨#[107, 50]⟩ : ByteArray)][r1.1.toNat]?).bind fun y2 =>
some (y2, r1.2))))
def m_w32q := p_w32q FU
def a_w32q : Ann := .leaf
def S_w32q : FSpec := ⟨[.box Kd18], [.str], m_w32q⟩
def p_w33q (n : Nat) (x : Ty39) : Option (Bool × ((List Int) × Int)) :=
((m_w3q (x.1, x.2)).bind fun r1 =>
some ((r1.1 == (0 : Int)), r1.2))
def m_w33q := p_w33q FU
def a_w33q : Ann := .leaf
def S_w33q : FSpec := ⟨[.box Kd18, .val (.int .i64)], [.bool], m_w33q⟩
def p_w34q (n : Nat) (x : ((List Int) × Int)) : Option Ty20 :=
((m_w32q x).bind fun r1 =>
((m_w3q (r1.2, (9 : Int))).bind fun r2 =>
((m_w3q (r2.2, (4 : Int))).bind fun r3 =>
((geti [(⟨#[120]⟩ : ByteArray), (⟨#[121]⟩ : ByteArray), (⟨#[]⟩ : ByteArray), (⟨#[122, 122]⟩ : ByteArray)] r3.1).bind fun _ =>
(([(⟨#[120]⟩ : ByteArray), (⟨#[121]⟩ : ByteArray), (⟨#[]⟩ : ByteArray), (⟨#[122, 122]⟩ : ByteArray)][r3.1.toNat]?).bind fun y4 =>
((m_w33q (r3.2, (4 : Int))).bind fun r5 =>
(cond r5.1
 (some ((r1.1, (IntKind.wrap .i64 ((1 : Int) + r2.1), ((⟨#[]⟩ : ByteArray), true))), r5.2))
 (some ((r1.1, (IntKind.wrap .i64 ((1 : Int) + r2.1), (y4, false))), r5.2)))))))))
def m_w34q := p_w34q FU
def a_w34q : Ann := .leaf
def S_w34q : FSpec := ⟨[.box Kd18], [Kd13], m_w34q⟩
def l_w35q_1 (n : Nat)  (z0 : Ty16) : Option Ty21 :=
(lp (fun rec21 (z20 : Ty16) =>
 (cond (decide (z20.2.1 > (0 : Int)))
 ((m_w34q z20.2.2).bind fun r22 =>
 (chk (Nat.ble (z20.1.length * 40) maxBytes)
 (chk (Nat.ble ((z20.1.length + [(r22.1.1, r22.1.2.2)].length) * 40) maxBytes)
 ((m_w17q (z20.1 ++ [(r22.1.1, r22.1.2.2)])).bind fun r23 =>
 (cond (r23 == (0 : Int))
 (rec21 ((z20.1 ++ [(r22.1.1, r22.1.2.2)]), IntKind.wrap .i64 (z20.2.1 - (1 : Int)), r22.2))
 (rec21 (z20.1, IntKind.wrap .i64 (z20.2.1 - (1 : Int)), r22.2)))))))
 (some (z20.1, z20.2.2)))) n z0)
def l_w35q_2 (n : Nat)  (z0 : Ty38) : Option Ty38 :=
(lp (fun rec74 (z73 : Ty38) =>
 (cond (decide (((z73.2.1.size : Nat) : Int) < (100 : Int)))
 (chk (Nat.ble (z73.2.1.size + (⟨#[119]⟩ : ByteArray).size) 9223372036854775807)
 (rec74 (z73.1, ((z73.2.1 ++ (⟨#[119]⟩ : ByteArray)), z73.2.2))))
 (some z73))) n z0)
def l_w35q_3 (n : Nat) (r26_2 : ((List Int) × Int)) (z0 : Ty30) : Option Ty21 :=
(lp (fun rec54 (z53 : Ty30) =>
 (cond (decide (z53.2 < (5 : Int)))
 (Option.bind (α := Ty32)
 (chk (Nat.ble ((⟨#[107, 101, 121]⟩ : ByteArray).size + (strOfNums [IntKind.wrap .u8 (IntKind.wrap .i64 ((65 : Int) + z53.2))]).size) 9223372036854775807)
 (Option.bind (α := Ty38)
 (l_w35q_2 n  (((⟨#[107, 101, 121]⟩ : ByteArray) ++ (strOfNums [IntKind.wrap .u8 (IntKind.wrap .i64 ((65 : Int) + z53.2))])), ((⟨#[]⟩ : ByteArray), false))) fun j76 =>
 (chk (Nat.ble ((z53.1.length + [j76].length) * 40) maxBytes)
 (some (z53.1 ++ [j76]))))) fun j77 =>
 rec54 (j77, IntKind.wrap .i64 (z53.2 + (1 : Int))))
 (some (z53.1, r26_2)))) n z0)
def p_w35q (n : Nat) (x : ((List Int) × Int)) : Option Ty21 :=
(Option.bind (α := Ty21)
 ((m_w3q (x, (3 : Int))).bind fun r13 =>
 (l_w35q_1 n  (([] : List Ty38), IntKind.wrap .i64 ((1 : Int) + r13.1), r13.2))) fun j25 =>
((m_w3q (j25.2, (20 : Int))).bind fun r26 =>
(cond (r26.1 == (0 : Int))
 ((geti j25.1 (0 : Int)).bind fun _ =>
 ((j25.1[(0 : Int).toNat]?).bind fun y27 =>
 some ((j25.1.set ((0 : Int).toNat) ((⟨#[]⟩ : ByteArray), y27.2)), r26.2)))
 (cond (r26.1 == (1 : Int))
 ((geti j25.1 (0 : Int)).bind fun _ =>
 ((j25.1[(0 : Int).toNat]?).bind fun y28 =>
 (chk (Nat.ble ((j25.1.length + [y28].length) * 40) maxBytes)
 (some ((j25.1 ++ [y28]), r26.2)))))
 (cond (r26.1 == (2 : Int))
 (some ([], r26.2))
 (cond (r26.1 == (3 : Int))
 (if (9 : Int) = (9 : Int) then (if 0 ≤ (9 : Int) then chk (Nat.ble (40 * (9 : Int).toNat) maxBytes)
 (some ((List.replicate (9 : Int).toNat ((⟨#[]⟩ : ByteArray), ((⟨#[]⟩ : ByteArray), false))), r26.2)) else none) else none)
 (cond (r26.1 == (4 : Int))
 (l_w35q_3 n r26.2 (j25.1, (0 : Int)))
 (some (j25.1, r26.2)))))))))
def m_w35q := p_w35q FU
def a_w35q : Ann := (.node .leaf (.node .leaf (.join [.slot 3 Kd15, .box 0 Kd18] ([4, 5, 6, 7] ++ rg 11 26) (.node .leaf (.loop [.slot 3 Kd15, .slot 4 (.int .i64), .box 0 Kd18] ([5, 6, 7] ++ rg 14 23) (.node .leaf (.node (.node .leaf (.node .leaf (.node (.lazy 31 (.lazy 27 .leaf)) .leaf))) .leaf)))) (.node (.node .leaf (.node .leaf (.node .leaf (.node .leaf (.node .leaf (.node .leaf (.node .leaf (.node .leaf (.node .leaf (.node .leaf (.node (.node .leaf (.loop [.slot 3 Kd15, .slot 8 (.int .i64)] ([9] ++ rg 59 23) (.node .leaf (.join [.slot 3 Kd15] ([9] ++ rg 63 19) (.node .leaf (.join [.box 5 Kd19] (rg 70 8) (.loop [.box 5 Kd19] (rg 70 8) .leaf) .leaf)) .leaf)))) .leaf))))))))))) .leaf))))
def S_w35q : FSpec := ⟨[.box Kd18], [Kd15], m_w35q⟩
def p_w36q (n : Nat) (x : Int) : Option (List Int) :=
(cond ((256 : Int) == 0) none
 (cond ((256 : Int) == 0) none
 (some [IntKind.wrap .u8 (IntKind.wrap .i64 (Int.tdiv x (256 : Int))), IntKind.wrap .u8 (Int.tmod x (256 : Int))])))
def m_w36q := p_w36q FU
def a_w36q : Ann := .leaf
def S_w36q : FSpec := ⟨[.val (.int .i64)], [Kd20], m_w36q⟩
def p_w37q (n : Nat) (x : (List Int)) : Option (List Int) :=
((m_w36q (lenI x)).bind fun r1 =>
((m_w10q x).bind fun r2 =>
((m_w36q r2).bind fun r3 =>
(chk (Nat.ble ((r1.length + r3.length) * 1) maxBytes)
(chk (Nat.ble (((r1 ++ r3).length + x.length) * 1) maxBytes)
(some ((r1 ++ r3) ++ x)))))))
def m_w37q := p_w37q FU
def a_w37q : Ann := .leaf
def S_w37q : FSpec := ⟨[.val (.sl none (.int .u8))], [Kd20], m_w37q⟩
def p_w38q (n : Nat) (x : (Ty41 × (List Int))) : Option Ty33 :=
((m_w25q x.1).bind fun r1 =>
((m_w37q x.2).bind fun r2 =>
(chk (Nat.ble ((r1.2.length + r2.length) * 1) maxBytes)
((m_w4q (r1.1, (r1.2 ++ r2))).bind fun r3 =>
some ((r1.1, (r1.2 ++ r2)), r3)))))
def m_w38q := p_w38q FU
def a_w38q : Ann := .leaf
def S_w38q : FSpec := ⟨[.val Kd14, .val (.sl none (.int .u8))], [Kd12, (.int .i64)], m_w38q⟩
def l_w39q_1 (n : Nat) (r9 : Ty28) (z0 : Ty6) : Option Ty8 :=
(lp (fun rec28 (z27 : Ty6) =>
 (cond (decide (z27.1 < (lenI r9)))
 ((geti r9 z27.1).bind fun _ =>
 ((r9[z27.1.toNat]?).bind fun y29 =>
 ((m_w21q (z27.2.2.1, y29)).bind fun r30 =>
 rec28 (IntKind.wrap .i64 (z27.1 + (1 : Int)), (z27.2.1, (r30.1, z27.2.2.2))))))
 (some z27.2))) n z0)
def p_w39q (n : Nat) (x : Ty1) : Option Ty5 :=
((m_w24q x.1).bind fun r1 =>
(cond (!(r1 == (0 : Int)))
 (some (r1, ((0 : Int), (([], []), ([], ([], (0 : Int)))))))
 ((m_w17q x.2.1).bind fun r2 =>
 (cond (!(r2 == (0 : Int)))
 (some (r2, ((0 : Int), (([], []), ([], ([], (0 : Int)))))))
 (cond (x.1.2.2.2 == (1000000 : Int))
 (some ((3 : Int), ((0 : Int), (([], []), ([], ([], (0 : Int)))))))
 ((m_w26q x.1).bind fun r3 =>
 (same
 ((m_w16q (x.1.2.2.2, x.2.1)).bind fun r4 =>
 (dup 1
 ((m_w38q (x.1.1, r4)).bind fun r5 =>
 (cond (!(r5.2 == (0 : Int)))
 (some (r5.2, ((0 : Int), (([], []), ([], ([], (0 : Int)))))))
 (Option.bind (α := Ty41)
 (cond x.2.2
 ((m_w9q r5.1).bind fun r7 =>
 some r7)
 (some r5.1)) fun j8 =>
 ((m_w20q (x.1.2.2.2, x.2.1)).bind fun r9 =>
 (Option.bind (α := Ty8)
 (l_w39q_1 n r9 ((0 : Int), (j8, r3.2))) fun j32 =>
 (cond (decide ((lenI j32.2.1) > (200 : Int)))
 (some ((2 : Int), ((0 : Int), (([], []), ([], ([], (0 : Int)))))))
 (some ((0 : Int), (x.1.2.2.2, (j32.1, (j32.2.1, (j32.2.2.1, IntKind.wrap .i64 (x.1.2.2.2 + (1 : Int))))))))))))))))
 ((m_w16q (x.1.2.2.2, x.2.1)).bind fun r4 =>
 ((m_w38q (x.1.1, r4)).bind fun r5 =>
 (cond (!(r5.2 == (0 : Int)))
 (some (r5.2, ((0 : Int), (([], []), ([], ([], (0 : Int)))))))
 (Option.bind (α := Ty41)
 (cond x.2.2
 ((m_w9q r5.1).bind fun r7 =>
 some r7)
 (some r5.1)) fun j8 =>
 ((m_w20q (x.1.2.2.2, x.2.1)).bind fun r9 =>
 (Option.bind (α := Ty8)
 (l_w39q_1 n r9 ((0 : Int), (j8, r3.2))) fun j32 =>
 (cond (decide ((lenI j32.2.1) > (200 : Int)))
 (some ((2 : Int), ((0 : Int), (([], []), ([], ([], (0 : Int)))))))
 (some ((0 : Int), (x.1.2.2.2, (j32.1, (j32.2.1, (j32.2.2.1, IntKind.wrap .i64 (x.1.2.2.2 + (1 : Int))))))))))))))))))))))
def m_w39q := p_w39q FU
def a_w39q : Ann := (.node .leaf (.node .leaf (.node .leaf (.node .leaf (.node .leaf (.node .leaf (.node .leaf (.join [.box 1000010 Kd12] [46, 47, 48] .leaf (.node .leaf (.node .leaf (.join [.box 1000009 Kd3] ([13] ++ rg 55 14) (.node .leaf (.loop [.slot 13 (.int .i64), .box 1000009 Kd3] (rg 55 14) .leaf)) .leaf)))))))))))
def S_w39q : FSpec := ⟨[.val Kd4, .val Kd17, .val .bool], [Kd1], m_w39q⟩
def p_w40q (n : Nat) (x : Ty34) : Option Ty40 :=
((m_w3q (x.1, lenI x.2)).bind fun r1 =>
((geti x.2 r1.1).bind fun y2 =>
some (y2, r1.2)))
def m_w40q := p_w40q FU
def a_w40q : Ann := .leaf
def S_w40q : FSpec := ⟨[.box Kd18, .val Kd21], [(.int .i64)], m_w40q⟩
def l_w41q_1 (n : Nat)  (z0 : (((List Int) × Int) × Ty31)) : Option Ty20 :=
(lp (fun rec11 (z10 : (((List Int) × Int) × Ty31)) =>
 ((m_w3q (z10.1, (2 : Int))).bind fun r12 =>
 (cond (decide (((z10.2.2.2.1.size : Nat) : Int) < (IntKind.wrap .i64 ((100 : Int) + r12.1))))
 (chk (Nat.ble (z10.2.2.2.1.size + (⟨#[118]⟩ : ByteArray).size) 9223372036854775807)
 (rec11 (r12.2, (z10.2.1, (z10.2.2.1, ((z10.2.2.2.1 ++ (⟨#[118]⟩ : ByteArray)), z10.2.2.2.2))))))
 (some (z10.2, r12.2))))) n z0)
def p_w41q (n : Nat) (x : ((List Int) × Int)) : Option Ty20 :=
((m_w34q x).bind fun r1 =>
((m_w3q (r1.2, (12 : Int))).bind fun r2 =>
(cond (r2.1 == (0 : Int))
 ((m_w3q (r2.2, (3 : Int))).bind fun r3 =>
 ((geti [(⟨#[]⟩ : ByteArray), (⟨#[97, 98, 99, 100, 101, 102, 103, 104, 105, 106, 107, 108, 109, 110, 111, 112, 113, 114, 115, 116]⟩ : ByteArray), (⟨#[97, 98, 99, 100, 101, 102, 103, 104, 105, 106, 107, 108, 109, 110, 111, 112, 113, 114, 115, 116, 117]⟩ : ByteArray)] r3.1).bind fun _ =>
 (([(⟨#[]⟩ : ByteArray), (⟨#[97, 98, 99, 100, 101, 102, 103, 104, 105, 106, 107, 108, 109, 110, 111, 112, 113, 114, 115, 116]⟩ : ByteArray), (⟨#[97, 98, 99, 100, 101, 102, 103, 104, 105, 106, 107, 108, 109, 110, 111, 112, 113, 114, 115, 116, 117]⟩ : ByteArray)][r3.1.toNat]?).bind fun y4 =>
 some ((y4, r1.1.2), r3.2))))
 (cond (r2.1 == (1 : Int))
 ((m_w40q (r2.2, [(0 : Int), (-1 : Int), (1000000 : Int), (1000001 : Int)])).bind fun r5 =>
 some ((r1.1.1, (r5.1, r1.1.2.2)), r5.2))
 (cond (r2.1 == (2 : Int))
 (l_w41q_1 n  (r2.2, r1.1))
 (some (r1.1, r2.2)))))))
def m_w41q := p_w41q FU
def a_w41q : Ann := (.node .leaf (.node .leaf (.node (.node .leaf (.node .leaf (.node .leaf (.node .leaf (.node .leaf (.node .leaf (.node (.loop [.box 0 Kd18, .box 2 Kd13] (rg 24 11) .leaf) .leaf))))))) .leaf)))
def S_w41q : FSpec := ⟨[.box Kd18], [Kd13], m_w41q⟩
def l_w42q_1 (n : Nat)  (z0 : Ty15) : Option Ty17 :=
(lp (fun rec21 (z20 : Ty15) =>
 (cond (decide (z20.2.1 > (0 : Int)))
 ((m_w34q z20.2.2).bind fun r22 =>
 ((m_w21q (z20.1, r22.1)).bind fun r23 =>
 rec21 (r23.1, IntKind.wrap .i64 (z20.2.1 - (1 : Int)), r22.2)))
 (some (z20.1, z20.2.2)))) n z0)
def p_w42q (n : Nat) (x : ((List Int) × Int)) : Option Ty17 :=
(Option.bind (α := Ty17)
 ((m_w3q (x, (9 : Int))).bind fun r13 =>
 (l_w42q_1 n  (([] : List Ty31), r13.1, r13.2))) fun j25 =>
(cond ((lenI j25.1) == (0 : Int))
 (some (j25.1, j25.2))
 ((m_w3q (j25.2, (20 : Int))).bind fun r26 =>
 (cond (r26.1 == (0 : Int))
 ((m_w3q (r26.2, lenI j25.1)).bind fun r27 =>
 ((m_w41q r27.2).bind fun r28 =>
 ((geti j25.1 r27.1).bind fun _ =>
 ((j25.1[r27.1.toNat]?).bind fun y29 =>
 some ((j25.1.set r27.1.toNat r28.1), r28.2)))))
 (cond (r26.1 == (1 : Int))
 ((geti j25.1 (0 : Int)).bind fun _ =>
 ((j25.1[(0 : Int).toNat]?).bind fun y30 =>
 (chk (Nat.ble ((j25.1.length + [y30].length) * 48) maxBytes)
 (some ((j25.1 ++ [y30]), r26.2)))))
 (cond (r26.1 == (2 : Int))
 (if (201 : Int) = (201 : Int) then (if 0 ≤ (201 : Int) then chk (Nat.ble (48 * (201 : Int).toNat) maxBytes)
 (some ((List.replicate (201 : Int).toNat ((⟨#[]⟩ : ByteArray), ((0 : Int), ((⟨#[]⟩ : ByteArray), false)))), r26.2)) else none) else none)
 (some (j25.1, r26.2))))))))
def m_w42q := p_w42q FU
def a_w42q : Ann := (.node .leaf (.node .leaf (.join [.slot 3 Kd10, .box 0 Kd18] ([4] ++ rg 6 10) (.node .leaf (.loop [.slot 3 Kd10, .slot 4 (.int .i64), .box 0 Kd18] (rg 8 8) .leaf)) .leaf)))
def S_w42q : FSpec := ⟨[.box Kd18], [Kd10], m_w42q⟩
def l_w43q_1 (n : Nat)  (z0 : ((List Int) × Ty40)) : Option Ty35 :=
(lp (fun rec10 (z9 : ((List Int) × Ty40)) =>
 (cond (decide (z9.2.1 > (0 : Int)))
 ((m_w3q (z9.2.2, (256 : Int))).bind fun r11 =>
 (chk (Nat.ble ((z9.1.length + [IntKind.wrap .u8 r11.1].length) * 1) maxBytes)
 (rec10 ((z9.1 ++ [IntKind.wrap .u8 r11.1]), IntKind.wrap .i64 (z9.2.1 - (1 : Int)), r11.2))))
 (some (z9.1, z9.2.2)))) n z0)
def p_w43q (n : Nat) (x : ((List Int) × Int)) : Option Ty35 :=
((m_w3q (x, (9 : Int))).bind fun r1 =>
((m_w3q (r1.2, (9 : Int))).bind fun r2 =>
((m_w3q (r2.2, (9 : Int))).bind fun r3 =>
((m_w40q (r3.2, [IntKind.wrap .i64 ((1 : Int) + r1.1), IntKind.wrap .i64 ((1 : Int) + r2.1), IntKind.wrap .i64 ((1 : Int) + r3.1), (0 : Int), (500 : Int), (501 : Int)])).bind fun r4 =>
(l_w43q_1 n  (([] : List Int), r4.1, r4.2))))))
def m_w43q := p_w43q FU
def a_w43q : Ann := (.node .leaf (.node .leaf (.node (.node .leaf (.loop [.slot 3 Kd20, .slot 4 (.int .i64), .box 0 Kd18] (rg 18 10) .leaf)) .leaf)))
def S_w43q : FSpec := ⟨[.box Kd18], [Kd20], m_w43q⟩
def p_w44q (n : Nat) (x : Ty34) : Option Ty35 :=
(chk (Nat.ble ((([] : List Int).length + x.2.length) * 1) maxBytes)
(cond ((lenI (([] : List Int) ++ x.2)) == (0 : Int))
 ((m_w3q (x.1, (256 : Int))).bind fun r1 =>
 some ([IntKind.wrap .u8 r1.1], r1.2))
 ((m_w3q (x.1, lenI (([] : List Int) ++ x.2))).bind fun r2 =>
 ((m_w3q (r2.2, (3 : Int))).bind fun r3 =>
 (cond (r3.1 == (0 : Int))
 ((m_w3q (r3.2, (256 : Int))).bind fun r4 =>
 ((geti (([] : List Int) ++ x.2) r2.1).bind fun _ =>
 (((([] : List Int) ++ x.2)[r2.1.toNat]?).bind fun y5 =>
 some (((([] : List Int) ++ x.2).set r2.1.toNat (IntKind.wrap .u8 r4.1)), r4.2))))
 (cond (r3.1 == (1 : Int))
 (chk (bndB none (some r2.1) none (([] : List Int) ++ x.2).length)
 (some (((([] : List Int) ++ x.2).take r2.1.toNat), r3.2)))
 (cond (r3.1 == (2 : Int))
 ((m_w3q (r3.2, (6 : Int))).bind fun r6 =>
 (chk (Nat.ble (((([] : List Int) ++ x.2).length + [IntKind.wrap .u8 r6.1].length) * 1) maxBytes)
 (some (((([] : List Int) ++ x.2) ++ [IntKind.wrap .u8 r6.1]), r6.2))))
 (some ((([] : List Int) ++ x.2), r3.2)))))))))
def m_w44q := p_w44q FU
def a_w44q : Ann := (.node .leaf (.node .leaf (.node .leaf (.node .leaf (.node (.node .leaf (.node .leaf (.node .leaf (.node .leaf (.node (.own 35 (.int .u8) .leaf) .leaf))))) .leaf)))))
def S_w44q : FSpec := ⟨[.box Kd18, .val (.sl none (.int .u8))], [Kd20], m_w44q⟩
def l_w45q_1 (n : Nat)  (z0 : (Int × Ty27)) : Option Ty27 :=
(lp (fun rec46 (z45 : (Int × Ty27)) =>
 (cond (decide (z45.1 > (0 : Int)))
 ((m_w43q z45.2.1).bind fun r47 =>
 (Option.bind (α := Bool)
 (cond (decide ((lenI r47.1) < (1 : Int)))
 (some true)
 (some (decide ((lenI r47.1) > (500 : Int))))) fun j48 =>
 (cond j48
 (rec46 (IntKind.wrap .i64 (z45.1 - (1 : Int)), r47.2, z45.2.2))
 ((m_w38q (z45.2.2, r47.1)).bind fun r49 =>
 (cond (r49.2 == (0 : Int))
 ((m_w33q (r47.2, (3 : Int))).bind fun r50 =>
 (cond r50.1
 ((m_w9q r49.1).bind fun r51 =>
 rec46 (IntKind.wrap .i64 (z45.1 - (1 : Int)), r50.2, r51))
 (rec46 (IntKind.wrap .i64 (z45.1 - (1 : Int)), r50.2, r49.1))))
 ((m_w33q (r47.2, (3 : Int))).bind fun r52 =>
 (cond r52.1
 ((m_w9q z45.2.2).bind fun r53 =>
 rec46 (IntKind.wrap .i64 (z45.1 - (1 : Int)), r52.2, r53))
 (rec46 (IntKind.wrap .i64 (z45.1 - (1 : Int)), r52.2, z45.2.2)))))))))
 (some (z45.2.1, z45.2.2)))) n z0)
def p_w45q (n : Nat) (x : ((List Int) × Int)) : Option (Ty41 × ((List Int) × Int)) :=
(Option.bind (α := Ty27)
 ((m_w3q (x, (6 : Int))).bind fun r28 =>
 (l_w45q_1 n  (r28.1, r28.2, ([], [])))) fun j55 =>
((m_w3q (j55.1, (16 : Int))).bind fun r56 =>
(cond (r56.1 == (0 : Int))
 ((m_w44q (r56.2, j55.2.2)).bind fun r57 =>
 some ((j55.2.1, r57.1), r57.2))
 (cond (r56.1 == (1 : Int))
 ((m_w44q (r56.2, j55.2.1)).bind fun r58 =>
 some ((r58.1, j55.2.2), r58.2))
 (cond (r56.1 == (2 : Int))
 ((m_w3q (r56.2, (2 : Int))).bind fun r59 =>
 (if (IntKind.wrap .i64 ((6000 : Int) + r59.1)) = (IntKind.wrap .i64 ((6000 : Int) + r59.1)) then (if 0 ≤ (IntKind.wrap .i64 ((6000 : Int) + r59.1)) then chk (Nat.ble (1 * (IntKind.wrap .i64 ((6000 : Int) + r59.1)).toNat) maxBytes)
 (some (((List.replicate (IntKind.wrap .i64 ((6000 : Int) + r59.1)).toNat (0 : Int)), j55.2.2), r59.2)) else none) else none))
 (some (j55.2, r56.2)))))))
def m_w45q := p_w45q FU
def a_w45q : Ann := (.node .leaf (.node .leaf (.join [.box 0 Kd18, .box 2 Kd12] ([4, 5, 6, 7] ++ rg 9 29) (.node .leaf (.loop [.slot 4 (.int .i64), .box 0 Kd18, .box 2 Kd12] ([5, 6, 7] ++ rg 11 27) (.node .leaf (.node (.node .leaf (.node (.join [.slot 24 .bool] (rg 17 7) .leaf .leaf) .leaf)) .leaf)))) .leaf)))
def S_w45q : FSpec := ⟨[.box Kd18], [Kd12], m_w45q⟩
def l_w46q_1 (n : Nat)  (z0 : Ty2) : Option Ty3 :=
(lp (fun rec87 (z86 : Ty2) =>
 (cond (decide (z86.1 > (0 : Int)))
 (Option.bind (α := (((List Int) × Int) × Ty5))
 ((m_w3q (z86.2.1, (6 : Int))).bind fun r95 =>
 (cond (r95.1 == (0 : Int))
 ((m_w27q z86.2.2).bind fun r96 =>
 some (r95.2, r96))
 (cond (r95.1 == (1 : Int))
 ((m_w3q (r95.2, (6 : Int))).bind fun r97 =>
 ((m_w31q (z86.2.2, r97.1)).bind fun r98 =>
 some (r97.2, r98)))
 ((m_w35q r95.2).bind fun r99 =>
 ((m_w33q (r99.2, (2 : Int))).bind fun r100 =>
 ((m_w39q (z86.2.2, r99.1, r100.1)).bind fun r101 =>
 some (r100.2, r101))))))) fun j102 =>
 (cond (j102.2.1 == (0 : Int))
 (rec87 (IntKind.wrap .i64 (z86.1 - (1 : Int)), j102.1, j102.2.2.2))
 (rec87 (IntKind.wrap .i64 (z86.1 - (1 : Int)), j102.1, z86.2.2))))
 (some (z86.2.1, z86.2.2)))) n z0)
def p_w46q (n : Nat) (x : ((List Int) × Int)) : Option Ty4 :=
((m_w2q (1 : Int)).bind fun r1 =>
(Option.bind (α := Ty3)
 ((m_w3q (x, (9 : Int))).bind fun r53 =>
 (l_w46q_1 n  (r53.1, r53.2, r1.2.2))) fun j104 =>
((m_w3q (j104.1, (24 : Int))).bind fun r105 =>
(cond (r105.1 == (0 : Int))
 ((m_w40q (r105.2, [(0 : Int), (1 : Int), (1000000 : Int), (1000001 : Int)])).bind fun r106 =>
 some ((j104.2.1, (j104.2.2.1, (j104.2.2.2.1, r106.1))), r106.2))
 (cond (r105.1 == (1 : Int))
 ((m_w42q r105.2).bind fun r107 =>
 some ((j104.2.1, (r107.1, j104.2.2.2)), r107.2))
 (cond (r105.1 == (2 : Int))
 ((m_w42q r105.2).bind fun r108 =>
 (chk (Nat.ble ((j104.2.2.2.1.length + [r108.1].length) * 24) maxBytes)
 (some ((j104.2.1, (j104.2.2.1, ((j104.2.2.2.1 ++ [r108.1]), j104.2.2.2.2))), r108.2))))
 (cond (r105.1 == (3 : Int))
 ((m_w45q r105.2).bind fun r109 =>
 some ((r109.1, j104.2.2), r109.2))
 (cond (r105.1 == (4 : Int))
 (if (7 : Int) = (7 : Int) then (if 0 ≤ (7 : Int) then chk (Nat.ble (24 * (7 : Int).toNat) maxBytes)
 (some ((j104.2.1, (j104.2.2.1, ((List.replicate (7 : Int).toNat []), j104.2.2.2.2))), r105.2)) else none) else none)
 (cond (r105.1 == (5 : Int))
 (chk (Nat.ble ((j104.2.1.2.length + [(0 : Int), (9 : Int)].length) * 1) maxBytes)
 (some (((j104.2.1.1, (j104.2.1.2 ++ [(0 : Int), (9 : Int)])), j104.2.2), r105.2)))
 (some (j104.2, r105.2)))))))))))
def m_w46q := p_w46q FU
def a_w46q : Ann := (.node .leaf (.node .leaf (.join [.box 0 Kd18, .box 7 Kd3] ([4, 5] ++ rg 8 30) (.node .leaf (.loop [.slot 4 (.int .i64), .box 0 Kd18, .box 7 Kd3] ([5] ++ rg 10 28) (.node .leaf (.node (.node .leaf (.join [.box 0 Kd18, .box 13 Kd1] (rg 15 18) .leaf .leaf)) .leaf)))) (.node (.node .leaf (.node .leaf (.node .leaf (.node .leaf (.node .leaf (.node .leaf (.node (.own 57 Kd10 .leaf) (.node .leaf (.node .leaf (.node .leaf (.node (.own 67 Kd10 .leaf) .leaf))))))))))) .leaf))))
def S_w46q : FSpec := ⟨[.box Kd18], [Kd3], m_w46q⟩
def p_w47q (n : Nat) (x : (List Int)) : Option Ty7 :=
((m_w46q (x, (0 : Int))).bind fun r1 =>
((m_w3q (r1.2, IntKind.wrap .i64 ((lenI r1.1.1.2) + (1 : Int)))).bind fun r2 =>
((m_w3q (r2.2, IntKind.wrap .i64 ((lenI r1.1.1.2) + (1 : Int)))).bind fun r3 =>
((m_w40q (r3.2, [r2.1, r3.1, (0 : Int), lenI r1.1.1.2, IntKind.wrap .i64 ((lenI r1.1.1.2) + (1 : Int)), (-1 : Int)])).bind fun r4 =>
some (r1.1, r4.1)))))
def m_w47q := p_w47q FU
def a_w47q : Ann := (.node .leaf (.node .leaf (.node .leaf (.node .leaf (.node (.lazy 28 .leaf) .leaf)))))
def S_w47q : FSpec := ⟨[.val (.sl none (.int .u8))], [Kd3, (.int .i64)], m_w47q⟩
def p_w48q (n : Nat) (x : Ty41) : Option Int :=
(cond (decide ((IntKind.wrap .i64 ((lenI x.1) + (lenI x.2))) > (6000 : Int)))
 (some (2 : Int))
 (some (0 : Int)))
def m_w48q := p_w48q FU
def a_w48q : Ann := .leaf
def S_w48q : FSpec := ⟨[.val Kd14], [(.int .i64)], m_w48q⟩
def p_w49q (n : Nat) (x : (Int × (Int × Int))) : Option Bool :=
(cond (decide (x.1 ≥ x.2.1))
 (some (decide (x.1 ≤ x.2.2)))
 (some false))
def m_w49q := p_w49q FU
def a_w49q : Ann := .leaf
def S_w49q : FSpec := ⟨[.val (.int .i64), .val (.int .i64), .val (.int .i64)], [.bool], m_w49q⟩
def p_w50q (n : Nat) (x : ByteArray) : Option Bool :=
((m_w49q (((x.size : Nat) : Int), (1 : Int), (20 : Int))).bind fun r1 =>
some r1)
def m_w50q := p_w50q FU
def a_w50q : Ann := .leaf
def S_w50q : FSpec := ⟨[.val .str], [.bool], m_w50q⟩
def p_w51q (n : Nat) (x : Int) : Option Bool :=
((m_w49q (x, (1 : Int), (1000000 : Int))).bind fun r1 =>
some r1)
def m_w51q := p_w51q FU
def a_w51q : Ann := .leaf
def S_w51q : FSpec := ⟨[.val (.int .i64)], [.bool], m_w51q⟩
def p_w52q (n : Nat) (x : Ty31) : Option Int :=
(Option.bind (α := Bool)
 ((m_w50q x.1).bind fun r2 =>
 (cond (!r2)
 (some true)
 (cond x.2.2.2
 (some (!(x.2.2.1.toList == (⟨#[]⟩ : ByteArray).toList)))
 (some false)))) fun j3 =>
(cond j3
 (some (1 : Int))
 (cond (decide (((x.2.2.1.size : Nat) : Int) > (100 : Int)))
 (some (2 : Int))
 ((m_w51q x.2.1).bind fun r4 =>
 (cond (!r4)
 (some (3 : Int))
 (some (0 : Int)))))))
def m_w52q := p_w52q FU
def a_w52q : Ann := (.node .leaf (.node (.join [.slot 3 .bool] (rg 4 13) .leaf .leaf) .leaf))
def S_w52q : FSpec := ⟨[.val Kd13], [(.int .i64)], m_w52q⟩
def p_w53q (n : Nat) (x : (ByteArray × ByteArray)) : Option Int :=
some (cmpB x.1 x.2)
def m_w53q := p_w53q FU
def a_w53q : Ann := .leaf
def S_w53q : FSpec := ⟨[.val .str, .val .str], [(.int .i64)], m_w53q⟩
def p_w54q (n : Nat) (x : (ByteArray × ByteArray)) : Option Int :=
((m_w53q (x.1, x.2)).bind fun r1 =>
some r1)
def m_w54q := p_w54q FU
def a_w54q : Ann := .leaf
def S_w54q : FSpec := ⟨[.val .str, .val .str], [(.int .i64)], m_w54q⟩
def p_w55q (n : Nat) (x : Int) : Option Bool :=
some (!(x == x))
def m_w55q := p_w55q FU
def a_w55q : Ann := .leaf
def S_w55q : FSpec := ⟨[.val (.int .i64)], [.bool], m_w55q⟩
def p_w56q (n : Nat) (x : (Int × Int)) : Option Int :=
((m_w55q x.1).bind fun r1 =>
((m_w55q x.2).bind fun r2 =>
(cond r1
 (cond r2
 (some (0 : Int))
 (some (-1 : Int)))
 (cond r2
 (some (1 : Int))
 (cond (decide (x.1 < x.2))
 (some (-1 : Int))
 (cond (decide (x.1 > x.2))
 (some (1 : Int))
 (some (0 : Int))))))))
def m_w56q := p_w56q FU
def a_w56q : Ann := .leaf
def S_w56q : FSpec := ⟨[.val (.int .i64), .val (.int .i64)], [(.int .i64)], m_w56q⟩
def l_w57q_1 (n : Nat) (x : (List Int)) (z0 : Int) : Option Int :=
(lp (fun rec4 (z3 : Int) =>
 (cond (decide (z3 < (lenI x)))
 ((geti x z3).bind fun y5 =>
 (cond (!(y5 == (0 : Int)))
 (some y5)
 (rec4 (IntKind.wrap .i64 (z3 + (1 : Int))))))
 (some (0 : Int)))) n z0)
def p_w57q (n : Nat) (x : (List Int)) : Option Int :=
(l_w57q_1 n x (0 : Int))
def m_w57q := p_w57q FU
def a_w57q : Ann := (.node .leaf (.node .leaf (.node (.node .leaf (.loop [.slot 8 (.int .i64)] ([2, 5] ++ rg 9 8) .leaf)) .leaf)))
def S_w57q : FSpec := ⟨[.val Kd21], [(.int .i64)], m_w57q⟩
def p_w58q (n : Nat) (x : Ty14) : Option Int :=
((m_w54q (x.1.1, x.2.1)).bind fun r1 =>
((m_w56q (x.2.2.1, x.1.2.1)).bind fun r2 =>
((m_w57q [r1, r2]).bind fun r3 =>
some r3)))
def m_w58q := p_w58q FU
def a_w58q : Ann := (.node .leaf (.node (.lazy 15 .leaf) .leaf))
def S_w58q : FSpec := ⟨[.val Kd13, .val Kd13], [(.int .i64)], m_w58q⟩
def l_w59q_1 (n : Nat) (x : Ty28) (z0 : Int) : Option Int :=
(lp (fun rec10 (z9 : Int) =>
 (cond (decide (z9 < (lenI x)))
 ((geti x z9).bind fun y11 =>
 ((m_w52q y11).bind fun r12 =>
 (cond (!(r12 == (0 : Int)))
 (some r12)
 (Option.bind (α := Bool)
 (cond (decide (z9 > (0 : Int)))
 ((geti x (IntKind.wrap .i64 (z9 - (1 : Int)))).bind fun y15 =>
 ((m_w58q (y15, y11)).bind fun r16 =>
 some (decide (r16 ≥ (0 : Int)))))
 (some false)) fun j17 =>
 (cond j17
 (some (1 : Int))
 (rec10 (IntKind.wrap .i64 (z9 + (1 : Int)))))))))
 (some (0 : Int)))) n z0)
def p_w59q (n : Nat) (x : Ty28) : Option Int :=
(cond (decide ((lenI x) > (200 : Int)))
 (some (2 : Int))
 (l_w59q_1 n x (0 : Int)))
def m_w59q := p_w59q FU
def a_w59q : Ann := (.node .leaf (.node .leaf (.node (.node .leaf (.loop [.slot 11 (.int .i64)] ([2, 3, 4, 5] ++ rg 12 22) (.node .leaf (.node .leaf (.node (.node .leaf (.node .leaf (.join [.slot 32 .bool] (rg 21 11) .leaf .leaf))) .leaf))))) .leaf)))
def S_w59q : FSpec := ⟨[.val Kd11], [(.int .i64)], m_w59q⟩
def l_w60q_1 (n : Nat) (x : (List Int)) (z0 : Int) : Option Int :=
(lp (fun rec4 (z3 : Int) =>
 (cond (decide (z3 < (lenI x)))
 ((geti x z3).bind fun y5 =>
 (cond (!(y5 == (0 : Int)))
 (some y5)
 (rec4 (IntKind.wrap .i64 (z3 + (1 : Int))))))
 (some (0 : Int)))) n z0)
def p_w60q (n : Nat) (x : (List Int)) : Option Int :=
(l_w60q_1 n x (0 : Int))
def m_w60q := p_w60q FU
def a_w60q : Ann := (.node .leaf (.node (.node .leaf (.loop [.slot 7 (.int .i64)] ([2, 4] ++ rg 8 7) .leaf)) .leaf))
def S_w60q : FSpec := ⟨[.val Kd21], [(.int .i64)], m_w60q⟩
def l_w61q_1 (n : Nat) (x : Ty26) (z0 : (Int × Int)) : Option Int :=
(lp (fun rec10 (z9 : (Int × Int)) =>
 (cond (decide (z9.2 < (lenI x)))
 ((geti x z9.2).bind fun y11 =>
 (cond (decide ((IntKind.wrap .i64 (z9.1 + (lenI y11))) < (0 : Int)))
 none
 (rec10 (IntKind.wrap .i64 (z9.1 + (lenI y11)), IntKind.wrap .i64 (z9.2 + (1 : Int))))))
 (some z9.1))) n z0)
def l_w61q_2 (n : Nat) (x : Ty26) (z0 : Ty24) : Option Ty28 :=
(lp (fun rec18 (z17 : Ty24) =>
 (cond (decide (z17.2 < (lenI x)))
 ((geti x z17.2).bind fun y19 =>
 (chk (Nat.ble ((z17.1.length + y19.length) * 48) maxBytes)
 (rec18 ((z17.1 ++ y19), IntKind.wrap .i64 (z17.2 + (1 : Int))))))
 (some z17.1))) n z0)
def p_w61q (n : Nat) (x : Ty26) : Option Ty28 :=
(Option.bind (α := Int)
 (l_w61q_1 n x ((0 : Int), (0 : Int))) fun j13 =>
(Option.bind (α := Ty28)
 (cond (decide (j13 < (0 : Int)))
 none
 (cond (decide ((IntKind.wrap .i64 (j13 - (IntKind.wrap .i64 ((0 : Int) - (0 : Int))))) > (0 : Int)))
 (chk (bndB none (some (0 : Int)) none 0)
 (chk (decide (0 < (IntKind.wrap .i64 (j13 - (IntKind.wrap .i64 ((0 : Int) - (0 : Int)))))) && Nat.ble (48 * (IntKind.wrap .i64 (j13 - (IntKind.wrap .i64 ((0 : Int) - (0 : Int))))).toNat) maxBytes)
 (chk (bndB none (some (0 : Int)) none (List.replicate (IntKind.wrap .i64 (j13 - (IntKind.wrap .i64 ((0 : Int) - (0 : Int))))).toNat ((⟨#[]⟩ : ByteArray), ((0 : Int), ((⟨#[]⟩ : ByteArray), false)))).length)
 (some ((List.replicate (IntKind.wrap .i64 (j13 - (IntKind.wrap .i64 ((0 : Int) - (0 : Int))))).toNat ((⟨#[]⟩ : ByteArray), ((0 : Int), ((⟨#[]⟩ : ByteArray), false)))).take (0 : Int).toNat)))))
 (some []))) fun j14 =>
(l_w61q_2 n x (j14, (0 : Int)))))
def m_w61q := p_w61q FU
def a_w61q : Ann := (.node .leaf (.node .leaf (.join [.slot 3 (.int .i64)] ([5] ++ rg 9 14) (.node .leaf (.loop [.slot 3 (.int .i64), .slot 11 (.int .i64)] ([5] ++ rg 12 11) .leaf)) (.node (.regj 24 [.slot 24 Kd10] [] (.node .leaf (.node .leaf (.node (.node .leaf (.node .leaf (.node (.own 25 Kd13 .leaf) .leaf))) .leaf))) .leaf) (.node (.node .leaf (.loop [.slot 6 Kd10, .slot 27 (.int .i64)] ([8] ++ rg 28 7) .leaf)) .leaf)))))
def S_w61q : FSpec := ⟨[.val Kd9], [Kd10], m_w61q⟩
def l_w62q_1 (n : Nat) (x : Ty28) (z0 : (Int × Int)) : Option Int :=
(lp (fun rec4 (z3 : (Int × Int)) =>
 (cond (decide (z3.2 < (lenI x)))
 ((geti x z3.2).bind fun y5 =>
 rec4 ((if y5.2.1 > z3.1 then y5.2.1 else z3.1), IntKind.wrap .i64 (z3.2 + (1 : Int))))
 (some z3.1))) n z0)
def p_w62q (n : Nat) (x : Ty28) : Option Int :=
(l_w62q_1 n x ((0 : Int), (0 : Int)))
def m_w62q := p_w62q FU
def a_w62q : Ann := (.node .leaf (.node .leaf (.node (.node .leaf (.loop [.slot 3 (.int .i64), .slot 8 (.int .i64)] ([5] ++ rg 9 8) .leaf)) .leaf)))
def S_w62q : FSpec := ⟨[.val Kd11], [(.int .i64)], m_w62q⟩
def l_w63q_1 (n : Nat) (x : (List (List Int))) (z0 : (Int × Int)) : Option Int :=
(lp (fun rec10 (z9 : (Int × Int)) =>
 (cond (decide (z9.2 < (lenI x)))
 ((geti x z9.2).bind fun y11 =>
 (cond (decide ((IntKind.wrap .i64 (z9.1 + (lenI y11))) < (0 : Int)))
 none
 (rec10 (IntKind.wrap .i64 (z9.1 + (lenI y11)), IntKind.wrap .i64 (z9.2 + (1 : Int))))))
 (some z9.1))) n z0)
def l_w63q_2 (n : Nat) (x : (List (List Int))) (z0 : ((List Int) × Int)) : Option (List Int) :=
(lp (fun rec18 (z17 : ((List Int) × Int)) =>
 (cond (decide (z17.2 < (lenI x)))
 ((geti x z17.2).bind fun y19 =>
 (chk (Nat.ble ((z17.1.length + y19.length) * 1) maxBytes)
 (rec18 ((z17.1 ++ y19), IntKind.wrap .i64 (z17.2 + (1 : Int))))))
 (some z17.1))) n z0)
def p_w63q (n : Nat) (x : (List (List Int))) : Option (List Int) :=
(Option.bind (α := Int)
 (l_w63q_1 n x ((0 : Int), (0 : Int))) fun j13 =>
(Option.bind (α := (List Int))
 (cond (decide (j13 < (0 : Int)))
 none
 (cond (decide ((IntKind.wrap .i64 (j13 - (IntKind.wrap .i64 ((0 : Int) - (0 : Int))))) > (0 : Int)))
 (chk (bndB none (some (0 : Int)) none 0)
 (chk (decide (0 < (IntKind.wrap .i64 (j13 - (IntKind.wrap .i64 ((0 : Int) - (0 : Int)))))) && Nat.ble (1 * (IntKind.wrap .i64 (j13 - (IntKind.wrap .i64 ((0 : Int) - (0 : Int))))).toNat) maxBytes)
 (chk (bndB none (some (0 : Int)) none (List.replicate (IntKind.wrap .i64 (j13 - (IntKind.wrap .i64 ((0 : Int) - (0 : Int))))).toNat (0 : Int)).length)
 (some ((List.replicate (IntKind.wrap .i64 (j13 - (IntKind.wrap .i64 ((0 : Int) - (0 : Int))))).toNat (0 : Int)).take (0 : Int).toNat)))))
 (some []))) fun j14 =>
(l_w63q_2 n x (j14, (0 : Int)))))
def m_w63q := p_w63q FU
def a_w63q : Ann := (.node .leaf (.node .leaf (.join [.slot 3 (.int .i64)] ([5] ++ rg 9 14) (.node .leaf (.loop [.slot 3 (.int .i64), .slot 11 (.int .i64)] ([5] ++ rg 12 11) .leaf)) (.node (.regj 24 [.slot 24 Kd20] [] (.node .leaf (.node .leaf (.node (.node .leaf (.node .leaf (.node (.own 25 (.int .u8) .leaf) .leaf))) .leaf))) .leaf) (.node (.node .leaf (.loop [.slot 6 Kd20, .slot 27 (.int .i64)] ([8] ++ rg 28 7) .leaf)) .leaf)))))
def S_w63q : FSpec := ⟨[.val (.sl none (.sl none (.int .u8)))], [Kd20], m_w63q⟩
def l_w64q_1 (n : Nat) (x : (List Int)) (z0 : (Int × Int)) : Option Int :=
(lp (fun rec4 (z3 : (Int × Int)) =>
 (cond (decide (z3.2 < (lenI x)))
 ((geti x z3.2).bind fun y5 =>
 (cond ((65521 : Int) == 0) none
 (rec4 (Int.tmod (IntKind.wrap .i64 ((IntKind.wrap .i64 ((IntKind.wrap .i64 (z3.1 * (257 : Int))) + (IntKind.wrap .i64 y5))) + (1 : Int))) (65521 : Int), IntKind.wrap .i64 (z3.2 + (1 : Int))))))
 (some z3.1))) n z0)
def p_w64q (n : Nat) (x : (List Int)) : Option Int :=
(l_w64q_1 n x ((1 : Int), (0 : Int)))
def m_w64q := p_w64q FU
def a_w64q : Ann := (.node .leaf (.node .leaf (.node (.node .leaf (.loop [.slot 3 (.int .i64), .slot 8 (.int .i64)] ([5] ++ rg 9 11) .leaf)) .leaf)))
def S_w64q : FSpec := ⟨[.val (.sl none (.int .u8))], [(.int .i64)], m_w64q⟩
def p_w65q (n : Nat) (x : Int) : Option (List Int) :=
(chk (decide (0 ≤ (8 : Int)))
 (some [IntKind.wrap .u8 (Int.fdiv x (2 ^ (min (8 : Int).toNat 64))), IntKind.wrap .u8 x]))
def m_w65q := p_w65q FU
def a_w65q : Ann := .leaf
def S_w65q : FSpec := ⟨[.val (.int .i64)], [Kd20], m_w65q⟩
def p_w66q (n : Nat) (x : Ty41) : Option Bool :=
some ((strOfNums x.1).toList == (strOfNums x.2).toList)
def m_w66q := p_w66q FU
def a_w66q : Ann := .leaf
def S_w66q : FSpec := ⟨[.val (.sl none (.int .u8)), .val (.sl none (.int .u8))], [.bool], m_w66q⟩
def p_w67q (n : Nat) (x : (List Int)) : Option ((List Int) × Bool) :=
(cond (decide ((lenI x) < (4 : Int)))
 (some ([], false))
 ((geti x (0 : Int)).bind fun y1 =>
 (chk (decide (0 ≤ (8 : Int)))
 ((geti x (1 : Int)).bind fun y2 =>
 (Option.bind (α := Bool)
 ((m_w49q (IntKind.wrap .i64 ((IntKind.wrap .i64 ((IntKind.wrap .i64 y1) * 2 ^ (min (8 : Int).toNat 64))) + (IntKind.wrap .i64 y2)), (1 : Int), (500 : Int))).bind fun r4 =>
 (cond (!r4)
 (some true)
 (some (decide ((lenI x) < (IntKind.wrap .i64 ((4 : Int) + (IntKind.wrap .i64 ((IntKind.wrap .i64 ((IntKind.wrap .i64 y1) * 2 ^ (min (8 : Int).toNat 64))) + (IntKind.wrap .i64 y2)))))))))) fun j5 =>
 (cond j5
 (some ([], false))
 (chk (bndB (some (4 : Int)) (some (IntKind.wrap .i64 ((4 : Int) + (IntKind.wrap .i64 ((IntKind.wrap .i64 ((IntKind.wrap .i64 y1) * 2 ^ (min (8 : Int).toNat 64))) + (IntKind.wrap .i64 y2)))))) none x.length)
 (chk (bndB (some (2 : Int)) (some (4 : Int)) none x.length)
 ((m_w64q (cutL (some (4 : Int)) (some (IntKind.wrap .i64 ((4 : Int) + (IntKind.wrap .i64 ((IntKind.wrap .i64 ((IntKind.wrap .i64 y1) * 2 ^ (min (8 : Int).toNat 64))) + (IntKind.wrap .i64 y2)))))) x)).bind fun r6 =>
 ((m_w65q r6).bind fun r7 =>
 ((m_w66q ((cutL (some (2 : Int)) (some (4 : Int)) x), r7)).bind fun r8 =>
 some ((cutL (some (4 : Int)) (some (IntKind.wrap .i64 ((4 : Int) + (IntKind.wrap .i64 ((IntKind.wrap .i64 ((IntKind.wrap .i64 y1) * 2 ^ (min (8 : Int).toNat 64))) + (IntKind.wrap .i64 y2)))))) x), r8))))))))))))
def m_w67q := p_w67q FU
def a_w67q : Ann := (.node .leaf (.node .leaf (.node .leaf (.node (.join [.slot 28 .bool] (rg 19 9) .leaf .leaf) .leaf))))
def S_w67q : FSpec := ⟨[.val (.sl none (.int .u8))], [(.sl none (.int .u8)), .bool], m_w67q⟩
def p_w68q (n : Nat) (x : (List Int)) : Option (List Int) :=
(cond (List.isEmpty x)
 (same
 (some [])
 (chk (Nat.ble ((([] : List Int).length + x.length) * 1) maxBytes)
 (some (([] : List Int) ++ x))))
 (chk (Nat.ble ((([] : List Int).length + x.length) * 1) maxBytes)
 (some (([] : List Int) ++ x))))
def m_w68q := p_w68q FU
def a_w68q : Ann := .leaf
def S_w68q : FSpec := ⟨[.val (.sl none (.int .u8))], [Kd20], m_w68q⟩
def p_w69q (n : Nat) (x : (List Int)) : Option Int :=
some (lenI x)
def m_w69q := p_w69q FU
def a_w69q : Ann := .leaf
def S_w69q : FSpec := ⟨[.val (.sl none (.int .u8))], [(.int .i64)], m_w69q⟩
def l_w70q_1 (n : Nat) (x : (List Int)) (z0 : Ty36) : Option Ty36 :=
(lp (fun rec10 (z9 : Ty36) =>
 (chk (bndB (some z9.2.1) none none x.length)
 ((m_w67q (cutL (some z9.2.1) none x)).bind fun r11 =>
 (cond (!r11.2)
 (some z9)
 ((m_w68q r11.1).bind fun r12 =>
 (chk (Nat.ble ((z9.2.2.length + [r12].length) * 24) maxBytes)
 ((m_w69q r11.1).bind fun r13 =>
 rec10 (z9.1, (IntKind.wrap .i64 (z9.2.1 + (IntKind.wrap .i64 ((4 : Int) + r13))), (z9.2.2 ++ [r12])))))))))) n z0)
def p_w70q (n : Nat) (x : (List Int)) : Option Ty36 :=
(cond (decide ((lenI x) > (6000 : Int)))
 (some ((2 : Int), ((0 : Int), [])))
 (l_w70q_1 n x ((0 : Int), ((0 : Int), []))))
def m_w70q := p_w70q FU
def a_w70q : Ann := (.node .leaf (.node .leaf (.node .leaf (.loop [.box 1 Kd7] ([4, 5] ++ rg 11 25) (.node .leaf (.node .leaf (.node (.own 26 Kd20 .leaf) .leaf)))))))
def S_w70q : FSpec := ⟨[.val (.sl none (.int .u8))], [Kd7], m_w70q⟩
def p_w71q (n : Nat) (x : Ty41) : Option Ty36 :=
((m_w48q x).bind fun r1 =>
(cond (!(r1 == (0 : Int)))
 (some (r1, ((0 : Int), [])))
 ((m_w63q [x.1, x.2]).bind fun r2 =>
 ((m_w70q r2).bind fun r3 =>
 some r3))))
def m_w71q := p_w71q FU
def a_w71q : Ann := .leaf
def S_w71q : FSpec := ⟨[.val Kd14], [Kd7], m_w71q⟩
def l_w72q_1 (n : Nat) (x : (List Int)) (z0 : (Int × Int)) : Option (Int × Int) :=
(lp (fun rec4 (z3 : (Int × Int)) =>
 (cond (decide (z3.2 < (lenI x)))
 ((geti x z3.2).bind fun y5 =>
 (chk (decide (0 ≤ (8 : Int)))
 (rec4 (IntKind.wrap .u64 ((IntKind.wrap .u64 (z3.1 * 2 ^ (min (8 : Int).toNat 64))) + (IntKind.wrap .u64 y5)), IntKind.wrap .i64 (z3.2 + (1 : Int))))))
 (some ((0 : Int), IntKind.wrap .i64 z3.1)))) n z0)
def p_w72q (n : Nat) (x : (List Int)) : Option (Int × Int) :=
(cond (!((lenI x) == (8 : Int)))
 (some ((1 : Int), (0 : Int)))
 (l_w72q_1 n x ((0 : Int), (0 : Int))))
def m_w72q := p_w72q FU
def a_w72q : Ann := (.node .leaf (.node .leaf (.node .leaf (.node (.node .leaf (.loop [.slot 3 (.int .u64), .slot 12 (.int .i64)] ([5] ++ rg 13 9) .leaf)) .leaf))))
def S_w72q : FSpec := ⟨[.val (.sl none (.int .u8))], [(.pair (.int .i64) (.int .i64))], m_w72q⟩
def p_w73q (n : Nat) (x : (List Int)) : Option (ByteArray × ((List Int) × Bool)) :=
(Option.bind (α := Bool)
 (cond ((lenI x) == (0 : Int))
 (some true)
 ((geti x (0 : Int)).bind fun y2 =>
 some (decide ((lenI x) < (IntKind.wrap .i64 ((1 : Int) + (IntKind.wrap .i64 y2))))))) fun j3 =>
(cond j3
 (some ((⟨#[]⟩ : ByteArray), [], false))
 ((geti x (0 : Int)).bind fun y4 =>
 (chk (bndB (some (1 : Int)) (some (IntKind.wrap .i64 ((1 : Int) + (IntKind.wrap .i64 y4)))) none x.length)
 (chk (bndB (some (IntKind.wrap .i64 ((1 : Int) + (IntKind.wrap .i64 y4)))) none none x.length)
 (some ((strOfNums (cutL (some (1 : Int)) (some (IntKind.wrap .i64 ((1 : Int) + (IntKind.wrap .i64 y4)))) x)), (cutL (some (IntKind.wrap .i64 ((1 : Int) + (IntKind.wrap .i64 y4)))) none x), true)))))))
def m_w73q := p_w73q FU
def a_w73q : Ann := (.node .leaf (.node (.join [.slot 18 .bool] (rg 6 12) .leaf .leaf) .leaf))
def S_w73q : FSpec := ⟨[.val (.sl none (.int .u8))], [.str, (.sl none (.int .u8)), .bool], m_w73q⟩
def p_w74q (n : Nat) (x : (List Int)) : Option (Ty38 × ((List Int) × Bool)) :=
((geti x (0 : Int)).bind fun y1 =>
(cond (decide (y1 > (1 : Int)))
 (some (((⟨#[]⟩ : ByteArray), ((⟨#[]⟩ : ByteArray), false)), [], false))
 ((geti x (0 : Int)).bind fun y2 =>
 (Option.bind (α := ((List Int) × (Bool × Ty38)))
 (chk (bndB (some (1 : Int)) none none x.length)
 ((m_w73q (cutL (some (1 : Int)) none x)).bind fun r6 =>
 (Option.bind (α := Bool)
 (cond r6.2.2
 (some (!(y2 == (1 : Int))))
 (some false)) fun j7 =>
 (cond j7
 ((m_w73q r6.2.1).bind fun r8 =>
 some (r8.2.1, r8.2.2, (r6.1, (r8.1, (y2 == (1 : Int))))))
 (some (r6.2.1, r6.2.2, (r6.1, ((⟨#[]⟩ : ByteArray), (y2 == (1 : Int)))))))))) fun j9 =>
 some (j9.2.2, j9.1, j9.2.1)))))
def m_w74q := p_w74q FU
def a_w74q : Ann := (.node .leaf (.node .leaf (.node .leaf (.join [.slot 0 (.sl none (.int .u8)), .slot 6 .bool, .box 1 Kd19] (rg 17 21) (.node .leaf (.join [.slot 30 .bool] [25, 26, 27, 28, 29] .leaf .leaf)) .leaf))))
def S_w74q : FSpec := ⟨[.val (.sl none (.int .u8))], [Kd19, (.sl none (.int .u8)), .bool], m_w74q⟩
def p_w75q (n : Nat) (x : Ty32) : Option Int :=
some (lenI x)
def m_w75q := p_w75q FU
def a_w75q : Ann := .leaf
def S_w75q : FSpec := ⟨[.val Kd17], [(.int .i64)], m_w75q⟩
def p_w76q (n : Nat) (x : (Ty38 × Int)) : Option Ty31 :=
some (x.1.1, (x.2, x.1.2))
def m_w76q := p_w76q FU
def a_w76q : Ann := .leaf
def S_w76q : FSpec := ⟨[.val Kd19, .val (.int .i64)], [Kd13], m_w76q⟩
def l_w77q_1 (n : Nat) (x : Int) (z0 : (Int × (List Int))) : Option (List Int) :=
(lp (fun rec6 (z5 : (Int × (List Int))) =>
 (cond (decide (z5.1 < (lenI (List.replicate (8 : Int).toNat (0 : Int)))))
 (chk (decide (0 ≤ (IntKind.wrap .i64 ((56 : Int) - (IntKind.wrap .i64 ((8 : Int) * z5.1))))))
 ((geti z5.2 z5.1).bind fun _ =>
 ((z5.2[z5.1.toNat]?).bind fun y7 =>
 rec6 (IntKind.wrap .i64 (z5.1 + (1 : Int)), (z5.2.set z5.1.toNat (IntKind.wrap .u8 (Int.fdiv x (2 ^ (min (IntKind.wrap .i64 ((56 : Int) - (IntKind.wrap .i64 ((8 : Int) * z5.1)))).toNat 64)))))))))
 (some z5.2))) n z0)
def p_w77q (n : Nat) (x : Int) : Option (List Int) :=
(if (8 : Int) = (8 : Int) then (if 0 ≤ (8 : Int) then chk (Nat.ble (1 * (8 : Int).toNat) maxBytes)
(l_w77q_1 n x ((0 : Int), (List.replicate (8 : Int).toNat (0 : Int)))) else none) else none)
def m_w77q := p_w77q FU
def a_w77q : Ann := (.node .leaf (.node .leaf (.node (.node .leaf (.loop [.slot 8 (.int .i64), .row 0 5 (.int .u8)] ([4] ++ rg 9 12) .leaf)) .leaf)))
def S_w77q : FSpec := ⟨[.val (.int .i64)], [Kd20], m_w77q⟩
def p_w78q (n : Nat) (x : ByteArray) : Option (Int × (List Int)) :=
(cond (decide (((x.size : Nat) : Int) > (200 : Int)))
 (some ((2 : Int), []))
 (chk (Nat.ble ([IntKind.wrap .u8 ((x.size : Nat) : Int)].length + x.size) maxBytes)
 (some ((0 : Int), ([IntKind.wrap .u8 ((x.size : Nat) : Int)] ++ (bytesNums x))))))
def m_w78q := p_w78q FU
def a_w78q : Ann := .leaf
def S_w78q : FSpec := ⟨[.val .str], [Kd16], m_w78q⟩
def l_w79q_1 (n : Nat) (x_2 : Ty32) (z0 : ((List Int) × Int)) : Option (List Int) :=
(lp (fun rec8 (z7 : ((List Int) × Int)) =>
 (cond (decide (z7.2 < (lenI x_2)))
 ((geti x_2 z7.2).bind fun y9 =>
 (Option.bind (α := Int)
 (cond y9.2.2
 (some (1 : Int))
 (some (0 : Int))) fun j10 =>
 (chk (Nat.ble ((z7.1.length + [j10].length) * 1) maxBytes)
 ((m_w78q y9.1).bind fun r11 =>
 (chk (Nat.ble (((z7.1 ++ [j10]).length + r11.2.length) * 1) maxBytes)
 (cond (!y9.2.2)
 ((m_w78q y9.2.1).bind fun r12 =>
 (chk (Nat.ble ((((z7.1 ++ [j10]) ++ r11.2).length + r12.2.length) * 1) maxBytes)
 (rec8 ((((z7.1 ++ [j10]) ++ r11.2) ++ r12.2), IntKind.wrap .i64 (z7.2 + (1 : Int))))))
 (rec8 (((z7.1 ++ [j10]) ++ r11.2), IntKind.wrap .i64 (z7.2 + (1 : Int))))))))))
 (some z7.1))) n z0)
def p_w79q (n : Nat) (x : Ty29) : Option (List Int) :=
((m_w77q x.1).bind fun r1 =>
(l_w79q_1 n x.2 (r1, (0 : Int))))
def m_w79q := p_w79q FU
def a_w79q : Ann := (.node .leaf (.node .leaf (.node (.node .leaf (.loop [.slot 5 Kd20, .slot 13 (.int .i64)] ([7, 8] ++ rg 14 24) (.node .leaf (.node .leaf (.node (.node .leaf (.node .leaf (.join [.slot 8 (.int .u8)] [17, 18] .leaf (.node (.lazy 21 .leaf) .leaf)))) .leaf))))) .leaf)))
def S_w79q : FSpec := ⟨[.val (.int .i64), .val Kd17], [Kd20], m_w79q⟩
def l_w80q_1 (n : Nat) (z56 : Int) (x : Ty32) (y58_1 : ByteArray) (z0 : Int) : Option Int :=
(lp (fun rec70 (z69 : Int) =>
 (cond (decide (z69 < (lenI (cutL none (some z56) x))))
 ((geti (cutL none (some z56) x) z69).bind fun y71 =>
 (cond (y71.1.toList == y58_1.toList)
 (some z69)
 (rec70 (IntKind.wrap .i64 (z69 + (1 : Int))))))
 (some (-1 : Int)))) n z0)
def l_w80q_2 (n : Nat) (x : Ty32) (z0 : Int) : Option (Unit ⊕ Int) :=
(lp (fun rec57 (z56 : Int) =>
 (cond (decide (z56 < (lenI x)))
 ((geti x z56).bind fun y58 =>
 ((m_w76q (y58, (1 : Int))).bind fun r59 =>
 ((m_w52q r59).bind fun r60 =>
 (cond (!(r60 == (0 : Int)))
 (some (Sum.inr r60))
 (chk (bndB none (some z56) none x.length)
 (Option.bind (α := Int)
 (l_w80q_1 n z56 x y58.1 (0 : Int)) fun j73 =>
 (cond (decide (j73 ≥ (0 : Int)))
 (some (Sum.inr (7 : Int)))
 (rec57 (IntKind.wrap .i64 (z56 + (1 : Int)))))))))))
 (some (Sum.inl ())))) n z0)
def p_w80q (n : Nat) (x : Ty32) : Option Int :=
((m_w75q x).bind fun r1 =>
((m_w49q (r1, (1 : Int), (8 : Int))).bind fun r2 =>
(cond (!r2)
 (some (2 : Int))
 (Option.bind (α := (Unit ⊕ Int))
 (l_w80q_2 n x (0 : Int))
 (Sum.elim (fun j75 =>
 ((m_w79q ((1 : Int), x)).bind fun r76 =>
 (cond (decide ((lenI r76) > (500 : Int)))
 (some (2 : Int))
 (some (0 : Int))))) some)))))
def m_w80q := p_w80q FU
def a_w80q : Ann := (.node .leaf (.node .leaf (.joinx [] ([2, 3, 4, 5] ++ rg 10 19) (.node .leaf (.loop [.slot 12 (.int .i64)] ([2, 3, 4, 5] ++ rg 13 16) (.node .leaf (.node .leaf (.node (.node .leaf (.node .leaf (.node (.reg 27 (.node .leaf (.node (.regj 7 [.slot 7 (.int .i64)] [] (.node .leaf (.node (.node .leaf (.loop [.slot 8 (.int .i64)] ([4, 5] ++ rg 9 10) .leaf)) .leaf)) .leaf) .leaf)) .leaf) .leaf))) .leaf))))) .leaf)))
def S_w80q : FSpec := ⟨[.val Kd17], [(.int .i64)], m_w80q⟩
def p_w81q (n : Nat) (x : Ty29) : Option (Int × (List Int)) :=
((m_w51q x.1).bind fun r1 =>
(cond (!r1)
 (some ((3 : Int), []))
 ((m_w80q x.2).bind fun r2 =>
 (cond (!(r2 == (0 : Int)))
 (some (r2, []))
 ((m_w79q (x.1, x.2)).bind fun r3 =>
 some ((0 : Int), r3))))))
def m_w81q := p_w81q FU
def a_w81q : Ann := .leaf
def S_w81q : FSpec := ⟨[.val (.int .i64), .val Kd17], [Kd16], m_w81q⟩
def l_w82q_1 (n : Nat)  (z0 : (Ty32 × (List Int))) : Option Ty11 :=
(lp (fun rec11 (z10 : (Ty32 × (List Int))) =>
 (cond (decide ((lenI z10.2) > (0 : Int)))
 ((m_w74q z10.2).bind fun r12 =>
 (cond (!r12.2.2)
 (some (Sum.inr ((0 : Int), [], false)))
 (chk (Nat.ble ((z10.1.length + [r12.1].length) * 40) maxBytes)
 (rec11 ((z10.1 ++ [r12.1]), r12.2.1)))))
 (some (Sum.inl z10.1)))) n z0)
def p_w82q (n : Nat) (x : (List Int)) : Option Ty22 :=
(cond (decide ((lenI x) < (8 : Int)))
 (some ((0 : Int), [], false))
 (chk (bndB none (some (8 : Int)) none x.length)
 ((m_w72q (cutL none (some (8 : Int)) x)).bind fun r1 =>
 (Option.bind (α := Ty11)
 (chk (bndB (some (8 : Int)) none none x.length)
 (l_w82q_1 n  (([] : List Ty38), (cutL (some (8 : Int)) none x))))
 (Sum.elim (fun j14 =>
 ((m_w81q (r1.2, j14)).bind fun r15 =>
 (cond (r15.1 == (0 : Int))
 ((m_w66q (r15.2, x)).bind fun r16 =>
 some (r1.2, j14, r16))
 (some (r1.2, j14, false))))) some)))))
def m_w82q := p_w82q FU
def a_w82q : Ann := (.node .leaf (.node .leaf (.node .leaf (.joinx [.slot 6 Kd15] ([2, 3, 4, 7, 8, 9, 10] ++ rg 20 18) (.node .leaf (.loop [.slot 6 Kd15, .slot 7 (.sl none (.int .u8))] ([2, 3, 4, 8, 9, 10] ++ rg 22 16) .leaf)) .leaf))))
def S_w82q : FSpec := ⟨[.val (.sl none (.int .u8))], [(.int .i64), Kd15, .bool], m_w82q⟩
def l_w83q_1 (n : Nat) (x_1 : Int) (x_2 : Ty32) (z0 : Ty24) : Option Ty28 :=
(lp (fun rec5 (z4 : Ty24) =>
 (cond (decide (z4.2 < (lenI x_2)))
 ((geti x_2 z4.2).bind fun y6 =>
 ((m_w76q (y6, x_1)).bind fun r7 =>
 (chk (Nat.ble ((z4.1.length + [r7].length) * 48) maxBytes)
 (rec5 ((z4.1 ++ [r7]), IntKind.wrap .i64 (z4.2 + (1 : Int)))))))
 (some z4.1))) n z0)
def p_w83q (n : Nat) (x : Ty29) : Option Ty28 :=
(l_w83q_1 n x.1 x.2 (([] : List Ty31), (0 : Int)))
def m_w83q := p_w83q FU
def a_w83q : Ann := (.node .leaf (.node .leaf (.node (.node .leaf (.loop [.slot 5 Kd10, .slot 11 (.int .i64)] ([7] ++ rg 12 10) .leaf)) .leaf)))
def S_w83q : FSpec := ⟨[.val (.int .i64), .val Kd17], [Kd10], m_w83q⟩
def p_w84q (n : Nat) (x : Ty23) : Option Ty28 :=
sortRun okRow ((⟨#[]⟩ : ByteArray), ((0 : Int), ((⟨#[]⟩ : ByteArray), false))) rfl cfRow x.1
def m_w84q := p_w84q FU
def a_w84q : Ann := .leaf
def S_w84q : FSpec := ⟨[.row 78 Kd13, .fn 193], [], m_w84q⟩
def l_w85q_1 (n : Nat) (r1_2_2 : (List (List Int))) (x_2 : Int) (z0 : Ty19) : Option Ty10 :=
(lp (fun rec25 (z24 : Ty19) =>
 (cond (decide (z24.2.2 < (lenI r1_2_2)))
 ((geti r1_2_2 z24.2.2).bind fun _ =>
 ((r1_2_2[z24.2.2.toNat]?).bind fun y26 =>
 ((r1_2_2[z24.2.2.toNat]?).bind fun y27 =>
 ((m_w82q y27).bind fun r28 =>
 (Option.bind (α := Bool)
 (cond (!r28.2.2)
 (some true)
 (cond (decide (r28.1 ≥ x_2))
 (some true)
 (some (decide (r28.1 ≤ z24.2.1))))) fun j29 =>
 (cond j29
 (some (Sum.inr ([], false)))
 ((m_w83q (r28.1, r28.2.1)).bind fun r30 =>
 (chk (Nat.ble ((z24.1.length + r30.length) * 48) maxBytes)
 (rec25 ((z24.1 ++ r30), r28.1, IntKind.wrap .i64 (z24.2.2 + (1 : Int))))))))))))
 (some (Sum.inl z24.1)))) n z0)
def p_w85q (n : Nat) (x : Ty33) : Option Ty23 :=
((m_w71q x.1).bind fun r1 =>
((m_w69q x.1.1).bind fun r2 =>
((m_w69q x.1.2).bind fun r3 =>
(cond (!(r1.2.1 == (IntKind.wrap .i64 (r2 + r3))))
 (some ([], false))
 (Option.bind (α := Ty10)
 (l_w85q_1 n r1.2.2 x.2 (([] : List Ty31), (0 : Int), (0 : Int)))
 (Sum.elim (fun j32 =>
 ((m_w84q (j32, true)).bind fun r33 =>
 some (r33, true))) some))))))
def m_w85q := p_w85q FU
def a_w85q : Ann := (.node .leaf (.node .leaf (.node .leaf (.node .leaf (.joinx [.slot 7 Kd10] ([4, 5, 8, 10, 11, 12, 13] ++ rg 27 32) (.node .leaf (.loop [.slot 7 Kd10, .slot 8 (.int .i64), .slot 30 (.int .i64)] ([4, 5, 10, 11, 12, 13] ++ rg 31 28) (.node .leaf (.node .leaf (.node (.node .leaf (.node .leaf (.node (.join [.slot 51 .bool] (rg 40 11) .leaf .leaf) .leaf))) .leaf))))) .leaf)))))
def S_w85q : FSpec := ⟨[.val Kd14, .val (.int .i64)], [Kd10, .bool], m_w85q⟩
def l_w86q_1 (n : Nat) (x_1 : Ty28) (x_2 : Ty28) (z0 : Int) : Option Bool :=
(lp (fun rec5 (z4 : Int) =>
 (cond (decide (z4 < (lenI x_1)))
 ((geti x_1 z4).bind fun y6 =>
 ((geti x_2 z4).bind fun y7 =>
 (cond (!((y6.1.toList == y7.1.toList) && ((y6.2.1 == y7.2.1) && ((y6.2.2.1.toList == y7.2.2.1.toList) && ((y6.2.2.2 == y7.2.2.2) && true)))))
 (some false)
 (rec5 (IntKind.wrap .i64 (z4 + (1 : Int)))))))
 (some true))) n z0)
def p_w86q (n : Nat) (x : Ty12) : Option Bool :=
(cond (!((lenI x.1) == (lenI x.2)))
 (some false)
 (l_w86q_1 n x.1 x.2 (0 : Int)))
def m_w86q := p_w86q FU
def a_w86q : Ann := (.node .leaf (.node .leaf (.node (.node .leaf (.loop [.slot 13 (.int .i64)] ([4, 5] ++ rg 14 12) .leaf)) .leaf)))
def S_w86q : FSpec := ⟨[.val Kd11, .val Kd11], [.bool], m_w86q⟩
def l_w87q_1 (n : Nat) (x_2_2_1 : Ty26) (z0 : Int) : Option (Unit ⊕ Int) :=
(lp (fun rec16 (z15 : Int) =>
 (cond (decide (z15 < (lenI x_2_2_1)))
 ((geti x_2_2_1 z15).bind fun y17 =>
 ((m_w59q y17).bind fun r18 =>
 (cond (!(r18 == (0 : Int)))
 (some (Sum.inr r18))
 (rec16 (IntKind.wrap .i64 (z15 + (1 : Int)))))))
 (some (Sum.inl ())))) n z0)
def l_w87q_2 (n : Nat) (x_2_1 : Ty28) (r22 : Int) (z0 : Int) : Option Int :=
(lp (fun rec53 (z52 : Int) =>
 (cond (decide (z52 < (lenI x_2_1)))
 ((geti x_2_1 z52).bind fun y54 =>
 (cond (decide (y54.2.1 ≤ r22))
 (some z52)
 (rec53 (IntKind.wrap .i64 (z52 + (1 : Int))))))
 (some (-1 : Int)))) n z0)
def p_w87q (n : Nat) (x : Ty8) : Option Int :=
((m_w48q x.1).bind fun r1 =>
((m_w59q x.2.1).bind fun r2 =>
((m_w60q [r1, r2]).bind fun r3 =>
(cond (!(r3 == (0 : Int)))
 (some r3)
 (cond (decide ((lenI x.2.2.1) > (6 : Int)))
 (some (2 : Int))
 (Option.bind (α := (Unit ⊕ Int))
 (l_w87q_1 n x.2.2.1 (0 : Int))
 (Sum.elim (fun j20 =>
 ((m_w61q x.2.2.1).bind fun r21 =>
 ((m_w62q r21).bind fun r22 =>
 (Option.bind (α := Bool)
 ((m_w51q x.2.2.2).bind fun r25 =>
 (cond (!r25)
 (some true)
 ((m_w62q x.2.1).bind fun r26 =>
 some (decide ((if r26 > r22 then r26 else r22) ≥ x.2.2.2))))) fun j27 =>
 (cond j27
 (some (3 : Int))
 ((m_w85q (x.1, x.2.2.2)).bind fun r28 =>
 (Option.bind (α := Bool)
 (cond (!r28.2)
 (some true)
 ((m_w86q (r28.1, x.2.1)).bind fun r43 =>
 (cond (!r43)
 (some true)
 (Option.bind (α := Int)
 (l_w87q_2 n x.2.1 r22 (0 : Int)) fun j56 =>
 some (decide (j56 ≥ (0 : Int))))))) fun j57 =>
 (cond j57
 (some (1 : Int))
 (some (0 : Int)))))))))) some)))))))
def m_w87q := p_w87q FU
def a_w87q : Ann := (.node .leaf (.node (.node (.lazy 16 .leaf) .leaf) (.node .leaf (.joinx [] ([2, 5, 6] ++ rg 25 13) (.node .leaf (.loop [.slot 28 (.int .i64)] ([2, 5, 6] ++ rg 29 9) .leaf)) (.node .leaf (.node (.join [.slot 55 .bool] (rg 42 13) .leaf .leaf) (.node .leaf (.node (.join [.slot 78 .bool] (rg 64 14) (.reg 77 (.node .leaf (.node (.regj 7 [.slot 7 (.int .i64)] [] (.node .leaf (.node (.node .leaf (.loop [.slot 8 (.int .i64)] ([4, 5] ++ rg 9 10) .leaf)) .leaf)) .leaf) .leaf)) .leaf) .leaf) .leaf))))))))
def S_w87q : FSpec := ⟨[.val Kd4], [(.int .i64)], m_w87q⟩
def p_w88q (n : Nat) (x : Ty33) : Option Ty37 :=
((m_w48q x.1).bind fun r1 =>
(cond (!(r1 == (0 : Int)))
 (some (r1, ([], [])))
 ((m_w69q x.1.2).bind fun r2 =>
 ((m_w49q (x.2, (0 : Int), r2)).bind fun r3 =>
 (cond (!r3)
 (some ((3 : Int), ([], [])))
 (chk (bndB none (some x.2) none x.1.2.length)
 ((m_w63q [x.1.1, (cutL none (some x.2) x.1.2)]).bind fun r4 =>
 some ((0 : Int), (r4, [])))))))))
def m_w88q := p_w88q FU
def a_w88q : Ann := .leaf
def S_w88q : FSpec := ⟨[.val Kd14, .val (.int .i64)], [Kd8], m_w88q⟩
def p_w89q (n : Nat) (x : Ty41) : Option Ty41 :=
((m_w68q x.1).bind fun r1 =>
((m_w68q x.2).bind fun r2 =>
some (r1, r2)))
def m_w89q := p_w89q FU
def a_w89q : Ann := .leaf
def S_w89q : FSpec := ⟨[.val Kd14], [Kd12], m_w89q⟩
def p_w90q (n : Nat) (x : Ty28) : Option Ty28 :=
(cond (List.isEmpty x)
 (same
 (some [])
 (chk (Nat.ble ((([] : List Ty31).length + x.length) * 48) maxBytes)
 (some (([] : List Ty31) ++ x))))
 (chk (Nat.ble ((([] : List Ty31).length + x.length) * 48) maxBytes)
 (some (([] : List Ty31) ++ x))))
def m_w90q := p_w90q FU
def a_w90q : Ann := .leaf
def S_w90q : FSpec := ⟨[.val Kd11], [Kd10], m_w90q⟩
def l_w91q_1 (n : Nat) (x : Ty26) (z0 : (Ty26 × Int)) : Option Ty26 :=
(lp (fun rec5 (z4 : (Ty26 × Int)) =>
 (cond (decide (z4.2 < (lenI x)))
 ((geti x z4.2).bind fun y6 =>
 ((m_w90q y6).bind fun r7 =>
 (chk (Nat.ble ((z4.1.length + [r7].length) * 24) maxBytes)
 (rec5 ((z4.1 ++ [r7]), IntKind.wrap .i64 (z4.2 + (1 : Int)))))))
 (some z4.1))) n z0)
def p_w91q (n : Nat) (x : Ty26) : Option Ty26 :=
(l_w91q_1 n x (([] : List Ty28), (0 : Int)))
def m_w91q := p_w91q FU
def a_w91q : Ann := (.node .leaf (.node (.own 6 Kd10 .leaf) (.node (.node .leaf (.loop [.slot 3 Kd6, .slot 9 (.int .i64)] ([5] ++ rg 10 9) (.node .leaf (.node .leaf (.node (.node .leaf (.own 16 Kd10 .leaf)) .leaf))))) .leaf)))
def S_w91q : FSpec := ⟨[.val Kd9], [Kd6], m_w91q⟩
def p_w92q (n : Nat) (x : Ty8) : Option Ty8 :=
((m_w89q x.1).bind fun r1 =>
((m_w90q x.2.1).bind fun r2 =>
((m_w91q x.2.2.1).bind fun r3 =>
some (r1, (r2, (r3, x.2.2.2))))))
def m_w92q := p_w92q FU
def a_w92q : Ann := .leaf
def S_w92q : FSpec := ⟨[.val Kd4], [Kd3], m_w92q⟩
def p_w93q (n : Nat) (x : Ty41) : Option Ty37 :=
((m_w48q x).bind fun r1 =>
(cond (!(r1 == (0 : Int)))
 (some (r1, ([], [])))
 ((m_w70q x.1).bind fun r2 =>
 (chk (bndB none (some r2.2.1) none x.1.length)
 ((m_w68q (cutL none (some r2.2.1) x.1)).bind fun r3 =>
 some ((0 : Int), (r3, [])))))))
def m_w93q := p_w93q FU
def a_w93q : Ann := .leaf
def S_w93q : FSpec := ⟨[.val Kd14], [Kd8], m_w93q⟩
def p_w94q (n : Nat) (x : Ty7) : Option Ty5 :=
((m_w88q (x.1.1, x.2)).bind fun r1 =>
(cond (!(r1.1 == (0 : Int)))
 (some (r1.1, ((0 : Int), (([], []), ([], ([], (0 : Int)))))))
 ((m_w92q x.1).bind fun r2 =>
 ((m_w93q r1.2).bind fun r3 =>
 ((m_w85q (r3.2, x.1.2.2.2)).bind fun r4 =>
 ((m_w62q r4.1).bind fun r5 =>
 ((m_w61q r2.2.2.1).bind fun r6 =>
 ((m_w62q r6).bind fun r7 =>
 some ((0 : Int), ((0 : Int), (r3.2, (r4.1, (r2.2.2.1, IntKind.wrap .i64 ((1 : Int) + (if r7 > r5 then r7 else r5)))))))))))))))
def m_w94q := p_w94q FU
def a_w94q : Ann := .leaf
def S_w94q : FSpec := ⟨[.val Kd4, .val (.int .i64)], [Kd1], m_w94q⟩
def p_w95q (n : Nat) (x : Ty7) : Option Ty5 :=
((m_w87q x.1).bind fun r1 =>
(cond (!(r1 == (0 : Int)))
 (some (r1, ((0 : Int), (([], []), ([], ([], (0 : Int)))))))
 ((m_w94q (x.1, x.2)).bind fun r2 =>
 some r2)))
def m_w95q := p_w95q FU
def a_w95q : Ann := .leaf
def S_w95q : FSpec := ⟨[.val Kd4, .val (.int .i64)], [Kd1], m_w95q⟩
def p_w96q (n : Nat) (x : Ty33) : Option Ty41 :=
(chk (bndB none (some x.2) none x.1.2.length)
 (chk (Nat.ble (x.1.1.length * 1) maxBytes)
 (chk (Nat.ble ((x.1.1.length + (cutL none (some x.2) x.1.2).length) * 1) maxBytes)
 (some ((x.1.1 ++ (cutL none (some x.2) x.1.2)), [])))))
def m_w96q := p_w96q FU
def a_w96q : Ann := (.node .leaf (.node (.lazy 5 .leaf) .leaf))
def S_w96q : FSpec := ⟨[.val Kd14, .val (.int .i64)], [Kd12], m_w96q⟩
def p_w97q (n : Nat) (x : Ty33) : Option Ty37 :=
((m_w4q x.1).bind fun r1 =>
(cond (!(r1 == (0 : Int)))
 (some (r1, ([], [])))
 ((m_w1q (x.2, (0 : Int), lenI x.1.2)).bind fun r2 =>
 (cond (!r2)
 (some ((3 : Int), ([], [])))
 ((m_w96q (x.1, x.2)).bind fun r3 =>
 some ((0 : Int), r3))))))
def m_w97q := p_w97q FU
def a_w97q : Ann := .leaf
def S_w97q : FSpec := ⟨[.val Kd14, .val (.int .i64)], [Kd8], m_w97q⟩
def p_w98q (n : Nat) (x : Ty41) : Option Ty41 :=
((m_w11q x.1).bind fun r1 =>
(chk (bndB none (some r1.2) none x.1.length)
 (chk (Nat.ble ((([] : List Int).length + (cutL none (some r1.2) x.1).length) * 1) maxBytes)
 (some ((([] : List Int) ++ (cutL none (some r1.2) x.1)), [])))))
def m_w98q := p_w98q FU
def a_w98q : Ann := .leaf
def S_w98q : FSpec := ⟨[.val Kd14], [Kd12], m_w98q⟩
def p_w99q (n : Nat) (x : Ty8) : Option Ty26 :=
(chk (Nat.ble (([x.2.1].length + x.2.2.1.length) * 24) maxBytes)
(some ([x.2.1] ++ x.2.2.1)))
def m_w99q := p_w99q FU
def a_w99q : Ann := .leaf
def S_w99q : FSpec := ⟨[.val Kd4], [(.sl (some 53) Kd11)], m_w99q⟩
def p_w100q (n : Nat) (x : (Int × Int)) : Option Int :=
(cond (decide (x.1 > x.2))
 (some x.1)
 (some x.2))
def m_w100q := p_w100q FU
def a_w100q : Ann := .leaf
def S_w100q : FSpec := ⟨[.val (.int .i64), .val (.int .i64)], [(.int .i64)], m_w100q⟩
def l_w101q_1 (n : Nat) (r6 : Ty26) (z79_1 : Int) (z0 : Ty6) : Option Ty8 :=
(lp (fun rec109 (z108 : Ty6) =>
 ((geti r6 z79_1).bind fun _ =>
 ((r6[z79_1.toNat]?).bind fun y110 =>
 (cond (decide (z108.1 < (lenI y110)))
 ((geti r6 z79_1).bind fun _ =>
 ((r6[z79_1.toNat]?).bind fun y111 =>
 ((geti y111 z108.1).bind fun y112 =>
 ((m_w100q (z108.2.2.2.2, IntKind.wrap .i64 (y112.2.1 + (1 : Int)))).bind fun r113 =>
 rec109 (IntKind.wrap .i64 (z108.1 + (1 : Int)), (z108.2.1, (z108.2.2.1, (z108.2.2.2.1, r113))))))))
 (some z108.2))))) n z0)
def l_w101q_2 (n : Nat) (r6 : Ty26) (z0 : Ty6) : Option Ty5 :=
(lp (fun rec80 (z79 : Ty6) =>
 (cond (decide (z79.1 < (lenI r6)))
 (Option.bind (α := Ty8)
 (l_w101q_1 n r6 z79.1 ((0 : Int), z79.2)) fun j115 =>
 rec80 (IntKind.wrap .i64 (z79.1 + (1 : Int)), j115))
 (some ((0 : Int), ((0 : Int), z79.2))))) n z0)
def p_w101q (n : Nat) (x : Ty7) : Option Ty5 :=
((m_w24q x.1).bind fun r1 =>
(cond (!(r1 == (0 : Int)))
 (some (r1, ((0 : Int), (([], []), ([], ([], (0 : Int)))))))
 ((m_w97q (x.1.1, x.2)).bind fun r2 =>
 (cond (!(r2.1 == (0 : Int)))
 (some (r2.1, ((0 : Int), (([], []), ([], ([], (0 : Int)))))))
 ((m_w26q x.1).bind fun r3 =>
 ((m_w98q r2.2).bind fun r4 =>
 ((m_w22q (r4, x.1.2.2.2)).bind fun r5 =>
 ((m_w99q (r4, (r5.1, (r3.2.2.1, (1 : Int))))).bind fun r6 =>
 (l_w101q_2 n r6 ((0 : Int), (r4, (r5.1, (r3.2.2.1, (1 : Int))))))))))))))
def m_w101q := p_w101q FU
def a_w101q : Ann := (.node .leaf (.node .leaf (.node .leaf (.node .leaf (.node .leaf (.node .leaf (.node .leaf (.node .leaf (.node .leaf (.node .leaf (.node (.node .leaf (.loop [.slot 11 (.int .i64), .box 10 Kd4] ([12] ++ rg 48 28) (.node .leaf (.join [.box 10 Kd4] ([12] ++ rg 54 22) (.node .leaf (.loop [.slot 12 (.int .i64), .box 10 Kd4] (rg 54 22) .leaf)) .leaf)))) .leaf)))))))))))
def S_w101q : FSpec := ⟨[.val Kd4, .val (.int .i64)], [Kd2], m_w101q⟩
def p_w102q (n : Nat) (x : (List Int)) : Option Ty25 :=
((m_w82q x).bind fun r1 =>
(cond (!r1.2.2)
 (some ((5 : Int), []))
 ((m_w83q (r1.1, r1.2.1)).bind fun r2 =>
 some ((0 : Int), r2))))
def m_w102q := p_w102q FU
def a_w102q : Ann := .leaf
def S_w102q : FSpec := ⟨[.val (.sl none (.int .u8))], [Kd5], m_w102q⟩
def l_w103q_1 (n : Nat) (r3_2_2_2_1 : Ty28) (r561_2 : Ty28) (z598_2 : Int) (z0 : (Bool × Int)) : Option Bool :=
(lp (fun rec629 (z628 : (Bool × Int)) =>
 (cond (decide (z628.2 < (lenI r3_2_2_2_1)))
 (cond z628.1
 (rec629 (true, IntKind.wrap .i64 (z628.2 + (1 : Int))))
 ((geti r3_2_2_2_1 z628.2).bind fun _ =>
 ((r3_2_2_2_1[z628.2.toNat]?).bind fun y630 =>
 ((geti r561_2 z598_2).bind fun _ =>
 ((r561_2[z598_2.toNat]?).bind fun y631 =>
 rec629 (((y630.1.toList == y631.1.toList) && ((y630.2.1 == y631.2.1) && ((y630.2.2.1.toList == y631.2.2.1.toList) && ((y630.2.2.2 == y631.2.2.2) && true)))), IntKind.wrap .i64 (z628.2 + (1 : Int))))))))
 (some z628.1))) n z0)
def l_w103q_2 (n : Nat) (r561_2 : Ty28) (r3_2_2_2_1 : Ty28) (z0 : (Int × Int)) : Option (Int ⊕ (Int ⊕ Bool)) :=
(lp (fun rec599 (z598 : (Int × Int)) =>
 (cond (decide (z598.2 < (lenI r561_2)))
 (Option.bind (α := (Int ⊕ (Int ⊕ (Int ⊕ Bool))))
 (Option.bind (α := Bool)
 (l_w103q_1 n r3_2_2_2_1 r561_2 z598.2 (false, (0 : Int))) fun j633 =>
 (cond (!j633)
 (some (Sum.inr (Sum.inr (Sum.inr false))))
 (some (Sum.inl (IntKind.wrap .i64 (z598.1 + (1 : Int)))))))
 (Sum.elim (fun j634 =>
 rec599 (j634, IntKind.wrap .i64 (z598.2 + (1 : Int)))) some))
 (some (Sum.inl z598.1)))) n z0)
def l_w103q_3 (n : Nat) (r9_2_2 : (List (List Int))) (r3_2_2_2_1 : Ty28) (z0 : (Int × Int)) : Option (Int ⊕ Bool) :=
(lp (fun rec481 (z480 : (Int × Int)) =>
 (cond (decide (z480.2 < (lenI r9_2_2)))
 (Option.bind (α := (Int ⊕ (Int ⊕ Bool)))
 ((geti r9_2_2 z480.2).bind fun _ =>
 ((r9_2_2[z480.2.toNat]?).bind fun y559 =>
 ((r9_2_2[z480.2.toNat]?).bind fun y560 =>
 ((m_w102q y560).bind fun r561 =>
 (cond (!(r561.1 == (0 : Int)))
 (some (Sum.inr (Sum.inr false)))
 (l_w103q_2 n r561.2 r3_2_2_2_1 (z480.1, (0 : Int))))))))
 (Sum.elim (fun j636 =>
 rec481 (j636, IntKind.wrap .i64 (z480.2 + (1 : Int)))) some))
 (some (Sum.inl z480.1)))) n z0)
def p_w103q (n : Nat) (x : (List Int)) : Option Bool :=
((m_w0q x).bind fun r1 =>
(cond r1
 (some true)
 ((m_w47q x).bind fun r2 =>
 ((m_w95q (r2.1, r2.2)).bind fun r3 =>
 (cond (!(r3.1 == (0 : Int)))
 ((m_w101q (r2.1, r2.2)).bind fun r4 =>
 some (r4.1 == r3.1))
 (Option.bind (α := Bool)
 ((m_w87q r3.2.2).bind fun r6 =>
 (cond (!(r6 == (0 : Int)))
 (some true)
 (cond (decide (r3.2.2.2.2.2 > r2.1.2.2.2))
 (some true)
 (some (!((lenI r3.2.2.2.2.1) == (lenI r2.1.2.2.1))))))) fun j7 =>
 (cond j7
 (some false)
 ((m_w71q (r2.1.1.1, [])).bind fun r8 =>
 ((m_w71q r3.2.2.1).bind fun r9 =>
 (Option.bind (α := (Int ⊕ Bool))
 (l_w103q_3 n r9.2.2 r3.2.2.2.1 ((0 : Int), (0 : Int)))
 (Sum.elim (fun j638 =>
 (cond (decide ((lenI r9.2.2) ≥ (lenI r8.2.2)))
 (some (j638 == (lenI r3.2.2.2.1)))
 (some false))) some)))))))))))
def m_w103q := p_w103q FU
def a_w103q : Ann := (.node .leaf (.node .leaf (.node .leaf (.node .leaf (.node .leaf (.node (.join [.slot 55 .bool] (rg 34 21) .leaf .leaf) (.node .leaf (.node .leaf (.node .leaf (.joinx [.slot 8 (.int .i64)] ([2, 9, 10, 11, 12, 13] ++ rg 65 50) (.node .leaf (.loop [.slot 8 (.int .i64), .slot 9 (.int .i64)] ([2, 10, 11, 12, 13] ++ rg 65 50) (.node .leaf (.joinx [.slot 8 (.int .i64)] ([2, 10, 11, 12, 13] ++ rg 72 43) (.node .leaf (.node .leaf (.node .leaf (.loop [.slot 8 (.int .i64), .slot 11 (.int .i64)] ([2, 12, 13] ++ rg 81 34) (.node .leaf (.joinx [.slot 8 (.int .i64)] ([12, 13] ++ rg 88 27) (.node .leaf (.node .leaf (.join [.slot 12 .bool] ([13] ++ rg 90 23) (.node .leaf (.loop [.slot 12 .bool, .slot 13 (.int .i64)] (rg 90 23) .leaf)) .leaf))) .leaf)))))) .leaf)))) .leaf))))))))))
def S_w103q : FSpec := ⟨[.val (.sl none (.int .u8))], [.bool], m_w103q⟩
def T : Tab := [
 (2, ⟨false, 1, 8, [], 0, [.int .i64 0], some (.int .i64), [0]⟩),
 (3, ⟨false, 1, 8, [], 0, [.int .i64 0], some (.int .i64), [0]⟩),
 (4, ⟨false, 1, 1, [], 0, [.bool false], some .bool, [1]⟩),
 (5, ⟨false, 1, 1, [], 0, [.int .u8 0], some (.int .u8), [0]⟩),
 (9, ⟨false, 1, 16, [], 0, [.str ⟨#[]⟩], some .str, [2]⟩),
 (25, ⟨false, 1, 24, [], 2, [.nil], some Kd21, []⟩),
 (43, ⟨false, 1, 24, [], 5, [.nil], some (.sl none (.int .u8)), []⟩),
 (52, ⟨true, 2, 48, [(0, 1, 43), (1, 1, 43)], 0, [.nil, .nil], some Kd14, []⟩),
 (53, ⟨false, 1, 24, [], 78, [.nil], some Kd11, []⟩),
 (54, ⟨false, 1, 24, [], 53, [.nil], some Kd9, []⟩),
 (56, ⟨true, 5, 104, [(0, 2, 52), (2, 1, 53), (3, 1, 54), (4, 1, 2)], 0, [.nil, .nil, .nil, .nil, .int .i64 0], some Kd4, []⟩),
 (61, ⟨true, 7, 120, [(0, 1, 2), (1, 1, 2), (2, 5, 56)], 0, [.int .i64 0, .int .i64 0, .nil, .nil, .nil, .nil, .int .i64 0], some Kd2, []⟩),
 (70, ⟨false, 1, 24, [], 43, [.nil], some (.sl none (.sl none (.int .u8))), []⟩),
 (72, ⟨true, 3, 40, [(0, 1, 2), (1, 1, 2), (2, 1, 70)], 0, [.int .i64 0, .int .i64 0, .nil], some (.pair (.int .i64) (.pair (.int .i64) (.sl none (.sl none (.int .u8))))), []⟩),
 (75, ⟨true, 2, 32, [(0, 1, 2), (1, 1, 53)], 0, [.int .i64 0, .nil], some (.pair (.int .i64) Kd11), []⟩),
 (78, ⟨true, 4, 48, [(0, 1, 9), (1, 1, 2), (2, 1, 9), (3, 1, 4)], 0, [.str ⟨#[]⟩, .int .i64 0, .str ⟨#[]⟩, .bool false], some Kd13, [2, 0, 2, 1]⟩),
 (91, ⟨false, 1, 24, [], 99, [.nil], some Kd17, []⟩),
 (99, ⟨true, 3, 40, [(0, 1, 9), (1, 1, 9), (2, 1, 4)], 0, [.str ⟨#[]⟩, .str ⟨#[]⟩, .bool false], some Kd19, [2, 2, 1]⟩),
 (100, ⟨false, 1, 24, [], 9, [.nil], some (.sl none .str), []⟩),
 (148, ⟨true, 3, 56, [(0, 1, 2), (1, 2, 52)], 0, [.int .i64 0, .nil, .nil], some (.pair (.int .i64) Kd14), []⟩),
 (233, ⟨true, 2, 32, [(0, 1, 43), (1, 1, 2)], 0, [.nil, .int .i64 0], some Kd18, []⟩),
 (243, ⟨true, 2, 16, [(0, 1, 2), (1, 1, 2)], 0, [.int .i64 0, .int .i64 0], some (.pair (.int .i64) (.int .i64)), [0, 0]⟩),
 (248, ⟨true, 2, 32, [(0, 1, 2), (1, 1, 43)], 0, [.int .i64 0, .nil], some (.pair (.int .i64) (.sl none (.int .u8))), []⟩),
 (294, ⟨false, 1, 8, [], 0, [.int .u64 0], some (.int .u64), [0]⟩),
 (297, ⟨false, 1, 8, [], 0, [.int .u64 0], some (.int .u64), [0]⟩),
 (321, ⟨false, 1, 24, [], 3, [.nil], some Kd21, []⟩)]
def G_w0q : Env := (33, S_w0q) :: []
def G_w1q : Env := (63, S_w1q) :: G_w0q
def G_w2q : Env := (208, S_w2q) :: G_w1q
def G_w3q : Env := (113, S_w3q) :: G_w2q
def G_w4q : Env := (83, S_w4q) :: G_w3q
def G_w5q : Env := (186, S_w5q) :: G_w4q
def G_w6q : Env := (187, S_w6q) :: G_w5q
def G_w7q : Env := (84, S_w7q) :: G_w6q
def G_w8q : Env := (85, S_w8q) :: G_w7q
def G_w9q : Env := (132, S_w9q) :: G_w8q
def G_w10q : Env := (268, S_w10q) :: G_w9q
def G_w11q : Env := (188, S_w11q) :: G_w10q
def G_w12q : Env := (269, S_w12q) :: G_w11q
def G_w13q : Env := (270, S_w13q) :: G_w12q
def G_w14q : Env := (226, S_w14q) :: G_w13q
def G_w15q : Env := (227, S_w15q) :: G_w14q
def G_w16q : Env := (131, S_w16q) :: G_w15q
def G_w17q : Env := (129, S_w17q) :: G_w16q
def G_w18q : Env := (271, S_w18q) :: G_w17q
def G_w19q : Env := (189, S_w19q) :: G_w18q
def G_w20q : Env := (133, S_w20q) :: G_w19q
def G_w21q : Env := (134, S_w21q) :: G_w20q
def G_w22q : Env := (86, S_w22q) :: G_w21q
def G_w23q : Env := (87, S_w23q) :: G_w22q
def G_w24q : Env := (23, S_w24q) :: G_w23q
def G_w25q : Env := (201, S_w25q) :: G_w24q
def G_w26q : Env := (104, S_w26q) :: G_w25q
def G_w27q : Env := (27, S_w27q) :: G_w26q
def G_w28q : Env := (224, S_w28q) :: G_w27q
def G_w29q : Env := (125, S_w29q) :: G_w28q
def G_w30q : Env := (143, S_w30q) :: G_w29q
def G_w31q : Env := (56, S_w31q) :: G_w30q
def G_w32q : Env := (292, S_w32q) :: G_w31q
def G_w33q : Env := (140, S_w33q) :: G_w32q
def G_w34q : Env := (232, S_w34q) :: G_w33q
def G_w35q : Env := (139, S_w35q) :: G_w34q
def G_w36q : Env := (285, S_w36q) :: G_w35q
def G_w37q : Env := (225, S_w37q) :: G_w36q
def G_w38q : Env := (130, S_w38q) :: G_w37q
def G_w39q : Env := (48, S_w39q) :: G_w38q
def G_w40q : Env := (112, S_w40q) :: G_w39q
def G_w41q : Env := (278, S_w41q) :: G_w40q
def G_w42q : Env := (209, S_w42q) :: G_w41q
def G_w43q : Env := (279, S_w43q) :: G_w42q
def G_w44q : Env := (280, S_w44q) :: G_w43q
def G_w45q : Env := (210, S_w45q) :: G_w44q
def G_w46q : Env := (111, S_w46q) :: G_w45q
def G_w47q : Env := (34, S_w47q) :: G_w46q
def G_w48q : Env := (92, S_w48q) :: G_w47q
def G_w49q : Env := (195, S_w49q) :: G_w48q
def G_w50q : Env := (272, S_w50q) :: G_w49q
def G_w51q : Env := (96, S_w51q) :: G_w50q
def G_w52q : Env := (192, S_w52q) :: G_w51q
def G_w53q : Env := (322, S_w53q) :: G_w52q
def G_w54q : Env := (274, S_w54q) :: G_w53q
def G_w55q : Env := (316, S_w55q) :: G_w54q
def G_w56q : Env := (261, S_w56q) :: G_w55q
def G_w57q : Env := (273, S_w57q) :: G_w56q
def G_w58q : Env := (193, S_w58q) :: G_w57q
def G_w59q : Env := (93, S_w59q) :: G_w58q
def G_w60q : Env := (91, S_w60q) :: G_w59q
def G_w61q : Env := (95, S_w61q) :: G_w60q
def G_w62q : Env := (94, S_w62q) :: G_w61q
def G_w63q : Env := (120, S_w63q) :: G_w62q
def G_w64q : Env := (282, S_w64q) :: G_w63q
def G_w65q : Env := (281, S_w65q) :: G_w64q
def G_w66q : Env := (220, S_w66q) :: G_w65q
def G_w67q : Env := (214, S_w67q) :: G_w66q
def G_w68q : Env := (215, S_w68q) :: G_w67q
def G_w69q : Env := (196, S_w69q) :: G_w68q
def G_w70q : Env := (119, S_w70q) :: G_w69q
def G_w71q : Env := (37, S_w71q) :: G_w70q
def G_w72q : Env := (217, S_w72q) :: G_w71q
def G_w73q : Env := (283, S_w73q) :: G_w72q
def G_w74q : Env := (218, S_w74q) :: G_w73q
def G_w75q : Env := (286, S_w75q) :: G_w74q
def G_w76q : Env := (221, S_w76q) :: G_w75q
def G_w77q : Env := (290, S_w77q) :: G_w76q
def G_w78q : Env := (291, S_w78q) :: G_w77q
def G_w79q : Env := (230, S_w79q) :: G_w78q
def G_w80q : Env := (228, S_w80q) :: G_w79q
def G_w81q : Env := (219, S_w81q) :: G_w80q
def G_w82q : Env := (121, S_w82q) :: G_w81q
def G_w83q : Env := (122, S_w83q) :: G_w82q
def G_w84q : Env := (197, S_w84q) :: G_w83q
def G_w85q : Env := (97, S_w85q) :: G_w84q
def G_w86q : Env := (98, S_w86q) :: G_w85q
def G_w87q : Env := (25, S_w87q) :: G_w86q
def G_w88q : Env := (211, S_w88q) :: G_w87q
def G_w89q : Env := (202, S_w89q) :: G_w88q
def G_w90q : Env := (203, S_w90q) :: G_w89q
def G_w91q : Env := (204, S_w91q) :: G_w90q
def G_w92q : Env := (105, S_w92q) :: G_w91q
def G_w93q : Env := (212, S_w93q) :: G_w92q
def G_w94q : Env := (114, S_w94q) :: G_w93q
def G_w95q : Env := (35, S_w95q) :: G_w94q
def G_w96q : Env := (213, S_w96q) :: G_w95q
def G_w97q : Env := (115, S_w97q) :: G_w96q
def G_w98q : Env := (116, S_w98q) :: G_w97q
def G_w99q : Env := (117, S_w99q) :: G_w98q
def G_w100q : Env := (118, S_w100q) :: G_w99q
def G_w101q : Env := (36, S_w101q) :: G_w100q
def G_w102q : Env := (38, S_w102q) :: G_w101q
def G_w103q : Env := (6, S_w103q) :: G_w102q
end
end Go.RvP
