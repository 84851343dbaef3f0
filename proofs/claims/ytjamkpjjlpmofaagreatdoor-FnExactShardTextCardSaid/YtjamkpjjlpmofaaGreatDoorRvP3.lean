/- The plain functions that the evaluator comes to, for FnExactShardTextCard. No condition. -/
import Derived.Test.YtjamkpjjlpmofaaGreatDoorRvL
import Derived.Test.YtjamkpjjlpmofaaGreatDoorRvT
import Derived.Test.YtjamkpjjlpmofaaGreatDoorRvSb
import Derived.Test.YtjamkpjjlpmofaaGreatDoorRvSf
namespace Go.RvP
open Go Go.Rv
noncomputable section
def rg (a : Nat) : Nat → List Nat
 | 0 => []
 | n + 1 => a :: rg (a + 1) n
abbrev Ty25 : Type := (ByteArray × (List Int))
abbrev Ty24 : Type := ((List Int) × (List Int))
abbrev Ty23 : Type := (Int × (List (Int × Int)))
abbrev Ty22 : Type := ((List (Int × Int)) × Int)
abbrev Ty21 : Type := (List (Int × (Int × Int)))
abbrev Ty20 : Type := (Int × (Int × (Int × Int)))
abbrev Ty19 : Type := (Int × Ty21)
abbrev Ty18 : Type := (List Ty20)
abbrev Ty17 : Type := (Ty21 × (Int × Int))
abbrev Ty16 : Type := (Int × Ty18)
abbrev Ty15 : Type := (Ty18 × Int)
abbrev Ty14 : Type := ((Int × (Int × Int)) × (Int × (Int × Int)))
abbrev Ty13 : Type := (List Ty16)
abbrev Ty12 : Type := (Ty16 × Int)
abbrev Ty11 : Type := (Ty20 × Ty20)
abbrev Ty10 : Type := (Ty21 × Ty18)
abbrev Ty9 : Type := (Ty18 × Ty18)
abbrev Ty8 : Type := (Ty16 × Ty16)
abbrev Ty7 : Type := (Ty13 × Ty13)
abbrev Ty6 : Type := (Int × (Ty21 × ((List (Int × Int)) × (Ty13 × ((List (Int × Int)) × (List Int))))))
abbrev Ty5 : Type := (Ty6 × Int)
abbrev Ty4 : Type := (Ty6 × (Int × Int))
abbrev Ty3 : Type := (Ty6 × Ty16)
abbrev Ty2 : Type := (Ty6 × Ty8)
abbrev Ty1 : Type := (Ty6 × Ty6)
abbrev Kd17 : Kd := (.sl none (.int .i64))
abbrev Kd16 : Kd := (.pair (.int .i64) .str)
abbrev Kd15 : Kd := (.sl (some 2) (.int .i64))
abbrev Kd14 : Kd := (.pair (.int .i64) (.int .i64))
abbrev Kd13 : Kd := (.sl none Kd14)
abbrev Kd12 : Kd := (.sl (some 87) Kd14)
abbrev Kd11 : Kd := (.pair (.int .i64) Kd14)
abbrev Kd10 : Kd := (.sl none Kd11)
abbrev Kd9 : Kd := (.sl (some 85) Kd11)
abbrev Kd8 : Kd := (.pair (.int .i64) Kd11)
abbrev Kd7 : Kd := (.sl none Kd8)
abbrev Kd6 : Kd := (.sl (some 115) Kd8)
abbrev Kd5 : Kd := (.pair (.int .i64) Kd7)
abbrev Kd4 : Kd := (.pair (.int .i64) Kd6)
abbrev Kd3 : Kd := (.sl none Kd5)
abbrev Kd2 : Kd := (.sl (some 45) Kd4)
abbrev Kd1 : Kd := (.pair (.int .i64) (.pair Kd10 (.pair Kd13 (.pair Kd3 (.pair Kd13 Kd17)))))
def p_w0q (_ : Nat) (x : (Ty21 × Int)) : Option Int :=
(cond (decide ((IntKind.wrap .i64 (x.2 - (lenI x.1))) < 0))
 (some (-1 : Int))
 (some (IntKind.wrap .i64 (x.2 - (lenI x.1)))))
def m_w0q := p_w0q FU
def a_w0q : Ann := .leaf
def S_w0q : FSpec := ⟨[.val Kd10,.val (.int .i64)],[(.int .i64)],m_w0q⟩
def p_w1q (_ : Nat) (x : Ty22) : Option Int :=
(cond (decide ((IntKind.wrap .i64 (x.2 - (lenI x.1))) < 0))
 (some (-1 : Int))
 (some (IntKind.wrap .i64 (x.2 - (lenI x.1)))))
def m_w1q := p_w1q FU
def a_w1q : Ann := .leaf
def S_w1q : FSpec := ⟨[.val Kd13,.val (.int .i64)],[(.int .i64)],m_w1q⟩
def p_w2q (_ : Nat) (x : Ty15) : Option Int :=
(cond (decide ((IntKind.wrap .i64 (x.2 - (lenI x.1))) < 0))
 (some (-1 : Int))
 (some (IntKind.wrap .i64 (x.2 - (lenI x.1)))))
def m_w2q := p_w2q FU
def a_w2q : Ann := .leaf
def S_w2q : FSpec := ⟨[.val Kd7,.val (.int .i64)],[(.int .i64)],m_w2q⟩
def p_w3q (_ : Nat) (x : Ty12) : Option Int :=
((m_w2q (x.1.2,x.2)).bind fun r1 =>
(cond (decide (r1 < 0))
 (some (-1 : Int))
 (some r1)))
def m_w3q := p_w3q FU
def a_w3q : Ann := .leaf
def S_w3q : FSpec := ⟨[.val Kd5,.val (.int .i64)],[(.int .i64)],m_w3q⟩
def l_w4q_1 (n : Nat) (x_1 : Ty13) (z0 : (Int × Int)) : Option Int :=
(lp (fun rec5 (z4 : (Int × Int)) =>
 (cond (decide (z4.2 < (lenI x_1)))
 ((geti x_1 z4.2).bind fun y6 =>
 ((m_w3q (y6,z4.1)).bind fun r7 =>
 (cond (decide (r7 < 0))
 (some (-1 : Int))
 (rec5 (r7,IntKind.wrap .i64 (z4.2 + 1))))))
 (some z4.1))) n z0)
def p_w4q (n : Nat) (x : (Ty13 × Int)) : Option Int :=
(cond (decide ((IntKind.wrap .i64 (x.2 - (lenI x.1))) < 0))
 (some (-1 : Int))
 (l_w4q_1 n x.1 (IntKind.wrap .i64 (x.2 - (lenI x.1)),(0 : Int))))
def m_w4q := p_w4q FU
def a_w4q : Ann := (.node .leaf (.node .leaf (.node .leaf (.node (.node .leaf (.loop [.slot 1 (.int .i64),.slot 5 (.int .i64)] ([4] ++ rg 12 14) .leaf)) .leaf))))
def S_w4q : FSpec := ⟨[.val Kd3,.val (.int .i64)],[(.int .i64)],m_w4q⟩
def p_w5q (_ : Nat) (x : ((List Int) × Int)) : Option Int :=
(cond (decide ((IntKind.wrap .i64 (x.2 - (lenI x.1))) < 0))
 (some (-1 : Int))
 (some (IntKind.wrap .i64 (x.2 - (lenI x.1)))))
def m_w5q := p_w5q FU
def a_w5q : Ann := .leaf
def S_w5q : FSpec := ⟨[.val Kd17,.val (.int .i64)],[(.int .i64)],m_w5q⟩
def p_w6q (_ : Nat) (x : Ty5) : Option Int :=
((m_w0q (x.1.2.1,x.2)).bind fun r1 =>
(cond (decide (r1 < 0))
 (some (-1 : Int))
 ((m_w1q (x.1.2.2.1,r1)).bind fun r2 =>
 (cond (decide (r2 < 0))
 (some (-1 : Int))
 ((m_w4q (x.1.2.2.2.1,r2)).bind fun r3 =>
 (cond (decide (r3 < 0))
 (some (-1 : Int))
 ((m_w1q (x.1.2.2.2.2.1,r3)).bind fun r4 =>
 (cond (decide (r4 < 0))
 (some (-1 : Int))
 ((m_w5q (x.1.2.2.2.2.2,r4)).bind fun r5 =>
 (cond (decide (r5 < 0))
 (some (-1 : Int))
 (some r5)))))))))))
def m_w6q := p_w6q FU
def a_w6q : Ann := .leaf
def S_w6q : FSpec := ⟨[.val Kd1,.val (.int .i64)],[(.int .i64)],m_w6q⟩
def p_w7q (_ : Nat) (x : (Int × (Int × Int))) : Option (Int × (Int × Int)) :=
some x
def m_w7q := p_w7q FU
def a_w7q : Ann := .leaf
def S_w7q : FSpec := ⟨[.val Kd11],[Kd11],m_w7q⟩
def l_w8q_1 (n : Nat) (x : Ty21) (z0 : Ty19) : Option Ty21 :=
(lp (fun rec10 (z9 : Ty19) =>
 (cond (decide (z9.1 < (lenI x)))
 ((geti x z9.1).bind fun y11 =>
 ((m_w7q y11).bind fun r12 =>
 ((geti z9.2 z9.1).bind fun _ =>
 ((z9.2[z9.1.toNat]?).bind fun y13 =>
 rec10 (IntKind.wrap .i64 (z9.1 + 1),(z9.2.set z9.1.toNat r12))))))
 (some z9.2))) n z0)
def p_w8q (n : Nat) (x : Ty21) : Option Ty21 :=
(if (lenI x) = (lenI x) then (if 0 ≤ (lenI x) then chk (Nat.ble (24 * (lenI x).toNat) maxBytes)
(l_w8q_1 n x ((0 : Int),(List.replicate (lenI x).toNat ((0 : Int),((0 : Int),(0 : Int)))))) else none) else none)
def m_w8q := p_w8q FU
def a_w8q : Ann := (.node .leaf (.node .leaf (.node (.node .leaf (.loop [.slot 4 (.int .i64),.row 0 85 Kd11] (rg 8 14) .leaf)) .leaf)))
def S_w8q : FSpec := ⟨[.val Kd10],[Kd9],m_w8q⟩
def p_w9q (_ : Nat) (x : (Int × Int)) : Option (Int × Int) :=
some x
def m_w9q := p_w9q FU
def a_w9q : Ann := .leaf
def S_w9q : FSpec := ⟨[.val Kd14],[Kd14],m_w9q⟩
def l_w10q_1 (n : Nat) (x : (List (Int × Int))) (z0 : Ty23) : Option (List (Int × Int)) :=
(lp (fun rec10 (z9 : Ty23) =>
 (cond (decide (z9.1 < (lenI x)))
 ((geti x z9.1).bind fun y11 =>
 ((m_w9q y11).bind fun r12 =>
 ((geti z9.2 z9.1).bind fun _ =>
 ((z9.2[z9.1.toNat]?).bind fun y13 =>
 rec10 (IntKind.wrap .i64 (z9.1 + 1),(z9.2.set z9.1.toNat r12))))))
 (some z9.2))) n z0)
def p_w10q (n : Nat) (x : (List (Int × Int))) : Option (List (Int × Int)) :=
(if (lenI x) = (lenI x) then (if 0 ≤ (lenI x) then chk (Nat.ble (16 * (lenI x).toNat) maxBytes)
(l_w10q_1 n x ((0 : Int),(List.replicate (lenI x).toNat ((0 : Int),(0 : Int))))) else none) else none)
def m_w10q := p_w10q FU
def a_w10q : Ann := (.node .leaf (.node .leaf (.node (.node .leaf (.loop [.slot 4 (.int .i64),.row 0 87 Kd14] (rg 8 14) .leaf)) .leaf)))
def S_w10q : FSpec := ⟨[.val Kd13],[Kd12],m_w10q⟩
def p_w11q (_ : Nat) (x : Ty20) : Option Ty20 :=
some x
def m_w11q := p_w11q FU
def a_w11q : Ann := .leaf
def S_w11q : FSpec := ⟨[.val Kd8],[Kd8],m_w11q⟩
def l_w12q_1 (n : Nat) (x : Ty18) (z0 : Ty16) : Option Ty18 :=
(lp (fun rec10 (z9 : Ty16) =>
 (cond (decide (z9.1 < (lenI x)))
 ((geti x z9.1).bind fun y11 =>
 ((m_w11q y11).bind fun r12 =>
 ((geti z9.2 z9.1).bind fun _ =>
 ((z9.2[z9.1.toNat]?).bind fun y13 =>
 rec10 (IntKind.wrap .i64 (z9.1 + 1),(z9.2.set z9.1.toNat r12))))))
 (some z9.2))) n z0)
def p_w12q (n : Nat) (x : Ty18) : Option Ty18 :=
(if (lenI x) = (lenI x) then (if 0 ≤ (lenI x) then chk (Nat.ble (32 * (lenI x).toNat) maxBytes)
(l_w12q_1 n x ((0 : Int),(List.replicate (lenI x).toNat ((0 : Int),((0 : Int),((0 : Int),(0 : Int))))))) else none) else none)
def m_w12q := p_w12q FU
def a_w12q : Ann := (.node .leaf (.node .leaf (.node (.node .leaf (.loop [.slot 4 (.int .i64),.row 0 115 Kd8] (rg 8 14) .leaf)) .leaf)))
def S_w12q : FSpec := ⟨[.val Kd7],[Kd6],m_w12q⟩
def p_w13q (_ : Nat) (x : Ty16) : Option Ty16 :=
((m_w12q x.2).bind fun r1 =>
some (x.1,r1))
def m_w13q := p_w13q FU
def a_w13q : Ann := .leaf
def S_w13q : FSpec := ⟨[.val Kd5],[Kd4],m_w13q⟩
def l_w14q_1 (n : Nat) (x : Ty13) (z0 : (Int × Ty13)) : Option Ty13 :=
(lp (fun rec8 (z7 : (Int × Ty13)) =>
 (cond (decide (z7.1 < (lenI x)))
 ((geti x z7.1).bind fun y9 =>
 ((m_w13q y9).bind fun r10 =>
 ((geti z7.2 z7.1).bind fun _ =>
 ((z7.2[z7.1.toNat]?).bind fun _ =>
 rec8 (IntKind.wrap .i64 (z7.1 + 1),(z7.2.set z7.1.toNat r10))))))
 (some z7.2))) n z0)
def p_w14q (n : Nat) (x : Ty13) : Option Ty13 :=
(if (lenI x) = (lenI x) then (if 0 ≤ (lenI x) then chk (Nat.ble (32 * (lenI x).toNat) maxBytes)
(l_w14q_1 n x ((0 : Int),(List.replicate (lenI x).toNat ((0 : Int),[])))) else none) else none)
def m_w14q := p_w14q FU
def a_w14q : Ann := (.node .leaf (.node (.own 7 Kd4 .leaf) (.node (.node .leaf (.loop [.slot 4 (.int .i64),.row 0 45 Kd4] (rg 8 14) .leaf)) .leaf)))
def S_w14q : FSpec := ⟨[.val Kd3],[Kd2],m_w14q⟩
def l_w15q_1 (n : Nat) (x : (List Int)) (z0 : (Int × (List Int))) : Option (List Int) :=
(lp (fun rec8 (z7 : (Int × (List Int))) =>
 (cond (decide (z7.1 < (lenI x)))
 ((geti x z7.1).bind fun y9 =>
 ((geti z7.2 z7.1).bind fun _ =>
 ((z7.2[z7.1.toNat]?).bind fun y10 =>
 rec8 (IntKind.wrap .i64 (z7.1 + 1),(z7.2.set z7.1.toNat y9)))))
 (some z7.2))) n z0)
def p_w15q (n : Nat) (x : (List Int)) : Option (List Int) :=
(if (lenI x) = (lenI x) then (if 0 ≤ (lenI x) then chk (Nat.ble (8 * (lenI x).toNat) maxBytes)
(l_w15q_1 n x ((0 : Int),(List.replicate (lenI x).toNat (0 : Int)))) else none) else none)
def m_w15q := p_w15q FU
def a_w15q : Ann := (.node .leaf (.node .leaf (.node (.node .leaf (.loop [.slot 4 (.int .i64),.row 0 2 (.int .i64)] (rg 8 13) .leaf)) .leaf)))
def S_w15q : FSpec := ⟨[.val Kd17],[Kd15],m_w15q⟩
def p_w16q (_ : Nat) (x : Ty6) : Option Ty6 :=
((m_w8q x.2.1).bind fun r1 =>
((m_w10q x.2.2.1).bind fun r2 =>
((m_w14q x.2.2.2.1).bind fun r3 =>
((m_w10q x.2.2.2.2.1).bind fun r4 =>
((m_w15q x.2.2.2.2.2).bind fun r5 =>
some (x.1,(r1,(r2,(r3,(r4,r5))))))))))
def m_w16q := p_w16q FU
def a_w16q : Ann := .leaf
def S_w16q : FSpec := ⟨[.val Kd1],[(.pair (.int .i64) (.pair Kd9 (.pair Kd12 (.pair Kd2 (.pair Kd12 Kd15)))))],m_w16q⟩
def p_w17q (_ : Nat) (x : (Int × (Int × Int))) : Option Bool :=
(cond (decide (x.1 ≥ x.2.1))
 (some (decide (x.1 ≤ x.2.2)))
 (some false))
def m_w17q := p_w17q FU
def a_w17q : Ann := .leaf
def S_w17q : FSpec := ⟨[.val (.int .i64),.val (.int .i64),.val (.int .i64)],[.bool],m_w17q⟩
def p_w18q (_ : Nat) (x : (Int × Int)) : Option Bool :=
((m_w17q (x.1,(0 : Int),(5 : Int))).bind fun r1 =>
(cond r1
 ((m_w17q (x.2,(0 : Int),(2 : Int))).bind fun r2 =>
 some r2)
 (some false)))
def m_w18q := p_w18q FU
def a_w18q : Ann := .leaf
def S_w18q : FSpec := ⟨[.val (.int .i64),.val (.int .i64)],[.bool],m_w18q⟩
def l_w19q_1 (n : Nat) (x : Ty21) (z0 : Int) : Option Int :=
(lp (fun rec14 (z13 : Int) =>
 (cond (decide (z13 < (lenI x)))
 ((geti x z13).bind fun y15 =>
 (Option.bind (α := Bool)
 ((m_w18q (y15.1,y15.2.1)).bind fun r18 =>
 (cond (!r18)
 (some true)
 ((m_w17q (y15.2.2,(1 : Int),(1000000000000 : Int))).bind fun r19 =>
 some (!r19)))) fun j20 =>
 (cond j20
 (some (3 : Int))
 (Option.bind (α := Bool)
 (cond (decide (z13 > 0))
 ((geti x (IntKind.wrap .i64 (z13 - 1))).bind fun y23 =>
 ((geti x (IntKind.wrap .i64 (z13 - 1))).bind fun y24 =>
 some (decide ((IntKind.wrap .i64 ((IntKind.wrap .i64 (y15.1 * (3 : Int))) + y15.2.1)) ≤ (IntKind.wrap .i64 ((IntKind.wrap .i64 (y23.1 * (3 : Int))) + y24.2.1))))))
 (some false)) fun j25 =>
 (cond j25
 (some (1 : Int))
 (rec14 (IntKind.wrap .i64 (z13 + 1))))))))
 (some (0 : Int)))) n z0)
def p_w19q (n : Nat) (x : Ty21) : Option Int :=
(cond (decide ((lenI x) > 18))
 (some (2 : Int))
 (l_w19q_1 n x (0 : Int)))
def m_w19q := p_w19q FU
def a_w19q : Ann := (.node .leaf (.node .leaf (.node (.node .leaf (.loop [.slot 3 (.int .i64)] ([2,4] ++ rg 8 47) (.node .leaf (.node (.node .leaf (.node (.join [.slot 29 .bool] (rg 18 11) .leaf .leaf) (.join [.slot 54 .bool] (rg 30 24) .leaf .leaf))) .leaf)))) .leaf)))
def S_w19q : FSpec := ⟨[.val Kd10],[(.int .i64)],m_w19q⟩
def p_w20q (_ : Nat) (x : Ty19) : Option Int :=
((m_w17q (x.1,(0 : Int),(2 : Int))).bind fun r1 =>
(cond (!r1)
 (some (3 : Int))
 ((m_w19q x.2).bind fun r2 =>
 some r2)))
def m_w20q := p_w20q FU
def a_w20q : Ann := .leaf
def S_w20q : FSpec := ⟨[.val (.int .i64),.val Kd10],[(.int .i64)],m_w20q⟩
def p_w21q (_ : Nat) (x : Int) : Option Bool :=
((m_w17q (x,(1 : Int),(1000000000 : Int))).bind fun r1 =>
some r1)
def m_w21q := p_w21q FU
def a_w21q : Ann := .leaf
def S_w21q : FSpec := ⟨[.val (.int .i64)],[.bool],m_w21q⟩
def l_w22q_1 (n : Nat) (x : (List (Int × Int))) (z0 : Int) : Option Int :=
(lp (fun rec17 (z16 : Int) =>
 (cond (decide (z16 < (lenI x)))
 (Option.bind (α := Bool)
 ((geti x z16).bind fun y22 =>
 ((m_w21q y22.1).bind fun r23 =>
 (cond (!r23)
 (some true)
 ((geti x z16).bind fun y24 =>
 ((m_w17q (y24.2,(1 : Int),(2 : Int))).bind fun r25 =>
 some (!r25)))))) fun j26 =>
 (cond j26
 (some (3 : Int))
 (Option.bind (α := Bool)
 (cond (decide (z16 > 0))
 ((geti x z16).bind fun y29 =>
 ((geti x (IntKind.wrap .i64 (z16 - 1))).bind fun y30 =>
 some (decide (y29.1 ≤ y30.1))))
 (some false)) fun j31 =>
 (cond j31
 (some (1 : Int))
 (rec17 (IntKind.wrap .i64 (z16 + 1)))))))
 (some (0 : Int)))) n z0)
def p_w22q (n : Nat) (x : (List (Int × Int))) : Option Int :=
(l_w22q_1 n x (0 : Int))
def m_w22q := p_w22q FU
def a_w22q : Ann := (.node .leaf (.node (.node .leaf (.loop [.slot 3 (.int .i64)] ([2] ++ rg 4 38) (.node .leaf (.node (.node (.join [.slot 25 .bool] (rg 10 15) .leaf .leaf) (.join [.slot 41 .bool] (rg 26 15) .leaf .leaf)) .leaf)))) .leaf))
def S_w22q : FSpec := ⟨[.val Kd13],[(.int .i64)],m_w22q⟩
def p_w23q (_ : Nat) (x : Ty20) : Option Int :=
(Option.bind (α := Bool)
 ((m_w17q (x.1,(0 : Int),(2 : Int))).bind fun r5 =>
 (cond (!r5)
 (some true)
 ((m_w17q (x.2.1,(0 : Int),(5 : Int))).bind fun r6 =>
 (cond (!r6)
 (some true)
 ((m_w17q (x.2.2.1,(0 : Int),(2 : Int))).bind fun r7 =>
 (cond (!r7)
 (some true)
 ((m_w17q (x.2.2.2,(-1000000000000 : Int),(1000000000000 : Int))).bind fun r8 =>
 some (!r8)))))))) fun j9 =>
(cond j9
 (some (3 : Int))
 (cond (x.2.2.2 == 0)
 (some (1 : Int))
 (some (0 : Int)))))
def m_w23q := p_w23q FU
def a_w23q : Ann := (.node .leaf (.node (.join [.slot 24 .bool] (rg 3 21) .leaf .leaf) .leaf))
def S_w23q : FSpec := ⟨[.val Kd8],[(.int .i64)],m_w23q⟩
def l_w24q_1 (n : Nat) (z225_1 : Int) (x_2 : Ty18) (y248_1 : Int) (y248_2_1 : Int) (y248_2_2_1 : Int) (z0 : Int) : Option (Unit ⊕ ((List Int) ⊕ ((List Int) ⊕ Int))) :=
(lp (fun rec262 (z261 : Int) =>
 (cond (decide (z261 < z225_1))
 ((geti x_2 z261).bind fun y263 =>
 (Option.bind (α := Bool)
 (cond (y263.1 == y248_1)
 (cond (y263.2.1 == y248_2_1)
 (some (y263.2.2.1 == y248_2_2_1))
 (some false))
 (some false)) fun j264 =>
 (cond j264
 (some (Sum.inr (Sum.inr (Sum.inr (7 : Int)))))
 (rec262 (IntKind.wrap .i64 (z261 + 1))))))
 (some (Sum.inl ())))) n z0)
def l_w24q_2 (n : Nat) (x_2 : Ty18) (z0 : (Int × (List Int))) : Option ((List Int) ⊕ Int) :=
(lp (fun rec226 (z225 : (Int × (List Int))) =>
 (cond (decide (z225.1 < (lenI x_2)))
 (Option.bind (α := ((List Int) ⊕ ((List Int) ⊕ Int)))
 ((geti x_2 z225.1).bind fun y248 =>
 ((m_w23q y248).bind fun r249 =>
 (cond (!(r249 == 0))
 (some (Sum.inr (Sum.inr r249)))
 (Option.bind (α := (Unit ⊕ ((List Int) ⊕ ((List Int) ⊕ Int))))
 (l_w24q_1 n z225.1 x_2 y248.1 y248.2.1 y248.2.2.1 (0 : Int))
 (Sum.elim (fun j266 =>
 ((geti z225.2 y248.2.2.1).bind fun _ =>
 ((z225.2[y248.2.2.1.toNat]?).bind fun y267 =>
 ((geti z225.2 y248.2.2.1).bind fun _ =>
 ((z225.2[y248.2.2.1.toNat]?).bind fun y268 =>
 some (Sum.inl (z225.2.set y248.2.2.1.toNat (IntKind.wrap .i64 (y267 + y248.2.2.2))))))))) some)))))
 (Sum.elim (fun j269 =>
 rec226 (IntKind.wrap .i64 (z225.1 + 1),j269)) some))
 (some (Sum.inl z225.2)))) n z0)
def l_w24q_3 (n : Nat) (j271 : (List Int)) (z0 : Int) : Option Int :=
(lp (fun rec275 (z274 : Int) =>
 (cond (decide (z274 < (lenI j271)))
 ((geti j271 z274).bind fun _ =>
 ((j271[z274.toNat]?).bind fun y276 =>
 (cond (!(y276 == 0))
 (some (1 : Int))
 (rec275 (IntKind.wrap .i64 (z274 + 1))))))
 (some (0 : Int)))) n z0)
def p_w24q (n : Nat) (x : Ty16) : Option Int :=
((m_w21q x.1).bind fun r1 =>
(cond (!r1)
 (some (3 : Int))
 (Option.bind (α := Bool)
 (cond (decide ((lenI x.2) < 2))
 (some true)
 (some (decide ((lenI x.2) > 8)))) fun j2 =>
 (cond j2
 (some (2 : Int))
 (if (3 : Int) = (3 : Int) then (if 0 ≤ (3 : Int) then chk (Nat.ble (8 * (3 : Int).toNat) maxBytes)
 (Option.bind (α := ((List Int) ⊕ Int))
 (l_w24q_2 n x.2 ((0 : Int),(List.replicate (3 : Int).toNat (0 : Int))))
 (Sum.elim (fun j271 =>
 (l_w24q_3 n j271 (0 : Int))) some)) else none) else none)))))
def m_w24q := p_w24q FU
def a_w24q : Ann := (.node .leaf (.node .leaf (.node (.join [.slot 23 .bool] (rg 14 9) .leaf .leaf) (.node .leaf (.joinx [.row 1 2 (.int .i64)] ([2,4,5,6,7,8] ++ rg 25 58) (.node .leaf (.loop [.slot 4 (.int .i64),.row 1 2 (.int .i64)] ([2,5,6,7,8] ++ rg 25 58) (.node .leaf (.joinx [.row 1 2 (.int .i64)] ([2,5,6,7,8] ++ rg 32 9 ++ rg 42 41) (.node .leaf (.node .leaf (.joinx [] ([2,7,8] ++ rg 42 29) (.node .leaf (.loop [.slot 7 (.int .i64)] ([2,8] ++ rg 42 29) (.node .leaf (.node (.node .leaf (.join [.slot 70 .bool] (rg 52 18) .leaf .leaf)) .leaf)))) .leaf))) .leaf)))) (.node (.node .leaf (.loop [.slot 9 (.int .i64)] ([2] ++ rg 83 11) .leaf)) .leaf))))))
def S_w24q : FSpec := ⟨[.val Kd5],[(.int .i64)],m_w24q⟩
def l_w25q_1 (n : Nat) (x_2 : Int) (x_1_2 : Ty18) (z0 : Ty15) : Option Ty18 :=
(lp (fun rec5 (z4 : Ty15) =>
 (cond (decide (z4.2 < (lenI x_1_2)))
 ((geti x_1_2 z4.2).bind fun y6 =>
 (cond (y6.1 == x_2)
 ((geti x_1_2 z4.2).bind fun y7 =>
 (chk (Nat.ble ((z4.1.length + [y7].length) * 32) maxBytes)
 (rec5 ((z4.1 ++ [y7]),IntKind.wrap .i64 (z4.2 + 1)))))
 (rec5 (z4.1,IntKind.wrap .i64 (z4.2 + 1)))))
 (some z4.1))) n z0)
def p_w25q (n : Nat) (x : Ty12) : Option Ty18 :=
(l_w25q_1 n x.2 x.1.2 (([] : List Ty20),(0 : Int)))
def m_w25q := p_w25q FU
def a_w25q : Ann := (.node .leaf (.node .leaf (.node (.node .leaf (.loop [.slot 5 Kd6,.slot 6 (.int .i64)] (rg 8 23) .leaf)) .leaf)))
def S_w25q : FSpec := ⟨[.val Kd5,.val (.int .i64)],[Kd6],m_w25q⟩
def l_w26q_1 (n : Nat) (x_1 : (List (Int × Int))) (x_2 : Int) (z0 : Int) : Option Int :=
(lp (fun rec5 (z4 : Int) =>
 (cond (decide (z4 < (lenI x_1)))
 ((geti x_1 z4).bind fun y6 =>
 (cond (y6.1 == x_2)
 ((geti x_1 z4).bind fun y7 =>
 some y7.2)
 (rec5 (IntKind.wrap .i64 (z4 + 1)))))
 (some (0 : Int)))) n z0)
def p_w26q (n : Nat) (x : Ty22) : Option Int :=
(l_w26q_1 n x.1 x.2 (0 : Int))
def m_w26q := p_w26q FU
def a_w26q : Ann := (.node .leaf (.node (.node .leaf (.loop [.slot 5 (.int .i64)] ([4] ++ rg 6 18) .leaf)) .leaf))
def S_w26q : FSpec := ⟨[.val Kd13,.val (.int .i64)],[(.int .i64)],m_w26q⟩
def l_w27q_1 (n : Nat) (x_2 : Int) (x_1_2_2_2_1 : Ty13) (z0 : Int) : Option Bool :=
(lp (fun rec4 (z3 : Int) =>
 (cond (decide (z3 < (lenI x_1_2_2_2_1)))
 ((geti x_1_2_2_2_1 z3).bind fun y5 =>
 (cond (y5.1 == x_2)
 (some true)
 (rec4 (IntKind.wrap .i64 (z3 + 1)))))
 (some false))) n z0)
def p_w27q (n : Nat) (x : Ty5) : Option Bool :=
(l_w27q_1 n x.2 x.1.2.2.2.1 (0 : Int))
def m_w27q := p_w27q FU
def a_w27q : Ann := (.node .leaf (.node (.node .leaf (.loop [.slot 5 (.int .i64)] ([4] ++ rg 6 15) .leaf)) .leaf))
def S_w27q : FSpec := ⟨[.val Kd1,.val (.int .i64)],[.bool],m_w27q⟩
def l_w28q_1 (n : Nat) (x_1 : (List Int)) (x_2 : Int) (z0 : Int) : Option Bool :=
(lp (fun rec4 (z3 : Int) =>
 (cond (decide (z3 < (lenI x_1)))
 ((geti x_1 z3).bind fun y5 =>
 (cond (y5 == x_2)
 (some true)
 (rec4 (IntKind.wrap .i64 (z3 + 1)))))
 (some false))) n z0)
def p_w28q (n : Nat) (x : ((List Int) × Int)) : Option Bool :=
(l_w28q_1 n x.1 x.2 (0 : Int))
def m_w28q := p_w28q FU
def a_w28q : Ann := (.node .leaf (.node (.node .leaf (.loop [.slot 5 (.int .i64)] ([4] ++ rg 6 12) .leaf)) .leaf))
def S_w28q : FSpec := ⟨[.val Kd17,.val (.int .i64)],[.bool],m_w28q⟩
def l_w29q_1 (n : Nat) (x_2_2_2_2_1 : (List (Int × Int))) (z0 : (Int × Int)) : Option Int :=
(lp (fun rec10 (z9 : (Int × Int)) =>
 (cond (decide (z9.2 < (lenI x_2_2_2_2_1)))
 ((geti x_2_2_2_2_1 z9.2).bind fun y11 =>
 (cond (y11.2 == 1)
 (rec10 (IntKind.wrap .i64 (z9.1 + 1),IntKind.wrap .i64 (z9.2 + 1)))
 (rec10 (z9.1,IntKind.wrap .i64 (z9.2 + 1)))))
 (some z9.1))) n z0)
def l_w29q_2 (n : Nat) (x_2_2_2_2_1 : (List (Int × Int))) (x_2_2_2_2_2 : (List Int)) (z0 : Int) : Option (Unit ⊕ Bool) :=
(lp (fun rec47 (z46 : Int) =>
 (cond (decide (z46 < (lenI x_2_2_2_2_2)))
 (Option.bind (α := Bool)
 ((geti x_2_2_2_2_2 z46).bind fun y52 =>
 ((m_w26q (x_2_2_2_2_1,y52)).bind fun r53 =>
 (cond (!(r53 == 1))
 (some true)
 (chk (bndB none (some z46) none x_2_2_2_2_2.length)
 ((geti x_2_2_2_2_2 z46).bind fun y54 =>
 ((m_w28q ((cutL none (some z46) x_2_2_2_2_2),y54)).bind fun r55 =>
 some r55)))))) fun j56 =>
 (cond j56
 (some (Sum.inr false))
 (rec47 (IntKind.wrap .i64 (z46 + 1)))))
 (some (Sum.inl ())))) n z0)
def p_w29q (n : Nat) (x : Ty6) : Option Bool :=
(Option.bind (α := Int)
 (l_w29q_1 n x.2.2.2.2.1 ((0 : Int),(0 : Int))) fun j13 =>
(Option.bind (α := (Unit ⊕ Bool))
 (l_w29q_2 n x.2.2.2.2.1 x.2.2.2.2.2 (0 : Int))
 (Sum.elim (fun j58 =>
some (j13 == (lenI x.2.2.2.2.2))) some)))
def m_w29q := p_w29q FU
def a_w29q : Ann := (.node .leaf (.node .leaf (.join [.slot 3 (.int .i64)] ([4] ++ rg 6 16) (.node .leaf (.loop [.slot 3 (.int .i64),.slot 4 (.int .i64)] (rg 6 16) .leaf)) (.joinx [] ([2,5] ++ rg 22 28) (.node .leaf (.loop [.slot 5 (.int .i64)] ([2] ++ rg 22 28) (.node .leaf (.node (.join [.slot 49 .bool] (rg 29 20) .leaf .leaf) .leaf)))) .leaf))))
def S_w29q : FSpec := ⟨[.val Kd1],[.bool],m_w29q⟩
def l_w30q_1 (n : Nat) (x_1 : Ty18) (x_2 : Ty18) (z47 : Int) (z0 : Int) : Option (Unit ⊕ Bool) :=
(lp (fun rec82 (z81 : Int) =>
 (cond (decide (z81 < (lenI x_2)))
 (Option.bind (α := Bool)
 ((geti x_1 z47).bind fun y87 =>
 ((geti x_2 z81).bind fun y88 =>
 (cond (y87.2.1 == y88.2.1)
 ((geti x_1 z47).bind fun y89 =>
 ((geti x_2 z81).bind fun y90 =>
 some (y89.2.2.1 == y90.2.2.1)))
 (some false)))) fun j91 =>
 (cond j91
 (some (Sum.inr true))
 (rec82 (IntKind.wrap .i64 (z81 + 1)))))
 (some (Sum.inl ())))) n z0)
def l_w30q_2 (n : Nat) (x_1 : Ty18) (x_2 : Ty18) (z0 : Int) : Option Bool :=
(lp (fun rec48 (z47 : Int) =>
 (cond (decide (z47 < (lenI x_1)))
 (Option.bind (α := (Unit ⊕ Bool))
 (l_w30q_1 n x_1 x_2 z47 (0 : Int))
 (Sum.elim (fun j93 =>
 rec48 (IntKind.wrap .i64 (z47 + 1))) some))
 (some false))) n z0)
def p_w30q (n : Nat) (x : Ty9) : Option Bool :=
(l_w30q_2 n x.1 x.2 (0 : Int))
def m_w30q := p_w30q FU
def a_w30q : Ann := (.node .leaf (.node (.node .leaf (.loop [.slot 5 (.int .i64)] ([4] ++ rg 6 37) (.node .leaf (.joinx [] ([4,6] ++ rg 13 30) (.node .leaf (.loop [.slot 6 (.int .i64)] ([4] ++ rg 13 30) (.node .leaf (.node (.join [.slot 42 .bool] (rg 19 23) .leaf .leaf) .leaf)))) .leaf)))) .leaf))
def S_w30q : FSpec := ⟨[.val Kd7,.val Kd7],[.bool],m_w30q⟩
def l_w31q_1 (n : Nat) (x_1 : Ty21) (x_2_1 : Int) (x_2_2 : Int) (z0 : Int) : Option Int :=
(lp (fun rec9 (z8 : Int) =>
 (cond (decide (z8 < (lenI x_1)))
 (Option.bind (α := Bool)
 ((geti x_1 z8).bind fun y12 =>
 (cond (y12.1 == x_2_1)
 ((geti x_1 z8).bind fun y13 =>
 some (y13.2.1 == x_2_2))
 (some false))) fun j14 =>
 (cond j14
 ((geti x_1 z8).bind fun y15 =>
 some y15.2.2)
 (rec9 (IntKind.wrap .i64 (z8 + 1)))))
 (some (0 : Int)))) n z0)
def p_w31q (n : Nat) (x : Ty17) : Option Int :=
(l_w31q_1 n x.1 x.2.1 x.2.2 (0 : Int))
def m_w31q := p_w31q FU
def a_w31q : Ann := (.node .leaf (.node (.node .leaf (.loop [.slot 7 (.int .i64)] ([6] ++ rg 8 27) (.node .leaf (.node (.join [.slot 29 .bool] (rg 14 15) .leaf .leaf) .leaf)))) .leaf))
def S_w31q : FSpec := ⟨[.val Kd10,.val (.int .i64),.val (.int .i64)],[(.int .i64)],m_w31q⟩
def l_w32q_1 (n : Nat) (x_1 : Ty21) (x_2 : Ty18) (z0 : Int) : Option Int :=
(lp (fun rec7 (z6 : Int) =>
 (cond (decide (z6 < (lenI x_2)))
 ((geti x_2 z6).bind fun y8 =>
 ((geti x_2 z6).bind fun y9 =>
 ((geti x_2 z6).bind fun y10 =>
 ((m_w31q (x_1,y8.2.1,y9.2.2.1)).bind fun r11 =>
 (cond (decide ((IntKind.wrap .i64 (r11 + y10.2.2.2)) < 0))
 (some (6 : Int))
 (cond (decide ((IntKind.wrap .i64 (r11 + y10.2.2.2)) > 1000000000000))
 (some (3 : Int))
 (rec7 (IntKind.wrap .i64 (z6 + 1)))))))))
 (some (0 : Int)))) n z0)
def p_w32q (n : Nat) (x : Ty10) : Option Int :=
(l_w32q_1 n x.1 x.2 (0 : Int))
def m_w32q := p_w32q FU
def a_w32q : Ann := (.node .leaf (.node (.node .leaf (.loop [.slot 5 (.int .i64)] ([4] ++ rg 6 29) .leaf)) .leaf))
def S_w32q : FSpec := ⟨[.val Kd10,.val Kd7],[(.int .i64)],m_w32q⟩
def l_w33q_1 (n : Nat) (x_1 : Int) (x_2_2_1 : (List (Int × Int))) (x_2_2_2_1 : Ty13) (x_2_2_2_2_1 : (List (Int × Int))) (z0 : Int) : Option (Unit ⊕ Int) :=
(lp (fun rec58 (z57 : Int) =>
 (cond (decide (z57 < (lenI x_2_2_2_1)))
 ((geti x_2_2_2_1 z57).bind fun y59 =>
 ((m_w24q y59).bind fun r60 =>
 (cond (!(r60 == 0))
 (some (Sum.inr r60))
 (Option.bind (α := Bool)
 (cond (decide (z57 > 0))
 ((geti x_2_2_2_1 (IntKind.wrap .i64 (z57 - 1))).bind fun y68 =>
 (cond (decide (y59.1 ≤ y68.1))
 (some true)
 ((m_w25q (y59,x_1)).bind fun r69 =>
 (cond ((lenI r69) == 0)
 (some true)
 ((m_w26q (x_2_2_1,y59.1)).bind fun r70 =>
 (cond (!(r70 == 1))
 (some true)
 ((m_w26q (x_2_2_2_2_1,y59.1)).bind fun r71 =>
 some (!(r71 == 0)))))))))
 ((m_w25q (y59,x_1)).bind fun r72 =>
 (cond ((lenI r72) == 0)
 (some true)
 ((m_w26q (x_2_2_1,y59.1)).bind fun r73 =>
 (cond (!(r73 == 1))
 (some true)
 ((m_w26q (x_2_2_2_2_1,y59.1)).bind fun r74 =>
 some (!(r74 == 0)))))))) fun j75 =>
 (cond j75
 (some (Sum.inr (1 : Int)))
 (rec58 (IntKind.wrap .i64 (z57 + 1))))))))
 (some (Sum.inl ())))) n z0)
def l_w33q_2 (n : Nat) (x : Ty6) (z0 : Int) : Option (Unit ⊕ Int) :=
(lp (fun rec102 (z101 : Int) =>
 (cond (decide (z101 < (lenI x.2.2.1)))
 ((geti x.2.2.1 z101).bind fun y103 =>
 (Option.bind (α := Bool)
 (cond (y103.2 == 1)
 ((m_w27q (x,y103.1)).bind fun r106 =>
 (cond (!r106)
 ((m_w26q (x.2.2.2.2.1,y103.1)).bind fun r107 =>
 some (r107 == 0))
 (some false)))
 (some false)) fun j108 =>
 (cond j108
 (some (Sum.inr (1 : Int)))
 (rec102 (IntKind.wrap .i64 (z101 + 1))))))
 (some (Sum.inl ())))) n z0)
def l_w33q_3 (n : Nat) (z204 : Int) (x_1 : Int) (x_2_2_2_1 : Ty13) (z0 : Int) : Option (Unit ⊕ (Unit ⊕ Int)) :=
(lp (fun rec227 (z226 : Int) =>
 (cond (decide (z226 < z204))
 ((geti x_2_2_2_1 z204).bind fun y228 =>
 ((geti x_2_2_2_1 z226).bind fun y229 =>
 ((m_w25q (y228,x_1)).bind fun r230 =>
 ((m_w25q (y229,x_1)).bind fun r231 =>
 ((m_w30q (r230,r231)).bind fun r232 =>
 (cond r232
 (some (Sum.inr (Sum.inr (7 : Int))))
 (rec227 (IntKind.wrap .i64 (z226 + 1)))))))))
 (some (Sum.inl ())))) n z0)
def l_w33q_4 (n : Nat) (x_1 : Int) (x_2_2_2_1 : Ty13) (z0 : Int) : Option (Unit ⊕ Int) :=
(lp (fun rec205 (z204 : Int) =>
 (cond (decide (z204 < (lenI x_2_2_2_1)))
 (Option.bind (α := (Unit ⊕ (Unit ⊕ Int)))
 (l_w33q_3 n z204 x_1 x_2_2_2_1 (0 : Int))
 (Sum.elim (fun j234 =>
 rec205 (IntKind.wrap .i64 (z204 + 1))) some))
 (some (Sum.inl ())))) n z0)
def l_w33q_5 (n : Nat) (x_1 : Int) (x_2_1 : Ty21) (x_2_2_2_1 : Ty13) (z0 : Int) : Option Int :=
(lp (fun rec242 (z241 : Int) =>
 (cond (decide (z241 < (lenI x_2_2_2_1)))
 ((geti x_2_2_2_1 z241).bind fun y243 =>
 ((m_w25q (y243,x_1)).bind fun r244 =>
 ((m_w32q (x_2_1,r244)).bind fun r245 =>
 (cond (!(r245 == 0))
 (some r245)
 (rec242 (IntKind.wrap .i64 (z241 + 1)))))))
 (some (0 : Int)))) n z0)
def p_w33q (n : Nat) (x : Ty6) : Option Int :=
(Option.bind (α := (Unit ⊕ Int))
 (l_w33q_1 n x.1 x.2.2.1 x.2.2.2.1 x.2.2.2.2.1 (0 : Int))
 (Sum.elim (fun j77 =>
(Option.bind (α := (Unit ⊕ Int))
 (l_w33q_2 n x (0 : Int))
 (Sum.elim (fun j110 =>
((m_w29q x).bind fun r111 =>
(cond (!r111)
 (some (1 : Int))
 (Option.bind (α := (Unit ⊕ Int))
 (l_w33q_4 n x.1 x.2.2.2.1 (0 : Int))
 (Sum.elim (fun j236 =>
 (l_w33q_5 n x.1 x.2.1 x.2.2.2.1 (0 : Int))) some))))) some))) some))
def m_w33q := p_w33q FU
def a_w33q : Ann := (.node .leaf (.joinx [] ([2,3,4,5] ++ rg 12 55) (.node .leaf (.loop [.slot 3 (.int .i64)] ([2,4,5] ++ rg 12 55) (.node .leaf (.node (.node .leaf (.node .leaf (.join [.slot 66 .bool] (rg 29 37) .leaf .leaf))) .leaf)))) (.joinx [] ([2,6,7] ++ rg 67 30) (.node .leaf (.loop [.slot 6 (.int .i64)] ([2,7] ++ rg 67 30) (.node .leaf (.node (.node .leaf (.join [.slot 96 .bool] (rg 79 17) .leaf .leaf)) .leaf)))) (.node .leaf (.joinx [] ([2,8,9] ++ rg 100 29) (.node .leaf (.loop [.slot 8 (.int .i64)] ([2,9] ++ rg 100 29) (.node .leaf (.joinx [] ([2,9] ++ rg 107 22) (.node .leaf (.loop [.slot 9 (.int .i64)] ([2] ++ rg 107 22) .leaf)) .leaf)))) (.node (.node .leaf (.loop [.slot 10 (.int .i64)] ([2,11] ++ rg 129 21) .leaf)) .leaf))))))
def S_w33q : FSpec := ⟨[.val Kd1],[(.int .i64)],m_w33q⟩
def p_w34q (_ : Nat) (x : Ty6) : Option Int :=
((m_w20q (x.1,x.2.1)).bind fun r1 =>
(cond (!(r1 == 0))
 (some r1)
 (Option.bind (α := Bool)
 (cond (decide ((lenI x.2.2.1) > 100))
 (some true)
 (cond (decide ((lenI x.2.2.2.1) > 100))
 (some true)
 (cond (decide ((lenI x.2.2.2.2.1) > 100))
 (some true)
 (some (decide ((lenI x.2.2.2.2.2) > 100)))))) fun j2 =>
 (cond j2
 (some (2 : Int))
 ((m_w22q x.2.2.1).bind fun r3 =>
 (cond (!(r3 == 0))
 (some r3)
 ((m_w22q x.2.2.2.2.1).bind fun r4 =>
 (cond (!(r4 == 0))
 (some r4)
 ((m_w33q x).bind fun r5 =>
 some r5)))))))))
def m_w34q := p_w34q FU
def a_w34q : Ann := (.node .leaf (.node .leaf (.node (.join [.slot 35 .bool] (rg 14 21) .leaf .leaf) .leaf)))
def S_w34q : FSpec := ⟨[.val Kd1],[(.int .i64)],m_w34q⟩
def p_w35q (q : Int → Option ByteArray) (_ : Nat) (x : Int) : Option ByteArray :=
(cond (decide (x < 10))
 (some (strOfNums [IntKind.wrap .u8 (IntKind.wrap .i64 ((48 : Int) + x))]))
 (cond ((10 : Int) == 0) none
 (cond ((10 : Int) == 0) none
 (dup 1
 ((q (IntKind.wrap .i64 (Int.tdiv x (10 : Int)))).bind fun r1 =>
 (chk (Nat.ble (r1.size + (strOfNums [IntKind.wrap .u8 (IntKind.wrap .i64 ((48 : Int) + (Int.tmod x (10 : Int))))]).size) 9223372036854775807)
 (some (r1 ++ (strOfNums [IntKind.wrap .u8 (IntKind.wrap .i64 ((48 : Int) + (Int.tmod x (10 : Int))))])))))))))
def R_w35q (n : Nat) : Nat → Int → Option ByteArray
 | 0,_ => none
 | d + 1,x => p_w35q (R_w35q n d) n x
def m_w35q : Int → Option ByteArray := R_w35q FU 64
def a_w35q : Ann := .leaf
def Q_w35q (q : Int → Option ByteArray) : FSpec := ⟨[.val (.int .i64)],[.str],q⟩
def S_w35q : FSpec := ⟨[.val (.int .i64)],[.str],m_w35q⟩
def l_w36q_1 (n : Nat) (x_2 : (List Int)) (z0 : (ByteArray × Int)) : Option ByteArray :=
(lp (fun rec5 (z4 : (ByteArray × Int)) =>
 (cond (decide (z4.2 < (lenI x_2)))
 (chk (Nat.ble (z4.1.size + (⟨#[32]⟩ : ByteArray).size) 9223372036854775807)
 ((geti x_2 z4.2).bind fun y6 =>
 ((m_w35q y6).bind fun r7 =>
 (chk (Nat.ble ((z4.1 ++ (⟨#[32]⟩ : ByteArray)).size + r7.size) 9223372036854775807)
 (rec5 (((z4.1 ++ (⟨#[32]⟩ : ByteArray)) ++ r7),IntKind.wrap .i64 (z4.2 + 1)))))))
 (chk (Nat.ble (z4.1.size + (⟨#[10]⟩ : ByteArray).size) 9223372036854775807)
 (some (z4.1 ++ (⟨#[10]⟩ : ByteArray)))))) n z0)
def p_w36q (n : Nat) (x : Ty25) : Option ByteArray :=
(l_w36q_1 n x.2 (x.1,(0 : Int)))
def m_w36q := p_w36q FU
def a_w36q : Ann := (.node .leaf (.node (.node .leaf (.loop [.slot 0 .str,.slot 5 (.int .i64)] (rg 6 14) .leaf)) .leaf))
def S_w36q : FSpec := ⟨[.val .str,.val Kd17],[.str],m_w36q⟩
def l_w37q_1 (n : Nat) (x_2_1 : Ty21) (z0 : (ByteArray × Int)) : Option ByteArray :=
(lp (fun rec20 (z19 : (ByteArray × Int)) =>
 (cond (decide (z19.2 < (lenI x_2_1)))
 ((geti x_2_1 z19.2).bind fun y21 =>
 ((geti x_2_1 z19.2).bind fun y22 =>
 ((geti x_2_1 z19.2).bind fun y23 =>
 ((m_w36q ((⟨#[104,97,115]⟩ : ByteArray),[y21.1,y22.2.1,y23.2.2])).bind fun r24 =>
 (chk (Nat.ble (z19.1.size + r24.size) 9223372036854775807)
 (rec20 ((z19.1 ++ r24),IntKind.wrap .i64 (z19.2 + 1))))))))
 (some z19.1))) n z0)
def l_w37q_2 (n : Nat) (x_2_2_1 : (List (Int × Int))) (z0 : (ByteArray × Int)) : Option ByteArray :=
(lp (fun rec42 (z41 : (ByteArray × Int)) =>
 (cond (decide (z41.2 < (lenI x_2_2_1)))
 ((geti x_2_2_1 z41.2).bind fun y43 =>
 ((geti x_2_2_1 z41.2).bind fun y44 =>
 ((m_w36q ((⟨#[118,111,116,101]⟩ : ByteArray),[y43.1,y44.2])).bind fun r45 =>
 (chk (Nat.ble (z41.1.size + r45.size) 9223372036854775807)
 (rec42 ((z41.1 ++ r45),IntKind.wrap .i64 (z41.2 + 1)))))))
 (some z41.1))) n z0)
def l_w37q_3 (n : Nat) (x_2_2_2_1 : Ty13) (z0 : (ByteArray × Int)) : Option ByteArray :=
(lp (fun rec60 (z59 : (ByteArray × Int)) =>
 (cond (decide (z59.2 < (lenI x_2_2_2_1)))
 ((geti x_2_2_2_1 z59.2).bind fun y61 =>
 ((m_w36q ((⟨#[104,101,108,100]⟩ : ByteArray),[y61.1])).bind fun r62 =>
 (chk (Nat.ble (z59.1.size + r62.size) 9223372036854775807)
 (rec60 ((z59.1 ++ r62),IntKind.wrap .i64 (z59.2 + 1))))))
 (some z59.1))) n z0)
def l_w37q_4 (n : Nat) (x_2_2_2_2_1 : (List (Int × Int))) (z0 : (ByteArray × Int)) : Option ByteArray :=
(lp (fun rec70 (z69 : (ByteArray × Int)) =>
 (cond (decide (z69.2 < (lenI x_2_2_2_2_1)))
 ((geti x_2_2_2_2_1 z69.2).bind fun y71 =>
 ((geti x_2_2_2_2_1 z69.2).bind fun y72 =>
 ((m_w36q ((⟨#[100,111,110,101]⟩ : ByteArray),[y71.1,y72.2])).bind fun r73 =>
 (chk (Nat.ble (z69.1.size + r73.size) 9223372036854775807)
 (rec70 ((z69.1 ++ r73),IntKind.wrap .i64 (z69.2 + 1)))))))
 (some z69.1))) n z0)
def p_w37q (n : Nat) (x : Ty6) : Option ByteArray :=
((m_w36q ((⟨#[115,104,97,114,100]⟩ : ByteArray),[x.1])).bind fun r1 =>
(Option.bind (α := ByteArray)
 (l_w37q_1 n x.2.1 (r1,(0 : Int))) fun j26 =>
(Option.bind (α := ByteArray)
 (l_w37q_2 n x.2.2.1 (j26,(0 : Int))) fun j47 =>
(Option.bind (α := ByteArray)
 (l_w37q_3 n x.2.2.2.1 (j47,(0 : Int))) fun j64 =>
(l_w37q_4 n x.2.2.2.2.1 (j64,(0 : Int)))))))
def m_w37q := p_w37q FU
def a_w37q : Ann := (.node .leaf (.node .leaf (.join [.slot 3 .str] ([4] ++ rg 12 29) (.node .leaf (.loop [.slot 3 .str,.slot 4 (.int .i64)] (rg 12 29) (.node .leaf (.node (.lazy 38 .leaf) .leaf)))) (.join [.slot 3 .str] ([5] ++ rg 41 23) (.node .leaf (.loop [.slot 3 .str,.slot 5 (.int .i64)] (rg 41 23) (.node .leaf (.node (.lazy 61 .leaf) .leaf)))) (.join [.slot 3 .str] ([6] ++ rg 64 17) (.node .leaf (.loop [.slot 3 .str,.slot 6 (.int .i64)] (rg 64 17) .leaf)) (.node (.node .leaf (.loop [.slot 3 .str,.slot 7 (.int .i64)] (rg 81 23) (.node .leaf (.node (.lazy 101 .leaf) .leaf)))) .leaf))))))
def S_w37q : FSpec := ⟨[.val Kd1],[.str],m_w37q⟩
def p_w38q (_ : Nat) (x : Ty6) : Option (Int × ByteArray) :=
((m_w34q x).bind fun r1 =>
(cond (!(r1 == 0))
 (some (r1,(⟨#[]⟩ : ByteArray)))
 ((m_w37q x).bind fun r2 =>
 some ((0 : Int),r2))))
def m_w38q := p_w38q FU
def a_w38q : Ann := .leaf
def S_w38q : FSpec := ⟨[.val Kd1],[Kd16],m_w38q⟩
def p_w39q (_ : Nat) (x : (Int × (Int × Int))) : Option Bool :=
(cond (decide (x.1 ≥ x.2.1))
 (some (decide (x.1 ≤ x.2.2)))
 (some false))
def m_w39q := p_w39q FU
def a_w39q : Ann := .leaf
def S_w39q : FSpec := ⟨[.val (.int .i64),.val (.int .i64),.val (.int .i64)],[.bool],m_w39q⟩
def p_w40q (_ : Nat) (x : Int) : Option Bool :=
((m_w39q (x,(0 : Int),(2 : Int))).bind fun r1 =>
some r1)
def m_w40q := p_w40q FU
def a_w40q : Ann := .leaf
def S_w40q : FSpec := ⟨[.val (.int .i64)],[.bool],m_w40q⟩
def p_w41q (_ : Nat) (x : Int) : Option Bool :=
((m_w39q (x,(0 : Int),(2 : Int))).bind fun r1 =>
some r1)
def m_w41q := p_w41q FU
def a_w41q : Ann := .leaf
def S_w41q : FSpec := ⟨[.val (.int .i64)],[.bool],m_w41q⟩
def p_w42q (_ : Nat) (x : (Int × Int)) : Option Bool :=
((m_w39q (x.1,(0 : Int),(5 : Int))).bind fun r1 =>
(cond r1
 ((m_w41q x.2).bind fun r2 =>
 some r2)
 (some false)))
def m_w42q := p_w42q FU
def a_w42q : Ann := .leaf
def S_w42q : FSpec := ⟨[.val (.int .i64),.val (.int .i64)],[.bool],m_w42q⟩
def p_w43q (_ : Nat) (x : Int) : Option Bool :=
some (!(x == x))
def m_w43q := p_w43q FU
def a_w43q : Ann := .leaf
def S_w43q : FSpec := ⟨[.val (.int .i64)],[.bool],m_w43q⟩
def p_w44q (_ : Nat) (x : (Int × Int)) : Option Int :=
((m_w43q x.1).bind fun r1 =>
((m_w43q x.2).bind fun r2 =>
(cond r1
 (cond r2
 (some (0 : Int))
 (some (-1 : Int)))
 (cond r2
 (some (1 : Int))
 (cond (decide (x.1 < x.2))
 (some (-1 : Int))
 (cond (decide (x.1 > x.2))
 (some (1 : Int))
 (some (0 : Int))))))))
def m_w44q := p_w44q FU
def a_w44q : Ann := .leaf
def S_w44q : FSpec := ⟨[.val (.int .i64),.val (.int .i64)],[(.int .i64)],m_w44q⟩
def l_w45q_1 (n : Nat) (x : (List Int)) (z0 : Int) : Option Int :=
(lp (fun rec4 (z3 : Int) =>
 (cond (decide (z3 < (lenI x)))
 ((geti x z3).bind fun y5 =>
 (cond (!(y5 == 0))
 (some y5)
 (rec4 (IntKind.wrap .i64 (z3 + 1)))))
 (some (0 : Int)))) n z0)
def p_w45q (n : Nat) (x : (List Int)) : Option Int :=
(l_w45q_1 n x (0 : Int))
def m_w45q := p_w45q FU
def a_w45q : Ann := (.node .leaf (.node .leaf (.node (.node .leaf (.loop [.slot 8 (.int .i64)] ([2,5] ++ rg 9 8) .leaf)) .leaf)))
def S_w45q : FSpec := ⟨[.val Kd17],[(.int .i64)],m_w45q⟩
def p_w46q (_ : Nat) (x : Ty14) : Option Int :=
((m_w44q (x.1.1,x.2.1)).bind fun r1 =>
((m_w44q (x.1.2.1,x.2.2.1)).bind fun r2 =>
((m_w45q [r1,r2]).bind fun r3 =>
some r3)))
def m_w46q := p_w46q FU
def a_w46q : Ann := (.node .leaf (.node (.lazy 15 .leaf) .leaf))
def S_w46q : FSpec := ⟨[.val Kd11,.val Kd11],[(.int .i64)],m_w46q⟩
def l_w47q_1 (n : Nat) (x : Ty21) (z0 : Int) : Option Int :=
(lp (fun rec14 (z13 : Int) =>
 (cond (decide (z13 < (lenI x)))
 ((geti x z13).bind fun y15 =>
 (Option.bind (α := Bool)
 ((m_w42q (y15.1,y15.2.1)).bind fun r18 =>
 (cond (!r18)
 (some true)
 ((m_w39q (y15.2.2,(1 : Int),(1000000000000 : Int))).bind fun r19 =>
 some (!r19)))) fun j20 =>
 (cond j20
 (some (3 : Int))
 (Option.bind (α := Bool)
 (cond (decide (z13 > 0))
 ((geti x (IntKind.wrap .i64 (z13 - 1))).bind fun y23 =>
 ((m_w46q (y23,y15)).bind fun r24 =>
 some (decide (r24 ≥ 0))))
 (some false)) fun j25 =>
 (cond j25
 (some (1 : Int))
 (rec14 (IntKind.wrap .i64 (z13 + 1))))))))
 (some (0 : Int)))) n z0)
def p_w47q (n : Nat) (x : Ty21) : Option Int :=
(cond (decide ((lenI x) > 18))
 (some (2 : Int))
 (l_w47q_1 n x (0 : Int)))
def m_w47q := p_w47q FU
def a_w47q : Ann := (.node .leaf (.node .leaf (.node (.node .leaf (.loop [.slot 10 (.int .i64)] ([2,3,4] ++ rg 11 31) (.node .leaf (.node .leaf (.node (.node .leaf (.join [.slot 15 .bool] (rg 16 12) .leaf (.node .leaf (.join [.slot 28 .bool] (rg 29 12) .leaf .leaf)))) .leaf))))) .leaf)))
def S_w47q : FSpec := ⟨[.val Kd10],[(.int .i64)],m_w47q⟩
def p_w48q (_ : Nat) (x : Int) : Option Bool :=
((m_w39q (x,(1 : Int),(1000000000 : Int))).bind fun r1 =>
some r1)
def m_w48q := p_w48q FU
def a_w48q : Ann := .leaf
def S_w48q : FSpec := ⟨[.val (.int .i64)],[.bool],m_w48q⟩
def p_w49q (_ : Nat) (x : Int) : Option Bool :=
(cond (x == 1)
 (some true)
 (some (x == 2)))
def m_w49q := p_w49q FU
def a_w49q : Ann := .leaf
def S_w49q : FSpec := ⟨[.val (.int .i64)],[.bool],m_w49q⟩
def p_w50q (_ : Nat) (x : Int) : Option Bool :=
(cond (x == 1)
 (some true)
 (some (x == 2)))
def m_w50q := p_w50q FU
def a_w50q : Ann := .leaf
def S_w50q : FSpec := ⟨[.val (.int .i64)],[.bool],m_w50q⟩
def p_w51q (_ : Nat) (x : Ty18) : Option Int :=
some (lenI x)
def m_w51q := p_w51q FU
def a_w51q : Ann := .leaf
def S_w51q : FSpec := ⟨[.val Kd7],[(.int .i64)],m_w51q⟩
def p_w52q (_ : Nat) (x : Ty20) : Option Int :=
(Option.bind (α := Bool)
 ((m_w40q x.1).bind fun r4 =>
 (cond (!r4)
 (some true)
 ((m_w42q (x.2.1,x.2.2.1)).bind fun r5 =>
 (cond (!r5)
 (some true)
 ((m_w39q (x.2.2.2,(-1000000000000 : Int),(1000000000000 : Int))).bind fun r6 =>
 some (!r6)))))) fun j7 =>
(cond j7
 (some (3 : Int))
 (cond (x.2.2.2 == 0)
 (some (1 : Int))
 (some (0 : Int)))))
def m_w52q := p_w52q FU
def a_w52q : Ann := (.node .leaf (.node (.join [.slot 3 .bool] (rg 4 18) .leaf .leaf) .leaf))
def S_w52q : FSpec := ⟨[.val Kd8],[(.int .i64)],m_w52q⟩
def p_w53q (_ : Nat) (x : Ty11) : Option Bool :=
(cond (x.1.1 == x.2.1)
 (cond (x.1.2.1 == x.2.2.1)
 (some (x.1.2.2.1 == x.2.2.2.1))
 (some false))
 (some false))
def m_w53q := p_w53q FU
def a_w53q : Ann := .leaf
def S_w53q : FSpec := ⟨[.val Kd8,.val Kd8],[.bool],m_w53q⟩
def l_w54q_1 (n : Nat) (z106_1 : Int) (x_2 : Ty18) (y108 : Ty20) (z0 : Int) : Option Int :=
(lp (fun rec122 (z121 : Int) =>
 (cond (decide (z121 < (lenI (cutL none (some z106_1) x_2))))
 ((geti (cutL none (some z106_1) x_2) z121).bind fun y123 =>
 ((m_w53q (y123,y108)).bind fun r124 =>
 (cond r124
 (some z121)
 (rec122 (IntKind.wrap .i64 (z121 + 1))))))
 (some (-1 : Int)))) n z0)
def l_w54q_2 (n : Nat) (x_2 : Ty18) (z0 : Ty23) : Option ((List (Int × Int)) ⊕ Int) :=
(lp (fun rec107 (z106 : Ty23) =>
 (cond (decide (z106.1 < (lenI x_2)))
 ((geti x_2 z106.1).bind fun y108 =>
 ((m_w52q y108).bind fun r109 =>
 (cond (!(r109 == 0))
 (some (Sum.inr r109))
 (chk (bndB none (some z106.1) none x_2.length)
 (Option.bind (α := Int)
 (l_w54q_1 n z106.1 x_2 y108 (0 : Int)) fun j126 =>
 (cond (decide (j126 ≥ 0))
 (some (Sum.inr (7 : Int)))
 (rec107 (IntKind.wrap .i64 (z106.1 + 1),(mupd (.int .i64) z106.2 y108.2.2.1 (IntKind.wrap .i64 ((mlook (.int .i64) z106.2 y108.2.2.1) + y108.2.2.2)))))))))))
 (some (Sum.inl z106.2)))) n z0)
def l_w54q_3 (n : Nat) (j128 : (List (Int × Int))) (z0 : (Int × (List Int))) : Option Int :=
(lp (fun rec140 (z139 : (Int × (List Int))) =>
 (chk (z139.1 == lenI j128)
 (drawM (leftM z139.1 z139.2) (fun y141 =>
 ((geti j128 y141).bind fun y142 =>
 (chk (z139.1 == lenI j128)
 (((z139.2 ++ [y141]).getLast?).bind fun y143 =>
 ((geti j128 y143).bind fun y144 =>
 (cond (!(y144.2 == 0))
 (some (1 : Int))
 (rec140 (z139.1,(z139.2 ++ [y141])))))))))
 (some (0 : Int))))) n z0)
def p_w54q (n : Nat) (x : Ty16) : Option Int :=
((m_w48q x.1).bind fun r1 =>
(cond (!r1)
 (some (3 : Int))
 ((m_w51q x.2).bind fun r2 =>
 ((m_w39q (r2,(2 : Int),(8 : Int))).bind fun r3 =>
 (cond (!r3)
 (some (2 : Int))
 (Option.bind (α := ((List (Int × Int)) ⊕ Int))
 (l_w54q_2 n x.2 ((0 : Int),([] : List (Int × Int))))
 (Sum.elim (fun j128 =>
 (l_w54q_3 n j128 ((lenI j128),([] : List Int)))) some)))))))
def m_w54q := p_w54q FU
def a_w54q : Ann := (.node .leaf (.node .leaf (.node .leaf (.joinx [.map 1 (.int .i64) .i64] ([2,4,5,6] ++ rg 21 27) (.node .leaf (.loop [.slot 24 (.int .i64),.map 1 (.int .i64) .i64] ([2,4,5,6] ++ rg 25 23) (.node .leaf (.node .leaf (.node (.node .leaf (.node .leaf (.node (.node (.reg 39 (.node .leaf (.node (.regj 7 [.slot 7 (.int .i64)] [] (.node .leaf (.node (.node .leaf (.loop [.slot 8 (.int .i64)] ([4,5] ++ rg 9 10) .leaf)) .leaf)) .leaf) .leaf)) .leaf) .leaf) .leaf))) .leaf))))) (.node (.node .leaf (.loop [.iter 2 1] ([2,8] ++ rg 50 6) .leaf)) .leaf)))))
def S_w54q : FSpec := ⟨[.val Kd5],[(.int .i64)],m_w54q⟩
def l_w55q_1 (n : Nat) (x_2 : Int) (x_1_2 : Ty18) (z0 : Ty15) : Option Ty18 :=
(lp (fun rec4 (z3 : Ty15) =>
 (cond (decide (z3.2 < (lenI x_1_2)))
 ((geti x_1_2 z3.2).bind fun y5 =>
 (cond (y5.1 == x_2)
 (chk (Nat.ble ((z3.1.length + [y5].length) * 32) maxBytes)
 (rec4 ((z3.1 ++ [y5]),IntKind.wrap .i64 (z3.2 + 1))))
 (rec4 (z3.1,IntKind.wrap .i64 (z3.2 + 1)))))
 (some z3.1))) n z0)
def p_w55q (n : Nat) (x : Ty12) : Option Ty18 :=
(l_w55q_1 n x.2 x.1.2 (([] : List Ty20),(0 : Int)))
def m_w55q := p_w55q FU
def a_w55q : Ann := (.node .leaf (.node .leaf (.node (.node .leaf (.loop [.slot 5 Kd6,.slot 12 (.int .i64)] ([7] ++ rg 13 12) .leaf)) .leaf)))
def S_w55q : FSpec := ⟨[.val Kd5,.val (.int .i64)],[Kd6],m_w55q⟩
def p_w56q (_ : Nat) (x : ((Int × Int) × Int)) : Option Int :=
((m_w44q (x.1.1,x.2)).bind fun r1 =>
some r1)
def m_w56q := p_w56q FU
def a_w56q : Ann := .leaf
def S_w56q : FSpec := ⟨[.val Kd14,.val (.int .i64)],[(.int .i64)],m_w56q⟩
def l_w56q (n : Nat) (x_1 : (List (Int × Int))) (x_2 : Int) (z0 : (Int × Int)) : Option Int :=
(lp (fun rec13 (z12 : (Int × Int)) =>
 (cond (decide (z12.1 < z12.2))
 (chk (decide (0 ≤ (1 : Int)))
 ((geti x_1 (IntKind.wrap .i64 (Int.fdiv (IntKind.wrap .u64 (IntKind.wrap .i64 (z12.1 + z12.2))) (2 ^ (min (1 : Int).toNat 64))))).bind fun y14 =>
 ((m_w56q (y14,x_2)).bind fun r15 =>
 (cond (decide (r15 < 0))
 (rec13 (IntKind.wrap .i64 ((IntKind.wrap .i64 (Int.fdiv (IntKind.wrap .u64 (IntKind.wrap .i64 (z12.1 + z12.2))) (2 ^ (min (1 : Int).toNat 64)))) + 1),z12.2))
 (rec13 (z12.1,IntKind.wrap .i64 (Int.fdiv (IntKind.wrap .u64 (IntKind.wrap .i64 (z12.1 + z12.2))) (2 ^ (min (1 : Int).toNat 64)))))))))
 (some z12.1))) n z0)
def p_w57q (n : Nat) (x : Ty22) : Option (Int × Bool) :=
(Option.bind (α := Int)
 (l_w56q n x.1 x.2 ((0 : Int),lenI x.1)) fun j17 =>
(cond (decide (j17 < (lenI x.1)))
 ((geti x.1 j17).bind fun y18 =>
 ((m_w56q (y18,x.2)).bind fun r19 =>
 some (j17,(r19 == 0))))
 (some (j17,false))))
def m_w57q := p_w57q FU
def a_w57q : Ann := (.node .leaf (.node (.reg 8 (.node .leaf (.node .leaf (.node .leaf (.join [.slot 9 (.int .i64)] ([10,11] ++ rg 15 20) (.loop [.slot 9 (.int .i64),.slot 10 (.int .i64)] ([11] ++ rg 15 20) .leaf) .leaf)))) .leaf) .leaf))
def S_w57q : FSpec := ⟨[.val Kd13,.val (.int .i64)],[(.int .i64),.bool],m_w57q⟩
def p_w58q (_ : Nat) (x : Ty22) : Option Int :=
((m_w57q (x.1,x.2)).bind fun r1 =>
(cond (!r1.2)
 (some (0 : Int))
 ((geti x.1 r1.1).bind fun y2 =>
 some y2.2)))
def m_w58q := p_w58q FU
def a_w58q : Ann := .leaf
def S_w58q : FSpec := ⟨[.val Kd13,.val (.int .i64)],[(.int .i64)],m_w58q⟩
def l_w59q_1 (n : Nat) (x_1 : Int) (x_2_2_1 : (List (Int × Int))) (x_2_2_2_1 : Ty13) (x_2_2_2_2_1 : (List (Int × Int))) (z0 : Int) : Option Int :=
(lp (fun rec20 (z19 : Int) =>
 (cond (decide (z19 < (lenI x_2_2_2_1)))
 ((geti x_2_2_2_1 z19).bind fun y21 =>
 ((m_w54q y21).bind fun r22 =>
 (cond (!(r22 == 0))
 (some r22)
 (Option.bind (α := Bool)
 (cond (decide (z19 > 0))
 ((geti x_2_2_2_1 (IntKind.wrap .i64 (z19 - 1))).bind fun y30 =>
 (cond (decide (y30.1 ≥ y21.1))
 (some true)
 ((m_w55q (y21,x_1)).bind fun r31 =>
 (cond ((lenI r31) == 0)
 (some true)
 ((m_w58q (x_2_2_1,y21.1)).bind fun r32 =>
 (cond (!(r32 == 1))
 (some true)
 ((m_w58q (x_2_2_2_2_1,y21.1)).bind fun r33 =>
 some (!(r33 == 0)))))))))
 ((m_w55q (y21,x_1)).bind fun r34 =>
 (cond ((lenI r34) == 0)
 (some true)
 ((m_w58q (x_2_2_1,y21.1)).bind fun r35 =>
 (cond (!(r35 == 1))
 (some true)
 ((m_w58q (x_2_2_2_2_1,y21.1)).bind fun r36 =>
 some (!(r36 == 0)))))))) fun j37 =>
 (cond j37
 (some (1 : Int))
 (rec20 (IntKind.wrap .i64 (z19 + 1))))))))
 (some (0 : Int)))) n z0)
def p_w59q (n : Nat) (x : Ty6) : Option Int :=
(l_w59q_1 n x.1 x.2.2.1 x.2.2.2.1 x.2.2.2.2.1 (0 : Int))
def m_w59q := p_w59q FU
def a_w59q : Ann := (.node .leaf (.node (.node .leaf (.loop [.slot 9 (.int .i64)] ([2,3,4,5] ++ rg 10 48) (.node .leaf (.node .leaf (.node (.node .leaf (.node .leaf (.join [.slot 56 .bool] (rg 19 37) .leaf .leaf))) .leaf))))) .leaf))
def S_w59q : FSpec := ⟨[.val Kd1],[(.int .i64)],m_w59q⟩
def l_w60q_1 (n : Nat) (x : (List Int)) (z0 : Int) : Option Int :=
(lp (fun rec4 (z3 : Int) =>
 (cond (decide (z3 < (lenI x)))
 ((geti x z3).bind fun y5 =>
 (cond (!(y5 == 0))
 (some y5)
 (rec4 (IntKind.wrap .i64 (z3 + 1)))))
 (some (0 : Int)))) n z0)
def p_w60q (n : Nat) (x : (List Int)) : Option Int :=
(l_w60q_1 n x (0 : Int))
def m_w60q := p_w60q FU
def a_w60q : Ann := (.node .leaf (.node (.node .leaf (.loop [.slot 7 (.int .i64)] ([2,4] ++ rg 8 7) .leaf)) .leaf))
def S_w60q : FSpec := ⟨[.val Kd17],[(.int .i64)],m_w60q⟩
def p_w61q (_ : Nat) (x : Ty12) : Option Int :=
((m_w44q (x.1.1,x.2)).bind fun r1 =>
some r1)
def m_w61q := p_w61q FU
def a_w61q : Ann := .leaf
def S_w61q : FSpec := ⟨[.val Kd5,.val (.int .i64)],[(.int .i64)],m_w61q⟩
def l_w61q (n : Nat) (x_2 : Int) (x_1_2_2_2_1 : Ty13) (z0 : (Int × Int)) : Option Int :=
(lp (fun rec13 (z12 : (Int × Int)) =>
 (cond (decide (z12.1 < z12.2))
 (chk (decide (0 ≤ (1 : Int)))
 ((geti x_1_2_2_2_1 (IntKind.wrap .i64 (Int.fdiv (IntKind.wrap .u64 (IntKind.wrap .i64 (z12.1 + z12.2))) (2 ^ (min (1 : Int).toNat 64))))).bind fun y14 =>
 ((m_w61q (y14,x_2)).bind fun r15 =>
 (cond (decide (r15 < 0))
 (rec13 (IntKind.wrap .i64 ((IntKind.wrap .i64 (Int.fdiv (IntKind.wrap .u64 (IntKind.wrap .i64 (z12.1 + z12.2))) (2 ^ (min (1 : Int).toNat 64)))) + 1),z12.2))
 (rec13 (z12.1,IntKind.wrap .i64 (Int.fdiv (IntKind.wrap .u64 (IntKind.wrap .i64 (z12.1 + z12.2))) (2 ^ (min (1 : Int).toNat 64)))))))))
 (some z12.1))) n z0)
def p_w62q (n : Nat) (x : Ty5) : Option (Int × Bool) :=
(Option.bind (α := Int)
 (l_w61q n x.2 x.1.2.2.2.1 ((0 : Int),lenI x.1.2.2.2.1)) fun j17 =>
(cond (decide (j17 < (lenI x.1.2.2.2.1)))
 ((geti x.1.2.2.2.1 j17).bind fun y18 =>
 ((m_w61q (y18,x.2)).bind fun r19 =>
 some (j17,(r19 == 0))))
 (some (j17,false))))
def m_w62q := p_w62q FU
def a_w62q : Ann := (.node .leaf (.node (.reg 9 (.node .leaf (.node .leaf (.node .leaf (.join [.slot 9 (.int .i64)] ([10,11] ++ rg 15 20) (.loop [.slot 9 (.int .i64),.slot 10 (.int .i64)] ([11] ++ rg 15 20) .leaf) .leaf)))) .leaf) .leaf))
def S_w62q : FSpec := ⟨[.val Kd1,.val (.int .i64)],[(.int .i64),.bool],m_w62q⟩
def p_w63q (_ : Nat) (x : Ty4) : Option Bool :=
((m_w62q (x.1,x.2.1)).bind fun r1 =>
(cond (x.2.2 == 1)
 (cond (!r1.2)
 ((m_w58q (x.1.2.2.2.2.1,x.2.1)).bind fun r2 =>
 some (r2 == 0))
 (some false))
 (some false)))
def m_w63q := p_w63q FU
def a_w63q : Ann := .leaf
def S_w63q : FSpec := ⟨[.val Kd1,.val Kd14],[.bool],m_w63q⟩
def p_w64q (_ : Nat) (x : (List Int)) : Option Ty24 :=
sortedRun x
def m_w64q := p_w64q FU
def S_w64q : FSpec := ⟨[.fbox 154 Kd17],[Kd15],m_w64q⟩
def l_w65q_1 (n : Nat) (x_1 : (List Int)) (x_2 : (List Int)) (z0 : Int) : Option Bool :=
(lp (fun rec5 (z4 : Int) =>
 (cond (decide (z4 < (lenI x_1)))
 ((geti x_1 z4).bind fun y6 =>
 ((geti x_2 z4).bind fun y7 =>
 (cond (!(y6 == y7))
 (some false)
 (rec5 (IntKind.wrap .i64 (z4 + 1))))))
 (some true))) n z0)
def p_w65q (n : Nat) (x : Ty24) : Option Bool :=
(cond (!((lenI x.1) == (lenI x.2)))
 (some false)
 (l_w65q_1 n x.1 x.2 (0 : Int)))
def m_w65q := p_w65q FU
def a_w65q : Ann := (.node .leaf (.node .leaf (.node (.node .leaf (.loop [.slot 13 (.int .i64)] ([4,5] ++ rg 14 12) .leaf)) .leaf)))
def S_w65q : FSpec := ⟨[.val Kd17,.val Kd17],[.bool],m_w65q⟩
def l_w66q_1 (n : Nat) (x_2_2_2_2_1 : (List (Int × Int))) (z0 : ((List Int) × Int)) : Option (List Int) :=
(lp (fun rec10 (z9 : ((List Int) × Int)) =>
 (cond (decide (z9.2 < (lenI x_2_2_2_2_1)))
 ((geti x_2_2_2_2_1 z9.2).bind fun y11 =>
 (cond (y11.2 == 1)
 (chk (Nat.ble ((z9.1.length + [y11.1].length) * 8) maxBytes)
 (rec10 ((z9.1 ++ [y11.1]),IntKind.wrap .i64 (z9.2 + 1))))
 (rec10 (z9.1,IntKind.wrap .i64 (z9.2 + 1)))))
 (some z9.1))) n z0)
def p_w66q (n : Nat) (x : Ty6) : Option Bool :=
(Option.bind (α := (List Int))
 (l_w66q_1 n x.2.2.2.2.1 (([] : List Int),(0 : Int))) fun j13 =>
((m_w64q x.2.2.2.2.2).bind fun r14 =>
((m_w65q (r14.1,j13)).bind fun r15 =>
some r15)))
def m_w66q := p_w66q FU
def a_w66q : Ann := (.node .leaf (.node .leaf (.join [.slot 3 Kd15] ([5] ++ rg 7 16) (.node .leaf (.loop [.slot 3 Kd15,.slot 10 (.int .i64)] ([5] ++ rg 11 12) .leaf)) .leaf)))
def S_w66q : FSpec := ⟨[.val Kd1],[.bool],m_w66q⟩
def l_w67q_1 (n : Nat) (r67 : Ty18) (y66 : Ty20) (z0 : Int) : Option Int :=
(lp (fun rec80 (z79 : Int) =>
 (cond (decide (z79 < (lenI r67)))
 ((geti r67 z79).bind fun _ =>
 ((r67[z79.toNat]?).bind fun y81 =>
 ((m_w53q (y66,y81)).bind fun r82 =>
 (cond r82
 (some z79)
 (rec80 (IntKind.wrap .i64 (z79 + 1)))))))
 (some (-1 : Int)))) n z0)
def l_w67q_2 (n : Nat) (r1 : Ty18) (x_1_1 : Int) (x_2_2 : Ty16) (z0 : Int) : Option Int :=
(lp (fun rec65 (z64 : Int) =>
 (cond (decide (z64 < (lenI r1)))
 ((geti r1 z64).bind fun _ =>
 ((r1[z64.toNat]?).bind fun y66 =>
 ((m_w55q (x_2_2,x_1_1)).bind fun r67 =>
 (Option.bind (α := Int)
 (l_w67q_1 n r67 y66 (0 : Int)) fun j84 =>
 (cond (decide (j84 ≥ 0))
 (some z64)
 (rec65 (IntKind.wrap .i64 (z64 + 1))))))))
 (some (-1 : Int)))) n z0)
def p_w67q (n : Nat) (x : Ty2) : Option Bool :=
((m_w55q (x.2.1,x.1.1)).bind fun r1 =>
(Option.bind (α := Int)
 (l_w67q_2 n r1 x.1.1 x.2.2 (0 : Int)) fun j86 =>
some (decide (j86 ≥ 0))))
def m_w67q := p_w67q FU
def a_w67q : Ann := (.node .leaf (.node (.reg 12 (.node .leaf (.node (.regj 7 [.slot 7 (.int .i64)] [] (.node .leaf (.node (.node .leaf (.loop [.slot 8 (.int .i64)] ([4,5] ++ rg 9 10) (.node .leaf (.node .leaf (.node (.node .leaf (.node (.reg 16 (.node .leaf (.node (.reg 10 (.node .leaf (.node (.regj 7 [.slot 7 (.int .i64)] [] (.node .leaf (.node (.node .leaf (.loop [.slot 8 (.int .i64)] ([4,5] ++ rg 9 10) .leaf)) .leaf)) .leaf) .leaf)) .leaf) .leaf)) .leaf) .leaf)) .leaf))))) .leaf)) .leaf) .leaf)) .leaf) .leaf))
def S_w67q : FSpec := ⟨[.val Kd1,.val Kd5,.val Kd5],[.bool],m_w67q⟩
def l_w68q_1 (n : Nat) (x_1 : Ty21) (x_2_1 : Int) (x_2_2 : Int) (z0 : (Int × Int)) : Option Int :=
(lp (fun rec32 (z31 : (Int × Int)) =>
 (cond (decide (z31.1 < z31.2))
 (chk (decide (0 ≤ (1 : Int)))
 ((geti x_1 (IntKind.wrap .i64 (Int.fdiv (IntKind.wrap .u64 (IntKind.wrap .i64 (z31.1 + z31.2))) (2 ^ (min (1 : Int).toNat 64))))).bind fun y33 =>
 ((m_w46q (y33,(x_2_1,(x_2_2,(0 : Int))))).bind fun r34 =>
 (cond (decide (r34 < 0))
 (rec32 (IntKind.wrap .i64 ((IntKind.wrap .i64 (Int.fdiv (IntKind.wrap .u64 (IntKind.wrap .i64 (z31.1 + z31.2))) (2 ^ (min (1 : Int).toNat 64)))) + 1),z31.2))
 (rec32 (z31.1,IntKind.wrap .i64 (Int.fdiv (IntKind.wrap .u64 (IntKind.wrap .i64 (z31.1 + z31.2))) (2 ^ (min (1 : Int).toNat 64)))))))))
 (some z31.1))) n z0)
def p_w68q (n : Nat) (x : Ty17) : Option Int :=
(Option.bind (α := (Int × Bool))
 (Option.bind (α := Int)
 (l_w68q_1 n x.1 x.2.1 x.2.2 ((0 : Int),lenI x.1)) fun j36 =>
 (cond (decide (j36 < (lenI x.1)))
 ((geti x.1 j36).bind fun y37 =>
 ((m_w46q (y37,(x.2.1,(x.2.2,(0 : Int))))).bind fun r38 =>
 some (j36,(r38 == 0))))
 (some (j36,false)))) fun j39 =>
(cond (!j39.2)
 (some (0 : Int))
 ((geti x.1 j39.1).bind fun y40 =>
 some y40.2.2)))
def m_w68q := p_w68q FU
def a_w68q : Ann := (.node .leaf (.join [.slot 7 (.int .i64),.slot 8 .bool] (rg 9 8) (.reg 14 (.node .leaf (.node .leaf (.node .leaf (.join [.slot 9 (.int .i64)] ([10,11] ++ rg 15 20) (.loop [.slot 9 (.int .i64),.slot 10 (.int .i64)] ([11] ++ rg 15 20) .leaf) .leaf)))) .leaf) .leaf))
def S_w68q : FSpec := ⟨[.val Kd10,.val (.int .i64),.val (.int .i64)],[(.int .i64)],m_w68q⟩
def p_w69q (_ : Nat) (x : (Ty21 × Ty20)) : Option Int :=
((m_w68q (x.1,x.2.2.1,x.2.2.2.1)).bind fun r1 =>
(cond (decide ((IntKind.wrap .i64 (r1 + x.2.2.2.2)) < 0))
 (some (6 : Int))
 (cond (decide ((IntKind.wrap .i64 (r1 + x.2.2.2.2)) > 1000000000000))
 (some (3 : Int))
 (some (0 : Int)))))
def m_w69q := p_w69q FU
def a_w69q : Ann := .leaf
def S_w69q : FSpec := ⟨[.val Kd10,.val Kd8],[(.int .i64)],m_w69q⟩
def l_w70q_1 (n : Nat) (r1 : Ty18) (x_1_2_1 : Ty21) (z0 : Int) : Option Int :=
(lp (fun rec6 (z5 : Int) =>
 (cond (decide (z5 < (lenI r1)))
 ((geti r1 z5).bind fun _ =>
 ((r1[z5.toNat]?).bind fun y7 =>
 ((m_w69q (x_1_2_1,y7)).bind fun r8 =>
 (cond (!(r8 == 0))
 (some r8)
 (rec6 (IntKind.wrap .i64 (z5 + 1)))))))
 (some (0 : Int)))) n z0)
def p_w70q (n : Nat) (x : Ty3) : Option Int :=
((m_w55q (x.2,x.1.1)).bind fun r1 =>
(l_w70q_1 n r1 x.1.2.1 (0 : Int)))
def m_w70q := p_w70q FU
def a_w70q : Ann := (.node .leaf (.node (.node .leaf (.loop [.slot 13 (.int .i64)] ([4,6,7] ++ rg 14 11) .leaf)) .leaf))
def S_w70q : FSpec := ⟨[.val Kd1,.val Kd5],[(.int .i64)],m_w70q⟩
def l_w71q_1 (n : Nat) (z60 : Int) (x : Ty6) (y62 : Ty16) (z0 : Int) : Option Int :=
(lp (fun rec75 (z74 : Int) =>
 (cond (decide (z74 < (lenI (cutL none (some z60) x.2.2.2.1))))
 ((geti (cutL none (some z60) x.2.2.2.1) z74).bind fun y76 =>
 ((m_w67q (x,y76,y62)).bind fun r77 =>
 (cond r77
 (some z74)
 (rec75 (IntKind.wrap .i64 (z74 + 1))))))
 (some (-1 : Int)))) n z0)
def l_w71q_2 (n : Nat) (x : Ty6) (z0 : Int) : Option (Unit ⊕ Int) :=
(lp (fun rec61 (z60 : Int) =>
 (cond (decide (z60 < (lenI x.2.2.2.1)))
 ((geti x.2.2.2.1 z60).bind fun y62 =>
 (chk (bndB none (some z60) none x.2.2.2.1.length)
 (Option.bind (α := Int)
 (l_w71q_1 n z60 x y62 (0 : Int)) fun j79 =>
 (cond (decide (j79 ≥ 0))
 (some (Sum.inr (7 : Int)))
 (rec61 (IntKind.wrap .i64 (z60 + 1)))))))
 (some (Sum.inl ())))) n z0)
def l_w71q_3 (n : Nat) (x : Ty6) (z0 : Int) : Option Int :=
(lp (fun rec86 (z85 : Int) =>
 (cond (decide (z85 < (lenI x.2.2.2.1)))
 ((geti x.2.2.2.1 z85).bind fun y87 =>
 ((m_w70q (x,y87)).bind fun r88 =>
 (cond (!(r88 == 0))
 (some r88)
 (rec86 (IntKind.wrap .i64 (z85 + 1))))))
 (some (0 : Int)))) n z0)
def p_w71q (n : Nat) (x : Ty6) : Option Int :=
(Option.bind (α := (Unit ⊕ Int))
 (l_w71q_2 n x (0 : Int))
 (Sum.elim (fun j81 =>
(l_w71q_3 n x (0 : Int))) some))
def m_w71q := p_w71q FU
def a_w71q : Ann := (.node .leaf (.joinx [] ([2,3,4] ++ rg 8 15) (.node .leaf (.loop [.slot 11 (.int .i64)] ([2,3,4] ++ rg 12 11) (.node .leaf (.node .leaf (.node (.node .leaf (.node (.reg 21 (.node .leaf (.node (.regj 7 [.slot 7 (.int .i64)] [] (.node .leaf (.node (.node .leaf (.loop [.slot 8 (.int .i64)] ([4,5] ++ rg 9 10) .leaf)) .leaf)) .leaf) .leaf)) .leaf) .leaf)) .leaf))))) (.node (.node .leaf (.loop [.slot 26 (.int .i64)] ([2,6,7] ++ rg 27 10) .leaf)) .leaf)))
def S_w71q : FSpec := ⟨[.val Kd1],[(.int .i64)],m_w71q⟩
def l_w72q_1 (n : Nat) (x_2_2_1 : (List (Int × Int))) (z0 : Int) : Option Int :=
(lp (fun rec36 (z35 : Int) =>
 (cond (decide (z35 < (lenI x_2_2_1)))
 ((geti x_2_2_1 z35).bind fun y37 =>
 (Option.bind (α := Bool)
 ((m_w48q y37.1).bind fun r40 =>
 (cond (!r40)
 (some true)
 ((m_w49q y37.2).bind fun r41 =>
 some (!r41)))) fun j42 =>
 (cond j42
 (some (3 : Int))
 (Option.bind (α := Bool)
 (cond (decide (z35 > 0))
 ((geti x_2_2_1 (IntKind.wrap .i64 (z35 - 1))).bind fun y44 =>
 some (decide (y44.1 ≥ y37.1)))
 (some false)) fun j45 =>
 (cond j45
 (some (1 : Int))
 (rec36 (IntKind.wrap .i64 (z35 + 1))))))))
 (some (0 : Int)))) n z0)
def l_w72q_2 (n : Nat) (x_2_2_2_2_1 : (List (Int × Int))) (z0 : Int) : Option Int :=
(lp (fun rec81 (z80 : Int) =>
 (cond (decide (z80 < (lenI x_2_2_2_2_1)))
 ((geti x_2_2_2_2_1 z80).bind fun y82 =>
 (Option.bind (α := Bool)
 ((m_w48q y82.1).bind fun r85 =>
 (cond (!r85)
 (some true)
 ((m_w50q y82.2).bind fun r86 =>
 some (!r86)))) fun j87 =>
 (cond j87
 (some (3 : Int))
 (Option.bind (α := Bool)
 (cond (decide (z80 > 0))
 ((geti x_2_2_2_2_1 (IntKind.wrap .i64 (z80 - 1))).bind fun y89 =>
 some (decide (y89.1 ≥ y82.1)))
 (some false)) fun j90 =>
 (cond j90
 (some (1 : Int))
 (rec81 (IntKind.wrap .i64 (z80 + 1))))))))
 (some (0 : Int)))) n z0)
def l_w72q_3 (n : Nat) (x : Ty6) (z0 : Int) : Option Int :=
(lp (fun rec125 (z124 : Int) =>
 (cond (decide (z124 < (lenI x.2.2.1)))
 ((geti x.2.2.1 z124).bind fun y126 =>
 ((m_w63q (x,y126)).bind fun r127 =>
 (cond r127
 (some z124)
 (rec125 (IntKind.wrap .i64 (z124 + 1))))))
 (some (-1 : Int)))) n z0)
def p_w72q (n : Nat) (x : Ty6) : Option Int :=
((m_w40q x.1).bind fun r1 =>
(cond (!r1)
 (some (3 : Int))
 ((m_w47q x.2.1).bind fun r2 =>
 (cond (!(r2 == 0))
 (some r2)
 (cond (decide ((if (lenI x.2.2.2.2.2) > (if (lenI x.2.2.2.2.1) > (if (lenI x.2.2.2.1) > (lenI x.2.2.1) then lenI x.2.2.2.1 else lenI x.2.2.1) then lenI x.2.2.2.2.1 else (if (lenI x.2.2.2.1) > (lenI x.2.2.1) then lenI x.2.2.2.1 else lenI x.2.2.1)) then lenI x.2.2.2.2.2 else (if (lenI x.2.2.2.2.1) > (if (lenI x.2.2.2.1) > (lenI x.2.2.1) then lenI x.2.2.2.1 else lenI x.2.2.1) then lenI x.2.2.2.2.1 else (if (lenI x.2.2.2.1) > (lenI x.2.2.1) then lenI x.2.2.2.1 else lenI x.2.2.1))) > 100))
 (some (2 : Int))
 (Option.bind (α := Int)
 (l_w72q_1 n x.2.2.1 (0 : Int)) fun j47 =>
 (Option.bind (α := Int)
 (l_w72q_2 n x.2.2.2.2.1 (0 : Int)) fun j92 =>
 ((m_w59q x).bind fun r93 =>
 ((m_w60q [j47,j92,r93]).bind fun r94 =>
 (cond (!(r94 == 0))
 (some r94)
 (Option.bind (α := Bool)
 (Option.bind (α := Int)
 (l_w72q_3 n x (0 : Int)) fun j129 =>
 (cond (decide (j129 ≥ 0))
 (some true)
 ((m_w66q x).bind fun r130 =>
 some (!r130)))) fun j131 =>
 (cond j131
 (some (1 : Int))
 ((m_w71q x).bind fun r132 =>
 some r132)))))))))))))
def m_w72q := p_w72q FU
def a_w72q : Ann := (.node .leaf (.node .leaf (.node .leaf (.node .leaf (.node (.node (.regj 31 [.slot 31 (.int .i64)] [] (.node .leaf (.node (.node .leaf (.loop [.slot 9 (.int .i64)] ([4,5,6] ++ rg 10 31) (.node .leaf (.node .leaf (.node (.node .leaf (.join [.slot 14 .bool] (rg 15 11) .leaf (.node .leaf (.join [.slot 26 .bool] (rg 27 13) .leaf .leaf)))) .leaf))))) .leaf)) (.regj 34 [.slot 34 (.int .i64)] [] (.node .leaf (.node (.node .leaf (.loop [.slot 9 (.int .i64)] ([4,5,6] ++ rg 10 31) (.node .leaf (.node .leaf (.node (.node .leaf (.join [.slot 14 .bool] (rg 15 11) .leaf (.node .leaf (.join [.slot 26 .bool] (rg 27 13) .leaf .leaf)))) .leaf))))) .leaf)) (.lazy 37 .leaf))) .leaf) (.node (.join [.slot 51 .bool] (rg 42 9) (.reg 46 (.node .leaf (.node (.regj 7 [.slot 7 (.int .i64)] [] (.node .leaf (.node (.node .leaf (.loop [.slot 8 (.int .i64)] ([4,5] ++ rg 9 10) .leaf)) .leaf)) .leaf) .leaf)) .leaf) .leaf) .leaf))))))
def S_w72q : FSpec := ⟨[.val Kd1],[(.int .i64)],m_w72q⟩
def p_w73q (_ : Nat) (x : (Int × Int)) : Option ByteArray :=
fmtRun x
def m_w73q := p_w73q FU
def S_w73q : FSpec := ⟨[.val (.int .i64),.val (.int .i64)],[.str],m_w73q⟩
def p_w74q (_ : Nat) (x : Int) : Option ByteArray :=
((m_w73q (x,(10 : Int))).bind fun r1 =>
some r1)
def m_w74q := p_w74q FU
def a_w74q : Ann := .leaf
def S_w74q : FSpec := ⟨[.val (.int .i64)],[.str],m_w74q⟩
def p_w75q (_ : Nat) (x : ((List ByteArray) × ByteArray)) : Option ByteArray :=
joinRun x
def m_w75q := p_w75q FU
def S_w75q : FSpec := ⟨[.val (.sl none .str),.val .str],[.str],m_w75q⟩
def l_w76q_1 (n : Nat) (x_2 : (List Int)) (z0 : ((List ByteArray) × Int)) : Option (List ByteArray) :=
(lp (fun rec13 (z12 : ((List ByteArray) × Int)) =>
 (cond (decide (z12.2 < (lenI x_2)))
 ((geti x_2 z12.2).bind fun y14 =>
 ((m_w74q y14).bind fun r15 =>
 (chk (Nat.ble ((z12.1.length + [r15].length) * 16) maxBytes)
 (rec13 ((z12.1 ++ [r15]),IntKind.wrap .i64 (z12.2 + 1))))))
 (some z12.1))) n z0)
def p_w76q (n : Nat) (x : Ty25) : Option ByteArray :=
(Option.bind (α := (List ByteArray))
 (l_w76q_1 n x.2 ([x.1],(0 : Int))) fun j17 =>
((m_w75q (j17,(⟨#[32]⟩ : ByteArray))).bind fun r18 =>
(chk (Nat.ble (r18.size + (⟨#[10]⟩ : ByteArray).size) 9223372036854775807)
 (some (r18 ++ (⟨#[10]⟩ : ByteArray))))))
def m_w76q := p_w76q FU
def a_w76q : Ann := (.node .leaf (.node .leaf (.join [.slot 5 (.sl (some 9) .str)] ([7] ++ rg 10 12) (.node .leaf (.loop [.slot 5 (.sl (some 9) .str),.slot 12 (.int .i64)] ([7] ++ rg 13 9) .leaf)) .leaf)))
def S_w76q : FSpec := ⟨[.val .str,.val Kd17],[.str],m_w76q⟩
def p_w77q (_ : Nat) (x : (Bool × (Bool × Bool))) : Option Bool :=
none
def m_w77q := p_w77q FU
def S_w77q : FSpec := ⟨[.box .bool,.fn 78,.fn 5],[],m_w77q⟩
def p_w78q (_ : Nat) (x : (Bool × (Bool × Bool))) : Option (ByteArray × Bool) :=
none
def m_w78q := p_w78q FU
def S_w78q : FSpec := ⟨[.box .bool,.fn 78,.fn 5],[.str],m_w78q⟩
def l_w79q_1 (n : Nat) (x_2_1 : Ty21) (z0 : (Int × ByteArray)) : Option ByteArray :=
(lp (fun rec21 (z20 : (Int × ByteArray)) =>
 (cond (decide (z20.1 < (lenI x_2_1)))
 ((geti x_2_1 z20.1).bind fun y22 =>
 ((m_w76q ((⟨#[104,97,115]⟩ : ByteArray),[y22.1,y22.2.1,y22.2.2])).bind fun r23 =>
 (chk (Nat.ble (z20.2.size + r23.size) maxBytes)
 (rec21 (IntKind.wrap .i64 (z20.1 + 1),(z20.2 ++ r23))))))
 (some z20.2))) n z0)
def l_w79q_2 (n : Nat) (x_2_2_1 : (List (Int × Int))) (z0 : (Int × ByteArray)) : Option ByteArray :=
(lp (fun rec44 (z43 : (Int × ByteArray)) =>
 (cond (decide (z43.1 < (lenI x_2_2_1)))
 ((geti x_2_2_1 z43.1).bind fun y45 =>
 ((m_w76q ((⟨#[118,111,116,101]⟩ : ByteArray),[y45.1,y45.2])).bind fun r46 =>
 (chk (Nat.ble (z43.2.size + r46.size) maxBytes)
 (rec44 (IntKind.wrap .i64 (z43.1 + 1),(z43.2 ++ r46))))))
 (some z43.2))) n z0)
def l_w79q_3 (n : Nat) (x_2_2_2_1 : Ty13) (z0 : (Int × ByteArray)) : Option ByteArray :=
(lp (fun rec67 (z66 : (Int × ByteArray)) =>
 (cond (decide (z66.1 < (lenI x_2_2_2_1)))
 ((geti x_2_2_2_1 z66.1).bind fun y68 =>
 ((m_w76q ((⟨#[104,101,108,100]⟩ : ByteArray),[y68.1])).bind fun r69 =>
 (chk (Nat.ble (z66.2.size + r69.size) maxBytes)
 (rec67 (IntKind.wrap .i64 (z66.1 + 1),(z66.2 ++ r69))))))
 (some z66.2))) n z0)
def l_w79q_4 (n : Nat) (x_2_2_2_2_1 : (List (Int × Int))) (z0 : (Int × ByteArray)) : Option ByteArray :=
(lp (fun rec90 (z89 : (Int × ByteArray)) =>
 (cond (decide (z89.1 < (lenI x_2_2_2_2_1)))
 ((geti x_2_2_2_2_1 z89.1).bind fun y91 =>
 ((m_w76q ((⟨#[100,111,110,101]⟩ : ByteArray),[y91.1,y91.2])).bind fun r92 =>
 (chk (Nat.ble (z89.2.size + r92.size) maxBytes)
 (rec90 (IntKind.wrap .i64 (z89.1 + 1),(z89.2 ++ r92))))))
 (some z89.2))) n z0)
def p_w79q (n : Nat) (x : Ty6) : Option (Int × ByteArray) :=
((m_w72q x).bind fun r1 =>
(cond (!(r1 == 0))
 (some (r1,(⟨#[]⟩ : ByteArray)))
 ((m_w76q ((⟨#[115,104,97,114,100]⟩ : ByteArray),[x.1])).bind fun r2 =>
 (chk (Nat.ble (ByteArray.empty.size + r2.size) maxBytes)
 (Option.bind (α := ByteArray)
 (l_w79q_1 n x.2.1 ((0 : Int),(ByteArray.empty ++ r2))) fun j25 =>
 (Option.bind (α := ByteArray)
 (l_w79q_2 n x.2.2.1 ((0 : Int),j25)) fun j48 =>
 (Option.bind (α := ByteArray)
 (l_w79q_3 n x.2.2.2.1 ((0 : Int),j48)) fun j71 =>
 (Option.bind (α := ByteArray)
 (l_w79q_4 n x.2.2.2.2.1 ((0 : Int),j71)) fun j94 =>
 (chk (Nat.ble 1 j94.size)
 (some ((0 : Int),j94)))))))))))
def m_w79q := p_w79q FU
def a_w79q : Ann := (.node .leaf (.node .leaf (.node .leaf (.node .leaf (.join [.bld 2 78 5] ([6] ++ rg 25 17) (.node .leaf (.loop [.slot 28 (.int .i64),.bld 2 78 5] ([6] ++ rg 29 13) .leaf)) (.join [.bld 2 78 5] ([8] ++ rg 42 15) (.node .leaf (.loop [.slot 45 (.int .i64),.bld 2 78 5] ([8] ++ rg 46 11) .leaf)) (.join [.bld 2 78 5] ([10] ++ rg 57 13) (.node .leaf (.loop [.slot 60 (.int .i64),.bld 2 78 5] ([10] ++ rg 61 9) .leaf)) (.join [.bld 2 78 5] ([12] ++ rg 70 15) (.node .leaf (.loop [.slot 73 (.int .i64),.bld 2 78 5] ([12] ++ rg 74 11) .leaf)) .leaf))))))))
def S_w79q : FSpec := ⟨[.val Kd1],[Kd16],m_w79q⟩
def p_w80q (_ : Nat) (x : ((Int × ByteArray) × (Int × ByteArray))) : Option Bool :=
(cond (!(x.1.1 == x.2.1))
 (some false)
 (cond (!(x.1.2.toList == x.2.2.toList))
 (some false)
 (some true)))
def m_w80q := p_w80q FU
def a_w80q : Ann := .leaf
def S_w80q : FSpec := ⟨[.val Kd16,.val Kd16],[.bool],m_w80q⟩
def p_w81q (_ : Nat) (x : Ty14) : Option Bool :=
(cond (!(x.1.1 == x.2.1))
 (some false)
 (cond (!(x.1.2.1 == x.2.2.1))
 (some false)
 (cond (!(x.1.2.2 == x.2.2.2))
 (some false)
 (some true))))
def m_w81q := p_w81q FU
def a_w81q : Ann := .leaf
def S_w81q : FSpec := ⟨[.val Kd11,.val Kd11],[.bool],m_w81q⟩
def l_w82q_1 (n : Nat) (x_1 : Ty21) (x_2 : Ty21) (z0 : Int) : Option Bool :=
(lp (fun rec6 (z5 : Int) =>
 (cond (decide (z5 < (lenI x_1)))
 ((geti x_1 z5).bind fun y7 =>
 ((geti x_2 z5).bind fun y8 =>
 ((m_w81q (y7,y8)).bind fun r9 =>
 (cond (!r9)
 (some false)
 (rec6 (IntKind.wrap .i64 (z5 + 1)))))))
 (some true))) n z0)
def p_w82q (n : Nat) (x : (Ty21 × Ty21)) : Option Bool :=
(cond (!((lenI x.1) == (lenI x.2)))
 (some false)
 (l_w82q_1 n x.1 x.2 (0 : Int)))
def m_w82q := p_w82q FU
def a_w82q : Ann := (.node .leaf (.node .leaf (.node (.node .leaf (.loop [.slot 5 (.int .i64)] ([4] ++ rg 11 16) .leaf)) .leaf)))
def S_w82q : FSpec := ⟨[.val Kd10,.val Kd10],[.bool],m_w82q⟩
def p_w83q (_ : Nat) (x : ((Int × Int) × (Int × Int))) : Option Bool :=
(cond (!(x.1.1 == x.2.1))
 (some false)
 (cond (!(x.1.2 == x.2.2))
 (some false)
 (some true)))
def m_w83q := p_w83q FU
def a_w83q : Ann := .leaf
def S_w83q : FSpec := ⟨[.val Kd14,.val Kd14],[.bool],m_w83q⟩
def l_w84q_1 (n : Nat) (x_1 : (List (Int × Int))) (x_2 : (List (Int × Int))) (z0 : Int) : Option Bool :=
(lp (fun rec6 (z5 : Int) =>
 (cond (decide (z5 < (lenI x_1)))
 ((geti x_1 z5).bind fun y7 =>
 ((geti x_2 z5).bind fun y8 =>
 ((m_w83q (y7,y8)).bind fun r9 =>
 (cond (!r9)
 (some false)
 (rec6 (IntKind.wrap .i64 (z5 + 1)))))))
 (some true))) n z0)
def p_w84q (n : Nat) (x : ((List (Int × Int)) × (List (Int × Int)))) : Option Bool :=
(cond (!((lenI x.1) == (lenI x.2)))
 (some false)
 (l_w84q_1 n x.1 x.2 (0 : Int)))
def m_w84q := p_w84q FU
def a_w84q : Ann := (.node .leaf (.node .leaf (.node (.node .leaf (.loop [.slot 5 (.int .i64)] ([4] ++ rg 11 16) .leaf)) .leaf)))
def S_w84q : FSpec := ⟨[.val Kd13,.val Kd13],[.bool],m_w84q⟩
def p_w85q (_ : Nat) (x : Ty11) : Option Bool :=
(cond (!(x.1.1 == x.2.1))
 (some false)
 (cond (!(x.1.2.1 == x.2.2.1))
 (some false)
 (cond (!(x.1.2.2.1 == x.2.2.2.1))
 (some false)
 (cond (!(x.1.2.2.2 == x.2.2.2.2))
 (some false)
 (some true)))))
def m_w85q := p_w85q FU
def a_w85q : Ann := .leaf
def S_w85q : FSpec := ⟨[.val Kd8,.val Kd8],[.bool],m_w85q⟩
def l_w86q_1 (n : Nat) (x_1 : Ty18) (x_2 : Ty18) (z0 : Int) : Option Bool :=
(lp (fun rec6 (z5 : Int) =>
 (cond (decide (z5 < (lenI x_1)))
 ((geti x_1 z5).bind fun y7 =>
 ((geti x_2 z5).bind fun y8 =>
 ((m_w85q (y7,y8)).bind fun r9 =>
 (cond (!r9)
 (some false)
 (rec6 (IntKind.wrap .i64 (z5 + 1)))))))
 (some true))) n z0)
def p_w86q (n : Nat) (x : Ty9) : Option Bool :=
(cond (!((lenI x.1) == (lenI x.2)))
 (some false)
 (l_w86q_1 n x.1 x.2 (0 : Int)))
def m_w86q := p_w86q FU
def a_w86q : Ann := (.node .leaf (.node .leaf (.node (.node .leaf (.loop [.slot 5 (.int .i64)] ([4] ++ rg 11 16) .leaf)) .leaf)))
def S_w86q : FSpec := ⟨[.val Kd7,.val Kd7],[.bool],m_w86q⟩
def p_w87q (_ : Nat) (x : Ty8) : Option Bool :=
(cond (!(x.1.1 == x.2.1))
 (some false)
 ((m_w86q (x.1.2,x.2.2)).bind fun r1 =>
 (cond (!r1)
 (some false)
 (some true))))
def m_w87q := p_w87q FU
def a_w87q : Ann := .leaf
def S_w87q : FSpec := ⟨[.val Kd5,.val Kd5],[.bool],m_w87q⟩
def l_w88q_1 (n : Nat) (x_1 : Ty13) (x_2 : Ty13) (z0 : Int) : Option Bool :=
(lp (fun rec6 (z5 : Int) =>
 (cond (decide (z5 < (lenI x_1)))
 ((geti x_1 z5).bind fun y7 =>
 ((geti x_2 z5).bind fun y8 =>
 ((m_w87q (y7,y8)).bind fun r9 =>
 (cond (!r9)
 (some false)
 (rec6 (IntKind.wrap .i64 (z5 + 1)))))))
 (some true))) n z0)
def p_w88q (n : Nat) (x : Ty7) : Option Bool :=
(cond (!((lenI x.1) == (lenI x.2)))
 (some false)
 (l_w88q_1 n x.1 x.2 (0 : Int)))
def m_w88q := p_w88q FU
def a_w88q : Ann := (.node .leaf (.node .leaf (.node (.node .leaf (.loop [.slot 5 (.int .i64)] ([4] ++ rg 11 16) .leaf)) .leaf)))
def S_w88q : FSpec := ⟨[.val Kd3,.val Kd3],[.bool],m_w88q⟩
def l_w89q_1 (n : Nat) (x_1 : (List Int)) (x_2 : (List Int)) (z0 : Int) : Option Bool :=
(lp (fun rec5 (z4 : Int) =>
 (cond (decide (z4 < (lenI x_1)))
 ((geti x_1 z4).bind fun y6 =>
 ((geti x_2 z4).bind fun y7 =>
 (cond (!(y6 == y7))
 (some false)
 (rec5 (IntKind.wrap .i64 (z4 + 1))))))
 (some true))) n z0)
def p_w89q (n : Nat) (x : Ty24) : Option Bool :=
(cond (!((lenI x.1) == (lenI x.2)))
 (some false)
 (l_w89q_1 n x.1 x.2 (0 : Int)))
def m_w89q := p_w89q FU
def a_w89q : Ann := (.node .leaf (.node .leaf (.node (.node .leaf (.loop [.slot 5 (.int .i64)] ([4] ++ rg 11 15) .leaf)) .leaf)))
def S_w89q : FSpec := ⟨[.val Kd17,.val Kd17],[.bool],m_w89q⟩
def p_w90q (_ : Nat) (x : Ty1) : Option Bool :=
(cond (!(x.1.1 == x.2.1))
 (some false)
 ((m_w82q (x.1.2.1,x.2.2.1)).bind fun r1 =>
 (cond (!r1)
 (some false)
 ((m_w84q (x.1.2.2.1,x.2.2.2.1)).bind fun r2 =>
 (cond (!r2)
 (some false)
 ((m_w88q (x.1.2.2.2.1,x.2.2.2.2.1)).bind fun r3 =>
 (cond (!r3)
 (some false)
 ((m_w84q (x.1.2.2.2.2.1,x.2.2.2.2.2.1)).bind fun r4 =>
 (cond (!r4)
 (some false)
 ((m_w89q (x.1.2.2.2.2.2,x.2.2.2.2.2.2)).bind fun r5 =>
 (cond (!r5)
 (some false)
 (some true))))))))))))
def m_w90q := p_w90q FU
def a_w90q : Ann := .leaf
def S_w90q : FSpec := ⟨[.val Kd1,.val Kd1],[.bool],m_w90q⟩
def p_w91q (_ : Nat) (x : Ty6) : Option Bool :=
((m_w6q (x,(1048576 : Int))).bind fun r1 =>
(cond (decide (r1 < 0))
 (some true)
 ((m_w16q x).bind fun r2 =>
 ((m_w38q r2).bind fun r3 =>
 ((m_w16q x).bind fun r4 =>
 ((m_w79q r4).bind fun r5 =>
 ((m_w80q (r5,r3)).bind fun r6 =>
 (cond (!r6)
 (some false)
 ((m_w16q x).bind fun r7 =>
 ((m_w90q (r4,r7)).bind fun r8 =>
 (cond (!r8)
 (some false)
 (some true))))))))))))
def m_w91q := p_w91q FU
def a_w91q : Ann := .leaf
def S_w91q : FSpec := ⟨[.val Kd1],[.bool],m_w91q⟩
def T : Tab := [
 (2,⟨false,1,8,[],0,[.int .i64 0],some (.int .i64),[0]⟩),
 (3,⟨false,1,8,[],0,[.int .i64 0],some (.int .i64),[0]⟩),
 (5,⟨false,1,1,[],0,[.int .u8 0],some (.int .u8),[0]⟩),
 (9,⟨false,1,16,[],0,[.str ⟨#[]⟩],some .str,[2]⟩),
 (22,⟨false,1,24,[],126,[.nil],some Kd10,[]⟩),
 (23,⟨false,1,24,[],128,[.nil],some Kd13,[]⟩),
 (24,⟨false,1,24,[],122,[.nil],some Kd3,[]⟩),
 (25,⟨false,1,24,[],2,[.nil],some Kd17,[]⟩),
 (27,⟨true,6,128,[(0,1,2),(1,1,22),(2,1,23),(3,1,24),(4,1,23),(5,1,25)],0,[.int .i64 0,.nil,.nil,.nil,.nil,.nil],some Kd1,[]⟩),
 (30,⟨true,2,24,[(0,1,2),(1,1,9)],0,[.int .i64 0,.str ⟨#[]⟩],some Kd16,[0,2]⟩),
 (32,⟨false,1,24,[],85,[.nil],some Kd10,[]⟩),
 (33,⟨false,1,24,[],87,[.nil],some Kd13,[]⟩),
 (34,⟨false,1,24,[],45,[.nil],some Kd3,[]⟩),
 (36,⟨true,6,128,[(0,1,2),(1,1,32),(2,1,33),(3,1,34),(4,1,33),(5,1,25)],0,[.int .i64 0,.nil,.nil,.nil,.nil,.nil],some Kd1,[]⟩),
 (41,⟨false,1,24,[],5,[.nil],some (.sl none (.int .u8)),[]⟩),
 (43,⟨false,1,24,[],115,[.nil],some Kd7,[]⟩),
 (45,⟨true,2,32,[(0,1,2),(1,1,43)],0,[.int .i64 0,.nil],some Kd5,[]⟩),
 (78,⟨true,2,32,[(0,1,76),(1,1,41)],0,[.pnil,.nil],none,[]⟩),
 (85,⟨true,3,24,[(0,1,2),(1,1,2),(2,1,2)],0,[.int .i64 0,.int .i64 0,.int .i64 0],some Kd11,[0,0,0]⟩),
 (87,⟨true,2,16,[(0,1,2),(1,1,2)],0,[.int .i64 0,.int .i64 0],some Kd14,[0,0]⟩),
 (115,⟨true,4,32,[(0,1,2),(1,1,2),(2,1,2),(3,1,2)],0,[.int .i64 0,.int .i64 0,.int .i64 0,.int .i64 0],some Kd8,[0,0,0,0]⟩),
 (120,⟨false,1,24,[],198,[.nil],some Kd7,[]⟩),
 (122,⟨true,2,32,[(0,1,2),(1,1,120)],0,[.int .i64 0,.nil],some Kd5,[]⟩),
 (126,⟨true,3,24,[(0,1,2),(1,1,2),(2,1,2)],0,[.int .i64 0,.int .i64 0,.int .i64 0],some Kd11,[0,0,0]⟩),
 (128,⟨true,2,16,[(0,1,2),(1,1,2)],0,[.int .i64 0,.int .i64 0],some Kd14,[0,0]⟩),
 (130,⟨false,1,24,[],9,[.nil],some (.sl none .str),[]⟩),
 (143,⟨false,1,8,[(2,0,2)],0,[.undef],none,[]⟩),
 (196,⟨false,1,8,[],0,[.int .u64 0],some (.int .u64),[0]⟩),
 (198,⟨true,4,32,[(0,1,2),(1,1,2),(2,1,2),(3,1,2)],0,[.int .i64 0,.int .i64 0,.int .i64 0,.int .i64 0],some Kd8,[0,0,0,0]⟩),
 (202,⟨false,1,24,[],3,[.nil],some Kd17,[]⟩)]
def G_w0q : Env := (25,S_w0q) :: []
def G_w1q : Env := (26,S_w1q) :: G_w0q
def G_w2q : Env := (126,S_w2q) :: G_w1q
def G_w3q : Env := (74,S_w3q) :: G_w2q
def G_w4q : Env := (27,S_w4q) :: G_w3q
def G_w5q : Env := (28,S_w5q) :: G_w4q
def G_w6q : Env := (6,S_w6q) :: G_w5q
def G_w7q : Env := (79,S_w7q) :: G_w6q
def G_w8q : Env := (31,S_w8q) :: G_w7q
def G_w9q : Env := (80,S_w9q) :: G_w8q
def G_w10q : Env := (32,S_w10q) :: G_w9q
def G_w11q : Env := (164,S_w11q) :: G_w10q
def G_w12q : Env := (132,S_w12q) :: G_w11q
def G_w13q : Env := (81,S_w13q) :: G_w12q
def G_w14q : Env := (33,S_w14q) :: G_w13q
def G_w15q : Env := (34,S_w15q) :: G_w14q
def G_w16q : Env := (8,S_w16q) :: G_w15q
def G_w17q : Env := (70,S_w17q) :: G_w16q
def G_w18q : Env := (162,S_w18q) :: G_w17q
def G_w19q : Env := (127,S_w19q) :: G_w18q
def G_w20q : Env := (75,S_w20q) :: G_w19q
def G_w21q : Env := (69,S_w21q) :: G_w20q
def G_w22q : Env := (76,S_w22q) :: G_w21q
def G_w23q : Env := (105,S_w23q) :: G_w22q
def G_w24q : Env := (52,S_w24q) :: G_w23q
def G_w25q : Env := (53,S_w25q) :: G_w24q
def G_w26q : Env := (107,S_w26q) :: G_w25q
def G_w27q : Env := (124,S_w27q) :: G_w26q
def G_w28q : Env := (163,S_w28q) :: G_w27q
def G_w29q : Env := (128,S_w29q) :: G_w28q
def G_w30q : Env := (129,S_w30q) :: G_w29q
def G_w31q : Env := (161,S_w31q) :: G_w30q
def G_w32q : Env := (130,S_w32q) :: G_w31q
def G_w33q : Env := (77,S_w33q) :: G_w32q
def G_w34q : Env := (29,S_w34q) :: G_w33q
def G_w35q : Env := (131,S_w35q) :: G_w34q
def G_w36q : Env := (78,S_w36q) :: G_w35q
def G_w37q : Env := (30,S_w37q) :: G_w36q
def G_w38q : Env := (7,S_w38q) :: G_w37q
def G_w39q : Env := (92,S_w39q) :: G_w38q
def G_w40q : Env := (55,S_w40q) :: G_w39q
def G_w41q : Env := (122,S_w41q) :: G_w40q
def G_w42q : Env := (66,S_w42q) :: G_w41q
def G_w43q : Env := (170,S_w43q) :: G_w42q
def G_w44q : Env := (146,S_w44q) :: G_w43q
def G_w45q : Env := (151,S_w45q) :: G_w44q
def G_w46q : Env := (111,S_w46q) :: G_w45q
def G_w47q : Env := (56,S_w47q) :: G_w46q
def G_w48q : Env := (91,S_w48q) :: G_w47q
def G_w49q : Env := (58,S_w49q) :: G_w48q
def G_w50q : Env := (59,S_w50q) :: G_w49q
def G_w51q : Env := (93,S_w51q) :: G_w50q
def G_w52q : Env := (94,S_w52q) :: G_w51q
def G_w53q : Env := (97,S_w53q) :: G_w52q
def G_w54q : Env := (49,S_w54q) :: G_w53q
def G_w55q : Env := (50,S_w55q) :: G_w54q
def G_w56q : Env := (169,S_w56q) :: G_w55q
def G_w57q : Env := (142,S_w57q) :: G_w56q
def G_w58q : Env := (99,S_w58q) :: G_w57q
def G_w59q : Env := (60,S_w59q) :: G_w58q
def G_w60q : Env := (48,S_w60q) :: G_w59q
def G_w61q : Env := (145,S_w61q) :: G_w60q
def G_w62q : Env := (101,S_w62q) :: G_w61q
def G_w63q : Env := (62,S_w63q) :: G_w62q
def G_w64q : Env := (114,S_w64q) :: G_w63q
def G_w65q : Env := (113,S_w65q) :: G_w64q
def G_w66q : Env := (63,S_w66q) :: G_w65q
def G_w67q : Env := (118,S_w67q) :: G_w66q
def G_w68q : Env := (67,S_w68q) :: G_w67q
def G_w69q : Env := (158,S_w69q) :: G_w68q
def G_w70q : Env := (119,S_w70q) :: G_w69q
def G_w71q : Env := (64,S_w71q) :: G_w70q
def G_w72q : Env := (16,S_w72q) :: G_w71q
def G_w73q : Env := (134,S_w73q) :: G_w72q
def G_w74q : Env := (83,S_w74q) :: G_w73q
def G_w75q : Env := (84,S_w75q) :: G_w74q
def G_w76q : Env := (36,S_w76q) :: G_w75q
def G_w77q : Env := (35,S_w77q) :: G_w76q
def G_w78q : Env := (37,S_w78q) :: G_w77q
def G_w79q : Env := (9,S_w79q) :: G_w78q
def G_w80q : Env := (10,S_w80q) :: G_w79q
def G_w81q : Env := (85,S_w81q) :: G_w80q
def G_w82q : Env := (38,S_w82q) :: G_w81q
def G_w83q : Env := (86,S_w83q) :: G_w82q
def G_w84q : Env := (39,S_w84q) :: G_w83q
def G_w85q : Env := (167,S_w85q) :: G_w84q
def G_w86q : Env := (136,S_w86q) :: G_w85q
def G_w87q : Env := (87,S_w87q) :: G_w86q
def G_w88q : Env := (40,S_w88q) :: G_w87q
def G_w89q : Env := (41,S_w89q) :: G_w88q
def G_w90q : Env := (11,S_w90q) :: G_w89q
def G_w91q : Env := (3,S_w91q) :: G_w90q
end
end Go.RvP
