/- The plain functions that the evaluator comes to, for FnExactClusterFault. No condition. -/
import Derived.Test.YtjamkpjjlpmofaaGreatRvL
import Derived.Test.YtjamkpjjlpmofaaGreatRvT
namespace Go.RvP
open Go Go.Rv
noncomputable section
def rg (a : Nat) : Nat → List Nat
 | 0 => []
 | n + 1 => a :: rg (a + 1) n
abbrev Ty77 : Type := ((List Int) × (List Int))
abbrev Ty76 : Type := (Int × (List (Int × Int)))
abbrev Ty75 : Type := ((List (Int × Int)) × Int)
abbrev Ty74 : Type := (List (Int × (Int × Int)))
abbrev Ty73 : Type := ((Int × Int) × (Int × Int))
abbrev Ty72 : Type := (Int × (Int × (Int × Int)))
abbrev Ty71 : Type := (Int × Ty74)
abbrev Ty70 : Type := (List Ty72)
abbrev Ty69 : Type := (Int × Ty72)
abbrev Ty68 : Type := ((List (Int × Int)) × (List (Int × Int)))
abbrev Ty67 : Type := (Ty74 × (Int × Int))
abbrev Ty66 : Type := (List Ty69)
abbrev Ty65 : Type := (Int × Ty70)
abbrev Ty64 : Type := (Ty70 × Int)
abbrev Ty63 : Type := ((Int × (Int × Int)) × (Int × (Int × Int)))
abbrev Ty62 : Type := (List Ty65)
abbrev Ty61 : Type := (Ty65 × Int)
abbrev Ty60 : Type := (Int × (Int × (Int × ((Int × Int) × (List (Int × Int))))))
abbrev Ty59 : Type := (Ty72 × Ty72)
abbrev Ty58 : Type := (Ty74 × Ty70)
abbrev Ty57 : Type := (Int × (Int × (Int × (Int × ((List Int) × (List (Int × Int)))))))
abbrev Ty56 : Type := (List Ty60)
abbrev Ty55 : Type := (Ty60 × Int)
abbrev Ty54 : Type := (Int × (Int × (Int × (Int × Ty69))))
abbrev Ty53 : Type := (List Ty57)
abbrev Ty52 : Type := (List Ty56)
abbrev Ty51 : Type := (Ty70 × Ty70)
abbrev Ty50 : Type := (Int × Ty56)
abbrev Ty49 : Type := (Ty57 × Int)
abbrev Ty48 : Type := (Ty56 × Int)
abbrev Ty47 : Type := (List Ty54)
abbrev Ty46 : Type := (Ty69 × Ty69)
abbrev Ty45 : Type := (Int × Ty53)
abbrev Ty44 : Type := (Int × Ty52)
abbrev Ty43 : Type := (Ty53 × Int)
abbrev Ty42 : Type := (Ty52 × Int)
abbrev Ty41 : Type := (Int × Ty47)
abbrev Ty40 : Type := (Ty47 × Int)
abbrev Ty39 : Type := (Ty66 × Ty66)
abbrev Ty38 : Type := (Ty65 × Ty65)
abbrev Ty37 : Type := (Ty62 × Ty62)
abbrev Ty36 : Type := (Ty60 × Ty60)
abbrev Ty35 : Type := (Int × (Ty53 × Ty66))
abbrev Ty34 : Type := (List Ty35)
abbrev Ty33 : Type := (Ty56 × Ty56)
abbrev Ty32 : Type := (Ty57 × Ty57)
abbrev Ty31 : Type := (Ty35 × Int)
abbrev Ty30 : Type := (Ty54 × Ty54)
abbrev Ty29 : Type := (Int × Ty34)
abbrev Ty28 : Type := (Ty34 × Int)
abbrev Ty27 : Type := (Ty53 × Ty53)
abbrev Ty26 : Type := (Ty52 × Ty52)
abbrev Ty25 : Type := (Int × (Ty74 × ((List (Int × Int)) × (Ty62 × ((List (Int × Int)) × (List Int))))))
abbrev Ty24 : Type := (Ty47 × Ty47)
abbrev Ty23 : Type := (List Ty25)
abbrev Ty22 : Type := (Ty25 × Int)
abbrev Ty21 : Type := (Int × Ty23)
abbrev Ty20 : Type := (Ty23 × Int)
abbrev Ty19 : Type := (Ty25 × (Int × Int))
abbrev Ty18 : Type := (Ty25 × Ty65)
abbrev Ty17 : Type := (Ty25 × Ty38)
abbrev Ty16 : Type := (Ty35 × Ty35)
abbrev Ty15 : Type := (Ty34 × Ty34)
abbrev Ty14 : Type := (Ty25 × Ty25)
abbrev Ty13 : Type := (Ty23 × Ty23)
abbrev Ty12 : Type := (Ty62 × (Ty23 × (Ty52 × (Ty34 × Ty47))))
abbrev Ty11 : Type := (Ty12 × Int)
abbrev Ty10 : Type := (Ty12 × (Int × Int))
abbrev Ty9 : Type := (Ty12 × Ty66)
abbrev Ty8 : Type := (Ty12 × Ty65)
abbrev Ty7 : Type := (Ty12 × Ty57)
abbrev Ty6 : Type := (Ty12 × Ty56)
abbrev Ty5 : Type := (Ty12 × Ty54)
abbrev Ty4 : Type := (Ty12 × Ty53)
abbrev Ty3 : Type := (Ty12 × Ty43)
abbrev Ty2 : Type := (Ty12 × Ty35)
abbrev Ty1 : Type := (Ty12 × Ty12)
abbrev Kd37 : Kd := (.sl none (.int .i64))
abbrev Kd36 : Kd := (.sl (some 2) (.int .i64))
abbrev Kd35 : Kd := (.pair (.int .i64) (.int .i64))
abbrev Kd34 : Kd := (.sl none Kd35)
abbrev Kd33 : Kd := (.pair (.int .i64) Kd35)
abbrev Kd32 : Kd := (.sl none Kd33)
abbrev Kd31 : Kd := (.pair (.int .i64) Kd33)
abbrev Kd30 : Kd := (.sl none Kd31)
abbrev Kd29 : Kd := (.sl (some 173) Kd31)
abbrev Kd28 : Kd := (.pair (.int .i64) Kd31)
abbrev Kd27 : Kd := (.sl none Kd28)
abbrev Kd26 : Kd := (.pair (.int .i64) Kd30)
abbrev Kd25 : Kd := (.pair (.int .i64) Kd29)
abbrev Kd24 : Kd := (.sl none Kd26)
abbrev Kd23 : Kd := (.sl (some 71) Kd25)
abbrev Kd22 : Kd := (.pair (.int .i64) (.pair (.int .i64) (.pair (.int .i64) (.pair Kd35 Kd34))))
abbrev Kd21 : Kd := (.pair (.int .i64) (.pair (.int .i64) (.pair (.int .i64) (.pair Kd35 (.sl (some 118) Kd35)))))
abbrev Kd20 : Kd := (.pair (.int .i64) (.pair (.int .i64) (.pair (.int .i64) (.pair (.int .i64) (.pair Kd37 Kd34)))))
abbrev Kd19 : Kd := (.sl none Kd22)
abbrev Kd18 : Kd := (.one Kd19)
abbrev Kd17 : Kd := (.pair (.int .i64) (.pair (.int .i64) (.pair (.int .i64) (.pair (.int .i64) (.pair Kd36 (.sl (some 118) Kd35))))))
abbrev Kd16 : Kd := (.sl none Kd20)
abbrev Kd15 : Kd := (.pair (.int .i64) (.pair (.int .i64) (.pair (.int .i64) (.pair (.int .i64) Kd28))))
abbrev Kd14 : Kd := (.sl none Kd18)
abbrev Kd13 : Kd := (.one (.sl (some 211) Kd21))
abbrev Kd12 : Kd := (.sl none Kd15)
abbrev Kd11 : Kd := (.sl (some 120) Kd15)
abbrev Kd10 : Kd := (.sl (some 135) Kd13)
abbrev Kd9 : Kd := (.pair (.int .i64) (.pair Kd16 Kd27))
abbrev Kd8 : Kd := (.sl none Kd9)
abbrev Kd7 : Kd := (.pair (.int .i64) (.pair (.sl (some 264) Kd17) (.sl (some 214) Kd28)))
abbrev Kd6 : Kd := (.sl (some 143) Kd7)
abbrev Kd5 : Kd := (.pair (.int .i64) (.pair Kd32 (.pair Kd34 (.pair Kd24 (.pair Kd34 Kd37)))))
abbrev Kd4 : Kd := (.sl none Kd5)
abbrev Kd3 : Kd := (.pair (.int .i64) (.pair (.sl (some 341) Kd33) (.pair (.sl (some 208) Kd35) (.pair Kd23 (.pair (.sl (some 208) Kd35) Kd36)))))
abbrev Kd2 : Kd := (.sl (some 131) Kd3)
abbrev Kd1 : Kd := (.pair Kd24 (.pair Kd4 (.pair Kd14 (.pair Kd8 Kd12))))
def p_w0q (_ : Nat) (x : Ty64) : Option Int :=
(cond (decide ((IntKind.wrap .i64 (x.2 - (lenI x.1))) < 0))
 (some (-1 : Int))
 (some (IntKind.wrap .i64 (x.2 - (lenI x.1)))))
def m_w0q := p_w0q FU
def a_w0q : Ann := .leaf
def S_w0q : FSpec := ⟨[.val Kd30,.val (.int .i64)],[(.int .i64)],m_w0q⟩
def p_w1q (_ : Nat) (x : Ty61) : Option Int :=
((m_w0q (x.1.2,x.2)).bind fun r1 =>
(cond (decide (r1 < 0))
 (some (-1 : Int))
 (some r1)))
def m_w1q := p_w1q FU
def a_w1q : Ann := .leaf
def S_w1q : FSpec := ⟨[.val Kd26,.val (.int .i64)],[(.int .i64)],m_w1q⟩
def l_w2q_1 (n : Nat) (x_1 : Ty62) (z0 : (Int × Int)) : Option Int :=
(lp (fun rec5 (z4 : (Int × Int)) =>
 (cond (decide (z4.2 < (lenI x_1)))
 ((geti x_1 z4.2).bind fun y6 =>
 ((m_w1q (y6,z4.1)).bind fun r7 =>
 (cond (decide (r7 < 0))
 (some (-1 : Int))
 (rec5 (r7,IntKind.wrap .i64 (z4.2 + 1))))))
 (some z4.1))) n z0)
def p_w2q (n : Nat) (x : (Ty62 × Int)) : Option Int :=
(cond (decide ((IntKind.wrap .i64 (x.2 - (lenI x.1))) < 0))
 (some (-1 : Int))
 (l_w2q_1 n x.1 (IntKind.wrap .i64 (x.2 - (lenI x.1)),(0 : Int))))
def m_w2q := p_w2q FU
def a_w2q : Ann := (.node .leaf (.node .leaf (.node .leaf (.node (.node .leaf (.loop [.slot 1 (.int .i64),.slot 5 (.int .i64)] ([4] ++ rg 12 14) .leaf)) .leaf))))
def S_w2q : FSpec := ⟨[.val Kd24,.val (.int .i64)],[(.int .i64)],m_w2q⟩
def p_w3q (_ : Nat) (x : (Ty74 × Int)) : Option Int :=
(cond (decide ((IntKind.wrap .i64 (x.2 - (lenI x.1))) < 0))
 (some (-1 : Int))
 (some (IntKind.wrap .i64 (x.2 - (lenI x.1)))))
def m_w3q := p_w3q FU
def a_w3q : Ann := .leaf
def S_w3q : FSpec := ⟨[.val Kd32,.val (.int .i64)],[(.int .i64)],m_w3q⟩
def p_w4q (_ : Nat) (x : Ty75) : Option Int :=
(cond (decide ((IntKind.wrap .i64 (x.2 - (lenI x.1))) < 0))
 (some (-1 : Int))
 (some (IntKind.wrap .i64 (x.2 - (lenI x.1)))))
def m_w4q := p_w4q FU
def a_w4q : Ann := .leaf
def S_w4q : FSpec := ⟨[.val Kd34,.val (.int .i64)],[(.int .i64)],m_w4q⟩
def p_w5q (_ : Nat) (x : ((List Int) × Int)) : Option Int :=
(cond (decide ((IntKind.wrap .i64 (x.2 - (lenI x.1))) < 0))
 (some (-1 : Int))
 (some (IntKind.wrap .i64 (x.2 - (lenI x.1)))))
def m_w5q := p_w5q FU
def a_w5q : Ann := .leaf
def S_w5q : FSpec := ⟨[.val Kd37,.val (.int .i64)],[(.int .i64)],m_w5q⟩
def p_w6q (_ : Nat) (x : Ty22) : Option Int :=
((m_w3q (x.1.2.1,x.2)).bind fun r1 =>
(cond (decide (r1 < 0))
 (some (-1 : Int))
 ((m_w4q (x.1.2.2.1,r1)).bind fun r2 =>
 (cond (decide (r2 < 0))
 (some (-1 : Int))
 ((m_w2q (x.1.2.2.2.1,r2)).bind fun r3 =>
 (cond (decide (r3 < 0))
 (some (-1 : Int))
 ((m_w4q (x.1.2.2.2.2.1,r3)).bind fun r4 =>
 (cond (decide (r4 < 0))
 (some (-1 : Int))
 ((m_w5q (x.1.2.2.2.2.2,r4)).bind fun r5 =>
 (cond (decide (r5 < 0))
 (some (-1 : Int))
 (some r5)))))))))))
def m_w6q := p_w6q FU
def a_w6q : Ann := .leaf
def S_w6q : FSpec := ⟨[.val Kd5,.val (.int .i64)],[(.int .i64)],m_w6q⟩
def l_w7q_1 (n : Nat) (x_1 : Ty23) (z0 : (Int × Int)) : Option Int :=
(lp (fun rec5 (z4 : (Int × Int)) =>
 (cond (decide (z4.2 < (lenI x_1)))
 ((geti x_1 z4.2).bind fun y6 =>
 ((m_w6q (y6,z4.1)).bind fun r7 =>
 (cond (decide (r7 < 0))
 (some (-1 : Int))
 (rec5 (r7,IntKind.wrap .i64 (z4.2 + 1))))))
 (some z4.1))) n z0)
def p_w7q (n : Nat) (x : Ty20) : Option Int :=
(cond (decide ((IntKind.wrap .i64 (x.2 - (lenI x.1))) < 0))
 (some (-1 : Int))
 (l_w7q_1 n x.1 (IntKind.wrap .i64 (x.2 - (lenI x.1)),(0 : Int))))
def m_w7q := p_w7q FU
def a_w7q : Ann := (.node .leaf (.node .leaf (.node .leaf (.node (.node .leaf (.loop [.slot 1 (.int .i64),.slot 5 (.int .i64)] ([4] ++ rg 12 14) .leaf)) .leaf))))
def S_w7q : FSpec := ⟨[.val Kd4,.val (.int .i64)],[(.int .i64)],m_w7q⟩
def p_w8q (_ : Nat) (x : Ty75) : Option Int :=
(cond (decide ((IntKind.wrap .i64 (x.2 - (lenI x.1))) < 0))
 (some (-1 : Int))
 (some (IntKind.wrap .i64 (x.2 - (lenI x.1)))))
def m_w8q := p_w8q FU
def a_w8q : Ann := .leaf
def S_w8q : FSpec := ⟨[.val Kd34,.val (.int .i64)],[(.int .i64)],m_w8q⟩
def p_w9q (_ : Nat) (x : Ty55) : Option Int :=
((m_w8q (x.1.2.2.2.2,x.2)).bind fun r1 =>
(cond (decide (r1 < 0))
 (some (-1 : Int))
 (some r1)))
def m_w9q := p_w9q FU
def a_w9q : Ann := .leaf
def S_w9q : FSpec := ⟨[.val Kd22,.val (.int .i64)],[(.int .i64)],m_w9q⟩
def l_w10q_1 (n : Nat) (x_1 : Ty56) (z0 : (Int × Int)) : Option Int :=
(lp (fun rec5 (z4 : (Int × Int)) =>
 (cond (decide (z4.2 < (lenI x_1)))
 ((geti x_1 z4.2).bind fun y6 =>
 ((m_w9q (y6,z4.1)).bind fun r7 =>
 (cond (decide (r7 < 0))
 (some (-1 : Int))
 (rec5 (r7,IntKind.wrap .i64 (z4.2 + 1))))))
 (some z4.1))) n z0)
def p_w10q (n : Nat) (x : Ty48) : Option Int :=
(cond (decide ((IntKind.wrap .i64 (x.2 - (lenI x.1))) < 0))
 (some (-1 : Int))
 (l_w10q_1 n x.1 (IntKind.wrap .i64 (x.2 - (lenI x.1)),(0 : Int))))
def m_w10q := p_w10q FU
def a_w10q : Ann := (.node .leaf (.node .leaf (.node .leaf (.node (.node .leaf (.loop [.slot 1 (.int .i64),.slot 5 (.int .i64)] ([4] ++ rg 12 14) .leaf)) .leaf))))
def S_w10q : FSpec := ⟨[.val Kd19,.val (.int .i64)],[(.int .i64)],m_w10q⟩
def p_w11q (_ : Nat) (x : Ty48) : Option Int :=
((m_w10q (x.1,x.2)).bind fun r1 =>
(cond (decide (r1 < 0))
 (some (-1 : Int))
 (some r1)))
def m_w11q := p_w11q FU
def a_w11q : Ann := .leaf
def S_w11q : FSpec := ⟨[.val Kd18,.val (.int .i64)],[(.int .i64)],m_w11q⟩
def l_w12q_1 (n : Nat) (x_1 : Ty52) (z0 : (Int × Int)) : Option Int :=
(lp (fun rec5 (z4 : (Int × Int)) =>
 (cond (decide (z4.2 < (lenI x_1)))
 ((geti x_1 z4.2).bind fun y6 =>
 ((m_w11q (y6,z4.1)).bind fun r7 =>
 (cond (decide (r7 < 0))
 (some (-1 : Int))
 (rec5 (r7,IntKind.wrap .i64 (z4.2 + 1))))))
 (some z4.1))) n z0)
def p_w12q (n : Nat) (x : Ty42) : Option Int :=
(cond (decide ((IntKind.wrap .i64 (x.2 - (lenI x.1))) < 0))
 (some (-1 : Int))
 (l_w12q_1 n x.1 (IntKind.wrap .i64 (x.2 - (lenI x.1)),(0 : Int))))
def m_w12q := p_w12q FU
def a_w12q : Ann := (.node .leaf (.node .leaf (.node .leaf (.node (.node .leaf (.loop [.slot 1 (.int .i64),.slot 5 (.int .i64)] ([4] ++ rg 12 14) .leaf)) .leaf))))
def S_w12q : FSpec := ⟨[.val Kd14,.val (.int .i64)],[(.int .i64)],m_w12q⟩
def p_w13q (_ : Nat) (x : Ty49) : Option Int :=
((m_w5q (x.1.2.2.2.2.1,x.2)).bind fun r1 =>
(cond (decide (r1 < 0))
 (some (-1 : Int))
 ((m_w8q (x.1.2.2.2.2.2,r1)).bind fun r2 =>
 (cond (decide (r2 < 0))
 (some (-1 : Int))
 (some r2)))))
def m_w13q := p_w13q FU
def a_w13q : Ann := .leaf
def S_w13q : FSpec := ⟨[.val Kd20,.val (.int .i64)],[(.int .i64)],m_w13q⟩
def l_w14q_1 (n : Nat) (x_1 : Ty53) (z0 : (Int × Int)) : Option Int :=
(lp (fun rec5 (z4 : (Int × Int)) =>
 (cond (decide (z4.2 < (lenI x_1)))
 ((geti x_1 z4.2).bind fun y6 =>
 ((m_w13q (y6,z4.1)).bind fun r7 =>
 (cond (decide (r7 < 0))
 (some (-1 : Int))
 (rec5 (r7,IntKind.wrap .i64 (z4.2 + 1))))))
 (some z4.1))) n z0)
def p_w14q (n : Nat) (x : Ty43) : Option Int :=
(cond (decide ((IntKind.wrap .i64 (x.2 - (lenI x.1))) < 0))
 (some (-1 : Int))
 (l_w14q_1 n x.1 (IntKind.wrap .i64 (x.2 - (lenI x.1)),(0 : Int))))
def m_w14q := p_w14q FU
def a_w14q : Ann := (.node .leaf (.node .leaf (.node .leaf (.node (.node .leaf (.loop [.slot 1 (.int .i64),.slot 5 (.int .i64)] ([4] ++ rg 12 14) .leaf)) .leaf))))
def S_w14q : FSpec := ⟨[.val Kd16,.val (.int .i64)],[(.int .i64)],m_w14q⟩
def p_w15q (_ : Nat) (x : (Ty66 × Int)) : Option Int :=
(cond (decide ((IntKind.wrap .i64 (x.2 - (lenI x.1))) < 0))
 (some (-1 : Int))
 (some (IntKind.wrap .i64 (x.2 - (lenI x.1)))))
def m_w15q := p_w15q FU
def a_w15q : Ann := .leaf
def S_w15q : FSpec := ⟨[.val Kd27,.val (.int .i64)],[(.int .i64)],m_w15q⟩
def p_w16q (_ : Nat) (x : Ty31) : Option Int :=
((m_w14q (x.1.2.1,x.2)).bind fun r1 =>
(cond (decide (r1 < 0))
 (some (-1 : Int))
 ((m_w15q (x.1.2.2,r1)).bind fun r2 =>
 (cond (decide (r2 < 0))
 (some (-1 : Int))
 (some r2)))))
def m_w16q := p_w16q FU
def a_w16q : Ann := .leaf
def S_w16q : FSpec := ⟨[.val Kd9,.val (.int .i64)],[(.int .i64)],m_w16q⟩
def l_w17q_1 (n : Nat) (x_1 : Ty34) (z0 : (Int × Int)) : Option Int :=
(lp (fun rec5 (z4 : (Int × Int)) =>
 (cond (decide (z4.2 < (lenI x_1)))
 ((geti x_1 z4.2).bind fun y6 =>
 ((m_w16q (y6,z4.1)).bind fun r7 =>
 (cond (decide (r7 < 0))
 (some (-1 : Int))
 (rec5 (r7,IntKind.wrap .i64 (z4.2 + 1))))))
 (some z4.1))) n z0)
def p_w17q (n : Nat) (x : Ty28) : Option Int :=
(cond (decide ((IntKind.wrap .i64 (x.2 - (lenI x.1))) < 0))
 (some (-1 : Int))
 (l_w17q_1 n x.1 (IntKind.wrap .i64 (x.2 - (lenI x.1)),(0 : Int))))
def m_w17q := p_w17q FU
def a_w17q : Ann := (.node .leaf (.node .leaf (.node .leaf (.node (.node .leaf (.loop [.slot 1 (.int .i64),.slot 5 (.int .i64)] ([4] ++ rg 12 14) .leaf)) .leaf))))
def S_w17q : FSpec := ⟨[.val Kd8,.val (.int .i64)],[(.int .i64)],m_w17q⟩
def p_w18q (_ : Nat) (x : Ty40) : Option Int :=
(cond (decide ((IntKind.wrap .i64 (x.2 - (lenI x.1))) < 0))
 (some (-1 : Int))
 (some (IntKind.wrap .i64 (x.2 - (lenI x.1)))))
def m_w18q := p_w18q FU
def a_w18q : Ann := .leaf
def S_w18q : FSpec := ⟨[.val Kd12,.val (.int .i64)],[(.int .i64)],m_w18q⟩
def p_w19q (_ : Nat) (x : Ty11) : Option Int :=
((m_w2q (x.1.1,x.2)).bind fun r1 =>
(cond (decide (r1 < 0))
 (some (-1 : Int))
 ((m_w7q (x.1.2.1,r1)).bind fun r2 =>
 (cond (decide (r2 < 0))
 (some (-1 : Int))
 ((m_w12q (x.1.2.2.1,r2)).bind fun r3 =>
 (cond (decide (r3 < 0))
 (some (-1 : Int))
 ((m_w17q (x.1.2.2.2.1,r3)).bind fun r4 =>
 (cond (decide (r4 < 0))
 (some (-1 : Int))
 ((m_w18q (x.1.2.2.2.2,r4)).bind fun r5 =>
 (cond (decide (r5 < 0))
 (some (-1 : Int))
 (some r5)))))))))))
def m_w19q := p_w19q FU
def a_w19q : Ann := .leaf
def S_w19q : FSpec := ⟨[.val Kd1,.val (.int .i64)],[(.int .i64)],m_w19q⟩
def p_w20q (_ : Nat) (x : Ty72) : Option Ty72 :=
some x
def m_w20q := p_w20q FU
def a_w20q : Ann := .leaf
def S_w20q : FSpec := ⟨[.val Kd31],[Kd31],m_w20q⟩
def l_w21q_1 (n : Nat) (x : Ty70) (z0 : Ty65) : Option Ty70 :=
(lp (fun rec10 (z9 : Ty65) =>
 (cond (decide (z9.1 < (lenI x)))
 ((geti x z9.1).bind fun y11 =>
 ((m_w20q y11).bind fun r12 =>
 ((geti z9.2 z9.1).bind fun _ =>
 ((z9.2[z9.1.toNat]?).bind fun y13 =>
 rec10 (IntKind.wrap .i64 (z9.1 + 1),(z9.2.set z9.1.toNat r12))))))
 (some z9.2))) n z0)
def p_w21q (n : Nat) (x : Ty70) : Option Ty70 :=
(if (lenI x) = (lenI x) then (if 0 ≤ (lenI x) then chk (Nat.ble (32 * (lenI x).toNat) maxBytes)
(l_w21q_1 n x ((0 : Int),(List.replicate (lenI x).toNat ((0 : Int),((0 : Int),((0 : Int),(0 : Int))))))) else none) else none)
def m_w21q := p_w21q FU
def a_w21q : Ann := (.node .leaf (.node .leaf (.node (.node .leaf (.loop [.slot 4 (.int .i64),.row 0 173 Kd31] (rg 8 14) .leaf)) .leaf)))
def S_w21q : FSpec := ⟨[.val Kd30],[Kd29],m_w21q⟩
def p_w22q (_ : Nat) (x : Ty65) : Option Ty65 :=
((m_w21q x.2).bind fun r1 =>
some (x.1,r1))
def m_w22q := p_w22q FU
def a_w22q : Ann := .leaf
def S_w22q : FSpec := ⟨[.val Kd26],[Kd25],m_w22q⟩
def l_w23q_1 (n : Nat) (x : Ty62) (z0 : (Int × Ty62)) : Option Ty62 :=
(lp (fun rec8 (z7 : (Int × Ty62)) =>
 (cond (decide (z7.1 < (lenI x)))
 ((geti x z7.1).bind fun y9 =>
 ((m_w22q y9).bind fun r10 =>
 ((geti z7.2 z7.1).bind fun _ =>
 ((z7.2[z7.1.toNat]?).bind fun _ =>
 rec8 (IntKind.wrap .i64 (z7.1 + 1),(z7.2.set z7.1.toNat r10))))))
 (some z7.2))) n z0)
def p_w23q (n : Nat) (x : Ty62) : Option Ty62 :=
(if (lenI x) = (lenI x) then (if 0 ≤ (lenI x) then chk (Nat.ble (32 * (lenI x).toNat) maxBytes)
(l_w23q_1 n x ((0 : Int),(List.replicate (lenI x).toNat ((0 : Int),[])))) else none) else none)
def m_w23q := p_w23q FU
def a_w23q : Ann := (.node .leaf (.node (.own 7 Kd25 .leaf) (.node (.node .leaf (.loop [.slot 4 (.int .i64),.row 0 71 Kd25] (rg 8 14) .leaf)) .leaf)))
def S_w23q : FSpec := ⟨[.val Kd24],[Kd23],m_w23q⟩
def p_w24q (_ : Nat) (x : (Int × (Int × Int))) : Option (Int × (Int × Int)) :=
some x
def m_w24q := p_w24q FU
def a_w24q : Ann := .leaf
def S_w24q : FSpec := ⟨[.val Kd33],[Kd33],m_w24q⟩
def l_w25q_1 (n : Nat) (x : Ty74) (z0 : Ty71) : Option Ty74 :=
(lp (fun rec10 (z9 : Ty71) =>
 (cond (decide (z9.1 < (lenI x)))
 ((geti x z9.1).bind fun y11 =>
 ((m_w24q y11).bind fun r12 =>
 ((geti z9.2 z9.1).bind fun _ =>
 ((z9.2[z9.1.toNat]?).bind fun y13 =>
 rec10 (IntKind.wrap .i64 (z9.1 + 1),(z9.2.set z9.1.toNat r12))))))
 (some z9.2))) n z0)
def p_w25q (n : Nat) (x : Ty74) : Option Ty74 :=
(if (lenI x) = (lenI x) then (if 0 ≤ (lenI x) then chk (Nat.ble (24 * (lenI x).toNat) maxBytes)
(l_w25q_1 n x ((0 : Int),(List.replicate (lenI x).toNat ((0 : Int),((0 : Int),(0 : Int)))))) else none) else none)
def m_w25q := p_w25q FU
def a_w25q : Ann := (.node .leaf (.node .leaf (.node (.node .leaf (.loop [.slot 4 (.int .i64),.row 0 341 Kd33] (rg 8 14) .leaf)) .leaf)))
def S_w25q : FSpec := ⟨[.val Kd32],[(.sl (some 341) Kd33)],m_w25q⟩
def p_w26q (_ : Nat) (x : (Int × Int)) : Option (Int × Int) :=
some x
def m_w26q := p_w26q FU
def a_w26q : Ann := .leaf
def S_w26q : FSpec := ⟨[.val Kd35],[Kd35],m_w26q⟩
def l_w27q_1 (n : Nat) (x : (List (Int × Int))) (z0 : Ty76) : Option (List (Int × Int)) :=
(lp (fun rec10 (z9 : Ty76) =>
 (cond (decide (z9.1 < (lenI x)))
 ((geti x z9.1).bind fun y11 =>
 ((m_w26q y11).bind fun r12 =>
 ((geti z9.2 z9.1).bind fun _ =>
 ((z9.2[z9.1.toNat]?).bind fun y13 =>
 rec10 (IntKind.wrap .i64 (z9.1 + 1),(z9.2.set z9.1.toNat r12))))))
 (some z9.2))) n z0)
def p_w27q (n : Nat) (x : (List (Int × Int))) : Option (List (Int × Int)) :=
(if (lenI x) = (lenI x) then (if 0 ≤ (lenI x) then chk (Nat.ble (16 * (lenI x).toNat) maxBytes)
(l_w27q_1 n x ((0 : Int),(List.replicate (lenI x).toNat ((0 : Int),(0 : Int))))) else none) else none)
def m_w27q := p_w27q FU
def a_w27q : Ann := (.node .leaf (.node .leaf (.node (.node .leaf (.loop [.slot 4 (.int .i64),.row 0 208 Kd35] (rg 8 14) .leaf)) .leaf)))
def S_w27q : FSpec := ⟨[.val Kd34],[(.sl (some 208) Kd35)],m_w27q⟩
def l_w28q_1 (n : Nat) (x : (List Int)) (z0 : (Int × (List Int))) : Option (List Int) :=
(lp (fun rec8 (z7 : (Int × (List Int))) =>
 (cond (decide (z7.1 < (lenI x)))
 ((geti x z7.1).bind fun y9 =>
 ((geti z7.2 z7.1).bind fun _ =>
 ((z7.2[z7.1.toNat]?).bind fun y10 =>
 rec8 (IntKind.wrap .i64 (z7.1 + 1),(z7.2.set z7.1.toNat y9)))))
 (some z7.2))) n z0)
def p_w28q (n : Nat) (x : (List Int)) : Option (List Int) :=
(if (lenI x) = (lenI x) then (if 0 ≤ (lenI x) then chk (Nat.ble (8 * (lenI x).toNat) maxBytes)
(l_w28q_1 n x ((0 : Int),(List.replicate (lenI x).toNat (0 : Int)))) else none) else none)
def m_w28q := p_w28q FU
def a_w28q : Ann := (.node .leaf (.node .leaf (.node (.node .leaf (.loop [.slot 4 (.int .i64),.row 0 2 (.int .i64)] (rg 8 13) .leaf)) .leaf)))
def S_w28q : FSpec := ⟨[.val Kd37],[Kd36],m_w28q⟩
def p_w29q (_ : Nat) (x : Ty25) : Option Ty25 :=
((m_w25q x.2.1).bind fun r1 =>
((m_w27q x.2.2.1).bind fun r2 =>
((m_w23q x.2.2.2.1).bind fun r3 =>
((m_w27q x.2.2.2.2.1).bind fun r4 =>
((m_w28q x.2.2.2.2.2).bind fun r5 =>
some (x.1,(r1,(r2,(r3,(r4,r5))))))))))
def m_w29q := p_w29q FU
def a_w29q : Ann := .leaf
def S_w29q : FSpec := ⟨[.val Kd5],[Kd3],m_w29q⟩
def l_w30q_1 (n : Nat) (x : Ty23) (z0 : Ty21) : Option Ty23 :=
(lp (fun rec8 (z7 : Ty21) =>
 (cond (decide (z7.1 < (lenI x)))
 ((geti x z7.1).bind fun y9 =>
 ((m_w29q y9).bind fun r10 =>
 ((geti z7.2 z7.1).bind fun _ =>
 ((z7.2[z7.1.toNat]?).bind fun _ =>
 rec8 (IntKind.wrap .i64 (z7.1 + 1),(z7.2.set z7.1.toNat r10))))))
 (some z7.2))) n z0)
def p_w30q (n : Nat) (x : Ty23) : Option Ty23 :=
(if (lenI x) = (lenI x) then (if 0 ≤ (lenI x) then chk (Nat.ble (128 * (lenI x).toNat) maxBytes)
(l_w30q_1 n x ((0 : Int),(List.replicate (lenI x).toNat ((0 : Int),([],([],([],([],[])))))))) else none) else none)
def m_w30q := p_w30q FU
def a_w30q : Ann := (.node .leaf (.node (.own 7 Kd3 .leaf) (.node (.node .leaf (.loop [.slot 4 (.int .i64),.row 0 131 Kd3] (rg 8 14) .leaf)) .leaf)))
def S_w30q : FSpec := ⟨[.val Kd4],[Kd2],m_w30q⟩
def p_w31q (_ : Nat) (x : (Int × Int)) : Option (Int × Int) :=
some x
def m_w31q := p_w31q FU
def a_w31q : Ann := .leaf
def S_w31q : FSpec := ⟨[.val Kd35],[Kd35],m_w31q⟩
def l_w32q_1 (n : Nat) (x : (List (Int × Int))) (z0 : Ty76) : Option (List (Int × Int)) :=
(lp (fun rec10 (z9 : Ty76) =>
 (cond (decide (z9.1 < (lenI x)))
 ((geti x z9.1).bind fun y11 =>
 ((m_w31q y11).bind fun r12 =>
 ((geti z9.2 z9.1).bind fun _ =>
 ((z9.2[z9.1.toNat]?).bind fun y13 =>
 rec10 (IntKind.wrap .i64 (z9.1 + 1),(z9.2.set z9.1.toNat r12))))))
 (some z9.2))) n z0)
def p_w32q (n : Nat) (x : (List (Int × Int))) : Option (List (Int × Int)) :=
(if (lenI x) = (lenI x) then (if 0 ≤ (lenI x) then chk (Nat.ble (16 * (lenI x).toNat) maxBytes)
(l_w32q_1 n x ((0 : Int),(List.replicate (lenI x).toNat ((0 : Int),(0 : Int))))) else none) else none)
def m_w32q := p_w32q FU
def a_w32q : Ann := (.node .leaf (.node .leaf (.node (.node .leaf (.loop [.slot 4 (.int .i64),.row 0 118 Kd35] (rg 8 14) .leaf)) .leaf)))
def S_w32q : FSpec := ⟨[.val Kd34],[(.sl (some 118) Kd35)],m_w32q⟩
def p_w33q (_ : Nat) (x : Ty60) : Option Ty60 :=
((m_w31q x.2.2.2.1).bind fun r1 =>
((m_w32q x.2.2.2.2).bind fun r2 =>
some (x.1,(x.2.1,(x.2.2.1,(r1,r2))))))
def m_w33q := p_w33q FU
def a_w33q : Ann := .leaf
def S_w33q : FSpec := ⟨[.val Kd22],[Kd21],m_w33q⟩
def l_w34q_1 (n : Nat) (x : Ty56) (z0 : Ty50) : Option Ty56 :=
(lp (fun rec8 (z7 : Ty50) =>
 (cond (decide (z7.1 < (lenI x)))
 ((geti x z7.1).bind fun y9 =>
 ((m_w33q y9).bind fun r10 =>
 ((geti z7.2 z7.1).bind fun _ =>
 ((z7.2[z7.1.toNat]?).bind fun _ =>
 rec8 (IntKind.wrap .i64 (z7.1 + 1),(z7.2.set z7.1.toNat r10))))))
 (some z7.2))) n z0)
def p_w34q (n : Nat) (x : Ty56) : Option Ty56 :=
(if (lenI x) = (lenI x) then (if 0 ≤ (lenI x) then chk (Nat.ble (64 * (lenI x).toNat) maxBytes)
(l_w34q_1 n x ((0 : Int),(List.replicate (lenI x).toNat ((0 : Int),((0 : Int),((0 : Int),(((0 : Int),(0 : Int)),[]))))))) else none) else none)
def m_w34q := p_w34q FU
def a_w34q : Ann := (.node .leaf (.node (.own 7 Kd21 .leaf) (.node (.node .leaf (.loop [.slot 4 (.int .i64),.row 0 211 Kd21] (rg 8 14) .leaf)) .leaf)))
def S_w34q : FSpec := ⟨[.val Kd19],[(.sl (some 211) Kd21)],m_w34q⟩
def p_w35q (_ : Nat) (x : Ty56) : Option Ty56 :=
((m_w34q x).bind fun r1 =>
some r1)
def m_w35q := p_w35q FU
def a_w35q : Ann := .leaf
def S_w35q : FSpec := ⟨[.val Kd18],[Kd13],m_w35q⟩
def l_w36q_1 (n : Nat) (x : Ty52) (z0 : Ty44) : Option Ty52 :=
(lp (fun rec8 (z7 : Ty44) =>
 (cond (decide (z7.1 < (lenI x)))
 ((geti x z7.1).bind fun y9 =>
 ((m_w35q y9).bind fun r10 =>
 ((geti z7.2 z7.1).bind fun _ =>
 ((z7.2[z7.1.toNat]?).bind fun _ =>
 rec8 (IntKind.wrap .i64 (z7.1 + 1),(z7.2.set z7.1.toNat r10))))))
 (some z7.2))) n z0)
def p_w36q (n : Nat) (x : Ty52) : Option Ty52 :=
(if (lenI x) = (lenI x) then (if 0 ≤ (lenI x) then chk (Nat.ble (24 * (lenI x).toNat) maxBytes)
(l_w36q_1 n x ((0 : Int),(List.replicate (lenI x).toNat []))) else none) else none)
def m_w36q := p_w36q FU
def a_w36q : Ann := (.node .leaf (.node (.own 7 Kd13 .leaf) (.node (.node .leaf (.loop [.slot 4 (.int .i64),.row 0 135 Kd13] (rg 8 14) .leaf)) .leaf)))
def S_w36q : FSpec := ⟨[.val Kd14],[Kd10],m_w36q⟩
def p_w37q (_ : Nat) (x : Ty57) : Option Ty57 :=
((m_w28q x.2.2.2.2.1).bind fun r1 =>
((m_w32q x.2.2.2.2.2).bind fun r2 =>
some (x.1,(x.2.1,(x.2.2.1,(x.2.2.2.1,(r1,r2)))))))
def m_w37q := p_w37q FU
def a_w37q : Ann := .leaf
def S_w37q : FSpec := ⟨[.val Kd20],[Kd17],m_w37q⟩
def l_w38q_1 (n : Nat) (x : Ty53) (z0 : Ty45) : Option Ty53 :=
(lp (fun rec8 (z7 : Ty45) =>
 (cond (decide (z7.1 < (lenI x)))
 ((geti x z7.1).bind fun y9 =>
 ((m_w37q y9).bind fun r10 =>
 ((geti z7.2 z7.1).bind fun _ =>
 ((z7.2[z7.1.toNat]?).bind fun _ =>
 rec8 (IntKind.wrap .i64 (z7.1 + 1),(z7.2.set z7.1.toNat r10))))))
 (some z7.2))) n z0)
def p_w38q (n : Nat) (x : Ty53) : Option Ty53 :=
(if (lenI x) = (lenI x) then (if 0 ≤ (lenI x) then chk (Nat.ble (80 * (lenI x).toNat) maxBytes)
(l_w38q_1 n x ((0 : Int),(List.replicate (lenI x).toNat ((0 : Int),((0 : Int),((0 : Int),((0 : Int),([],[])))))))) else none) else none)
def m_w38q := p_w38q FU
def a_w38q : Ann := (.node .leaf (.node (.own 7 Kd17 .leaf) (.node (.node .leaf (.loop [.slot 4 (.int .i64),.row 0 264 Kd17] (rg 8 14) .leaf)) .leaf)))
def S_w38q : FSpec := ⟨[.val Kd16],[(.sl (some 264) Kd17)],m_w38q⟩
def p_w39q (_ : Nat) (x : Ty69) : Option Ty69 :=
some x
def m_w39q := p_w39q FU
def a_w39q : Ann := .leaf
def S_w39q : FSpec := ⟨[.val Kd28],[Kd28],m_w39q⟩
def l_w40q_1 (n : Nat) (x : Ty66) (z0 : (Int × Ty66)) : Option Ty66 :=
(lp (fun rec10 (z9 : (Int × Ty66)) =>
 (cond (decide (z9.1 < (lenI x)))
 ((geti x z9.1).bind fun y11 =>
 ((m_w39q y11).bind fun r12 =>
 ((geti z9.2 z9.1).bind fun _ =>
 ((z9.2[z9.1.toNat]?).bind fun y13 =>
 rec10 (IntKind.wrap .i64 (z9.1 + 1),(z9.2.set z9.1.toNat r12))))))
 (some z9.2))) n z0)
def p_w40q (n : Nat) (x : Ty66) : Option Ty66 :=
(if (lenI x) = (lenI x) then (if 0 ≤ (lenI x) then chk (Nat.ble (40 * (lenI x).toNat) maxBytes)
(l_w40q_1 n x ((0 : Int),(List.replicate (lenI x).toNat ((0 : Int),((0 : Int),((0 : Int),((0 : Int),(0 : Int)))))))) else none) else none)
def m_w40q := p_w40q FU
def a_w40q : Ann := (.node .leaf (.node .leaf (.node (.node .leaf (.loop [.slot 4 (.int .i64),.row 0 214 Kd28] (rg 8 14) .leaf)) .leaf)))
def S_w40q : FSpec := ⟨[.val Kd27],[(.sl (some 214) Kd28)],m_w40q⟩
def p_w41q (_ : Nat) (x : Ty35) : Option Ty35 :=
((m_w38q x.2.1).bind fun r1 =>
((m_w40q x.2.2).bind fun r2 =>
some (x.1,(r1,r2))))
def m_w41q := p_w41q FU
def a_w41q : Ann := .leaf
def S_w41q : FSpec := ⟨[.val Kd9],[Kd7],m_w41q⟩
def l_w42q_1 (n : Nat) (x : Ty34) (z0 : Ty29) : Option Ty34 :=
(lp (fun rec8 (z7 : Ty29) =>
 (cond (decide (z7.1 < (lenI x)))
 ((geti x z7.1).bind fun y9 =>
 ((m_w41q y9).bind fun r10 =>
 ((geti z7.2 z7.1).bind fun _ =>
 ((z7.2[z7.1.toNat]?).bind fun _ =>
 rec8 (IntKind.wrap .i64 (z7.1 + 1),(z7.2.set z7.1.toNat r10))))))
 (some z7.2))) n z0)
def p_w42q (n : Nat) (x : Ty34) : Option Ty34 :=
(if (lenI x) = (lenI x) then (if 0 ≤ (lenI x) then chk (Nat.ble (56 * (lenI x).toNat) maxBytes)
(l_w42q_1 n x ((0 : Int),(List.replicate (lenI x).toNat ((0 : Int),([],[]))))) else none) else none)
def m_w42q := p_w42q FU
def a_w42q : Ann := (.node .leaf (.node (.own 7 Kd7 .leaf) (.node (.node .leaf (.loop [.slot 4 (.int .i64),.row 0 143 Kd7] (rg 8 14) .leaf)) .leaf)))
def S_w42q : FSpec := ⟨[.val Kd8],[Kd6],m_w42q⟩
def p_w43q (_ : Nat) (x : Ty54) : Option Ty54 :=
((m_w31q x.2.2.2.2.2.2.2).bind fun r1 =>
some (x.1,(x.2.1,(x.2.2.1,(x.2.2.2.1,(x.2.2.2.2.1,(x.2.2.2.2.2.1,(x.2.2.2.2.2.2.1,r1))))))))
def m_w43q := p_w43q FU
def a_w43q : Ann := .leaf
def S_w43q : FSpec := ⟨[.val Kd15],[Kd15],m_w43q⟩
def l_w44q_1 (n : Nat) (x : Ty47) (z0 : Ty41) : Option Ty47 :=
(lp (fun rec10 (z9 : Ty41) =>
 (cond (decide (z9.1 < (lenI x)))
 ((geti x z9.1).bind fun y11 =>
 ((m_w43q y11).bind fun r12 =>
 ((geti z9.2 z9.1).bind fun _ =>
 ((z9.2[z9.1.toNat]?).bind fun y13 =>
 rec10 (IntKind.wrap .i64 (z9.1 + 1),(z9.2.set z9.1.toNat r12))))))
 (some z9.2))) n z0)
def p_w44q (n : Nat) (x : Ty47) : Option Ty47 :=
(if (lenI x) = (lenI x) then (if 0 ≤ (lenI x) then chk (Nat.ble (72 * (lenI x).toNat) maxBytes)
(l_w44q_1 n x ((0 : Int),(List.replicate (lenI x).toNat ((0 : Int),((0 : Int),((0 : Int),((0 : Int),((0 : Int),((0 : Int),((0 : Int),((0 : Int),(0 : Int)))))))))))) else none) else none)
def m_w44q := p_w44q FU
def a_w44q : Ann := (.node .leaf (.node .leaf (.node (.node .leaf (.loop [.slot 4 (.int .i64),.row 0 120 Kd15] (rg 8 14) .leaf)) .leaf)))
def S_w44q : FSpec := ⟨[.val Kd12],[Kd11],m_w44q⟩
def p_w45q (_ : Nat) (x : Ty12) : Option Ty12 :=
((m_w23q x.1).bind fun r1 =>
((m_w30q x.2.1).bind fun r2 =>
((m_w36q x.2.2.1).bind fun r3 =>
((m_w42q x.2.2.2.1).bind fun r4 =>
((m_w44q x.2.2.2.2).bind fun r5 =>
some (r1,(r2,(r3,(r4,r5)))))))))
def m_w45q := p_w45q FU
def a_w45q : Ann := .leaf
def S_w45q : FSpec := ⟨[.val Kd1],[(.pair Kd23 (.pair Kd2 (.pair Kd10 (.pair Kd6 Kd11))))],m_w45q⟩
def p_w46q (_ : Nat) (x : (Int × (Int × Int))) : Option Bool :=
(cond (decide (x.1 ≥ x.2.1))
 (some (decide (x.1 ≤ x.2.2)))
 (some false))
def m_w46q := p_w46q FU
def a_w46q : Ann := .leaf
def S_w46q : FSpec := ⟨[.val (.int .i64),.val (.int .i64),.val (.int .i64)],[.bool],m_w46q⟩
def p_w47q (_ : Nat) (x : Int) : Option Bool :=
((m_w46q (x,(1 : Int),(1000000000 : Int))).bind fun r1 =>
some r1)
def m_w47q := p_w47q FU
def a_w47q : Ann := .leaf
def S_w47q : FSpec := ⟨[.val (.int .i64)],[.bool],m_w47q⟩
def p_w48q (_ : Nat) (x : Ty72) : Option Int :=
(Option.bind (α := Bool)
 ((m_w46q (x.1,(0 : Int),(2 : Int))).bind fun r5 =>
 (cond (!r5)
 (some true)
 ((m_w46q (x.2.1,(0 : Int),(5 : Int))).bind fun r6 =>
 (cond (!r6)
 (some true)
 ((m_w46q (x.2.2.1,(0 : Int),(2 : Int))).bind fun r7 =>
 (cond (!r7)
 (some true)
 ((m_w46q (x.2.2.2,(-1000000000000 : Int),(1000000000000 : Int))).bind fun r8 =>
 some (!r8)))))))) fun j9 =>
(cond j9
 (some (3 : Int))
 (cond (x.2.2.2 == 0)
 (some (1 : Int))
 (some (0 : Int)))))
def m_w48q := p_w48q FU
def a_w48q : Ann := (.node .leaf (.node (.join [.slot 24 .bool] (rg 3 21) .leaf .leaf) .leaf))
def S_w48q : FSpec := ⟨[.val Kd31],[(.int .i64)],m_w48q⟩
def l_w49q_1 (n : Nat) (z225_1 : Int) (x_2 : Ty70) (y248_1 : Int) (y248_2_1 : Int) (y248_2_2_1 : Int) (z0 : Int) : Option (Unit ⊕ ((List Int) ⊕ ((List Int) ⊕ Int))) :=
(lp (fun rec262 (z261 : Int) =>
 (cond (decide (z261 < z225_1))
 ((geti x_2 z261).bind fun y263 =>
 (Option.bind (α := Bool)
 (cond (y263.1 == y248_1)
 (cond (y263.2.1 == y248_2_1)
 (some (y263.2.2.1 == y248_2_2_1))
 (some false))
 (some false)) fun j264 =>
 (cond j264
 (some (Sum.inr (Sum.inr (Sum.inr (7 : Int)))))
 (rec262 (IntKind.wrap .i64 (z261 + 1))))))
 (some (Sum.inl ())))) n z0)
def l_w49q_2 (n : Nat) (x_2 : Ty70) (z0 : (Int × (List Int))) : Option ((List Int) ⊕ Int) :=
(lp (fun rec226 (z225 : (Int × (List Int))) =>
 (cond (decide (z225.1 < (lenI x_2)))
 (Option.bind (α := ((List Int) ⊕ ((List Int) ⊕ Int)))
 ((geti x_2 z225.1).bind fun y248 =>
 ((m_w48q y248).bind fun r249 =>
 (cond (!(r249 == 0))
 (some (Sum.inr (Sum.inr r249)))
 (Option.bind (α := (Unit ⊕ ((List Int) ⊕ ((List Int) ⊕ Int))))
 (l_w49q_1 n z225.1 x_2 y248.1 y248.2.1 y248.2.2.1 (0 : Int))
 (Sum.elim (fun j266 =>
 ((geti z225.2 y248.2.2.1).bind fun _ =>
 ((z225.2[y248.2.2.1.toNat]?).bind fun y267 =>
 ((geti z225.2 y248.2.2.1).bind fun _ =>
 ((z225.2[y248.2.2.1.toNat]?).bind fun y268 =>
 some (Sum.inl (z225.2.set y248.2.2.1.toNat (IntKind.wrap .i64 (y267 + y248.2.2.2))))))))) some)))))
 (Sum.elim (fun j269 =>
 rec226 (IntKind.wrap .i64 (z225.1 + 1),j269)) some))
 (some (Sum.inl z225.2)))) n z0)
def l_w49q_3 (n : Nat) (j271 : (List Int)) (z0 : Int) : Option Int :=
(lp (fun rec275 (z274 : Int) =>
 (cond (decide (z274 < (lenI j271)))
 ((geti j271 z274).bind fun _ =>
 ((j271[z274.toNat]?).bind fun y276 =>
 (cond (!(y276 == 0))
 (some (1 : Int))
 (rec275 (IntKind.wrap .i64 (z274 + 1))))))
 (some (0 : Int)))) n z0)
def p_w49q (n : Nat) (x : Ty65) : Option Int :=
((m_w47q x.1).bind fun r1 =>
(cond (!r1)
 (some (3 : Int))
 (Option.bind (α := Bool)
 (cond (decide ((lenI x.2) < 2))
 (some true)
 (some (decide ((lenI x.2) > 8)))) fun j2 =>
 (cond j2
 (some (2 : Int))
 (if (3 : Int) = (3 : Int) then (if 0 ≤ (3 : Int) then chk (Nat.ble (8 * (3 : Int).toNat) maxBytes)
 (Option.bind (α := ((List Int) ⊕ Int))
 (l_w49q_2 n x.2 ((0 : Int),(List.replicate (3 : Int).toNat (0 : Int))))
 (Sum.elim (fun j271 =>
 (l_w49q_3 n j271 (0 : Int))) some)) else none) else none)))))
def m_w49q := p_w49q FU
def a_w49q : Ann := (.node .leaf (.node .leaf (.node (.join [.slot 23 .bool] (rg 14 9) .leaf .leaf) (.node .leaf (.joinx [.row 1 2 (.int .i64)] ([2,4,5,6,7,8] ++ rg 25 58) (.node .leaf (.loop [.slot 4 (.int .i64),.row 1 2 (.int .i64)] ([2,5,6,7,8] ++ rg 25 58) (.node .leaf (.joinx [.row 1 2 (.int .i64)] ([2,5,6,7,8] ++ rg 32 9 ++ rg 42 41) (.node .leaf (.node .leaf (.joinx [] ([2,7,8] ++ rg 42 29) (.node .leaf (.loop [.slot 7 (.int .i64)] ([2,8] ++ rg 42 29) (.node .leaf (.node (.node .leaf (.join [.slot 70 .bool] (rg 52 18) .leaf .leaf)) .leaf)))) .leaf))) .leaf)))) (.node (.node .leaf (.loop [.slot 9 (.int .i64)] ([2] ++ rg 83 11) .leaf)) .leaf))))))
def S_w49q : FSpec := ⟨[.val Kd26],[(.int .i64)],m_w49q⟩
def l_w50q_1 (n : Nat) (x_1 : (List Int)) (x_2 : Int) (z0 : Int) : Option Int :=
(lp (fun rec16 (z15 : Int) =>
 (Option.bind (α := Bool)
 (cond (decide (z15 < (lenI x_1)))
 ((geti x_1 z15).bind fun y18 =>
 some (decide (y18 < x_2)))
 (some false)) fun j19 =>
 (cond j19
 (rec16 (IntKind.wrap .i64 (z15 + 1)))
 (some z15)))) n z0)
def p_w50q (n : Nat) (x : ((List Int) × Int)) : Option (List Int) :=
(Option.bind (α := Int)
 (l_w50q_1 n x.1 x.2 (0 : Int)) fun j21 =>
(Option.bind (α := Bool)
 (cond (decide (j21 < (lenI x.1)))
 ((geti x.1 j21).bind fun y23 =>
 some (y23 == x.2))
 (some false)) fun j24 =>
(cond j24
 (some x.1)
 (chk (bndB none (some j21) none x.1.length)
 (chk (bndB (some j21) none none x.1.length)
 (chk (Nat.ble ((cutL none (some j21) x.1).length * 8) maxBytes)
 (chk (Nat.ble (((cutL none (some j21) x.1).length + [x.2].length) * 8) maxBytes)
 (chk (Nat.ble ((((cutL none (some j21) x.1) ++ [x.2]).length + (cutL (some j21) none x.1).length) * 8) maxBytes)
 (some (((cutL none (some j21) x.1) ++ [x.2]) ++ (cutL (some j21) none x.1)))))))))))
def m_w50q := p_w50q FU
def a_w50q : Ann := (.node .leaf (.node .leaf (.join [.slot 5 (.int .i64)] (rg 6 14) (.loop [.slot 5 (.int .i64)] (rg 6 14) (.node (.join [.slot 17 .bool] (rg 6 11) .leaf .leaf) .leaf)) (.node (.join [.slot 31 .bool] (rg 20 11) .leaf .leaf) (.node (.lazy 39 (.lazy 33 .leaf)) .leaf)))))
def S_w50q : FSpec := ⟨[.val Kd37,.val (.int .i64)],[Kd37],m_w50q⟩
def l_w51q_1 (n : Nat) (x_2 : Ty70) (z0 : ((List Int) × Int)) : Option (List Int) :=
(lp (fun rec8 (z7 : ((List Int) × Int)) =>
 (cond (decide (z7.2 < (lenI x_2)))
 ((geti x_2 z7.2).bind fun y9 =>
 ((m_w50q (z7.1,y9.1)).bind fun r10 =>
 rec8 (r10,IntKind.wrap .i64 (z7.2 + 1))))
 (some z7.1))) n z0)
def p_w51q (n : Nat) (x : Ty65) : Option (List Int) :=
(l_w51q_1 n x.2 (([] : List Int),(0 : Int)))
def m_w51q := p_w51q FU
def a_w51q : Ann := (.node .leaf (.node .leaf (.node (.node .leaf (.loop [.slot 3 Kd37,.slot 4 (.int .i64)] (rg 6 15) .leaf)) .leaf)))
def S_w51q : FSpec := ⟨[.val Kd26],[Kd37],m_w51q⟩
def l_w52q_1 (n : Nat) (x_1 : Ty62) (x_2_1 : Ty23) (z0 : Int) : Option Int :=
(lp (fun rec10 (z9 : Int) =>
 (cond (decide (z9 < (lenI x_1)))
 ((geti x_1 z9).bind fun y11 =>
 ((m_w49q y11).bind fun r12 =>
 (cond (!(r12 == 0))
 (some r12)
 ((m_w51q y11).bind fun r13 =>
 ((geti r13 (IntKind.wrap .i64 ((lenI r13) - 1))).bind fun y14 =>
 (cond (decide (y14 ≥ (lenI x_2_1)))
 (some (4 : Int))
 (Option.bind (α := Bool)
 (cond (decide (z9 > 0))
 ((geti x_1 (IntKind.wrap .i64 (z9 - 1))).bind fun y16 =>
 some (decide (y11.1 ≤ y16.1)))
 (some false)) fun j17 =>
 (cond j17
 (some (1 : Int))
 (rec10 (IntKind.wrap .i64 (z9 + 1)))))))))))
 (some (0 : Int)))) n z0)
def p_w52q (n : Nat) (x : Ty12) : Option Int :=
(l_w52q_1 n x.1 x.2.1 (0 : Int))
def m_w52q := p_w52q FU
def a_w52q : Ann := (.node .leaf (.node (.node .leaf (.loop [.slot 3 (.int .i64)] ([2] ++ rg 4 54) (.node .leaf (.node (.node .leaf (.node .leaf (.node .leaf (.node .leaf (.join [.slot 57 .bool] (rg 42 15) .leaf .leaf))))) .leaf)))) .leaf))
def S_w52q : FSpec := ⟨[.rp Kd1],[(.int .i64)],m_w52q⟩
def p_w53q (_ : Nat) (x : (Int × Int)) : Option Bool :=
((m_w46q (x.1,(0 : Int),(5 : Int))).bind fun r1 =>
(cond r1
 ((m_w46q (x.2,(0 : Int),(2 : Int))).bind fun r2 =>
 some r2)
 (some false)))
def m_w53q := p_w53q FU
def a_w53q : Ann := .leaf
def S_w53q : FSpec := ⟨[.val (.int .i64),.val (.int .i64)],[.bool],m_w53q⟩
def l_w54q_1 (n : Nat) (x : Ty74) (z0 : Int) : Option Int :=
(lp (fun rec14 (z13 : Int) =>
 (cond (decide (z13 < (lenI x)))
 ((geti x z13).bind fun y15 =>
 (Option.bind (α := Bool)
 ((m_w53q (y15.1,y15.2.1)).bind fun r18 =>
 (cond (!r18)
 (some true)
 ((m_w46q (y15.2.2,(1 : Int),(1000000000000 : Int))).bind fun r19 =>
 some (!r19)))) fun j20 =>
 (cond j20
 (some (3 : Int))
 (Option.bind (α := Bool)
 (cond (decide (z13 > 0))
 ((geti x (IntKind.wrap .i64 (z13 - 1))).bind fun y23 =>
 ((geti x (IntKind.wrap .i64 (z13 - 1))).bind fun y24 =>
 some (decide ((IntKind.wrap .i64 ((IntKind.wrap .i64 (y15.1 * (3 : Int))) + y15.2.1)) ≤ (IntKind.wrap .i64 ((IntKind.wrap .i64 (y23.1 * (3 : Int))) + y24.2.1))))))
 (some false)) fun j25 =>
 (cond j25
 (some (1 : Int))
 (rec14 (IntKind.wrap .i64 (z13 + 1))))))))
 (some (0 : Int)))) n z0)
def p_w54q (n : Nat) (x : Ty74) : Option Int :=
(cond (decide ((lenI x) > 18))
 (some (2 : Int))
 (l_w54q_1 n x (0 : Int)))
def m_w54q := p_w54q FU
def a_w54q : Ann := (.node .leaf (.node .leaf (.node (.node .leaf (.loop [.slot 3 (.int .i64)] ([2,4] ++ rg 8 47) (.node .leaf (.node (.node .leaf (.node (.join [.slot 29 .bool] (rg 18 11) .leaf .leaf) (.join [.slot 54 .bool] (rg 30 24) .leaf .leaf))) .leaf)))) .leaf)))
def S_w54q : FSpec := ⟨[.val Kd32],[(.int .i64)],m_w54q⟩
def p_w55q (_ : Nat) (x : Ty71) : Option Int :=
((m_w46q (x.1,(0 : Int),(2 : Int))).bind fun r1 =>
(cond (!r1)
 (some (3 : Int))
 ((m_w54q x.2).bind fun r2 =>
 some r2)))
def m_w55q := p_w55q FU
def a_w55q : Ann := .leaf
def S_w55q : FSpec := ⟨[.val (.int .i64),.val Kd32],[(.int .i64)],m_w55q⟩
def l_w56q_1 (n : Nat) (x : (List (Int × Int))) (z0 : Int) : Option Int :=
(lp (fun rec17 (z16 : Int) =>
 (cond (decide (z16 < (lenI x)))
 (Option.bind (α := Bool)
 ((geti x z16).bind fun y22 =>
 ((m_w47q y22.1).bind fun r23 =>
 (cond (!r23)
 (some true)
 ((geti x z16).bind fun y24 =>
 ((m_w46q (y24.2,(1 : Int),(2 : Int))).bind fun r25 =>
 some (!r25)))))) fun j26 =>
 (cond j26
 (some (3 : Int))
 (Option.bind (α := Bool)
 (cond (decide (z16 > 0))
 ((geti x z16).bind fun y29 =>
 ((geti x (IntKind.wrap .i64 (z16 - 1))).bind fun y30 =>
 some (decide (y29.1 ≤ y30.1))))
 (some false)) fun j31 =>
 (cond j31
 (some (1 : Int))
 (rec17 (IntKind.wrap .i64 (z16 + 1)))))))
 (some (0 : Int)))) n z0)
def p_w56q (n : Nat) (x : (List (Int × Int))) : Option Int :=
(l_w56q_1 n x (0 : Int))
def m_w56q := p_w56q FU
def a_w56q : Ann := (.node .leaf (.node (.node .leaf (.loop [.slot 3 (.int .i64)] ([2] ++ rg 4 38) (.node .leaf (.node (.node (.join [.slot 25 .bool] (rg 10 15) .leaf .leaf) (.join [.slot 41 .bool] (rg 26 15) .leaf .leaf)) .leaf)))) .leaf))
def S_w56q : FSpec := ⟨[.val Kd34],[(.int .i64)],m_w56q⟩
def l_w57q_1 (n : Nat) (x_2 : Int) (x_1_2 : Ty70) (z0 : Ty64) : Option Ty70 :=
(lp (fun rec5 (z4 : Ty64) =>
 (cond (decide (z4.2 < (lenI x_1_2)))
 ((geti x_1_2 z4.2).bind fun y6 =>
 (cond (y6.1 == x_2)
 ((geti x_1_2 z4.2).bind fun y7 =>
 (chk (Nat.ble ((z4.1.length + [y7].length) * 32) maxBytes)
 (rec5 ((z4.1 ++ [y7]),IntKind.wrap .i64 (z4.2 + 1)))))
 (rec5 (z4.1,IntKind.wrap .i64 (z4.2 + 1)))))
 (some z4.1))) n z0)
def p_w57q (n : Nat) (x : Ty61) : Option Ty70 :=
(l_w57q_1 n x.2 x.1.2 (([] : List Ty72),(0 : Int)))
def m_w57q := p_w57q FU
def a_w57q : Ann := (.node .leaf (.node .leaf (.node (.node .leaf (.loop [.slot 5 Kd29,.slot 6 (.int .i64)] (rg 8 23) .leaf)) .leaf)))
def S_w57q : FSpec := ⟨[.val Kd26,.val (.int .i64)],[Kd29],m_w57q⟩
def l_w58q_1 (n : Nat) (x_1 : (List (Int × Int))) (x_2 : Int) (z0 : Int) : Option Int :=
(lp (fun rec5 (z4 : Int) =>
 (cond (decide (z4 < (lenI x_1)))
 ((geti x_1 z4).bind fun y6 =>
 (cond (y6.1 == x_2)
 ((geti x_1 z4).bind fun y7 =>
 some y7.2)
 (rec5 (IntKind.wrap .i64 (z4 + 1)))))
 (some (0 : Int)))) n z0)
def p_w58q (n : Nat) (x : Ty75) : Option Int :=
(l_w58q_1 n x.1 x.2 (0 : Int))
def m_w58q := p_w58q FU
def a_w58q : Ann := (.node .leaf (.node (.node .leaf (.loop [.slot 5 (.int .i64)] ([4] ++ rg 6 18) .leaf)) .leaf))
def S_w58q : FSpec := ⟨[.val Kd34,.val (.int .i64)],[(.int .i64)],m_w58q⟩
def l_w59q_1 (n : Nat) (x_2 : Int) (x_1_2_2_2_1 : Ty62) (z0 : Int) : Option Bool :=
(lp (fun rec4 (z3 : Int) =>
 (cond (decide (z3 < (lenI x_1_2_2_2_1)))
 ((geti x_1_2_2_2_1 z3).bind fun y5 =>
 (cond (y5.1 == x_2)
 (some true)
 (rec4 (IntKind.wrap .i64 (z3 + 1)))))
 (some false))) n z0)
def p_w59q (n : Nat) (x : Ty22) : Option Bool :=
(l_w59q_1 n x.2 x.1.2.2.2.1 (0 : Int))
def m_w59q := p_w59q FU
def a_w59q : Ann := (.node .leaf (.node (.node .leaf (.loop [.slot 5 (.int .i64)] ([4] ++ rg 6 15) .leaf)) .leaf))
def S_w59q : FSpec := ⟨[.val Kd5,.val (.int .i64)],[.bool],m_w59q⟩
def l_w60q_1 (n : Nat) (x_1 : (List Int)) (x_2 : Int) (z0 : Int) : Option Bool :=
(lp (fun rec4 (z3 : Int) =>
 (cond (decide (z3 < (lenI x_1)))
 ((geti x_1 z3).bind fun y5 =>
 (cond (y5 == x_2)
 (some true)
 (rec4 (IntKind.wrap .i64 (z3 + 1)))))
 (some false))) n z0)
def p_w60q (n : Nat) (x : ((List Int) × Int)) : Option Bool :=
(l_w60q_1 n x.1 x.2 (0 : Int))
def m_w60q := p_w60q FU
def a_w60q : Ann := (.node .leaf (.node (.node .leaf (.loop [.slot 5 (.int .i64)] ([4] ++ rg 6 12) .leaf)) .leaf))
def S_w60q : FSpec := ⟨[.val Kd37,.val (.int .i64)],[.bool],m_w60q⟩
def l_w61q_1 (n : Nat) (x_2_2_2_2_1 : (List (Int × Int))) (z0 : (Int × Int)) : Option Int :=
(lp (fun rec10 (z9 : (Int × Int)) =>
 (cond (decide (z9.2 < (lenI x_2_2_2_2_1)))
 ((geti x_2_2_2_2_1 z9.2).bind fun y11 =>
 (cond (y11.2 == 1)
 (rec10 (IntKind.wrap .i64 (z9.1 + 1),IntKind.wrap .i64 (z9.2 + 1)))
 (rec10 (z9.1,IntKind.wrap .i64 (z9.2 + 1)))))
 (some z9.1))) n z0)
def l_w61q_2 (n : Nat) (x_2_2_2_2_1 : (List (Int × Int))) (x_2_2_2_2_2 : (List Int)) (z0 : Int) : Option (Unit ⊕ Bool) :=
(lp (fun rec47 (z46 : Int) =>
 (cond (decide (z46 < (lenI x_2_2_2_2_2)))
 (Option.bind (α := Bool)
 ((geti x_2_2_2_2_2 z46).bind fun y52 =>
 ((m_w58q (x_2_2_2_2_1,y52)).bind fun r53 =>
 (cond (!(r53 == 1))
 (some true)
 (chk (bndB none (some z46) none x_2_2_2_2_2.length)
 ((geti x_2_2_2_2_2 z46).bind fun y54 =>
 ((m_w60q ((cutL none (some z46) x_2_2_2_2_2),y54)).bind fun r55 =>
 some r55)))))) fun j56 =>
 (cond j56
 (some (Sum.inr false))
 (rec47 (IntKind.wrap .i64 (z46 + 1)))))
 (some (Sum.inl ())))) n z0)
def p_w61q (n : Nat) (x : Ty25) : Option Bool :=
(Option.bind (α := Int)
 (l_w61q_1 n x.2.2.2.2.1 ((0 : Int),(0 : Int))) fun j13 =>
(Option.bind (α := (Unit ⊕ Bool))
 (l_w61q_2 n x.2.2.2.2.1 x.2.2.2.2.2 (0 : Int))
 (Sum.elim (fun j58 =>
some (j13 == (lenI x.2.2.2.2.2))) some)))
def m_w61q := p_w61q FU
def a_w61q : Ann := (.node .leaf (.node .leaf (.join [.slot 3 (.int .i64)] ([4] ++ rg 6 16) (.node .leaf (.loop [.slot 3 (.int .i64),.slot 4 (.int .i64)] (rg 6 16) .leaf)) (.joinx [] ([2,5] ++ rg 22 28) (.node .leaf (.loop [.slot 5 (.int .i64)] ([2] ++ rg 22 28) (.node .leaf (.node (.join [.slot 49 .bool] (rg 29 20) .leaf .leaf) .leaf)))) .leaf))))
def S_w61q : FSpec := ⟨[.val Kd5],[.bool],m_w61q⟩
def l_w62q_1 (n : Nat) (x_1 : Ty70) (x_2 : Ty70) (z47 : Int) (z0 : Int) : Option (Unit ⊕ Bool) :=
(lp (fun rec82 (z81 : Int) =>
 (cond (decide (z81 < (lenI x_2)))
 (Option.bind (α := Bool)
 ((geti x_1 z47).bind fun y87 =>
 ((geti x_2 z81).bind fun y88 =>
 (cond (y87.2.1 == y88.2.1)
 ((geti x_1 z47).bind fun y89 =>
 ((geti x_2 z81).bind fun y90 =>
 some (y89.2.2.1 == y90.2.2.1)))
 (some false)))) fun j91 =>
 (cond j91
 (some (Sum.inr true))
 (rec82 (IntKind.wrap .i64 (z81 + 1)))))
 (some (Sum.inl ())))) n z0)
def l_w62q_2 (n : Nat) (x_1 : Ty70) (x_2 : Ty70) (z0 : Int) : Option Bool :=
(lp (fun rec48 (z47 : Int) =>
 (cond (decide (z47 < (lenI x_1)))
 (Option.bind (α := (Unit ⊕ Bool))
 (l_w62q_1 n x_1 x_2 z47 (0 : Int))
 (Sum.elim (fun j93 =>
 rec48 (IntKind.wrap .i64 (z47 + 1))) some))
 (some false))) n z0)
def p_w62q (n : Nat) (x : Ty51) : Option Bool :=
(l_w62q_2 n x.1 x.2 (0 : Int))
def m_w62q := p_w62q FU
def a_w62q : Ann := (.node .leaf (.node (.node .leaf (.loop [.slot 5 (.int .i64)] ([4] ++ rg 6 37) (.node .leaf (.joinx [] ([4,6] ++ rg 13 30) (.node .leaf (.loop [.slot 6 (.int .i64)] ([4] ++ rg 13 30) (.node .leaf (.node (.join [.slot 42 .bool] (rg 19 23) .leaf .leaf) .leaf)))) .leaf)))) .leaf))
def S_w62q : FSpec := ⟨[.val Kd30,.val Kd30],[.bool],m_w62q⟩
def l_w63q_1 (n : Nat) (x_1 : Ty74) (x_2_1 : Int) (x_2_2 : Int) (z0 : Int) : Option Int :=
(lp (fun rec9 (z8 : Int) =>
 (cond (decide (z8 < (lenI x_1)))
 (Option.bind (α := Bool)
 ((geti x_1 z8).bind fun y12 =>
 (cond (y12.1 == x_2_1)
 ((geti x_1 z8).bind fun y13 =>
 some (y13.2.1 == x_2_2))
 (some false))) fun j14 =>
 (cond j14
 ((geti x_1 z8).bind fun y15 =>
 some y15.2.2)
 (rec9 (IntKind.wrap .i64 (z8 + 1)))))
 (some (0 : Int)))) n z0)
def p_w63q (n : Nat) (x : Ty67) : Option Int :=
(l_w63q_1 n x.1 x.2.1 x.2.2 (0 : Int))
def m_w63q := p_w63q FU
def a_w63q : Ann := (.node .leaf (.node (.node .leaf (.loop [.slot 7 (.int .i64)] ([6] ++ rg 8 27) (.node .leaf (.node (.join [.slot 29 .bool] (rg 14 15) .leaf .leaf) .leaf)))) .leaf))
def S_w63q : FSpec := ⟨[.val Kd32,.val (.int .i64),.val (.int .i64)],[(.int .i64)],m_w63q⟩
def l_w64q_1 (n : Nat) (x_1 : Ty74) (x_2 : Ty70) (z0 : Int) : Option Int :=
(lp (fun rec7 (z6 : Int) =>
 (cond (decide (z6 < (lenI x_2)))
 ((geti x_2 z6).bind fun y8 =>
 ((geti x_2 z6).bind fun y9 =>
 ((geti x_2 z6).bind fun y10 =>
 ((m_w63q (x_1,y8.2.1,y9.2.2.1)).bind fun r11 =>
 (cond (decide ((IntKind.wrap .i64 (r11 + y10.2.2.2)) < 0))
 (some (6 : Int))
 (cond (decide ((IntKind.wrap .i64 (r11 + y10.2.2.2)) > 1000000000000))
 (some (3 : Int))
 (rec7 (IntKind.wrap .i64 (z6 + 1)))))))))
 (some (0 : Int)))) n z0)
def p_w64q (n : Nat) (x : Ty58) : Option Int :=
(l_w64q_1 n x.1 x.2 (0 : Int))
def m_w64q := p_w64q FU
def a_w64q : Ann := (.node .leaf (.node (.node .leaf (.loop [.slot 5 (.int .i64)] ([4] ++ rg 6 29) .leaf)) .leaf))
def S_w64q : FSpec := ⟨[.val Kd32,.val Kd30],[(.int .i64)],m_w64q⟩
def l_w65q_1 (n : Nat) (x_1 : Int) (x_2_2_1 : (List (Int × Int))) (x_2_2_2_1 : Ty62) (x_2_2_2_2_1 : (List (Int × Int))) (z0 : Int) : Option (Unit ⊕ Int) :=
(lp (fun rec58 (z57 : Int) =>
 (cond (decide (z57 < (lenI x_2_2_2_1)))
 ((geti x_2_2_2_1 z57).bind fun y59 =>
 ((m_w49q y59).bind fun r60 =>
 (cond (!(r60 == 0))
 (some (Sum.inr r60))
 (Option.bind (α := Bool)
 (cond (decide (z57 > 0))
 ((geti x_2_2_2_1 (IntKind.wrap .i64 (z57 - 1))).bind fun y68 =>
 (cond (decide (y59.1 ≤ y68.1))
 (some true)
 ((m_w57q (y59,x_1)).bind fun r69 =>
 (cond ((lenI r69) == 0)
 (some true)
 ((m_w58q (x_2_2_1,y59.1)).bind fun r70 =>
 (cond (!(r70 == 1))
 (some true)
 ((m_w58q (x_2_2_2_2_1,y59.1)).bind fun r71 =>
 some (!(r71 == 0)))))))))
 ((m_w57q (y59,x_1)).bind fun r72 =>
 (cond ((lenI r72) == 0)
 (some true)
 ((m_w58q (x_2_2_1,y59.1)).bind fun r73 =>
 (cond (!(r73 == 1))
 (some true)
 ((m_w58q (x_2_2_2_2_1,y59.1)).bind fun r74 =>
 some (!(r74 == 0)))))))) fun j75 =>
 (cond j75
 (some (Sum.inr (1 : Int)))
 (rec58 (IntKind.wrap .i64 (z57 + 1))))))))
 (some (Sum.inl ())))) n z0)
def l_w65q_2 (n : Nat) (x : Ty25) (z0 : Int) : Option (Unit ⊕ Int) :=
(lp (fun rec102 (z101 : Int) =>
 (cond (decide (z101 < (lenI x.2.2.1)))
 ((geti x.2.2.1 z101).bind fun y103 =>
 (Option.bind (α := Bool)
 (cond (y103.2 == 1)
 ((m_w59q (x,y103.1)).bind fun r106 =>
 (cond (!r106)
 ((m_w58q (x.2.2.2.2.1,y103.1)).bind fun r107 =>
 some (r107 == 0))
 (some false)))
 (some false)) fun j108 =>
 (cond j108
 (some (Sum.inr (1 : Int)))
 (rec102 (IntKind.wrap .i64 (z101 + 1))))))
 (some (Sum.inl ())))) n z0)
def l_w65q_3 (n : Nat) (z204 : Int) (x_1 : Int) (x_2_2_2_1 : Ty62) (z0 : Int) : Option (Unit ⊕ (Unit ⊕ Int)) :=
(lp (fun rec227 (z226 : Int) =>
 (cond (decide (z226 < z204))
 ((geti x_2_2_2_1 z204).bind fun y228 =>
 ((geti x_2_2_2_1 z226).bind fun y229 =>
 ((m_w57q (y228,x_1)).bind fun r230 =>
 ((m_w57q (y229,x_1)).bind fun r231 =>
 ((m_w62q (r230,r231)).bind fun r232 =>
 (cond r232
 (some (Sum.inr (Sum.inr (7 : Int))))
 (rec227 (IntKind.wrap .i64 (z226 + 1)))))))))
 (some (Sum.inl ())))) n z0)
def l_w65q_4 (n : Nat) (x_1 : Int) (x_2_2_2_1 : Ty62) (z0 : Int) : Option (Unit ⊕ Int) :=
(lp (fun rec205 (z204 : Int) =>
 (cond (decide (z204 < (lenI x_2_2_2_1)))
 (Option.bind (α := (Unit ⊕ (Unit ⊕ Int)))
 (l_w65q_3 n z204 x_1 x_2_2_2_1 (0 : Int))
 (Sum.elim (fun j234 =>
 rec205 (IntKind.wrap .i64 (z204 + 1))) some))
 (some (Sum.inl ())))) n z0)
def l_w65q_5 (n : Nat) (x_1 : Int) (x_2_1 : Ty74) (x_2_2_2_1 : Ty62) (z0 : Int) : Option Int :=
(lp (fun rec242 (z241 : Int) =>
 (cond (decide (z241 < (lenI x_2_2_2_1)))
 ((geti x_2_2_2_1 z241).bind fun y243 =>
 ((m_w57q (y243,x_1)).bind fun r244 =>
 ((m_w64q (x_2_1,r244)).bind fun r245 =>
 (cond (!(r245 == 0))
 (some r245)
 (rec242 (IntKind.wrap .i64 (z241 + 1)))))))
 (some (0 : Int)))) n z0)
def p_w65q (n : Nat) (x : Ty25) : Option Int :=
(Option.bind (α := (Unit ⊕ Int))
 (l_w65q_1 n x.1 x.2.2.1 x.2.2.2.1 x.2.2.2.2.1 (0 : Int))
 (Sum.elim (fun j77 =>
(Option.bind (α := (Unit ⊕ Int))
 (l_w65q_2 n x (0 : Int))
 (Sum.elim (fun j110 =>
((m_w61q x).bind fun r111 =>
(cond (!r111)
 (some (1 : Int))
 (Option.bind (α := (Unit ⊕ Int))
 (l_w65q_4 n x.1 x.2.2.2.1 (0 : Int))
 (Sum.elim (fun j236 =>
 (l_w65q_5 n x.1 x.2.1 x.2.2.2.1 (0 : Int))) some))))) some))) some))
def m_w65q := p_w65q FU
def a_w65q : Ann := (.node .leaf (.joinx [] ([2,3,4,5] ++ rg 12 55) (.node .leaf (.loop [.slot 3 (.int .i64)] ([2,4,5] ++ rg 12 55) (.node .leaf (.node (.node .leaf (.node .leaf (.join [.slot 66 .bool] (rg 29 37) .leaf .leaf))) .leaf)))) (.joinx [] ([2,6,7] ++ rg 67 30) (.node .leaf (.loop [.slot 6 (.int .i64)] ([2,7] ++ rg 67 30) (.node .leaf (.node (.node .leaf (.join [.slot 96 .bool] (rg 79 17) .leaf .leaf)) .leaf)))) (.node .leaf (.joinx [] ([2,8,9] ++ rg 100 29) (.node .leaf (.loop [.slot 8 (.int .i64)] ([2,9] ++ rg 100 29) (.node .leaf (.joinx [] ([2,9] ++ rg 107 22) (.node .leaf (.loop [.slot 9 (.int .i64)] ([2] ++ rg 107 22) .leaf)) .leaf)))) (.node (.node .leaf (.loop [.slot 10 (.int .i64)] ([2,11] ++ rg 129 21) .leaf)) .leaf))))))
def S_w65q : FSpec := ⟨[.val Kd5],[(.int .i64)],m_w65q⟩
def p_w66q (_ : Nat) (x : Ty25) : Option Int :=
((m_w55q (x.1,x.2.1)).bind fun r1 =>
(cond (!(r1 == 0))
 (some r1)
 (Option.bind (α := Bool)
 (cond (decide ((lenI x.2.2.1) > 100))
 (some true)
 (cond (decide ((lenI x.2.2.2.1) > 100))
 (some true)
 (cond (decide ((lenI x.2.2.2.2.1) > 100))
 (some true)
 (some (decide ((lenI x.2.2.2.2.2) > 100)))))) fun j2 =>
 (cond j2
 (some (2 : Int))
 ((m_w56q x.2.2.1).bind fun r3 =>
 (cond (!(r3 == 0))
 (some r3)
 ((m_w56q x.2.2.2.2.1).bind fun r4 =>
 (cond (!(r4 == 0))
 (some r4)
 ((m_w65q x).bind fun r5 =>
 some r5)))))))))
def m_w66q := p_w66q FU
def a_w66q : Ann := (.node .leaf (.node .leaf (.node (.join [.slot 35 .bool] (rg 14 21) .leaf .leaf) .leaf)))
def S_w66q : FSpec := ⟨[.val Kd5],[(.int .i64)],m_w66q⟩
def l_w67q_1 (n : Nat) (x_2 : Int) (x_1_1 : Ty62) (z0 : Int) : Option Int :=
(lp (fun rec4 (z3 : Int) =>
 (cond (decide (z3 < (lenI x_1_1)))
 ((geti x_1_1 z3).bind fun y5 =>
 (cond (y5.1 == x_2)
 (some z3)
 (rec4 (IntKind.wrap .i64 (z3 + 1)))))
 (some (-1 : Int)))) n z0)
def p_w67q (n : Nat) (x : Ty11) : Option Int :=
(l_w67q_1 n x.2 x.1.1 (0 : Int))
def m_w67q := p_w67q FU
def a_w67q : Ann := (.node .leaf (.node (.node .leaf (.loop [.slot 5 (.int .i64)] ([4] ++ rg 6 20) .leaf)) .leaf))
def S_w67q : FSpec := ⟨[.rp Kd1,.val (.int .i64)],[(.int .i64)],m_w67q⟩
def p_w68q (_ : Nat) (x : Ty10) : Option Bool :=
((m_w67q (x.1,x.2.1)).bind fun r1 =>
(cond (decide (r1 ≥ 0))
 ((geti x.1.1 r1).bind fun y2 =>
 ((m_w51q y2).bind fun r3 =>
 ((m_w60q (r3,x.2.2)).bind fun r4 =>
 some r4)))
 (some false)))
def m_w68q := p_w68q FU
def a_w68q : Ann := .leaf
def S_w68q : FSpec := ⟨[.rp Kd1,.val (.int .i64),.val (.int .i64)],[.bool],m_w68q⟩
def l_w69q_1 (n : Nat) (x_1_2 : Ty70) (x_2_2 : Ty70) (z0 : Int) : Option Bool :=
(lp (fun rec6 (z5 : Int) =>
 (cond (decide (z5 < (lenI x_1_2)))
 ((geti x_1_2 z5).bind fun y7 =>
 ((geti x_2_2 z5).bind fun y8 =>
 (cond (!((y7.1 == y8.1) && ((y7.2.1 == y8.2.1) && ((y7.2.2.1 == y8.2.2.1) && ((y7.2.2.2 == y8.2.2.2) && true)))))
 (some false)
 (rec6 (IntKind.wrap .i64 (z5 + 1))))))
 (some true))) n z0)
def p_w69q (n : Nat) (x : Ty38) : Option Bool :=
(Option.bind (α := Bool)
 (cond (!(x.1.1 == x.2.1))
 (some true)
 (some (!((lenI x.1.2) == (lenI x.2.2))))) fun j1 =>
(cond j1
 (some false)
 (l_w69q_1 n x.1.2 x.2.2 (0 : Int))))
def m_w69q := p_w69q FU
def a_w69q : Ann := (.node .leaf (.node (.join [.slot 19 .bool] (rg 6 13) .leaf .leaf) (.node (.node .leaf (.loop [.slot 5 (.int .i64)] ([4] ++ rg 20 18) .leaf)) .leaf)))
def S_w69q : FSpec := ⟨[.val Kd26,.val Kd26],[.bool],m_w69q⟩
def l_w70q_1 (n : Nat) (y128_1 : Int) (y128_2_2_1 : (List (Int × Int))) (y128_2_2_2_2_1 : (List (Int × Int))) (x : Ty12) (z0 : Int) : Option (Unit ⊕ (Unit ⊕ Int)) :=
(lp (fun rec142 (z141 : Int) =>
 (cond (decide (z141 < (lenI (y128_2_2_1 ++ y128_2_2_2_2_1))))
 ((geti (y128_2_2_1 ++ y128_2_2_2_2_1) z141).bind fun _ =>
 (((y128_2_2_1 ++ y128_2_2_2_2_1)[z141.toNat]?).bind fun y143 =>
 ((m_w68q (x,y143.1,y128_1)).bind fun r144 =>
 (cond (!r144)
 (some (Sum.inr (Sum.inr (1 : Int))))
 (rec142 (IntKind.wrap .i64 (z141 + 1)))))))
 (some (Sum.inl ())))) n z0)
def l_w70q_2 (n : Nat) (y128_2_2_2_1 : Ty62) (x : Ty12) (z0 : Int) : Option (Unit ⊕ Int) :=
(lp (fun rec158 (z157 : Int) =>
 (cond (decide (z157 < (lenI y128_2_2_2_1)))
 ((geti y128_2_2_2_1 z157).bind fun y159 =>
 ((m_w67q (x,y159.1)).bind fun r160 =>
 (Option.bind (α := Bool)
 (cond (decide (r160 < 0))
 (some true)
 ((geti x.1 r160).bind fun y164 =>
 ((geti y128_2_2_2_1 z157).bind fun y165 =>
 ((m_w69q (y164,y165)).bind fun r166 =>
 some (!r166))))) fun j167 =>
 (cond j167
 (some (Sum.inr (1 : Int)))
 (rec158 (IntKind.wrap .i64 (z157 + 1)))))))
 (some (Sum.inl ())))) n z0)
def l_w70q_3 (n : Nat) (x : Ty12) (z0 : Int) : Option Int :=
(lp (fun rec86 (z85 : Int) =>
 (cond (decide (z85 < (lenI x.2.1)))
 (Option.bind (α := (Unit ⊕ Int))
 ((geti x.2.1 z85).bind fun y128 =>
 ((m_w66q y128).bind fun r129 =>
 (cond (!(r129 == 0))
 (some (Sum.inr r129))
 (cond (!(y128.1 == z85))
 (some (Sum.inr (1 : Int)))
 (chk (Nat.ble (y128.2.2.1.length * 16) maxBytes)
 (chk (Nat.ble ((y128.2.2.1.length + y128.2.2.2.2.1.length) * 16) maxBytes)
 (Option.bind (α := (Unit ⊕ (Unit ⊕ Int)))
 (l_w70q_1 n y128.1 y128.2.2.1 y128.2.2.2.2.1 x (0 : Int))
 (Sum.elim (fun j146 =>
 (l_w70q_2 n y128.2.2.2.1 x (0 : Int))) some))))))))
 (Sum.elim (fun j169 =>
 rec86 (IntKind.wrap .i64 (z85 + 1))) some))
 (some (0 : Int)))) n z0)
def p_w70q (n : Nat) (x : Ty12) : Option Int :=
(l_w70q_3 n x (0 : Int))
def m_w70q := p_w70q FU
def a_w70q : Ann := (.node .leaf (.node (.node .leaf (.loop [.slot 3 (.int .i64)] ([2] ++ rg 4 87) (.node .leaf (.joinx [] ([2] ++ rg 4 6 ++ rg 19 11 ++ rg 31 60) (.node .leaf (.node .leaf (.node .leaf (.node (.lazy 35 .leaf) (.joinx [] ([2,7] ++ rg 42 16) (.node .leaf (.loop [.slot 7 (.int .i64)] ([2] ++ rg 42 16) .leaf)) (.node .leaf (.loop [.slot 8 (.int .i64)] ([2,9] ++ rg 58 33) (.node .leaf (.node (.node .leaf (.join [.slot 90 .bool] (rg 73 17) .leaf .leaf)) .leaf))))))))) .leaf)))) .leaf))
def S_w70q : FSpec := ⟨[.rp Kd1],[(.int .i64)],m_w70q⟩
def p_w71q (_ : Nat) (x : Int) : Option Bool :=
((m_w46q (x,(0 : Int),(1000 : Int))).bind fun r1 =>
some r1)
def m_w71q := p_w71q FU
def a_w71q : Ann := .leaf
def S_w71q : FSpec := ⟨[.val (.int .i64)],[.bool],m_w71q⟩
def p_w72q (_ : Nat) (x : Int) : Option Bool :=
(cond (x == 1)
 (some true)
 (some (x == 2)))
def m_w72q := p_w72q FU
def a_w72q : Ann := .leaf
def S_w72q : FSpec := ⟨[.val (.int .i64)],[.bool],m_w72q⟩
def p_w73q (_ : Nat) (x : Unit) : Option (Int × Int) :=
some ((-1 : Int),(0 : Int))
def m_w73q := p_w73q FU
def a_w73q : Ann := .leaf
def S_w73q : FSpec := ⟨[],[Kd35],m_w73q⟩
def p_w74q (_ : Nat) (x : Ty60) : Option (Int × Int) :=
(cond ((lenI x.2.2.2.2) == 0)
 ((m_w73q ()).bind fun r1 =>
 some r1)
 ((geti x.2.2.2.2 (IntKind.wrap .i64 ((lenI x.2.2.2.2) - 1))).bind fun y2 =>
 some y2))
def m_w74q := p_w74q FU
def a_w74q : Ann := .leaf
def S_w74q : FSpec := ⟨[.val Kd22],[Kd35],m_w74q⟩
def l_w75q_1 (n : Nat) (x_2_2_2_2 : (List (Int × Int))) (z0 : Int) : Option (Unit ⊕ Int) :=
(lp (fun rec53 (z52 : Int) =>
 (cond (decide (z52 < (lenI x_2_2_2_2)))
 ((geti x_2_2_2_2 z52).bind fun y54 =>
 (Option.bind (α := Bool)
 ((m_w71q y54.1).bind fun r57 =>
 (cond (!r57)
 (some true)
 ((m_w72q y54.2).bind fun r58 =>
 some (!r58)))) fun j59 =>
 (cond j59
 (some (Sum.inr (3 : Int)))
 (Option.bind (α := Bool)
 (cond (decide (z52 > 0))
 ((geti x_2_2_2_2 (IntKind.wrap .i64 (z52 - 1))).bind fun y63 =>
 (cond (decide (y54.1 < y63.1))
 (some true)
 ((geti x_2_2_2_2 (IntKind.wrap .i64 (z52 - 1))).bind fun y64 =>
 (cond (y54.1 == y64.1)
 ((geti x_2_2_2_2 (IntKind.wrap .i64 (z52 - 1))).bind fun y65 =>
 some (!(y54.2 == y65.2)))
 (some false)))))
 (some false)) fun j66 =>
 (cond j66
 (some (Sum.inr (1 : Int)))
 (rec53 (IntKind.wrap .i64 (z52 + 1))))))))
 (some (Sum.inl ())))) n z0)
def p_w75q (n : Nat) (x : Ty60) : Option Int :=
(Option.bind (α := Bool)
 ((m_w47q x.1).bind fun r4 =>
 (cond (!r4)
 (some true)
 ((m_w46q (x.2.1,(0 : Int),(2 : Int))).bind fun r5 =>
 (cond (!r5)
 (some true)
 ((m_w46q (x.2.2.1,(-1 : Int),(1000 : Int))).bind fun r6 =>
 some (!r6)))))) fun j7 =>
(cond j7
 (some (3 : Int))
 (cond (decide ((lenI x.2.2.2.2) > 60))
 (some (2 : Int))
 (Option.bind (α := (Unit ⊕ Int))
 (l_w75q_1 n x.2.2.2.2 (0 : Int))
 (Sum.elim (fun j68 =>
 (Option.bind (α := Bool)
 ((m_w74q x).bind fun r70 =>
 (cond (!((x.2.2.2.1.1 == r70.1) && ((x.2.2.2.1.2 == r70.2) && true)))
 (some true)
 (some (decide (x.2.2.2.1.1 > x.2.2.1))))) fun j71 =>
 (cond j71
 (some (1 : Int))
 (some (0 : Int))))) some)))))
def m_w75q := p_w75q FU
def a_w75q : Ann := (.node .leaf (.node (.join [.slot 20 .bool] (rg 5 15) .leaf .leaf) (.node .leaf (.joinx [] ([2,3,4] ++ rg 25 60) (.node .leaf (.loop [.slot 3 (.int .i64)] ([2,4] ++ rg 25 60) (.node .leaf (.node (.node .leaf (.node (.join [.slot 46 .bool] (rg 37 9) .leaf .leaf) (.join [.slot 84 .bool] (rg 47 37) .leaf .leaf))) .leaf)))) (.node (.join [.slot 97 .bool] (rg 85 12) .leaf .leaf) .leaf)))))
def S_w75q : FSpec := ⟨[.val Kd22],[(.int .i64)],m_w75q⟩
def p_w76q (_ : Nat) (x : Ty36) : Option Bool :=
(cond (!(x.1.1 == x.2.1))
 (some (decide (x.1.1 < x.2.1)))
 (some (decide (x.1.2.1 < x.2.2.1))))
def m_w76q := p_w76q FU
def a_w76q : Ann := .leaf
def S_w76q : FSpec := ⟨[.val Kd22,.val Kd22],[.bool],m_w76q⟩
def l_w77q_1 (n : Nat) (x : Ty56) (z0 : Int) : Option Int :=
(lp (fun rec12 (z11 : Int) =>
 (cond (decide (z11 < (lenI x)))
 ((geti x z11).bind fun y13 =>
 ((m_w75q y13).bind fun r14 =>
 (cond (!(r14 == 0))
 (some r14)
 (Option.bind (α := Bool)
 (cond (decide (z11 > 0))
 ((geti x (IntKind.wrap .i64 (z11 - 1))).bind fun y18 =>
 ((geti x z11).bind fun y19 =>
 ((m_w76q (y18,y19)).bind fun r20 =>
 some (!r20))))
 (some false)) fun j21 =>
 (cond j21
 (some (1 : Int))
 (rec12 (IntKind.wrap .i64 (z11 + 1))))))))
 (some (0 : Int)))) n z0)
def p_w77q (n : Nat) (x : Ty56) : Option Int :=
(cond (decide ((lenI x) > 60))
 (some (2 : Int))
 (l_w77q_1 n x (0 : Int)))
def m_w77q := p_w77q FU
def a_w77q : Ann := (.node .leaf (.node .leaf (.node (.node .leaf (.loop [.slot 3 (.int .i64)] ([2,4] ++ rg 9 33) (.node .leaf (.node (.node .leaf (.join [.slot 41 .bool] (rg 25 16) .leaf .leaf)) .leaf)))) .leaf)))
def S_w77q : FSpec := ⟨[.val Kd18],[(.int .i64)],m_w77q⟩
def l_w78q_1 (n : Nat) (x : Ty12) (z31 : Int) (z0 : Int) : Option (Unit ⊕ Int) :=
(lp (fun rec55 (z54 : Int) =>
 ((geti x.2.2.1 z31).bind fun y56 =>
 (cond (decide (z54 < (lenI y56)))
 ((geti x.2.2.1 z31).bind fun y57 =>
 ((geti y57 z54).bind fun y58 =>
 ((m_w68q (x,y58.1,y58.2.1)).bind fun r59 =>
 (cond (!r59)
 (some (Sum.inr (4 : Int)))
 (rec55 (IntKind.wrap .i64 (z54 + 1)))))))
 (some (Sum.inl ()))))) n z0)
def l_w78q_2 (n : Nat) (x : Ty12) (z0 : Int) : Option Int :=
(lp (fun rec32 (z31 : Int) =>
 (cond (decide (z31 < (lenI x.2.2.1)))
 (Option.bind (α := (Unit ⊕ Int))
 ((geti x.2.2.1 z31).bind fun y47 =>
 ((m_w77q y47).bind fun r48 =>
 (cond (!(r48 == 0))
 (some (Sum.inr r48))
 (l_w78q_1 n x z31 (0 : Int)))))
 (Sum.elim (fun j61 =>
 rec32 (IntKind.wrap .i64 (z31 + 1))) some))
 (some (0 : Int)))) n z0)
def p_w78q (n : Nat) (x : Ty12) : Option Int :=
(l_w78q_2 n x (0 : Int))
def m_w78q := p_w78q FU
def a_w78q : Ann := (.node .leaf (.node (.node .leaf (.loop [.slot 3 (.int .i64)] ([2] ++ rg 4 54) (.node .leaf (.joinx [] ([2,4,5,6] ++ rg 16 10 ++ rg 27 31) (.node .leaf (.node .leaf (.loop [.slot 5 (.int .i64)] ([2,6] ++ rg 27 31) .leaf))) .leaf)))) .leaf))
def S_w78q : FSpec := ⟨[.rp Kd1],[(.int .i64)],m_w78q⟩
def p_w79q (_ : Nat) (x : (Int × Int)) : Option Bool :=
((m_w71q x.1).bind fun r1 =>
(cond r1
 ((m_w72q x.2).bind fun r2 =>
 some r2)
 (some false)))
def m_w79q := p_w79q FU
def a_w79q : Ann := .leaf
def S_w79q : FSpec := ⟨[.val Kd35],[.bool],m_w79q⟩
def l_w80q_1 (n : Nat) (y1_2_2_2_2_1 : (List Int)) (y1_2_2_2_2_2 : (List (Int × Int))) (x_1_2_2_1 : Ty52) (z0 : Int) : Option (Unit ⊕ Int) :=
(lp (fun rec60 (z59 : Int) =>
 (cond (decide (z59 < (lenI y1_2_2_2_2_1)))
 (Option.bind (α := Bool)
 ((geti y1_2_2_2_2_1 z59).bind fun y67 =>
 ((m_w46q (y67,(0 : Int),IntKind.wrap .i64 ((lenI x_1_2_2_1) - 1))).bind fun r68 =>
 (cond (!r68)
 (some true)
 ((geti y1_2_2_2_2_2 z59).bind fun y69 =>
 ((m_w73q ()).bind fun r70 =>
 (cond (!((y69.1 == r70.1) && ((y69.2 == r70.2) && true)))
 ((geti y1_2_2_2_2_2 z59).bind fun y71 =>
 ((m_w79q y71).bind fun r72 =>
 some (!r72)))
 (some false))))))) fun j73 =>
 (cond j73
 (some (Sum.inr (3 : Int)))
 (rec60 (IntKind.wrap .i64 (z59 + 1)))))
 (some (Sum.inl ())))) n z0)
def l_w80q_2 (n : Nat) (y1_2_2_2_2_1 : (List Int)) (z0 : Int) : Option Int :=
(lp (fun rec80 (z79 : Int) =>
 (cond (decide (z79 < (lenI y1_2_2_2_2_1)))
 (chk (bndB none (some z79) none y1_2_2_2_2_1.length)
 ((geti y1_2_2_2_2_1 z79).bind fun y81 =>
 ((m_w60q ((cutL none (some z79) y1_2_2_2_2_1),y81)).bind fun r82 =>
 (cond r82
 (some (7 : Int))
 (rec80 (IntKind.wrap .i64 (z79 + 1)))))))
 (some (0 : Int)))) n z0)
def p_w80q (n : Nat) (x : Ty3) : Option Int :=
((geti x.2.1 x.2.2).bind fun y1 =>
((m_w68q (x.1,y1.1,y1.2.1)).bind fun r2 =>
(cond (!r2)
 (some (4 : Int))
 (Option.bind (α := Bool)
 ((m_w46q (y1.2.2.1,(1 : Int),(1000 : Int))).bind fun r5 =>
 (cond (!r5)
 (some true)
 ((m_w46q (y1.2.2.2.1,(0 : Int),(2 : Int))).bind fun r6 =>
 some (!r6)))) fun j7 =>
 (cond j7
 (some (3 : Int))
 (Option.bind (α := Bool)
 (cond (decide (x.2.2 > 0))
 ((geti x.2.1 (IntKind.wrap .i64 (x.2.2 - 1))).bind fun y11 =>
 ((geti x.2.1 (IntKind.wrap .i64 (x.2.2 - 1))).bind fun y12 =>
 ((m_w76q ((y11.1,(y12.2.1,((0 : Int),(((0 : Int),(0 : Int)),[])))),(y1.1,(y1.2.1,((0 : Int),(((0 : Int),(0 : Int)),[])))))).bind fun r13 =>
 (cond (!r13)
 (some true)
 (some (!((lenI y1.2.2.2.2.1) == (lenI y1.2.2.2.2.2))))))))
 (some (!((lenI y1.2.2.2.2.1) == (lenI y1.2.2.2.2.2))))) fun j14 =>
 (cond j14
 (some (1 : Int))
 (Option.bind (α := (Unit ⊕ Int))
 (l_w80q_1 n y1.2.2.2.2.1 y1.2.2.2.2.2 x.1.2.2.1 (0 : Int))
 (Sum.elim (fun j75 =>
 (l_w80q_2 n y1.2.2.2.2.1 (0 : Int))) some)))))))))
def m_w80q := p_w80q FU
def a_w80q : Ann := (.node .leaf (.node .leaf (.node .leaf (.node (.join [.slot 30 .bool] (rg 21 9) .leaf .leaf) (.node (.join [.slot 63 .bool] (rg 31 32) .leaf .leaf) (.joinx [] ([6,8] ++ rg 64 38) (.node .leaf (.loop [.slot 8 (.int .i64)] ([6] ++ rg 64 38) (.node .leaf (.node (.join [.slot 101 .bool] (rg 71 30) .leaf .leaf) .leaf)))) (.node (.node .leaf (.loop [.slot 9 (.int .i64)] ([6] ++ rg 102 17) .leaf)) .leaf)))))))
def S_w80q : FSpec := ⟨[.rp Kd1,.val Kd16,.val (.int .i64)],[(.int .i64)],m_w80q⟩
def l_w81q_1 (n : Nat) (x_1_1 : Int) (x_2_1 : Int) (x_1_2_1 : Int) (x_2_2_1 : Int) (x_1_2_2_1 : Int) (x_2_2_2_1 : Int) (x_1_2_2_2_1 : Int) (x_1_2_2_2_2 : Int) (x_2_2_2_2_1 : Int) (x_2_2_2_2_2 : Int) (z0 : Int) : Option Bool :=
(lp (fun rec7 (z6 : Int) =>
 (cond (decide (z6 < 5))
 ((geti [x_1_1,x_1_2_1,x_1_2_2_1,x_1_2_2_2_1,x_1_2_2_2_2] z6).bind fun _ =>
 (([x_1_1,x_1_2_1,x_1_2_2_1,x_1_2_2_2_1,x_1_2_2_2_2][z6.toNat]?).bind fun y8 =>
 ((geti [x_2_1,x_2_2_1,x_2_2_2_1,x_2_2_2_2_1,x_2_2_2_2_2] z6).bind fun _ =>
 (([x_2_1,x_2_2_1,x_2_2_2_1,x_2_2_2_2_1,x_2_2_2_2_2][z6.toNat]?).bind fun y9 =>
 (cond (!(y8 == y9))
 ((geti [x_1_1,x_1_2_1,x_1_2_2_1,x_1_2_2_2_1,x_1_2_2_2_2] z6).bind fun _ =>
 (([x_1_1,x_1_2_1,x_1_2_2_1,x_1_2_2_2_1,x_1_2_2_2_2][z6.toNat]?).bind fun y10 =>
 ((geti [x_2_1,x_2_2_1,x_2_2_2_1,x_2_2_2_2_1,x_2_2_2_2_2] z6).bind fun _ =>
 (([x_2_1,x_2_2_1,x_2_2_2_1,x_2_2_2_2_1,x_2_2_2_2_2][z6.toNat]?).bind fun y11 =>
 some (decide (y10 < y11))))))
 (rec7 (IntKind.wrap .i64 (z6 + 1))))))))
 (some false))) n z0)
def p_w81q (n : Nat) (x : Ty46) : Option Bool :=
(l_w81q_1 n x.1.1 x.2.1 x.1.2.1 x.2.2.1 x.1.2.2.1 x.2.2.2.1 x.1.2.2.2.1 x.1.2.2.2.2 x.2.2.2.2.1 x.2.2.2.2.2 (0 : Int))
def m_w81q := p_w81q FU
def a_w81q : Ann := (.node .leaf (.node .leaf (.node .leaf (.node (.node .leaf (.loop [.slot 7 (.int .i64)] ([4] ++ rg 30 22) .leaf)) .leaf))))
def S_w81q : FSpec := ⟨[.val Kd28,.val Kd28],[.bool],m_w81q⟩
def l_w82q_1 (n : Nat) (y149_2_1 : Ty53) (x : Ty12) (z0 : Int) : Option (Unit ⊕ (Unit ⊕ Int)) :=
(lp (fun rec161 (z160 : Int) =>
 (cond (decide (z160 < (lenI y149_2_1)))
 ((m_w80q (x,y149_2_1,z160)).bind fun r162 =>
 (cond (!(r162 == 0))
 (some (Sum.inr (Sum.inr r162)))
 (rec161 (IntKind.wrap .i64 (z160 + 1)))))
 (some (Sum.inl ())))) n z0)
def l_w82q_2 (n : Nat) (y149_2_2 : Ty66) (x : Ty12) (z0 : Int) : Option (Unit ⊕ Int) :=
(lp (fun rec181 (z180 : Int) =>
 (cond (decide (z180 < (lenI y149_2_2)))
 ((geti y149_2_2 z180).bind fun y182 =>
 ((m_w68q (x,y182.1,y182.2.1)).bind fun r183 =>
 (cond (!r183)
 (some (Sum.inr (4 : Int)))
 (Option.bind (α := Bool)
 ((m_w71q y182.2.2.1).bind fun r187 =>
 (cond (!r187)
 (some true)
 ((m_w72q y182.2.2.2.1).bind fun r188 =>
 (cond (!r188)
 (some true)
 ((m_w46q (y182.2.2.2.2,(0 : Int),IntKind.wrap .i64 ((lenI x.2.2.1) - 1))).bind fun r189 =>
 some (!r189)))))) fun j190 =>
 (cond j190
 (some (Sum.inr (3 : Int)))
 (Option.bind (α := Bool)
 (cond (decide (z180 > 0))
 ((geti y149_2_2 (IntKind.wrap .i64 (z180 - 1))).bind fun y193 =>
 ((m_w81q (y193,y182)).bind fun r194 =>
 some (!r194)))
 (some false)) fun j195 =>
 (cond j195
 (some (Sum.inr (1 : Int)))
 (rec181 (IntKind.wrap .i64 (z180 + 1))))))))))
 (some (Sum.inl ())))) n z0)
def l_w82q_3 (n : Nat) (x : Ty12) (z0 : Int) : Option Int :=
(lp (fun rec100 (z99 : Int) =>
 (cond (decide (z99 < (lenI x.2.2.2.1)))
 (Option.bind (α := (Unit ⊕ Int))
 ((geti x.2.2.2.1 z99).bind fun y149 =>
 ((m_w46q (y149.1,(0 : Int),(400 : Int))).bind fun r150 =>
 (cond (!r150)
 (some (Sum.inr (3 : Int)))
 (Option.bind (α := Bool)
 (cond (decide ((lenI y149.2.1) > 60))
 (some true)
 (some (decide ((lenI y149.2.2) > 300)))) fun j151 =>
 (cond j151
 (some (Sum.inr (2 : Int)))
 (Option.bind (α := (Unit ⊕ (Unit ⊕ Int)))
 (l_w82q_1 n y149.2.1 x (0 : Int))
 (Sum.elim (fun j164 =>
 (l_w82q_2 n y149.2.2 x (0 : Int))) some)))))))
 (Sum.elim (fun j197 =>
 rec100 (IntKind.wrap .i64 (z99 + 1))) some))
 (some (0 : Int)))) n z0)
def p_w82q (n : Nat) (x : Ty12) : Option Int :=
(l_w82q_3 n x (0 : Int))
def m_w82q := p_w82q FU
def a_w82q : Ann := (.node .leaf (.node (.node .leaf (.loop [.slot 3 (.int .i64)] ([2] ++ rg 4 104) (.node .leaf (.joinx [] ([2,4,5,6,7,8] ++ rg 18 90) (.node .leaf (.node .leaf (.node (.join [.slot 38 .bool] (rg 29 9) .leaf .leaf) (.joinx [] ([2,5,6] ++ rg 39 15) (.node .leaf (.loop [.slot 5 (.int .i64)] ([2,6] ++ rg 39 15) .leaf)) (.node .leaf (.loop [.slot 7 (.int .i64)] ([2,8] ++ rg 54 54) (.node .leaf (.node (.node .leaf (.node .leaf (.node (.join [.slot 94 .bool] (rg 73 21) .leaf .leaf) (.join [.slot 107 .bool] (rg 95 12) .leaf .leaf)))) .leaf)))))))) .leaf)))) .leaf))
def S_w82q : FSpec := ⟨[.rp Kd1],[(.int .i64)],m_w82q⟩
def p_w83q (_ : Nat) (x : Ty5) : Option Bool :=
(Option.bind (α := Int)
 (Option.bind (α := Bool)
 (cond (x.2.1 == 1)
 (some true)
 (some (x.2.1 == 6))) fun j2 =>
 (cond j2
 (some (lenI x.1.2.1))
 (some (lenI x.1.2.2.1)))) fun j3 =>
(Option.bind (α := Int)
 (Option.bind (α := Bool)
 (cond (x.2.1 == 3)
 (some true)
 (some (x.2.1 == 5))) fun j5 =>
 (cond j5
 (some (lenI x.1.2.2.2.1))
 (some j3))) fun j6 =>
(Option.bind (α := Int)
 (cond (x.2.1 == 4)
 (some (lenI x.1.2.2.2.1))
 (some (lenI x.1.2.2.1))) fun j7 =>
((m_w46q (x.2.2.1,(0 : Int),IntKind.wrap .i64 (j6 - 1))).bind fun r8 =>
(cond r8
 (cond (decide (x.2.1 < 3))
 (some true)
 (cond (decide (x.2.1 > 5))
 (some true)
 ((m_w46q (x.2.2.2.1,(0 : Int),IntKind.wrap .i64 (j7 - 1))).bind fun r9 =>
 some r9)))
 (some false))))))
def m_w83q := p_w83q FU
def a_w83q : Ann := (.node .leaf (.node .leaf (.join [.slot 5 (.int .i64)] (rg 12 13) (.join [.slot 19 .bool] (rg 12 7) .leaf .leaf) (.join [.slot 5 (.int .i64)] (rg 25 13) (.join [.slot 32 .bool] (rg 25 7) .leaf .leaf) (.node .leaf (.join [.slot 6 (.int .i64)] (rg 43 8) .leaf .leaf))))))
def S_w83q : FSpec := ⟨[.rp Kd1,.val Kd15],[.bool],m_w83q⟩
def p_w84q (_ : Nat) (x : Ty54) : Option Ty54 :=
(Option.bind (α := Ty54)
 (Option.bind (α := Bool)
 (cond (decide (x.1 ≥ 2))
 (some (decide (x.1 ≤ 5)))
 (some false)) fun j2 =>
 (cond j2
 (some (x.1,(x.2.1,((0 : Int),(x.2.2.2.1,(x.2.2.2.2.1,(x.2.2.2.2.2.1,((0 : Int),((0 : Int),(0 : Int))))))))))
 (some (x.1,(x.2.1,((0 : Int),(x.2.2.2.1,((0 : Int),((0 : Int),((0 : Int),((0 : Int),(0 : Int)))))))))))) fun j3 =>
(Option.bind (α := Ty54)
 (Option.bind (α := Bool)
 (cond (x.1 == 2)
 (some true)
 (cond (x.1 == 3)
 (some true)
 (some (x.1 == 6)))) fun j5 =>
 (cond j5
 (some (j3.1,(j3.2.1,(j3.2.2.1,(j3.2.2.2.1,(j3.2.2.2.2.1,(j3.2.2.2.2.2.1,(x.2.2.2.2.2.2.1,j3.2.2.2.2.2.2.2))))))))
 (some j3))) fun j6 =>
(Option.bind (α := Ty54)
 (Option.bind (α := Bool)
 (cond (decide (x.1 ≥ 3))
 (some (decide (x.1 ≤ 5)))
 (some false)) fun j8 =>
 (cond j8
 (some (j6.1,(j6.2.1,(x.2.2.1,j6.2.2.2))))
 (some j6))) fun j9 =>
(cond (x.1 == 5)
 (some (j9.1,(j9.2.1,(j9.2.2.1,(j9.2.2.2.1,(j9.2.2.2.2.1,(j9.2.2.2.2.2.1,(j9.2.2.2.2.2.2.1,x.2.2.2.2.2.2.2))))))))
 (some j9)))))
def m_w84q := p_w84q FU
def a_w84q : Ann := (.node .leaf (.node .leaf (.join [.box 2 Kd15] (rg 11 14) (.join [.slot 18 .bool] (rg 11 7) .leaf .leaf) (.join [.box 2 Kd15] (rg 25 16) (.join [.slot 37 .bool] (rg 25 12) .leaf .leaf) (.join [.box 2 Kd15] (rg 41 11) (.join [.slot 48 .bool] (rg 41 7) .leaf .leaf) .leaf)))))
def S_w84q : FSpec := ⟨[.val Kd15],[Kd15],m_w84q⟩
def p_w85q (_ : Nat) (x : Ty5) : Option Int :=
((m_w46q (x.2.1,(1 : Int),(6 : Int))).bind fun r1 =>
(cond (!r1)
 (some (5 : Int))
 ((m_w83q (x.1,x.2)).bind fun r2 =>
 (cond (!r2)
 (some (3 : Int))
 ((m_w67q (x.1,x.2.2.2.2.1)).bind fun r3 =>
 (cond (decide (r3 < 0))
 (some (4 : Int))
 (Option.bind (α := Int)
 (Option.bind (α := Bool)
 (cond (x.2.1 == 1)
 (some true)
 (some (x.2.1 == 6))) fun j5 =>
 (cond j5
 (some x.2.2.1)
 (some x.2.2.2.2.2.1))) fun j6 =>
 ((m_w68q (x.1,x.2.2.2.2.1,j6)).bind fun r7 =>
 (cond (!r7)
 (some (3 : Int))
 (Option.bind (α := Bool)
 (cond (decide (x.2.1 ≥ 2))
 (cond (decide (x.2.1 ≤ 5))
 ((m_w71q x.2.2.2.2.2.2.1).bind fun r9 =>
 some (!r9))
 (some false))
 (some false)) fun j10 =>
 (cond j10
 (some (3 : Int))
 (Option.bind (α := Bool)
 (cond (x.2.1 == 2)
 ((m_w72q x.2.2.2.2.2.2.2.1).bind fun r14 =>
 some (!r14))
 (cond (x.2.1 == 3)
 ((m_w72q x.2.2.2.2.2.2.2.1).bind fun r15 =>
 some (!r15))
 (cond (x.2.1 == 6)
 ((m_w72q x.2.2.2.2.2.2.2.1).bind fun r16 =>
 some (!r16))
 (some false)))) fun j17 =>
 (cond j17
 (some (3 : Int))
 (Option.bind (α := Bool)
 (cond (x.2.1 == 5)
 ((m_w73q ()).bind fun r20 =>
 (cond (!((x.2.2.2.2.2.2.2.2.1 == r20.1) && ((x.2.2.2.2.2.2.2.2.2 == r20.2) && true)))
 ((m_w79q x.2.2.2.2.2.2.2.2).bind fun r21 =>
 some (!r21))
 (some false)))
 (some false)) fun j22 =>
 (cond j22
 (some (3 : Int))
 ((m_w84q x.2).bind fun r23 =>
 (cond (!((x.2.1 == r23.1) && ((x.2.2.1 == r23.2.1) && ((x.2.2.2.1 == r23.2.2.1) && ((x.2.2.2.2.1 == r23.2.2.2.1) && ((x.2.2.2.2.2.1 == r23.2.2.2.2.1) && ((x.2.2.2.2.2.2.1 == r23.2.2.2.2.2.1) && ((x.2.2.2.2.2.2.2.1 == r23.2.2.2.2.2.2.1) && ((x.2.2.2.2.2.2.2.2.1 == r23.2.2.2.2.2.2.2.1) && ((x.2.2.2.2.2.2.2.2.2 == r23.2.2.2.2.2.2.2.2) && true))))))))))
 (some (1 : Int))
 (some (0 : Int)))))))))))))))))))
def m_w85q := p_w85q FU
def a_w85q : Ann := (.node .leaf (.node .leaf (.node .leaf (.node .leaf (.node .leaf (.join [.slot 5 (.int .i64)] (rg 21 10) (.join [.slot 28 .bool] (rg 21 7) .leaf .leaf) (.node .leaf (.node (.join [.slot 50 .bool] (rg 37 13) .leaf .leaf) (.node (.join [.slot 69 .bool] (rg 51 18) .leaf .leaf) (.node (.join [.slot 84 .bool] (rg 70 14) .leaf .leaf) .leaf))))))))))
def S_w85q : FSpec := ⟨[.rp Kd1,.val Kd15],[(.int .i64)],m_w85q⟩
def l_w86q_1 (n : Nat) (x : Ty12) (z0 : Int) : Option Int :=
(lp (fun rec10 (z9 : Int) =>
 (cond (decide (z9 < (lenI x.2.2.2.2)))
 ((geti x.2.2.2.2 z9).bind fun y11 =>
 ((m_w85q (x,y11)).bind fun r12 =>
 (cond (!(r12 == 0))
 (some r12)
 (rec10 (IntKind.wrap .i64 (z9 + 1))))))
 (some (0 : Int)))) n z0)
def p_w86q (n : Nat) (x : Ty12) : Option Int :=
(Option.bind (α := Bool)
 (cond (decide ((lenI x.1) > 20))
 (some true)
 (cond (decide ((lenI x.2.1) < 1))
 (some true)
 (cond (decide ((lenI x.2.1) > 3))
 (some true)
 (cond (decide ((lenI x.2.2.1) < 1))
 (some true)
 (cond (decide ((lenI x.2.2.1) > 5))
 (some true)
 (cond (!((lenI x.2.2.2.1) == 2))
 (some true)
 (some (decide ((lenI x.2.2.2.2) > 200))))))))) fun j1 =>
(cond j1
 (some (2 : Int))
 ((m_w52q x).bind fun r2 =>
 (cond (!(r2 == 0))
 (some r2)
 ((m_w70q x).bind fun r3 =>
 (cond (!(r3 == 0))
 (some r3)
 ((m_w78q x).bind fun r4 =>
 (cond (!(r4 == 0))
 (some r4)
 ((m_w82q x).bind fun r5 =>
 (cond (!(r5 == 0))
 (some r5)
 (l_w86q_1 n x (0 : Int))))))))))))
def m_w86q := p_w86q FU
def a_w86q : Ann := (.node .leaf (.node (.join [.slot 48 .bool] (rg 9 39) .leaf .leaf) (.node .leaf (.node .leaf (.node .leaf (.node .leaf (.node (.node .leaf (.loop [.slot 7 (.int .i64)] ([2,8] ++ rg 65 16) .leaf)) .leaf)))))))
def S_w86q : FSpec := ⟨[.val Kd1],[(.int .i64)],m_w86q⟩
def p_w87q (_ : Nat) (x : Ty23) : Option Int :=
some (lenI x)
def m_w87q := p_w87q FU
def a_w87q : Ann := .leaf
def S_w87q : FSpec := ⟨[.val Kd4],[(.int .i64)],m_w87q⟩
def p_w88q (_ : Nat) (x : (Int × (Int × Int))) : Option Bool :=
(cond (decide (x.1 ≥ x.2.1))
 (some (decide (x.1 ≤ x.2.2)))
 (some false))
def m_w88q := p_w88q FU
def a_w88q : Ann := .leaf
def S_w88q : FSpec := ⟨[.val (.int .i64),.val (.int .i64),.val (.int .i64)],[.bool],m_w88q⟩
def p_w89q (_ : Nat) (x : Ty52) : Option Int :=
some (lenI x)
def m_w89q := p_w89q FU
def a_w89q : Ann := .leaf
def S_w89q : FSpec := ⟨[.val Kd14],[(.int .i64)],m_w89q⟩
def p_w90q (_ : Nat) (x : Int) : Option Bool :=
((m_w88q (x,(1 : Int),(1000000000 : Int))).bind fun r1 =>
some r1)
def m_w90q := p_w90q FU
def a_w90q : Ann := .leaf
def S_w90q : FSpec := ⟨[.val (.int .i64)],[.bool],m_w90q⟩
def p_w91q (_ : Nat) (x : Ty70) : Option Int :=
some (lenI x)
def m_w91q := p_w91q FU
def a_w91q : Ann := .leaf
def S_w91q : FSpec := ⟨[.val Kd30],[(.int .i64)],m_w91q⟩
def p_w92q (_ : Nat) (x : Int) : Option Bool :=
((m_w88q (x,(0 : Int),(2 : Int))).bind fun r1 =>
some r1)
def m_w92q := p_w92q FU
def a_w92q : Ann := .leaf
def S_w92q : FSpec := ⟨[.val (.int .i64)],[.bool],m_w92q⟩
def p_w93q (_ : Nat) (x : Int) : Option Bool :=
((m_w88q (x,(0 : Int),(2 : Int))).bind fun r1 =>
some r1)
def m_w93q := p_w93q FU
def a_w93q : Ann := .leaf
def S_w93q : FSpec := ⟨[.val (.int .i64)],[.bool],m_w93q⟩
def p_w94q (_ : Nat) (x : (Int × Int)) : Option Bool :=
((m_w88q (x.1,(0 : Int),(5 : Int))).bind fun r1 =>
(cond r1
 ((m_w93q x.2).bind fun r2 =>
 some r2)
 (some false)))
def m_w94q := p_w94q FU
def a_w94q : Ann := .leaf
def S_w94q : FSpec := ⟨[.val (.int .i64),.val (.int .i64)],[.bool],m_w94q⟩
def p_w95q (_ : Nat) (x : Ty72) : Option Int :=
(Option.bind (α := Bool)
 ((m_w92q x.1).bind fun r4 =>
 (cond (!r4)
 (some true)
 ((m_w94q (x.2.1,x.2.2.1)).bind fun r5 =>
 (cond (!r5)
 (some true)
 ((m_w88q (x.2.2.2,(-1000000000000 : Int),(1000000000000 : Int))).bind fun r6 =>
 some (!r6)))))) fun j7 =>
(cond j7
 (some (3 : Int))
 (cond (x.2.2.2 == 0)
 (some (1 : Int))
 (some (0 : Int)))))
def m_w95q := p_w95q FU
def a_w95q : Ann := (.node .leaf (.node (.join [.slot 3 .bool] (rg 4 18) .leaf .leaf) .leaf))
def S_w95q : FSpec := ⟨[.val Kd31],[(.int .i64)],m_w95q⟩
def p_w96q (_ : Nat) (x : Ty59) : Option Bool :=
(cond (x.1.1 == x.2.1)
 (cond (x.1.2.1 == x.2.2.1)
 (some (x.1.2.2.1 == x.2.2.2.1))
 (some false))
 (some false))
def m_w96q := p_w96q FU
def a_w96q : Ann := .leaf
def S_w96q : FSpec := ⟨[.val Kd31,.val Kd31],[.bool],m_w96q⟩
def l_w97q_1 (n : Nat) (z106_1 : Int) (x_2 : Ty70) (y108 : Ty72) (z0 : Int) : Option Int :=
(lp (fun rec122 (z121 : Int) =>
 (cond (decide (z121 < (lenI (cutL none (some z106_1) x_2))))
 ((geti (cutL none (some z106_1) x_2) z121).bind fun y123 =>
 ((m_w96q (y123,y108)).bind fun r124 =>
 (cond r124
 (some z121)
 (rec122 (IntKind.wrap .i64 (z121 + 1))))))
 (some (-1 : Int)))) n z0)
def l_w97q_2 (n : Nat) (x_2 : Ty70) (z0 : Ty76) : Option ((List (Int × Int)) ⊕ Int) :=
(lp (fun rec107 (z106 : Ty76) =>
 (cond (decide (z106.1 < (lenI x_2)))
 ((geti x_2 z106.1).bind fun y108 =>
 ((m_w95q y108).bind fun r109 =>
 (cond (!(r109 == 0))
 (some (Sum.inr r109))
 (chk (bndB none (some z106.1) none x_2.length)
 (Option.bind (α := Int)
 (l_w97q_1 n z106.1 x_2 y108 (0 : Int)) fun j126 =>
 (cond (decide (j126 ≥ 0))
 (some (Sum.inr (7 : Int)))
 (rec107 (IntKind.wrap .i64 (z106.1 + 1),(mupd (.int .i64) z106.2 y108.2.2.1 (IntKind.wrap .i64 ((mlook (.int .i64) z106.2 y108.2.2.1) + y108.2.2.2)))))))))))
 (some (Sum.inl z106.2)))) n z0)
def l_w97q_3 (n : Nat) (j128 : (List (Int × Int))) (z0 : (Int × (List Int))) : Option Int :=
(lp (fun rec140 (z139 : (Int × (List Int))) =>
 (chk (z139.1 == lenI j128)
 (drawM (leftM z139.1 z139.2) (fun y141 =>
 ((geti j128 y141).bind fun y142 =>
 (chk (z139.1 == lenI j128)
 (((z139.2 ++ [y141]).getLast?).bind fun y143 =>
 ((geti j128 y143).bind fun y144 =>
 (cond (!(y144.2 == 0))
 (some (1 : Int))
 (rec140 (z139.1,(z139.2 ++ [y141])))))))))
 (some (0 : Int))))) n z0)
def p_w97q (n : Nat) (x : Ty65) : Option Int :=
((m_w90q x.1).bind fun r1 =>
(cond (!r1)
 (some (3 : Int))
 ((m_w91q x.2).bind fun r2 =>
 ((m_w88q (r2,(2 : Int),(8 : Int))).bind fun r3 =>
 (cond (!r3)
 (some (2 : Int))
 (Option.bind (α := ((List (Int × Int)) ⊕ Int))
 (l_w97q_2 n x.2 ((0 : Int),([] : List (Int × Int))))
 (Sum.elim (fun j128 =>
 (l_w97q_3 n j128 ((lenI j128),([] : List Int)))) some)))))))
def m_w97q := p_w97q FU
def a_w97q : Ann := (.node .leaf (.node .leaf (.node .leaf (.joinx [.map 1 (.int .i64) .i64] ([2,4,5,6] ++ rg 21 27) (.node .leaf (.loop [.slot 24 (.int .i64),.map 1 (.int .i64) .i64] ([2,4,5,6] ++ rg 25 23) (.node .leaf (.node .leaf (.node (.node .leaf (.node .leaf (.node (.node (.reg 39 (.node .leaf (.node (.regj 7 [.slot 7 (.int .i64)] [] (.node .leaf (.node (.node .leaf (.loop [.slot 8 (.int .i64)] ([4,5] ++ rg 9 10) .leaf)) .leaf)) .leaf) .leaf)) .leaf) .leaf) .leaf))) .leaf))))) (.node (.node .leaf (.loop [.iter 2 1] ([2,8] ++ rg 50 6) .leaf)) .leaf)))))
def S_w97q : FSpec := ⟨[.val Kd26],[(.int .i64)],m_w97q⟩
def p_w98q (_ : Nat) (x : Ty21) : Option Bool :=
((m_w87q x.2).bind fun r1 =>
((m_w88q (x.1,(0 : Int),IntKind.wrap .i64 (r1 - 1))).bind fun r2 =>
some r2))
def m_w98q := p_w98q FU
def a_w98q : Ann := .leaf
def S_w98q : FSpec := ⟨[.val (.int .i64),.val Kd4],[.bool],m_w98q⟩
def l_w99q_1 (n : Nat) (x_2_2 : Ty70) (x_1_2_1 : Ty23) (z0 : Int) : Option Int :=
(lp (fun rec13 (z12 : Int) =>
 (cond (decide (z12 < (lenI x_2_2)))
 ((geti x_2_2 z12).bind fun y14 =>
 ((m_w98q (y14.1,x_1_2_1)).bind fun r15 =>
 (cond (!r15)
 (some z12)
 (rec13 (IntKind.wrap .i64 (z12 + 1))))))
 (some (-1 : Int)))) n z0)
def p_w99q (n : Nat) (x : Ty8) : Option Bool :=
(Option.bind (α := Int)
 (l_w99q_1 n x.2.2 x.1.2.1 (0 : Int)) fun j17 =>
some (!(decide (j17 ≥ 0))))
def m_w99q := p_w99q FU
def a_w99q : Ann := (.node .leaf (.node (.reg 8 (.node .leaf (.node (.regj 7 [.slot 7 (.int .i64)] [] (.node .leaf (.node (.node .leaf (.loop [.slot 8 (.int .i64)] ([4,5] ++ rg 9 10) .leaf)) .leaf)) .leaf) .leaf)) .leaf) .leaf))
def S_w99q : FSpec := ⟨[.rp Kd1,.val Kd26],[.bool],m_w99q⟩
def l_w100q_1 (n : Nat) (x : Ty12) (z0 : Int) : Option Int :=
(lp (fun rec9 (z8 : Int) =>
 (cond (decide (z8 < (lenI x.1)))
 ((geti x.1 z8).bind fun y10 =>
 ((m_w97q y10).bind fun r11 =>
 (cond (!(r11 == 0))
 (some r11)
 ((m_w99q (x,y10)).bind fun r12 =>
 (cond (!r12)
 (some (4 : Int))
 (Option.bind (α := Bool)
 (cond (decide (z8 > 0))
 ((geti x.1 (IntKind.wrap .i64 (z8 - 1))).bind fun y14 =>
 some (decide (y14.1 ≥ y10.1)))
 (some false)) fun j15 =>
 (cond j15
 (some (1 : Int))
 (rec9 (IntKind.wrap .i64 (z8 + 1))))))))))
 (some (0 : Int)))) n z0)
def p_w100q (n : Nat) (x : Ty12) : Option Int :=
(l_w100q_1 n x (0 : Int))
def m_w100q := p_w100q FU
def a_w100q : Ann := (.node .leaf (.node (.node .leaf (.loop [.slot 11 (.int .i64)] ([2,3,4,5] ++ rg 12 32) (.node .leaf (.node .leaf (.node (.node .leaf (.node .leaf (.node .leaf (.node .leaf (.join [.slot 26 .bool] (rg 27 16) .leaf .leaf))))) .leaf))))) .leaf))
def S_w100q : FSpec := ⟨[.rp Kd1],[(.int .i64)],m_w100q⟩
def p_w101q (_ : Nat) (x : Int) : Option Bool :=
some (!(x == x))
def m_w101q := p_w101q FU
def a_w101q : Ann := .leaf
def S_w101q : FSpec := ⟨[.val (.int .i64)],[.bool],m_w101q⟩
def p_w102q (_ : Nat) (x : (Int × Int)) : Option Int :=
((m_w101q x.1).bind fun r1 =>
((m_w101q x.2).bind fun r2 =>
(cond r1
 (cond r2
 (some (0 : Int))
 (some (-1 : Int)))
 (cond r2
 (some (1 : Int))
 (cond (decide (x.1 < x.2))
 (some (-1 : Int))
 (cond (decide (x.1 > x.2))
 (some (1 : Int))
 (some (0 : Int))))))))
def m_w102q := p_w102q FU
def a_w102q : Ann := .leaf
def S_w102q : FSpec := ⟨[.val (.int .i64),.val (.int .i64)],[(.int .i64)],m_w102q⟩
def l_w103q_1 (n : Nat) (x : (List Int)) (z0 : Int) : Option Int :=
(lp (fun rec4 (z3 : Int) =>
 (cond (decide (z3 < (lenI x)))
 ((geti x z3).bind fun y5 =>
 (cond (!(y5 == 0))
 (some y5)
 (rec4 (IntKind.wrap .i64 (z3 + 1)))))
 (some (0 : Int)))) n z0)
def p_w103q (n : Nat) (x : (List Int)) : Option Int :=
(l_w103q_1 n x (0 : Int))
def m_w103q := p_w103q FU
def a_w103q : Ann := (.node .leaf (.node .leaf (.node (.node .leaf (.loop [.slot 8 (.int .i64)] ([2,5] ++ rg 9 8) .leaf)) .leaf)))
def S_w103q : FSpec := ⟨[.val Kd37],[(.int .i64)],m_w103q⟩
def p_w104q (_ : Nat) (x : Ty63) : Option Int :=
((m_w102q (x.1.1,x.2.1)).bind fun r1 =>
((m_w102q (x.1.2.1,x.2.2.1)).bind fun r2 =>
((m_w103q [r1,r2]).bind fun r3 =>
some r3)))
def m_w104q := p_w104q FU
def a_w104q : Ann := (.node .leaf (.node (.lazy 15 .leaf) .leaf))
def S_w104q : FSpec := ⟨[.val Kd33,.val Kd33],[(.int .i64)],m_w104q⟩
def l_w105q_1 (n : Nat) (x : Ty74) (z0 : Int) : Option Int :=
(lp (fun rec14 (z13 : Int) =>
 (cond (decide (z13 < (lenI x)))
 ((geti x z13).bind fun y15 =>
 (Option.bind (α := Bool)
 ((m_w94q (y15.1,y15.2.1)).bind fun r18 =>
 (cond (!r18)
 (some true)
 ((m_w88q (y15.2.2,(1 : Int),(1000000000000 : Int))).bind fun r19 =>
 some (!r19)))) fun j20 =>
 (cond j20
 (some (3 : Int))
 (Option.bind (α := Bool)
 (cond (decide (z13 > 0))
 ((geti x (IntKind.wrap .i64 (z13 - 1))).bind fun y23 =>
 ((m_w104q (y23,y15)).bind fun r24 =>
 some (decide (r24 ≥ 0))))
 (some false)) fun j25 =>
 (cond j25
 (some (1 : Int))
 (rec14 (IntKind.wrap .i64 (z13 + 1))))))))
 (some (0 : Int)))) n z0)
def p_w105q (n : Nat) (x : Ty74) : Option Int :=
(cond (decide ((lenI x) > 18))
 (some (2 : Int))
 (l_w105q_1 n x (0 : Int)))
def m_w105q := p_w105q FU
def a_w105q : Ann := (.node .leaf (.node .leaf (.node (.node .leaf (.loop [.slot 10 (.int .i64)] ([2,3,4] ++ rg 11 31) (.node .leaf (.node .leaf (.node (.node .leaf (.join [.slot 15 .bool] (rg 16 12) .leaf (.node .leaf (.join [.slot 28 .bool] (rg 29 12) .leaf .leaf)))) .leaf))))) .leaf)))
def S_w105q : FSpec := ⟨[.val Kd32],[(.int .i64)],m_w105q⟩
def p_w106q (_ : Nat) (x : Int) : Option Bool :=
(cond (x == 1)
 (some true)
 (some (x == 2)))
def m_w106q := p_w106q FU
def a_w106q : Ann := .leaf
def S_w106q : FSpec := ⟨[.val (.int .i64)],[.bool],m_w106q⟩
def p_w107q (_ : Nat) (x : Int) : Option Bool :=
(cond (x == 1)
 (some true)
 (some (x == 2)))
def m_w107q := p_w107q FU
def a_w107q : Ann := .leaf
def S_w107q : FSpec := ⟨[.val (.int .i64)],[.bool],m_w107q⟩
def l_w108q_1 (n : Nat) (x_2 : Int) (x_1_2 : Ty70) (z0 : Ty64) : Option Ty70 :=
(lp (fun rec4 (z3 : Ty64) =>
 (cond (decide (z3.2 < (lenI x_1_2)))
 ((geti x_1_2 z3.2).bind fun y5 =>
 (cond (y5.1 == x_2)
 (chk (Nat.ble ((z3.1.length + [y5].length) * 32) maxBytes)
 (rec4 ((z3.1 ++ [y5]),IntKind.wrap .i64 (z3.2 + 1))))
 (rec4 (z3.1,IntKind.wrap .i64 (z3.2 + 1)))))
 (some z3.1))) n z0)
def p_w108q (n : Nat) (x : Ty61) : Option Ty70 :=
(l_w108q_1 n x.2 x.1.2 (([] : List Ty72),(0 : Int)))
def m_w108q := p_w108q FU
def a_w108q : Ann := (.node .leaf (.node .leaf (.node (.node .leaf (.loop [.slot 5 Kd29,.slot 12 (.int .i64)] ([7] ++ rg 13 12) .leaf)) .leaf)))
def S_w108q : FSpec := ⟨[.val Kd26,.val (.int .i64)],[Kd29],m_w108q⟩
def p_w109q (_ : Nat) (x : ((Int × Int) × Int)) : Option Int :=
((m_w102q (x.1.1,x.2)).bind fun r1 =>
some r1)
def m_w109q := p_w109q FU
def a_w109q : Ann := .leaf
def S_w109q : FSpec := ⟨[.val Kd35,.val (.int .i64)],[(.int .i64)],m_w109q⟩
def l_w109q (n : Nat) (x_1 : (List (Int × Int))) (x_2 : Int) (z0 : (Int × Int)) : Option Int :=
(lp (fun rec13 (z12 : (Int × Int)) =>
 (cond (decide (z12.1 < z12.2))
 (chk (decide (0 ≤ (1 : Int)))
 ((geti x_1 (IntKind.wrap .i64 (Int.fdiv (IntKind.wrap .u64 (IntKind.wrap .i64 (z12.1 + z12.2))) (2 ^ (min (1 : Int).toNat 64))))).bind fun y14 =>
 ((m_w109q (y14,x_2)).bind fun r15 =>
 (cond (decide (r15 < 0))
 (rec13 (IntKind.wrap .i64 ((IntKind.wrap .i64 (Int.fdiv (IntKind.wrap .u64 (IntKind.wrap .i64 (z12.1 + z12.2))) (2 ^ (min (1 : Int).toNat 64)))) + 1),z12.2))
 (rec13 (z12.1,IntKind.wrap .i64 (Int.fdiv (IntKind.wrap .u64 (IntKind.wrap .i64 (z12.1 + z12.2))) (2 ^ (min (1 : Int).toNat 64)))))))))
 (some z12.1))) n z0)
def p_w110q (n : Nat) (x : Ty75) : Option (Int × Bool) :=
(Option.bind (α := Int)
 (l_w109q n x.1 x.2 ((0 : Int),lenI x.1)) fun j17 =>
(cond (decide (j17 < (lenI x.1)))
 ((geti x.1 j17).bind fun y18 =>
 ((m_w109q (y18,x.2)).bind fun r19 =>
 some (j17,(r19 == 0))))
 (some (j17,false))))
def m_w110q := p_w110q FU
def a_w110q : Ann := (.node .leaf (.node (.reg 8 (.node .leaf (.node .leaf (.node .leaf (.join [.slot 9 (.int .i64)] ([10,11] ++ rg 15 20) (.loop [.slot 9 (.int .i64),.slot 10 (.int .i64)] ([11] ++ rg 15 20) .leaf) .leaf)))) .leaf) .leaf))
def S_w110q : FSpec := ⟨[.val Kd34,.val (.int .i64)],[(.int .i64),.bool],m_w110q⟩
def p_w111q (_ : Nat) (x : Ty75) : Option Int :=
((m_w110q (x.1,x.2)).bind fun r1 =>
(cond (!r1.2)
 (some (0 : Int))
 ((geti x.1 r1.1).bind fun y2 =>
 some y2.2)))
def m_w111q := p_w111q FU
def a_w111q : Ann := .leaf
def S_w111q : FSpec := ⟨[.val Kd34,.val (.int .i64)],[(.int .i64)],m_w111q⟩
def l_w112q_1 (n : Nat) (x_1 : Int) (x_2_2_1 : (List (Int × Int))) (x_2_2_2_1 : Ty62) (x_2_2_2_2_1 : (List (Int × Int))) (z0 : Int) : Option Int :=
(lp (fun rec20 (z19 : Int) =>
 (cond (decide (z19 < (lenI x_2_2_2_1)))
 ((geti x_2_2_2_1 z19).bind fun y21 =>
 ((m_w97q y21).bind fun r22 =>
 (cond (!(r22 == 0))
 (some r22)
 (Option.bind (α := Bool)
 (cond (decide (z19 > 0))
 ((geti x_2_2_2_1 (IntKind.wrap .i64 (z19 - 1))).bind fun y30 =>
 (cond (decide (y30.1 ≥ y21.1))
 (some true)
 ((m_w108q (y21,x_1)).bind fun r31 =>
 (cond ((lenI r31) == 0)
 (some true)
 ((m_w111q (x_2_2_1,y21.1)).bind fun r32 =>
 (cond (!(r32 == 1))
 (some true)
 ((m_w111q (x_2_2_2_2_1,y21.1)).bind fun r33 =>
 some (!(r33 == 0)))))))))
 ((m_w108q (y21,x_1)).bind fun r34 =>
 (cond ((lenI r34) == 0)
 (some true)
 ((m_w111q (x_2_2_1,y21.1)).bind fun r35 =>
 (cond (!(r35 == 1))
 (some true)
 ((m_w111q (x_2_2_2_2_1,y21.1)).bind fun r36 =>
 some (!(r36 == 0)))))))) fun j37 =>
 (cond j37
 (some (1 : Int))
 (rec20 (IntKind.wrap .i64 (z19 + 1))))))))
 (some (0 : Int)))) n z0)
def p_w112q (n : Nat) (x : Ty25) : Option Int :=
(l_w112q_1 n x.1 x.2.2.1 x.2.2.2.1 x.2.2.2.2.1 (0 : Int))
def m_w112q := p_w112q FU
def a_w112q : Ann := (.node .leaf (.node (.node .leaf (.loop [.slot 9 (.int .i64)] ([2,3,4,5] ++ rg 10 48) (.node .leaf (.node .leaf (.node (.node .leaf (.node .leaf (.join [.slot 56 .bool] (rg 19 37) .leaf .leaf))) .leaf))))) .leaf))
def S_w112q : FSpec := ⟨[.val Kd5],[(.int .i64)],m_w112q⟩
def l_w113q_1 (n : Nat) (x : (List Int)) (z0 : Int) : Option Int :=
(lp (fun rec4 (z3 : Int) =>
 (cond (decide (z3 < (lenI x)))
 ((geti x z3).bind fun y5 =>
 (cond (!(y5 == 0))
 (some y5)
 (rec4 (IntKind.wrap .i64 (z3 + 1)))))
 (some (0 : Int)))) n z0)
def p_w113q (n : Nat) (x : (List Int)) : Option Int :=
(l_w113q_1 n x (0 : Int))
def m_w113q := p_w113q FU
def a_w113q : Ann := (.node .leaf (.node (.node .leaf (.loop [.slot 7 (.int .i64)] ([2,4] ++ rg 8 7) .leaf)) .leaf))
def S_w113q : FSpec := ⟨[.val Kd37],[(.int .i64)],m_w113q⟩
def p_w114q (_ : Nat) (x : Ty61) : Option Int :=
((m_w102q (x.1.1,x.2)).bind fun r1 =>
some r1)
def m_w114q := p_w114q FU
def a_w114q : Ann := .leaf
def S_w114q : FSpec := ⟨[.val Kd26,.val (.int .i64)],[(.int .i64)],m_w114q⟩
def l_w114q (n : Nat) (x_2 : Int) (x_1_2_2_2_1 : Ty62) (z0 : (Int × Int)) : Option Int :=
(lp (fun rec13 (z12 : (Int × Int)) =>
 (cond (decide (z12.1 < z12.2))
 (chk (decide (0 ≤ (1 : Int)))
 ((geti x_1_2_2_2_1 (IntKind.wrap .i64 (Int.fdiv (IntKind.wrap .u64 (IntKind.wrap .i64 (z12.1 + z12.2))) (2 ^ (min (1 : Int).toNat 64))))).bind fun y14 =>
 ((m_w114q (y14,x_2)).bind fun r15 =>
 (cond (decide (r15 < 0))
 (rec13 (IntKind.wrap .i64 ((IntKind.wrap .i64 (Int.fdiv (IntKind.wrap .u64 (IntKind.wrap .i64 (z12.1 + z12.2))) (2 ^ (min (1 : Int).toNat 64)))) + 1),z12.2))
 (rec13 (z12.1,IntKind.wrap .i64 (Int.fdiv (IntKind.wrap .u64 (IntKind.wrap .i64 (z12.1 + z12.2))) (2 ^ (min (1 : Int).toNat 64)))))))))
 (some z12.1))) n z0)
def p_w115q (n : Nat) (x : Ty22) : Option (Int × Bool) :=
(Option.bind (α := Int)
 (l_w114q n x.2 x.1.2.2.2.1 ((0 : Int),lenI x.1.2.2.2.1)) fun j17 =>
(cond (decide (j17 < (lenI x.1.2.2.2.1)))
 ((geti x.1.2.2.2.1 j17).bind fun y18 =>
 ((m_w114q (y18,x.2)).bind fun r19 =>
 some (j17,(r19 == 0))))
 (some (j17,false))))
def m_w115q := p_w115q FU
def a_w115q : Ann := (.node .leaf (.node (.reg 9 (.node .leaf (.node .leaf (.node .leaf (.join [.slot 9 (.int .i64)] ([10,11] ++ rg 15 20) (.loop [.slot 9 (.int .i64),.slot 10 (.int .i64)] ([11] ++ rg 15 20) .leaf) .leaf)))) .leaf) .leaf))
def S_w115q : FSpec := ⟨[.val Kd5,.val (.int .i64)],[(.int .i64),.bool],m_w115q⟩
def p_w116q (_ : Nat) (x : Ty19) : Option Bool :=
((m_w115q (x.1,x.2.1)).bind fun r1 =>
(cond (x.2.2 == 1)
 (cond (!r1.2)
 ((m_w111q (x.1.2.2.2.2.1,x.2.1)).bind fun r2 =>
 some (r2 == 0))
 (some false))
 (some false)))
def m_w116q := p_w116q FU
def a_w116q : Ann := .leaf
def S_w116q : FSpec := ⟨[.val Kd5,.val Kd35],[.bool],m_w116q⟩
def p_w117q (_ : Nat) (x : (List Int)) : Option Ty77 :=
sortedRun x
def m_w117q := p_w117q FU
def S_w117q : FSpec := ⟨[.fbox 427 Kd37],[Kd36],m_w117q⟩
def l_w118q_1 (n : Nat) (x_1 : (List Int)) (x_2 : (List Int)) (z0 : Int) : Option Bool :=
(lp (fun rec5 (z4 : Int) =>
 (cond (decide (z4 < (lenI x_1)))
 ((geti x_1 z4).bind fun y6 =>
 ((geti x_2 z4).bind fun y7 =>
 (cond (!(y6 == y7))
 (some false)
 (rec5 (IntKind.wrap .i64 (z4 + 1))))))
 (some true))) n z0)
def p_w118q (n : Nat) (x : Ty77) : Option Bool :=
(cond (!((lenI x.1) == (lenI x.2)))
 (some false)
 (l_w118q_1 n x.1 x.2 (0 : Int)))
def m_w118q := p_w118q FU
def a_w118q : Ann := (.node .leaf (.node .leaf (.node (.node .leaf (.loop [.slot 13 (.int .i64)] ([4,5] ++ rg 14 12) .leaf)) .leaf)))
def S_w118q : FSpec := ⟨[.val Kd37,.val Kd37],[.bool],m_w118q⟩
def l_w119q_1 (n : Nat) (x_2_2_2_2_1 : (List (Int × Int))) (z0 : ((List Int) × Int)) : Option (List Int) :=
(lp (fun rec10 (z9 : ((List Int) × Int)) =>
 (cond (decide (z9.2 < (lenI x_2_2_2_2_1)))
 ((geti x_2_2_2_2_1 z9.2).bind fun y11 =>
 (cond (y11.2 == 1)
 (chk (Nat.ble ((z9.1.length + [y11.1].length) * 8) maxBytes)
 (rec10 ((z9.1 ++ [y11.1]),IntKind.wrap .i64 (z9.2 + 1))))
 (rec10 (z9.1,IntKind.wrap .i64 (z9.2 + 1)))))
 (some z9.1))) n z0)
def p_w119q (n : Nat) (x : Ty25) : Option Bool :=
(Option.bind (α := (List Int))
 (l_w119q_1 n x.2.2.2.2.1 (([] : List Int),(0 : Int))) fun j13 =>
((m_w117q x.2.2.2.2.2).bind fun r14 =>
((m_w118q (r14.1,j13)).bind fun r15 =>
some r15)))
def m_w119q := p_w119q FU
def a_w119q : Ann := (.node .leaf (.node .leaf (.join [.slot 3 Kd36] ([5] ++ rg 7 16) (.node .leaf (.loop [.slot 3 Kd36,.slot 10 (.int .i64)] ([5] ++ rg 11 12) .leaf)) .leaf)))
def S_w119q : FSpec := ⟨[.val Kd5],[.bool],m_w119q⟩
def l_w120q_1 (n : Nat) (r67 : Ty70) (y66 : Ty72) (z0 : Int) : Option Int :=
(lp (fun rec80 (z79 : Int) =>
 (cond (decide (z79 < (lenI r67)))
 ((geti r67 z79).bind fun _ =>
 ((r67[z79.toNat]?).bind fun y81 =>
 ((m_w96q (y66,y81)).bind fun r82 =>
 (cond r82
 (some z79)
 (rec80 (IntKind.wrap .i64 (z79 + 1)))))))
 (some (-1 : Int)))) n z0)
def l_w120q_2 (n : Nat) (r1 : Ty70) (x_1_1 : Int) (x_2_2 : Ty65) (z0 : Int) : Option Int :=
(lp (fun rec65 (z64 : Int) =>
 (cond (decide (z64 < (lenI r1)))
 ((geti r1 z64).bind fun _ =>
 ((r1[z64.toNat]?).bind fun y66 =>
 ((m_w108q (x_2_2,x_1_1)).bind fun r67 =>
 (Option.bind (α := Int)
 (l_w120q_1 n r67 y66 (0 : Int)) fun j84 =>
 (cond (decide (j84 ≥ 0))
 (some z64)
 (rec65 (IntKind.wrap .i64 (z64 + 1))))))))
 (some (-1 : Int)))) n z0)
def p_w120q (n : Nat) (x : Ty17) : Option Bool :=
((m_w108q (x.2.1,x.1.1)).bind fun r1 =>
(Option.bind (α := Int)
 (l_w120q_2 n r1 x.1.1 x.2.2 (0 : Int)) fun j86 =>
some (decide (j86 ≥ 0))))
def m_w120q := p_w120q FU
def a_w120q : Ann := (.node .leaf (.node (.reg 12 (.node .leaf (.node (.regj 7 [.slot 7 (.int .i64)] [] (.node .leaf (.node (.node .leaf (.loop [.slot 8 (.int .i64)] ([4,5] ++ rg 9 10) (.node .leaf (.node .leaf (.node (.node .leaf (.node (.reg 16 (.node .leaf (.node (.reg 10 (.node .leaf (.node (.regj 7 [.slot 7 (.int .i64)] [] (.node .leaf (.node (.node .leaf (.loop [.slot 8 (.int .i64)] ([4,5] ++ rg 9 10) .leaf)) .leaf)) .leaf) .leaf)) .leaf) .leaf)) .leaf) .leaf)) .leaf))))) .leaf)) .leaf) .leaf)) .leaf) .leaf))
def S_w120q : FSpec := ⟨[.val Kd5,.val Kd26,.val Kd26],[.bool],m_w120q⟩
def l_w121q_1 (n : Nat) (x_1 : Ty74) (x_2_1 : Int) (x_2_2 : Int) (z0 : (Int × Int)) : Option Int :=
(lp (fun rec32 (z31 : (Int × Int)) =>
 (cond (decide (z31.1 < z31.2))
 (chk (decide (0 ≤ (1 : Int)))
 ((geti x_1 (IntKind.wrap .i64 (Int.fdiv (IntKind.wrap .u64 (IntKind.wrap .i64 (z31.1 + z31.2))) (2 ^ (min (1 : Int).toNat 64))))).bind fun y33 =>
 ((m_w104q (y33,(x_2_1,(x_2_2,(0 : Int))))).bind fun r34 =>
 (cond (decide (r34 < 0))
 (rec32 (IntKind.wrap .i64 ((IntKind.wrap .i64 (Int.fdiv (IntKind.wrap .u64 (IntKind.wrap .i64 (z31.1 + z31.2))) (2 ^ (min (1 : Int).toNat 64)))) + 1),z31.2))
 (rec32 (z31.1,IntKind.wrap .i64 (Int.fdiv (IntKind.wrap .u64 (IntKind.wrap .i64 (z31.1 + z31.2))) (2 ^ (min (1 : Int).toNat 64)))))))))
 (some z31.1))) n z0)
def p_w121q (n : Nat) (x : Ty67) : Option Int :=
(Option.bind (α := (Int × Bool))
 (Option.bind (α := Int)
 (l_w121q_1 n x.1 x.2.1 x.2.2 ((0 : Int),lenI x.1)) fun j36 =>
 (cond (decide (j36 < (lenI x.1)))
 ((geti x.1 j36).bind fun y37 =>
 ((m_w104q (y37,(x.2.1,(x.2.2,(0 : Int))))).bind fun r38 =>
 some (j36,(r38 == 0))))
 (some (j36,false)))) fun j39 =>
(cond (!j39.2)
 (some (0 : Int))
 ((geti x.1 j39.1).bind fun y40 =>
 some y40.2.2)))
def m_w121q := p_w121q FU
def a_w121q : Ann := (.node .leaf (.join [.slot 7 (.int .i64),.slot 8 .bool] (rg 9 8) (.reg 14 (.node .leaf (.node .leaf (.node .leaf (.join [.slot 9 (.int .i64)] ([10,11] ++ rg 15 20) (.loop [.slot 9 (.int .i64),.slot 10 (.int .i64)] ([11] ++ rg 15 20) .leaf) .leaf)))) .leaf) .leaf))
def S_w121q : FSpec := ⟨[.val Kd32,.val (.int .i64),.val (.int .i64)],[(.int .i64)],m_w121q⟩
def p_w122q (_ : Nat) (x : (Ty74 × Ty72)) : Option Int :=
((m_w121q (x.1,x.2.2.1,x.2.2.2.1)).bind fun r1 =>
(cond (decide ((IntKind.wrap .i64 (r1 + x.2.2.2.2)) < 0))
 (some (6 : Int))
 (cond (decide ((IntKind.wrap .i64 (r1 + x.2.2.2.2)) > 1000000000000))
 (some (3 : Int))
 (some (0 : Int)))))
def m_w122q := p_w122q FU
def a_w122q : Ann := .leaf
def S_w122q : FSpec := ⟨[.val Kd32,.val Kd31],[(.int .i64)],m_w122q⟩
def l_w123q_1 (n : Nat) (r1 : Ty70) (x_1_2_1 : Ty74) (z0 : Int) : Option Int :=
(lp (fun rec6 (z5 : Int) =>
 (cond (decide (z5 < (lenI r1)))
 ((geti r1 z5).bind fun _ =>
 ((r1[z5.toNat]?).bind fun y7 =>
 ((m_w122q (x_1_2_1,y7)).bind fun r8 =>
 (cond (!(r8 == 0))
 (some r8)
 (rec6 (IntKind.wrap .i64 (z5 + 1)))))))
 (some (0 : Int)))) n z0)
def p_w123q (n : Nat) (x : Ty18) : Option Int :=
((m_w108q (x.2,x.1.1)).bind fun r1 =>
(l_w123q_1 n r1 x.1.2.1 (0 : Int)))
def m_w123q := p_w123q FU
def a_w123q : Ann := (.node .leaf (.node (.node .leaf (.loop [.slot 13 (.int .i64)] ([4,6,7] ++ rg 14 11) .leaf)) .leaf))
def S_w123q : FSpec := ⟨[.val Kd5,.val Kd26],[(.int .i64)],m_w123q⟩
def l_w124q_1 (n : Nat) (z60 : Int) (x : Ty25) (y62 : Ty65) (z0 : Int) : Option Int :=
(lp (fun rec75 (z74 : Int) =>
 (cond (decide (z74 < (lenI (cutL none (some z60) x.2.2.2.1))))
 ((geti (cutL none (some z60) x.2.2.2.1) z74).bind fun y76 =>
 ((m_w120q (x,y76,y62)).bind fun r77 =>
 (cond r77
 (some z74)
 (rec75 (IntKind.wrap .i64 (z74 + 1))))))
 (some (-1 : Int)))) n z0)
def l_w124q_2 (n : Nat) (x : Ty25) (z0 : Int) : Option (Unit ⊕ Int) :=
(lp (fun rec61 (z60 : Int) =>
 (cond (decide (z60 < (lenI x.2.2.2.1)))
 ((geti x.2.2.2.1 z60).bind fun y62 =>
 (chk (bndB none (some z60) none x.2.2.2.1.length)
 (Option.bind (α := Int)
 (l_w124q_1 n z60 x y62 (0 : Int)) fun j79 =>
 (cond (decide (j79 ≥ 0))
 (some (Sum.inr (7 : Int)))
 (rec61 (IntKind.wrap .i64 (z60 + 1)))))))
 (some (Sum.inl ())))) n z0)
def l_w124q_3 (n : Nat) (x : Ty25) (z0 : Int) : Option Int :=
(lp (fun rec86 (z85 : Int) =>
 (cond (decide (z85 < (lenI x.2.2.2.1)))
 ((geti x.2.2.2.1 z85).bind fun y87 =>
 ((m_w123q (x,y87)).bind fun r88 =>
 (cond (!(r88 == 0))
 (some r88)
 (rec86 (IntKind.wrap .i64 (z85 + 1))))))
 (some (0 : Int)))) n z0)
def p_w124q (n : Nat) (x : Ty25) : Option Int :=
(Option.bind (α := (Unit ⊕ Int))
 (l_w124q_2 n x (0 : Int))
 (Sum.elim (fun j81 =>
(l_w124q_3 n x (0 : Int))) some))
def m_w124q := p_w124q FU
def a_w124q : Ann := (.node .leaf (.joinx [] ([2,3,4] ++ rg 8 15) (.node .leaf (.loop [.slot 11 (.int .i64)] ([2,3,4] ++ rg 12 11) (.node .leaf (.node .leaf (.node (.node .leaf (.node (.reg 21 (.node .leaf (.node (.regj 7 [.slot 7 (.int .i64)] [] (.node .leaf (.node (.node .leaf (.loop [.slot 8 (.int .i64)] ([4,5] ++ rg 9 10) .leaf)) .leaf)) .leaf) .leaf)) .leaf) .leaf)) .leaf))))) (.node (.node .leaf (.loop [.slot 26 (.int .i64)] ([2,6,7] ++ rg 27 10) .leaf)) .leaf)))
def S_w124q : FSpec := ⟨[.val Kd5],[(.int .i64)],m_w124q⟩
def l_w125q_1 (n : Nat) (x_2_2_1 : (List (Int × Int))) (z0 : Int) : Option Int :=
(lp (fun rec36 (z35 : Int) =>
 (cond (decide (z35 < (lenI x_2_2_1)))
 ((geti x_2_2_1 z35).bind fun y37 =>
 (Option.bind (α := Bool)
 ((m_w90q y37.1).bind fun r40 =>
 (cond (!r40)
 (some true)
 ((m_w106q y37.2).bind fun r41 =>
 some (!r41)))) fun j42 =>
 (cond j42
 (some (3 : Int))
 (Option.bind (α := Bool)
 (cond (decide (z35 > 0))
 ((geti x_2_2_1 (IntKind.wrap .i64 (z35 - 1))).bind fun y44 =>
 some (decide (y44.1 ≥ y37.1)))
 (some false)) fun j45 =>
 (cond j45
 (some (1 : Int))
 (rec36 (IntKind.wrap .i64 (z35 + 1))))))))
 (some (0 : Int)))) n z0)
def l_w125q_2 (n : Nat) (x_2_2_2_2_1 : (List (Int × Int))) (z0 : Int) : Option Int :=
(lp (fun rec81 (z80 : Int) =>
 (cond (decide (z80 < (lenI x_2_2_2_2_1)))
 ((geti x_2_2_2_2_1 z80).bind fun y82 =>
 (Option.bind (α := Bool)
 ((m_w90q y82.1).bind fun r85 =>
 (cond (!r85)
 (some true)
 ((m_w107q y82.2).bind fun r86 =>
 some (!r86)))) fun j87 =>
 (cond j87
 (some (3 : Int))
 (Option.bind (α := Bool)
 (cond (decide (z80 > 0))
 ((geti x_2_2_2_2_1 (IntKind.wrap .i64 (z80 - 1))).bind fun y89 =>
 some (decide (y89.1 ≥ y82.1)))
 (some false)) fun j90 =>
 (cond j90
 (some (1 : Int))
 (rec81 (IntKind.wrap .i64 (z80 + 1))))))))
 (some (0 : Int)))) n z0)
def l_w125q_3 (n : Nat) (x : Ty25) (z0 : Int) : Option Int :=
(lp (fun rec125 (z124 : Int) =>
 (cond (decide (z124 < (lenI x.2.2.1)))
 ((geti x.2.2.1 z124).bind fun y126 =>
 ((m_w116q (x,y126)).bind fun r127 =>
 (cond r127
 (some z124)
 (rec125 (IntKind.wrap .i64 (z124 + 1))))))
 (some (-1 : Int)))) n z0)
def p_w125q (n : Nat) (x : Ty25) : Option Int :=
((m_w92q x.1).bind fun r1 =>
(cond (!r1)
 (some (3 : Int))
 ((m_w105q x.2.1).bind fun r2 =>
 (cond (!(r2 == 0))
 (some r2)
 (cond (decide ((if (lenI x.2.2.2.2.2) > (if (lenI x.2.2.2.2.1) > (if (lenI x.2.2.2.1) > (lenI x.2.2.1) then lenI x.2.2.2.1 else lenI x.2.2.1) then lenI x.2.2.2.2.1 else (if (lenI x.2.2.2.1) > (lenI x.2.2.1) then lenI x.2.2.2.1 else lenI x.2.2.1)) then lenI x.2.2.2.2.2 else (if (lenI x.2.2.2.2.1) > (if (lenI x.2.2.2.1) > (lenI x.2.2.1) then lenI x.2.2.2.1 else lenI x.2.2.1) then lenI x.2.2.2.2.1 else (if (lenI x.2.2.2.1) > (lenI x.2.2.1) then lenI x.2.2.2.1 else lenI x.2.2.1))) > 100))
 (some (2 : Int))
 (Option.bind (α := Int)
 (l_w125q_1 n x.2.2.1 (0 : Int)) fun j47 =>
 (Option.bind (α := Int)
 (l_w125q_2 n x.2.2.2.2.1 (0 : Int)) fun j92 =>
 ((m_w112q x).bind fun r93 =>
 ((m_w113q [j47,j92,r93]).bind fun r94 =>
 (cond (!(r94 == 0))
 (some r94)
 (Option.bind (α := Bool)
 (Option.bind (α := Int)
 (l_w125q_3 n x (0 : Int)) fun j129 =>
 (cond (decide (j129 ≥ 0))
 (some true)
 ((m_w119q x).bind fun r130 =>
 some (!r130)))) fun j131 =>
 (cond j131
 (some (1 : Int))
 ((m_w124q x).bind fun r132 =>
 some r132)))))))))))))
def m_w125q := p_w125q FU
def a_w125q : Ann := (.node .leaf (.node .leaf (.node .leaf (.node .leaf (.node (.node (.regj 31 [.slot 31 (.int .i64)] [] (.node .leaf (.node (.node .leaf (.loop [.slot 9 (.int .i64)] ([4,5,6] ++ rg 10 31) (.node .leaf (.node .leaf (.node (.node .leaf (.join [.slot 14 .bool] (rg 15 11) .leaf (.node .leaf (.join [.slot 26 .bool] (rg 27 13) .leaf .leaf)))) .leaf))))) .leaf)) (.regj 34 [.slot 34 (.int .i64)] [] (.node .leaf (.node (.node .leaf (.loop [.slot 9 (.int .i64)] ([4,5,6] ++ rg 10 31) (.node .leaf (.node .leaf (.node (.node .leaf (.join [.slot 14 .bool] (rg 15 11) .leaf (.node .leaf (.join [.slot 26 .bool] (rg 27 13) .leaf .leaf)))) .leaf))))) .leaf)) (.lazy 37 .leaf))) .leaf) (.node (.join [.slot 51 .bool] (rg 42 9) (.reg 46 (.node .leaf (.node (.regj 7 [.slot 7 (.int .i64)] [] (.node .leaf (.node (.node .leaf (.loop [.slot 8 (.int .i64)] ([4,5] ++ rg 9 10) .leaf)) .leaf)) .leaf) .leaf)) .leaf) .leaf) .leaf))))))
def S_w125q : FSpec := ⟨[.val Kd5],[(.int .i64)],m_w125q⟩
def l_w126q_1 (n : Nat) (x_2 : Int) (x_1_1 : Ty62) (z0 : Int) : Option Int :=
(lp (fun rec10 (z9 : Int) =>
 (cond (decide (z9 < (lenI x_1_1)))
 ((geti x_1_1 z9).bind fun y11 =>
 (cond (y11.1 == x_2)
 (some z9)
 (rec10 (IntKind.wrap .i64 (z9 + 1)))))
 (some (-1 : Int)))) n z0)
def p_w126q (n : Nat) (x : Ty11) : Option (Ty65 × Bool) :=
(Option.bind (α := Int)
 (l_w126q_1 n x.2 x.1.1 (0 : Int)) fun j13 =>
(cond (decide (j13 < 0))
 (some (((0 : Int),[]),false))
 ((geti x.1.1 j13).bind fun y14 =>
 some (y14,true))))
def m_w126q := p_w126q FU
def a_w126q : Ann := (.node .leaf (.node (.regj 12 [.slot 12 (.int .i64)] [] (.node .leaf (.node (.node .leaf (.loop [.slot 8 (.int .i64)] ([4,5] ++ rg 9 10) .leaf)) .leaf)) .leaf) .leaf))
def S_w126q : FSpec := ⟨[.rp Kd1,.val (.int .i64)],[Kd26,.bool],m_w126q⟩
def p_w127q (_ : Nat) (x : Ty10) : Option Bool :=
((m_w126q (x.1,x.2.1)).bind fun r1 =>
(cond r1.2
 ((m_w108q (r1.1,x.2.2)).bind fun r2 =>
 some (decide ((lenI r2) > 0)))
 (some false)))
def m_w127q := p_w127q FU
def a_w127q : Ann := .leaf
def S_w127q : FSpec := ⟨[.rp Kd1,.val (.int .i64),.val (.int .i64)],[.bool],m_w127q⟩
def l_w128q_1 (n : Nat) (x_1 : Ty70) (x_2 : Ty70) (z0 : Int) : Option Bool :=
(lp (fun rec5 (z4 : Int) =>
 (cond (decide (z4 < (lenI x_1)))
 ((geti x_1 z4).bind fun y6 =>
 ((geti x_2 z4).bind fun y7 =>
 (cond (!((y6.1 == y7.1) && ((y6.2.1 == y7.2.1) && ((y6.2.2.1 == y7.2.2.1) && ((y6.2.2.2 == y7.2.2.2) && true)))))
 (some false)
 (rec5 (IntKind.wrap .i64 (z4 + 1))))))
 (some true))) n z0)
def p_w128q (n : Nat) (x : Ty51) : Option Bool :=
(cond (!((lenI x.1) == (lenI x.2)))
 (some false)
 (l_w128q_1 n x.1 x.2 (0 : Int)))
def m_w128q := p_w128q FU
def a_w128q : Ann := (.node .leaf (.node .leaf (.node (.node .leaf (.loop [.slot 13 (.int .i64)] ([4,5] ++ rg 14 12) .leaf)) .leaf)))
def S_w128q : FSpec := ⟨[.val Kd30,.val Kd30],[.bool],m_w128q⟩
def p_w129q (_ : Nat) (x : Ty38) : Option Bool :=
(cond (x.1.1 == x.2.1)
 ((m_w128q (x.1.2,x.2.2)).bind fun r1 =>
 some r1)
 (some false))
def m_w129q := p_w129q FU
def a_w129q : Ann := .leaf
def S_w129q : FSpec := ⟨[.val Kd26,.val Kd26],[.bool],m_w129q⟩
def l_w130q_1 (n : Nat) (y1_2_2_1 : (List (Int × Int))) (x_1 : Ty12) (x_2 : Int) (z0 : Int) : Option Int :=
(lp (fun rec49 (z48 : Int) =>
 (cond (decide (z48 < (lenI y1_2_2_1)))
 ((geti y1_2_2_1 z48).bind fun y50 =>
 ((m_w127q (x_1,y50.1,x_2)).bind fun r51 =>
 (cond (!r51)
 (some z48)
 (rec49 (IntKind.wrap .i64 (z48 + 1))))))
 (some (-1 : Int)))) n z0)
def l_w130q_2 (n : Nat) (y1_2_2_2_2_1 : (List (Int × Int))) (x_1 : Ty12) (x_2 : Int) (z0 : Int) : Option Int :=
(lp (fun rec66 (z65 : Int) =>
 (cond (decide (z65 < (lenI y1_2_2_2_2_1)))
 ((geti y1_2_2_2_2_1 z65).bind fun y67 =>
 ((m_w127q (x_1,y67.1,x_2)).bind fun r68 =>
 (cond (!r68)
 (some z65)
 (rec66 (IntKind.wrap .i64 (z65 + 1))))))
 (some (-1 : Int)))) n z0)
def l_w130q_3 (n : Nat) (y1_2_2_2_1 : Ty62) (x_1 : Ty12) (z0 : Int) : Option Int :=
(lp (fun rec77 (z76 : Int) =>
 (cond (decide (z76 < (lenI y1_2_2_2_1)))
 ((geti y1_2_2_2_1 z76).bind fun y78 =>
 ((m_w126q (x_1,y78.1)).bind fun r79 =>
 ((m_w129q (r79.1,y78)).bind fun r80 =>
 (cond (!r80)
 (some (1 : Int))
 (rec77 (IntKind.wrap .i64 (z76 + 1)))))))
 (some (0 : Int)))) n z0)
def p_w130q (n : Nat) (x : Ty11) : Option Int :=
((geti x.1.2.1 x.2).bind fun y1 =>
((m_w125q y1).bind fun r2 =>
(cond (!(r2 == 0))
 (some r2)
 (Option.bind (α := Bool)
 (cond (!(y1.1 == x.2))
 (some true)
 (Option.bind (α := Int)
 (l_w130q_1 n y1.2.2.1 x.1 x.2 (0 : Int)) fun j53 =>
 (cond (decide (j53 ≥ 0))
 (some true)
 (Option.bind (α := Int)
 (l_w130q_2 n y1.2.2.2.2.1 x.1 x.2 (0 : Int)) fun j70 =>
 some (decide (j70 ≥ 0)))))) fun j71 =>
 (cond j71
 (some (1 : Int))
 (l_w130q_3 n y1.2.2.2.1 x.1 (0 : Int)))))))
def m_w130q := p_w130q FU
def a_w130q : Ann := (.node .leaf (.node .leaf (.node .leaf (.node .leaf (.node (.join [.slot 40 .bool] (rg 25 15) (.reg 33 (.node .leaf (.node (.regj 7 [.slot 7 (.int .i64)] [] (.node .leaf (.node (.node .leaf (.loop [.slot 8 (.int .i64)] ([4,5] ++ rg 9 10) .leaf)) .leaf)) .leaf) .leaf)) (.reg 39 (.node .leaf (.node (.regj 7 [.slot 7 (.int .i64)] [] (.node .leaf (.node (.node .leaf (.loop [.slot 8 (.int .i64)] ([4,5] ++ rg 9 10) .leaf)) .leaf)) .leaf) .leaf)) .leaf)) .leaf) (.node (.node .leaf (.loop [.slot 44 (.int .i64)] ([4,9,10,11] ++ rg 45 15) .leaf)) .leaf))))))
def S_w130q : FSpec := ⟨[.rp Kd1,.val (.int .i64)],[(.int .i64)],m_w130q⟩
def p_w131q (_ : Nat) (x : Int) : Option Bool :=
((m_w88q (x,(0 : Int),(1000 : Int))).bind fun r1 =>
some r1)
def m_w131q := p_w131q FU
def a_w131q : Ann := .leaf
def S_w131q : FSpec := ⟨[.val (.int .i64)],[.bool],m_w131q⟩
def p_w132q (_ : Nat) (x : (Int × Int)) : Option Bool :=
((m_w131q x.1).bind fun r1 =>
(cond r1
 ((m_w106q x.2).bind fun r2 =>
 some r2)
 (some false)))
def m_w132q := p_w132q FU
def a_w132q : Ann := .leaf
def S_w132q : FSpec := ⟨[.val Kd35],[.bool],m_w132q⟩
def l_w133q_1 (n : Nat) (x : (List (Int × Int))) (z0 : Int) : Option Int :=
(lp (fun rec12 (z11 : Int) =>
 (cond (decide (z11 < (lenI x)))
 ((geti x z11).bind fun y13 =>
 ((m_w132q y13).bind fun r14 =>
 (cond (!r14)
 (some (3 : Int))
 (Option.bind (α := Bool)
 (cond (decide (z11 > 0))
 ((geti x (IntKind.wrap .i64 (z11 - 1))).bind fun y18 =>
 (cond (decide (y13.1 < y18.1))
 (some true)
 ((geti x (IntKind.wrap .i64 (z11 - 1))).bind fun y19 =>
 (cond (y13.1 == y19.1)
 ((geti x (IntKind.wrap .i64 (z11 - 1))).bind fun y20 =>
 some (!(y13.2 == y20.2)))
 (some false)))))
 (some false)) fun j21 =>
 (cond j21
 (some (1 : Int))
 (rec12 (IntKind.wrap .i64 (z11 + 1))))))))
 (some (0 : Int)))) n z0)
def p_w133q (n : Nat) (x : (List (Int × Int))) : Option Int :=
(l_w133q_1 n x (0 : Int))
def m_w133q := p_w133q FU
def a_w133q : Ann := (.node .leaf (.node (.node .leaf (.loop [.slot 7 (.int .i64)] ([2,3,4] ++ rg 8 45) (.node .leaf (.node .leaf (.node (.node .leaf (.node .leaf (.node .leaf (.join [.slot 16 .bool] (rg 17 35) .leaf .leaf)))) .leaf))))) .leaf))
def S_w133q : FSpec := ⟨[.val Kd34],[(.int .i64)],m_w133q⟩
def p_w134q (_ : Nat) (x : Unit) : Option (Int × Int) :=
some ((-1 : Int),(0 : Int))
def m_w134q := p_w134q FU
def a_w134q : Ann := .leaf
def S_w134q : FSpec := ⟨[],[Kd35],m_w134q⟩
def p_w135q (_ : Nat) (x : (List (Int × Int))) : Option (Int × Int) :=
(cond ((lenI x) == 0)
 ((m_w134q ()).bind fun r1 =>
 some r1)
 ((geti x (IntKind.wrap .i64 ((lenI x) - 1))).bind fun y2 =>
 some y2))
def m_w135q := p_w135q FU
def a_w135q : Ann := .leaf
def S_w135q : FSpec := ⟨[.val Kd34],[Kd35],m_w135q⟩
def p_w136q (_ : Nat) (x : Ty60) : Option Int :=
(Option.bind (α := Bool)
 ((m_w90q x.1).bind fun r4 =>
 (cond (!r4)
 (some true)
 ((m_w92q x.2.1).bind fun r5 =>
 (cond (!r5)
 (some true)
 ((m_w88q (x.2.2.1,(-1 : Int),(1000 : Int))).bind fun r6 =>
 some (!r6)))))) fun j7 =>
(cond j7
 (some (3 : Int))
 (cond (decide ((lenI x.2.2.2.2) > 60))
 (some (2 : Int))
 ((m_w133q x.2.2.2.2).bind fun r8 =>
 (cond (!(r8 == 0))
 (some r8)
 (Option.bind (α := Bool)
 ((m_w135q x.2.2.2.2).bind fun r10 =>
 (cond (!((x.2.2.2.1.1 == r10.1) && ((x.2.2.2.1.2 == r10.2) && true)))
 (some true)
 (some (decide (x.2.2.2.1.1 > x.2.2.1))))) fun j11 =>
 (cond j11
 (some (1 : Int))
 (some (0 : Int)))))))))
def m_w136q := p_w136q FU
def a_w136q : Ann := (.node .leaf (.node (.join [.slot 4 .bool] (rg 5 16) .leaf .leaf) (.node .leaf (.node (.join [.slot 45 .bool] (rg 32 13) .leaf .leaf) .leaf))))
def S_w136q : FSpec := ⟨[.val Kd22],[(.int .i64)],m_w136q⟩
def p_w137q (_ : Nat) (x : Ty36) : Option Int :=
((m_w102q (x.1.1,x.2.1)).bind fun r1 =>
((m_w102q (x.1.2.1,x.2.2.1)).bind fun r2 =>
((m_w103q [r1,r2]).bind fun r3 =>
some r3)))
def m_w137q := p_w137q FU
def a_w137q : Ann := (.node .leaf (.node (.lazy 15 .leaf) .leaf))
def S_w137q : FSpec := ⟨[.val Kd22,.val Kd22],[(.int .i64)],m_w137q⟩
def l_w138q_1 (n : Nat) (x : Ty56) (z0 : Int) : Option Int :=
(lp (fun rec10 (z9 : Int) =>
 (cond (decide (z9 < (lenI x)))
 ((geti x z9).bind fun y11 =>
 ((m_w136q y11).bind fun r12 =>
 (cond (!(r12 == 0))
 (some r12)
 (Option.bind (α := Bool)
 (cond (decide (z9 > 0))
 ((geti x (IntKind.wrap .i64 (z9 - 1))).bind fun y15 =>
 ((m_w137q (y15,y11)).bind fun r16 =>
 some (decide (r16 ≥ 0))))
 (some false)) fun j17 =>
 (cond j17
 (some (1 : Int))
 (rec10 (IntKind.wrap .i64 (z9 + 1))))))))
 (some (0 : Int)))) n z0)
def p_w138q (n : Nat) (x : Ty56) : Option Int :=
(cond (decide ((lenI x) > 60))
 (some (2 : Int))
 (l_w138q_1 n x (0 : Int)))
def m_w138q := p_w138q FU
def a_w138q : Ann := (.node .leaf (.node .leaf (.node (.node .leaf (.loop [.slot 13 (.int .i64)] ([2,3,4,5] ++ rg 14 23) (.node .leaf (.node .leaf (.node (.node .leaf (.node .leaf (.join [.slot 35 .bool] (rg 23 12) .leaf .leaf))) .leaf))))) .leaf)))
def S_w138q : FSpec := ⟨[.val Kd18],[(.int .i64)],m_w138q⟩
def l_w139q_1 (n : Nat) (x_1 : Ty12) (x_2 : Ty56) (z0 : Int) : Option Int :=
(lp (fun rec14 (z13 : Int) =>
 (cond (decide (z13 < (lenI x_2)))
 ((geti x_2 z13).bind fun y15 =>
 ((m_w127q (x_1,y15.1,y15.2.1)).bind fun r16 =>
 (cond (!r16)
 (some z13)
 (rec14 (IntKind.wrap .i64 (z13 + 1))))))
 (some (-1 : Int)))) n z0)
def p_w139q (n : Nat) (x : Ty6) : Option Int :=
((m_w138q x.2).bind fun r1 =>
(cond (!(r1 == 0))
 (some r1)
 (Option.bind (α := Int)
 (l_w139q_1 n x.1 x.2 (0 : Int)) fun j18 =>
 (cond (decide (j18 ≥ 0))
 (some (4 : Int))
 (some (0 : Int))))))
def m_w139q := p_w139q FU
def a_w139q : Ann := (.node .leaf (.node .leaf (.node (.node (.reg 14 (.node .leaf (.node (.regj 7 [.slot 7 (.int .i64)] [] (.node .leaf (.node (.node .leaf (.loop [.slot 8 (.int .i64)] ([4,5] ++ rg 9 10) .leaf)) .leaf)) .leaf) .leaf)) .leaf) .leaf) .leaf)))
def S_w139q : FSpec := ⟨[.rp Kd1,.val Kd18],[(.int .i64)],m_w139q⟩
def p_w140q (_ : Nat) (x : Ty32) : Option Int :=
((m_w102q (x.1.1,x.2.1)).bind fun r1 =>
((m_w102q (x.1.2.1,x.2.2.1)).bind fun r2 =>
((m_w103q [r1,r2]).bind fun r3 =>
some r3)))
def m_w140q := p_w140q FU
def a_w140q : Ann := (.node .leaf (.node (.lazy 15 .leaf) .leaf))
def S_w140q : FSpec := ⟨[.val Kd20,.val Kd20],[(.int .i64)],m_w140q⟩
def p_w141q (_ : Nat) (x : Ty44) : Option Bool :=
((m_w89q x.2).bind fun r1 =>
((m_w88q (x.1,(0 : Int),IntKind.wrap .i64 (r1 - 1))).bind fun r2 =>
some r2))
def m_w141q := p_w141q FU
def a_w141q : Ann := .leaf
def S_w141q : FSpec := ⟨[.val (.int .i64),.val Kd14],[.bool],m_w141q⟩
def p_w142q (_ : Nat) (x : (Int × Int)) : Option Bool :=
((m_w134q ()).bind fun r1 =>
(cond (!((x.1 == r1.1) && ((x.2 == r1.2) && true)))
 ((m_w132q x).bind fun r2 =>
 some (!r2))
 (some false)))
def m_w142q := p_w142q FU
def a_w142q : Ann := .leaf
def S_w142q : FSpec := ⟨[.val Kd35],[.bool],m_w142q⟩
def l_w143q_1 (n : Nat) (x_1 : (List Int)) (x_2 : Int) (z0 : Int) : Option Int :=
(lp (fun rec4 (z3 : Int) =>
 (cond (decide (z3 < (lenI x_1)))
 ((geti x_1 z3).bind fun y5 =>
 (cond (x_2 == y5)
 (some z3)
 (rec4 (IntKind.wrap .i64 (z3 + 1)))))
 (some (-1 : Int)))) n z0)
def p_w143q (n : Nat) (x : ((List Int) × Int)) : Option Int :=
(l_w143q_1 n x.1 x.2 (0 : Int))
def m_w143q := p_w143q FU
def a_w143q : Ann := (.node .leaf (.node (.node .leaf (.loop [.slot 8 (.int .i64)] ([4,5] ++ rg 9 10) .leaf)) .leaf))
def S_w143q : FSpec := ⟨[.val Kd37,.val (.int .i64)],[(.int .i64)],m_w143q⟩
def p_w144q (_ : Nat) (x : ((List Int) × Int)) : Option Bool :=
((m_w143q (x.1,x.2)).bind fun r1 =>
some (decide (r1 ≥ 0)))
def m_w144q := p_w144q FU
def a_w144q : Ann := .leaf
def S_w144q : FSpec := ⟨[.val Kd37,.val (.int .i64)],[.bool],m_w144q⟩
def l_w145q_1 (n : Nat) (x_1_2_2_1 : Ty52) (x_2_2_2_2_2_1 : (List Int)) (z0 : Int) : Option Int :=
(lp (fun rec47 (z46 : Int) =>
 (cond (decide (z46 < (lenI x_2_2_2_2_2_1)))
 ((geti x_2_2_2_2_2_1 z46).bind fun y48 =>
 ((m_w141q (y48,x_1_2_2_1)).bind fun r49 =>
 (cond (!r49)
 (some z46)
 (rec47 (IntKind.wrap .i64 (z46 + 1))))))
 (some (-1 : Int)))) n z0)
def l_w142q (n : Nat) (x_2_2_2_2_2_2 : (List (Int × Int))) (z0 : Int) : Option Int :=
(lp (fun rec64 (z63 : Int) =>
 (cond (decide (z63 < (lenI x_2_2_2_2_2_2)))
 ((geti x_2_2_2_2_2_2 z63).bind fun y65 =>
 ((m_w142q y65).bind fun r66 =>
 (cond r66
 (some z63)
 (rec64 (IntKind.wrap .i64 (z63 + 1))))))
 (some (-1 : Int)))) n z0)
def l_w145q_3 (n : Nat) (x_2_2_2_2_2_1 : (List Int)) (z0 : Int) : Option Int :=
(lp (fun rec74 (z73 : Int) =>
 (cond (decide (z73 < (lenI x_2_2_2_2_2_1)))
 ((geti x_2_2_2_2_2_1 z73).bind fun y75 =>
 (chk (bndB none (some z73) none x_2_2_2_2_2_1.length)
 ((m_w144q ((cutL none (some z73) x_2_2_2_2_2_1),y75)).bind fun r76 =>
 (cond r76
 (some (7 : Int))
 (rec74 (IntKind.wrap .i64 (z73 + 1)))))))
 (some (0 : Int)))) n z0)
def p_w145q (n : Nat) (x : Ty7) : Option Int :=
(cond (!((lenI x.2.2.2.2.2.2) == (lenI x.2.2.2.2.2.1)))
 (some (1 : Int))
 (Option.bind (α := Bool)
 (Option.bind (α := Int)
 (l_w145q_1 n x.1.2.2.1 x.2.2.2.2.2.1 (0 : Int)) fun j51 =>
 (cond (decide (j51 ≥ 0))
 (some true)
 (Option.bind (α := Int)
 (l_w142q n x.2.2.2.2.2.2 (0 : Int)) fun j68 =>
 some (decide (j68 ≥ 0))))) fun j69 =>
 (cond j69
 (some (3 : Int))
 (l_w145q_3 n x.2.2.2.2.2.1 (0 : Int)))))
def m_w145q := p_w145q FU
def a_w145q : Ann := (.node .leaf (.node .leaf (.node .leaf (.node (.node .leaf (.node .leaf (.join [.slot 18 .bool] (rg 19 10) (.reg 22 (.node .leaf (.node (.regj 7 [.slot 7 (.int .i64)] [] (.node .leaf (.node (.node .leaf (.loop [.slot 8 (.int .i64)] ([4,5] ++ rg 9 10) .leaf)) .leaf)) .leaf) .leaf)) (.reg 27 (.node .leaf (.node (.regj 7 [.slot 7 (.int .i64)] [] (.node .leaf (.node (.node .leaf (.loop [.slot 8 (.int .i64)] ([4,5] ++ rg 9 10) .leaf)) .leaf)) .leaf) .leaf)) .leaf)) .leaf))) (.node (.node .leaf (.loop [.slot 32 (.int .i64)] ([4,7,8] ++ rg 33 11) .leaf)) .leaf)))))
def S_w145q : FSpec := ⟨[.rp Kd1,.val Kd20],[(.int .i64)],m_w145q⟩
def l_w146q_1 (n : Nat) (x_1 : Ty12) (x_2 : Ty53) (z0 : Int) : Option Int :=
(lp (fun rec16 (z15 : Int) =>
 (cond (decide (z15 < (lenI x_2)))
 ((geti x_2 z15).bind fun y17 =>
 ((m_w127q (x_1,y17.1,y17.2.1)).bind fun r18 =>
 (cond (!r18)
 (some (4 : Int))
 (Option.bind (α := Bool)
 ((m_w88q (y17.2.2.1,(1 : Int),(1000 : Int))).bind fun r21 =>
 (cond (!r21)
 (some true)
 ((m_w88q (y17.2.2.2.1,(0 : Int),(2 : Int))).bind fun r22 =>
 some (!r22)))) fun j23 =>
 (cond j23
 (some (3 : Int))
 (Option.bind (α := Bool)
 (cond (decide (z15 > 0))
 ((geti x_2 (IntKind.wrap .i64 (z15 - 1))).bind fun y26 =>
 ((m_w140q (y26,y17)).bind fun r27 =>
 some (decide (r27 ≥ 0))))
 (some false)) fun j28 =>
 (cond j28
 (some (1 : Int))
 ((m_w145q (x_1,y17)).bind fun r29 =>
 (cond (!(r29 == 0))
 (some r29)
 (rec16 (IntKind.wrap .i64 (z15 + 1))))))))))))
 (some (0 : Int)))) n z0)
def p_w146q (n : Nat) (x : Ty4) : Option Int :=
(l_w146q_1 n x.1 x.2 (0 : Int))
def m_w146q := p_w146q FU
def a_w146q : Ann := (.node .leaf (.node (.node .leaf (.loop [.slot 10 (.int .i64)] ([4,5,6,7] ++ rg 11 43) (.node .leaf (.node .leaf (.node (.node .leaf (.node (.node .leaf (.node .leaf (.join [.slot 23 .bool] (rg 24 10) .leaf (.node .leaf (.join [.slot 34 .bool] (rg 35 12) .leaf .leaf))))) .leaf)) .leaf))))) .leaf))
def S_w146q : FSpec := ⟨[.rp Kd1,.val Kd16],[(.int .i64)],m_w146q⟩
def p_w147q (_ : Nat) (x : Ty46) : Option Int :=
((m_w102q (x.1.1,x.2.1)).bind fun r1 =>
((m_w102q (x.1.2.1,x.2.2.1)).bind fun r2 =>
((m_w102q (x.1.2.2.1,x.2.2.2.1)).bind fun r3 =>
((m_w102q (x.1.2.2.2.1,x.2.2.2.2.1)).bind fun r4 =>
((m_w102q (x.1.2.2.2.2,x.2.2.2.2.2)).bind fun r5 =>
((m_w103q [r1,r2,r3,r4,r5]).bind fun r6 =>
some r6))))))
def m_w147q := p_w147q FU
def a_w147q : Ann := (.node .leaf (.node (.lazy 30 .leaf) .leaf))
def S_w147q : FSpec := ⟨[.val Kd28,.val Kd28],[(.int .i64)],m_w147q⟩
def l_w148q_1 (n : Nat) (x_1 : Ty12) (x_2 : Ty66) (z0 : Int) : Option Int :=
(lp (fun rec17 (z16 : Int) =>
 (cond (decide (z16 < (lenI x_2)))
 ((geti x_2 z16).bind fun y18 =>
 ((m_w127q (x_1,y18.1,y18.2.1)).bind fun r19 =>
 (cond (!r19)
 (some (4 : Int))
 (Option.bind (α := Bool)
 ((m_w131q y18.2.2.1).bind fun r23 =>
 (cond (!r23)
 (some true)
 ((m_w106q y18.2.2.2.1).bind fun r24 =>
 (cond (!r24)
 (some true)
 ((m_w141q (y18.2.2.2.2,x_1.2.2.1)).bind fun r25 =>
 some (!r25)))))) fun j26 =>
 (cond j26
 (some (3 : Int))
 (Option.bind (α := Bool)
 (cond (decide (z16 > 0))
 ((geti x_2 (IntKind.wrap .i64 (z16 - 1))).bind fun y29 =>
 ((m_w147q (y29,y18)).bind fun r30 =>
 some (decide (r30 ≥ 0))))
 (some false)) fun j31 =>
 (cond j31
 (some (1 : Int))
 (rec17 (IntKind.wrap .i64 (z16 + 1))))))))))
 (some (0 : Int)))) n z0)
def p_w148q (n : Nat) (x : Ty9) : Option Int :=
(l_w148q_1 n x.1 x.2 (0 : Int))
def m_w148q := p_w148q FU
def a_w148q : Ann := (.node .leaf (.node (.node .leaf (.loop [.slot 9 (.int .i64)] ([4,5,6] ++ rg 10 47) (.node .leaf (.node .leaf (.node (.node .leaf (.node .leaf (.node .leaf (.join [.slot 22 .bool] (rg 23 20) .leaf (.node .leaf (.join [.slot 43 .bool] (rg 44 12) .leaf .leaf)))))) .leaf))))) .leaf))
def S_w148q : FSpec := ⟨[.rp Kd1,.val Kd27],[(.int .i64)],m_w148q⟩
def p_w149q (_ : Nat) (x : Ty2) : Option Int :=
((m_w88q (x.2.1,(0 : Int),(400 : Int))).bind fun r1 =>
(cond (!r1)
 (some (3 : Int))
 (Option.bind (α := Bool)
 (cond (decide ((lenI x.2.2.1) > 60))
 (some true)
 (some (decide ((lenI x.2.2.2) > 300)))) fun j2 =>
 (cond j2
 (some (2 : Int))
 ((m_w146q (x.1,x.2.2.1)).bind fun r3 =>
 ((m_w148q (x.1,x.2.2.2)).bind fun r4 =>
 ((m_w113q [r3,r4]).bind fun r5 =>
 some r5)))))))
def m_w149q := p_w149q FU
def a_w149q : Ann := (.node .leaf (.node (.node .leaf (.node .leaf (.join [.slot 10 .bool] (rg 11 10) .leaf .leaf))) (.node (.lazy 29 .leaf) .leaf)))
def S_w149q : FSpec := ⟨[.rp Kd1,.val Kd9],[(.int .i64)],m_w149q⟩
def p_w150q (_ : Nat) (x : Ty34) : Option Int :=
some (lenI x)
def m_w150q := p_w150q FU
def a_w150q : Ann := .leaf
def S_w150q : FSpec := ⟨[.val Kd8],[(.int .i64)],m_w150q⟩
def p_w151q (_ : Nat) (x : Ty29) : Option Bool :=
((m_w150q x.2).bind fun r1 =>
((m_w88q (x.1,(0 : Int),IntKind.wrap .i64 (r1 - 1))).bind fun r2 =>
some r2))
def m_w151q := p_w151q FU
def a_w151q : Ann := .leaf
def S_w151q : FSpec := ⟨[.val (.int .i64),.val Kd8],[.bool],m_w151q⟩
def p_w152q (_ : Nat) (x : Ty5) : Option Bool :=
(Option.bind (α := Bool)
 (cond (x.2.1 == 1)
 (some (x.2.1 == 1))
 (some (x.2.1 == 6))) fun j1 =>
(cond j1
 ((m_w98q (x.2.2.1,x.1.2.1)).bind fun r2 =>
 some r2)
 (Option.bind (α := Bool)
 (cond (x.2.1 == 2)
 (some (x.2.1 == 2))
 (some (x.2.1 == 4))) fun j3 =>
 (cond j3
 ((m_w141q (x.2.2.1,x.1.2.2.1)).bind fun r4 =>
 some r4)
 ((m_w151q (x.2.2.1,x.1.2.2.2.1)).bind fun r5 =>
 some r5)))))
def m_w152q := p_w152q FU
def a_w152q : Ann := (.node .leaf (.node (.node .leaf (.join [.slot 7 .bool] [8,9] .leaf (.node .leaf (.join [.slot 17 .bool] [18,19] .leaf .leaf)))) .leaf))
def S_w152q : FSpec := ⟨[.rp Kd1,.val Kd15],[.bool],m_w152q⟩
def p_w153q (_ : Nat) (x : Ty5) : Option Bool :=
(cond (x.2.1 == 4)
 ((m_w151q (x.2.2.2.1,x.1.2.2.2.1)).bind fun r1 =>
 some r1)
 (Option.bind (α := Bool)
 (cond (x.2.1 == 3)
 (some (x.2.1 == 3))
 (some (x.2.1 == 5))) fun j2 =>
 (cond j2
 ((m_w141q (x.2.2.2.1,x.1.2.2.1)).bind fun r3 =>
 some r3)
 (some true))))
def m_w153q := p_w153q FU
def a_w153q : Ann := (.node .leaf (.node (.node .leaf (.node .leaf (.node .leaf (.join [.slot 16 .bool] [17,18] .leaf .leaf)))) .leaf))
def S_w153q : FSpec := ⟨[.rp Kd1,.val Kd15],[.bool],m_w153q⟩
def p_w154q (_ : Nat) (x : Ty5) : Option Bool :=
(cond (x.2.1 == 1)
 ((m_w127q (x.1,x.2.2.2.2.1,x.2.2.1)).bind fun r1 =>
 some r1)
 (cond (x.2.1 == 6)
 ((m_w127q (x.1,x.2.2.2.2.1,x.2.2.1)).bind fun r2 =>
 (cond r2
 ((m_w107q x.2.2.2.2.2.2.2.1).bind fun r3 =>
 some r3)
 (some false)))
 (Option.bind (α := Bool)
 ((m_w127q (x.1,x.2.2.2.2.1,x.2.2.2.2.2.1)).bind fun r6 =>
 (cond (!r6)
 (some true)
 ((m_w131q x.2.2.2.2.2.2.1).bind fun r7 =>
 some (!r7)))) fun j8 =>
 (cond j8
 (some false)
 (Option.bind (α := Bool)
 (cond (x.2.1 == 2)
 (some (x.2.1 == 2))
 (some (x.2.1 == 3))) fun j9 =>
 (cond j9
 ((m_w106q x.2.2.2.2.2.2.2.1).bind fun r10 =>
 some r10)
 (cond (x.2.1 == 5)
 ((m_w134q ()).bind fun r11 =>
 (cond ((x.2.2.2.2.2.2.2.2.1 == r11.1) && ((x.2.2.2.2.2.2.2.2.2 == r11.2) && true))
 (some true)
 ((m_w132q x.2.2.2.2.2.2.2.2).bind fun r12 =>
 some r12)))
 (some true))))))))
def m_w154q := p_w154q FU
def a_w154q : Ann := (.node .leaf (.node .leaf (.node (.join [.slot 40 .bool] (rg 28 12) .leaf .leaf) (.node (.node .leaf (.join [.slot 43 .bool] [44,45] .leaf .leaf)) .leaf))))
def S_w154q : FSpec := ⟨[.rp Kd1,.val Kd15],[.bool],m_w154q⟩
def p_w155q (_ : Nat) (x : Ty54) : Option Ty54 :=
(Option.bind (α := Ty54)
 (Option.bind (α := Bool)
 (cond (!(x.1 == 1))
 (some (!(x.1 == 6)))
 (some false)) fun j2 =>
 (cond j2
 (some (x.1,(x.2.1,((0 : Int),(x.2.2.2.1,(x.2.2.2.2.1,(x.2.2.2.2.2.1,((0 : Int),((0 : Int),(0 : Int))))))))))
 (some (x.1,(x.2.1,((0 : Int),(x.2.2.2.1,((0 : Int),((0 : Int),((0 : Int),((0 : Int),(0 : Int)))))))))))) fun j3 =>
(Option.bind (α := Bool)
 (cond (x.1 == 2)
 (some (x.1 == 2))
 (some (x.1 == 6))) fun j4 =>
(cond j4
 (some (j3.1,(j3.2.1,(j3.2.2.1,(j3.2.2.2.1,(j3.2.2.2.2.1,(j3.2.2.2.2.2.1,(x.2.2.2.2.2.2.1,j3.2.2.2.2.2.2.2))))))))
 (cond (x.1 == 3)
 (some (j3.1,(j3.2.1,(x.2.2.1,(j3.2.2.2.1,(j3.2.2.2.2.1,(j3.2.2.2.2.2.1,(x.2.2.2.2.2.2.1,j3.2.2.2.2.2.2.2))))))))
 (cond (x.1 == 4)
 (some (j3.1,(j3.2.1,(x.2.2.1,j3.2.2.2))))
 (cond (x.1 == 5)
 (some (j3.1,(j3.2.1,(x.2.2.1,(j3.2.2.2.1,(j3.2.2.2.2.1,(j3.2.2.2.2.2.1,(j3.2.2.2.2.2.2.1,x.2.2.2.2.2.2.2))))))))
 (some j3)))))))
def m_w155q := p_w155q FU
def a_w155q : Ann := (.node .leaf (.node .leaf (.join [.box 2 Kd15] (rg 11 14) (.join [.slot 18 .bool] (rg 11 7) .leaf .leaf) (.node (.node .leaf (.join [.slot 27 .bool] [28,29] .leaf .leaf)) .leaf))))
def S_w155q : FSpec := ⟨[.val Kd15],[Kd15],m_w155q⟩
def p_w156q (_ : Nat) (x : Ty5) : Option Int :=
((m_w88q (x.2.1,(1 : Int),(6 : Int))).bind fun r1 =>
(cond (!r1)
 (some (5 : Int))
 ((m_w152q (x.1,x.2)).bind fun r2 =>
 (cond (!r2)
 (some (3 : Int))
 ((m_w153q (x.1,x.2)).bind fun r3 =>
 (cond (!r3)
 (some (3 : Int))
 ((m_w126q (x.1,x.2.2.2.2.1)).bind fun r4 =>
 (cond (!r4.2)
 (some (4 : Int))
 ((m_w154q (x.1,x.2)).bind fun r5 =>
 (cond (!r5)
 (some (3 : Int))
 ((m_w155q x.2).bind fun r6 =>
 (cond (!((x.2.1 == r6.1) && ((x.2.2.1 == r6.2.1) && ((x.2.2.2.1 == r6.2.2.1) && ((x.2.2.2.2.1 == r6.2.2.2.1) && ((x.2.2.2.2.2.1 == r6.2.2.2.2.1) && ((x.2.2.2.2.2.2.1 == r6.2.2.2.2.2.1) && ((x.2.2.2.2.2.2.2.1 == r6.2.2.2.2.2.2.1) && ((x.2.2.2.2.2.2.2.2.1 == r6.2.2.2.2.2.2.2.1) && ((x.2.2.2.2.2.2.2.2.2 == r6.2.2.2.2.2.2.2.2) && true))))))))))
 (some (1 : Int))
 (some (0 : Int))))))))))))))
def m_w156q := p_w156q FU
def a_w156q : Ann := .leaf
def S_w156q : FSpec := ⟨[.val Kd1,.val Kd15],[(.int .i64)],m_w156q⟩
def l_w157q_1 (n : Nat) (x : Ty12) (z0 : Int) : Option (Unit ⊕ Int) :=
(lp (fun rec20 (z19 : Int) =>
 (cond (decide (z19 < (lenI x.2.1)))
 ((m_w130q (x,z19)).bind fun r21 =>
 (cond (!(r21 == 0))
 (some (Sum.inr r21))
 (rec20 (IntKind.wrap .i64 (z19 + 1)))))
 (some (Sum.inl ())))) n z0)
def l_w157q_2 (n : Nat) (x : Ty12) (z0 : Int) : Option Int :=
(lp (fun rec36 (z35 : Int) =>
 (cond (decide (z35 < (lenI x.2.2.1)))
 ((geti x.2.2.1 z35).bind fun y37 =>
 ((m_w139q (x,y37)).bind fun r38 =>
 (cond (!(r38 == 0))
 (some r38)
 (rec36 (IntKind.wrap .i64 (z35 + 1))))))
 (some (0 : Int)))) n z0)
def l_w157q_3 (n : Nat) (x : Ty12) (z0 : Int) : Option Int :=
(lp (fun rec53 (z52 : Int) =>
 (cond (decide (z52 < (lenI x.2.2.2.1)))
 ((geti x.2.2.2.1 z52).bind fun y54 =>
 ((m_w149q (x,y54)).bind fun r55 =>
 (cond (!(r55 == 0))
 (some r55)
 (rec53 (IntKind.wrap .i64 (z52 + 1))))))
 (some (0 : Int)))) n z0)
def l_w157q_4 (n : Nat) (x : Ty12) (z0 : Int) : Option Int :=
(lp (fun rec71 (z70 : Int) =>
 (cond (decide (z70 < (lenI x.2.2.2.2)))
 ((geti x.2.2.2.2 z70).bind fun y72 =>
 ((m_w156q (x,y72)).bind fun r73 =>
 (cond (!(r73 == 0))
 (some r73)
 (rec71 (IntKind.wrap .i64 (z70 + 1))))))
 (some (0 : Int)))) n z0)
def p_w157q (n : Nat) (x : Ty12) : Option Int :=
(Option.bind (α := Bool)
 (cond (decide ((lenI x.1) > 20))
 (some true)
 ((m_w87q x.2.1).bind fun r5 =>
 ((m_w88q (r5,(1 : Int),(3 : Int))).bind fun r6 =>
 (cond (!r6)
 (some true)
 ((m_w89q x.2.2.1).bind fun r7 =>
 ((m_w88q (r7,(1 : Int),(5 : Int))).bind fun r8 =>
 (cond (!r8)
 (some true)
 (cond (!((lenI x.2.2.2.1) == 2))
 (some true)
 (some (decide ((lenI x.2.2.2.2) > 200))))))))))) fun j9 =>
(cond j9
 (some (2 : Int))
 ((m_w100q x).bind fun r10 =>
 (cond (!(r10 == 0))
 (some r10)
 (Option.bind (α := (Unit ⊕ Int))
 (l_w157q_1 n x (0 : Int))
 (Sum.elim (fun j23 =>
 (Option.bind (α := Int)
 (l_w157q_2 n x (0 : Int)) fun j40 =>
 (Option.bind (α := Int)
 (l_w157q_3 n x (0 : Int)) fun j57 =>
 ((m_w113q [j40,j57]).bind fun r58 =>
 (cond (!(r58 == 0))
 (some r58)
 (Option.bind (α := Int)
 (l_w157q_4 n x (0 : Int)) fun j75 =>
 some j75)))))) some))))))
def m_w157q := p_w157q FU
def a_w157q : Ann := (.node .leaf (.node (.join [.slot 36 .bool] (rg 7 29) .leaf .leaf) (.node .leaf (.joinx [] ([2,4,5] ++ rg 41 12) (.node .leaf (.loop [.slot 44 (.int .i64)] ([2,4,5] ++ rg 45 8) .leaf)) (.node (.node (.regj 56 [.slot 56 (.int .i64)] [] (.node .leaf (.node (.node .leaf (.loop [.slot 10 (.int .i64)] ([4,6,7] ++ rg 11 10) .leaf)) .leaf)) (.regj 60 [.slot 60 (.int .i64)] [] (.node .leaf (.node (.node .leaf (.loop [.slot 10 (.int .i64)] ([4,6,7] ++ rg 11 10) .leaf)) .leaf)) (.lazy 61 .leaf))) .leaf) (.node (.regj 69 [.slot 69 (.int .i64)] [] (.node .leaf (.node (.node .leaf (.loop [.slot 10 (.int .i64)] ([4,6,7] ++ rg 11 10) .leaf)) .leaf)) .leaf) .leaf))))))
def S_w157q : FSpec := ⟨[.val Kd1],[(.int .i64)],m_w157q⟩
def p_w158q (_ : Nat) (x : Ty59) : Option Bool :=
(cond (!(x.1.1 == x.2.1))
 (some false)
 (cond (!(x.1.2.1 == x.2.2.1))
 (some false)
 (cond (!(x.1.2.2.1 == x.2.2.2.1))
 (some false)
 (cond (!(x.1.2.2.2 == x.2.2.2.2))
 (some false)
 (some true)))))
def m_w158q := p_w158q FU
def a_w158q : Ann := .leaf
def S_w158q : FSpec := ⟨[.val Kd31,.val Kd31],[.bool],m_w158q⟩
def l_w159q_1 (n : Nat) (x_1 : Ty70) (x_2 : Ty70) (z0 : Int) : Option Bool :=
(lp (fun rec6 (z5 : Int) =>
 (cond (decide (z5 < (lenI x_1)))
 ((geti x_1 z5).bind fun y7 =>
 ((geti x_2 z5).bind fun y8 =>
 ((m_w158q (y7,y8)).bind fun r9 =>
 (cond (!r9)
 (some false)
 (rec6 (IntKind.wrap .i64 (z5 + 1)))))))
 (some true))) n z0)
def p_w159q (n : Nat) (x : Ty51) : Option Bool :=
(cond (!((lenI x.1) == (lenI x.2)))
 (some false)
 (l_w159q_1 n x.1 x.2 (0 : Int)))
def m_w159q := p_w159q FU
def a_w159q : Ann := (.node .leaf (.node .leaf (.node (.node .leaf (.loop [.slot 5 (.int .i64)] ([4] ++ rg 11 16) .leaf)) .leaf)))
def S_w159q : FSpec := ⟨[.val Kd30,.val Kd30],[.bool],m_w159q⟩
def p_w160q (_ : Nat) (x : Ty38) : Option Bool :=
(cond (!(x.1.1 == x.2.1))
 (some false)
 ((m_w159q (x.1.2,x.2.2)).bind fun r1 =>
 (cond (!r1)
 (some false)
 (some true))))
def m_w160q := p_w160q FU
def a_w160q : Ann := .leaf
def S_w160q : FSpec := ⟨[.val Kd26,.val Kd26],[.bool],m_w160q⟩
def l_w161q_1 (n : Nat) (x_1 : Ty62) (x_2 : Ty62) (z0 : Int) : Option Bool :=
(lp (fun rec6 (z5 : Int) =>
 (cond (decide (z5 < (lenI x_1)))
 ((geti x_1 z5).bind fun y7 =>
 ((geti x_2 z5).bind fun y8 =>
 ((m_w160q (y7,y8)).bind fun r9 =>
 (cond (!r9)
 (some false)
 (rec6 (IntKind.wrap .i64 (z5 + 1)))))))
 (some true))) n z0)
def p_w161q (n : Nat) (x : Ty37) : Option Bool :=
(cond (!((lenI x.1) == (lenI x.2)))
 (some false)
 (l_w161q_1 n x.1 x.2 (0 : Int)))
def m_w161q := p_w161q FU
def a_w161q : Ann := (.node .leaf (.node .leaf (.node (.node .leaf (.loop [.slot 5 (.int .i64)] ([4] ++ rg 11 16) .leaf)) .leaf)))
def S_w161q : FSpec := ⟨[.val Kd24,.val Kd24],[.bool],m_w161q⟩
def p_w162q (_ : Nat) (x : Ty63) : Option Bool :=
(cond (!(x.1.1 == x.2.1))
 (some false)
 (cond (!(x.1.2.1 == x.2.2.1))
 (some false)
 (cond (!(x.1.2.2 == x.2.2.2))
 (some false)
 (some true))))
def m_w162q := p_w162q FU
def a_w162q : Ann := .leaf
def S_w162q : FSpec := ⟨[.val Kd33,.val Kd33],[.bool],m_w162q⟩
def l_w163q_1 (n : Nat) (x_1 : Ty74) (x_2 : Ty74) (z0 : Int) : Option Bool :=
(lp (fun rec6 (z5 : Int) =>
 (cond (decide (z5 < (lenI x_1)))
 ((geti x_1 z5).bind fun y7 =>
 ((geti x_2 z5).bind fun y8 =>
 ((m_w162q (y7,y8)).bind fun r9 =>
 (cond (!r9)
 (some false)
 (rec6 (IntKind.wrap .i64 (z5 + 1)))))))
 (some true))) n z0)
def p_w163q (n : Nat) (x : (Ty74 × Ty74)) : Option Bool :=
(cond (!((lenI x.1) == (lenI x.2)))
 (some false)
 (l_w163q_1 n x.1 x.2 (0 : Int)))
def m_w163q := p_w163q FU
def a_w163q : Ann := (.node .leaf (.node .leaf (.node (.node .leaf (.loop [.slot 5 (.int .i64)] ([4] ++ rg 11 16) .leaf)) .leaf)))
def S_w163q : FSpec := ⟨[.val Kd32,.val Kd32],[.bool],m_w163q⟩
def p_w164q (_ : Nat) (x : Ty73) : Option Bool :=
(cond (!(x.1.1 == x.2.1))
 (some false)
 (cond (!(x.1.2 == x.2.2))
 (some false)
 (some true)))
def m_w164q := p_w164q FU
def a_w164q : Ann := .leaf
def S_w164q : FSpec := ⟨[.val Kd35,.val Kd35],[.bool],m_w164q⟩
def l_w165q_1 (n : Nat) (x_1 : (List (Int × Int))) (x_2 : (List (Int × Int))) (z0 : Int) : Option Bool :=
(lp (fun rec6 (z5 : Int) =>
 (cond (decide (z5 < (lenI x_1)))
 ((geti x_1 z5).bind fun y7 =>
 ((geti x_2 z5).bind fun y8 =>
 ((m_w164q (y7,y8)).bind fun r9 =>
 (cond (!r9)
 (some false)
 (rec6 (IntKind.wrap .i64 (z5 + 1)))))))
 (some true))) n z0)
def p_w165q (n : Nat) (x : Ty68) : Option Bool :=
(cond (!((lenI x.1) == (lenI x.2)))
 (some false)
 (l_w165q_1 n x.1 x.2 (0 : Int)))
def m_w165q := p_w165q FU
def a_w165q : Ann := (.node .leaf (.node .leaf (.node (.node .leaf (.loop [.slot 5 (.int .i64)] ([4] ++ rg 11 16) .leaf)) .leaf)))
def S_w165q : FSpec := ⟨[.val Kd34,.val Kd34],[.bool],m_w165q⟩
def l_w166q_1 (n : Nat) (x_1 : (List Int)) (x_2 : (List Int)) (z0 : Int) : Option Bool :=
(lp (fun rec5 (z4 : Int) =>
 (cond (decide (z4 < (lenI x_1)))
 ((geti x_1 z4).bind fun y6 =>
 ((geti x_2 z4).bind fun y7 =>
 (cond (!(y6 == y7))
 (some false)
 (rec5 (IntKind.wrap .i64 (z4 + 1))))))
 (some true))) n z0)
def p_w166q (n : Nat) (x : Ty77) : Option Bool :=
(cond (!((lenI x.1) == (lenI x.2)))
 (some false)
 (l_w166q_1 n x.1 x.2 (0 : Int)))
def m_w166q := p_w166q FU
def a_w166q : Ann := (.node .leaf (.node .leaf (.node (.node .leaf (.loop [.slot 5 (.int .i64)] ([4] ++ rg 11 15) .leaf)) .leaf)))
def S_w166q : FSpec := ⟨[.val Kd37,.val Kd37],[.bool],m_w166q⟩
def p_w167q (_ : Nat) (x : Ty14) : Option Bool :=
(cond (!(x.1.1 == x.2.1))
 (some false)
 ((m_w163q (x.1.2.1,x.2.2.1)).bind fun r1 =>
 (cond (!r1)
 (some false)
 ((m_w165q (x.1.2.2.1,x.2.2.2.1)).bind fun r2 =>
 (cond (!r2)
 (some false)
 ((m_w161q (x.1.2.2.2.1,x.2.2.2.2.1)).bind fun r3 =>
 (cond (!r3)
 (some false)
 ((m_w165q (x.1.2.2.2.2.1,x.2.2.2.2.2.1)).bind fun r4 =>
 (cond (!r4)
 (some false)
 ((m_w166q (x.1.2.2.2.2.2,x.2.2.2.2.2.2)).bind fun r5 =>
 (cond (!r5)
 (some false)
 (some true))))))))))))
def m_w167q := p_w167q FU
def a_w167q : Ann := .leaf
def S_w167q : FSpec := ⟨[.val Kd5,.val Kd5],[.bool],m_w167q⟩
def l_w168q_1 (n : Nat) (x_1 : Ty23) (x_2 : Ty23) (z0 : Int) : Option Bool :=
(lp (fun rec6 (z5 : Int) =>
 (cond (decide (z5 < (lenI x_1)))
 ((geti x_1 z5).bind fun y7 =>
 ((geti x_2 z5).bind fun y8 =>
 ((m_w167q (y7,y8)).bind fun r9 =>
 (cond (!r9)
 (some false)
 (rec6 (IntKind.wrap .i64 (z5 + 1)))))))
 (some true))) n z0)
def p_w168q (n : Nat) (x : Ty13) : Option Bool :=
(cond (!((lenI x.1) == (lenI x.2)))
 (some false)
 (l_w168q_1 n x.1 x.2 (0 : Int)))
def m_w168q := p_w168q FU
def a_w168q : Ann := (.node .leaf (.node .leaf (.node (.node .leaf (.loop [.slot 5 (.int .i64)] ([4] ++ rg 11 16) .leaf)) .leaf)))
def S_w168q : FSpec := ⟨[.val Kd4,.val Kd4],[.bool],m_w168q⟩
def p_w169q (_ : Nat) (x : Ty73) : Option Bool :=
(cond (!(x.1.1 == x.2.1))
 (some false)
 (cond (!(x.1.2 == x.2.2))
 (some false)
 (some true)))
def m_w169q := p_w169q FU
def a_w169q : Ann := .leaf
def S_w169q : FSpec := ⟨[.val Kd35,.val Kd35],[.bool],m_w169q⟩
def l_w170q_1 (n : Nat) (x_1 : (List (Int × Int))) (x_2 : (List (Int × Int))) (z0 : Int) : Option Bool :=
(lp (fun rec6 (z5 : Int) =>
 (cond (decide (z5 < (lenI x_1)))
 ((geti x_1 z5).bind fun y7 =>
 ((geti x_2 z5).bind fun y8 =>
 ((m_w169q (y7,y8)).bind fun r9 =>
 (cond (!r9)
 (some false)
 (rec6 (IntKind.wrap .i64 (z5 + 1)))))))
 (some true))) n z0)
def p_w170q (n : Nat) (x : Ty68) : Option Bool :=
(cond (!((lenI x.1) == (lenI x.2)))
 (some false)
 (l_w170q_1 n x.1 x.2 (0 : Int)))
def m_w170q := p_w170q FU
def a_w170q : Ann := (.node .leaf (.node .leaf (.node (.node .leaf (.loop [.slot 5 (.int .i64)] ([4] ++ rg 11 16) .leaf)) .leaf)))
def S_w170q : FSpec := ⟨[.val Kd34,.val Kd34],[.bool],m_w170q⟩
def p_w171q (_ : Nat) (x : Ty36) : Option Bool :=
(cond (!(x.1.1 == x.2.1))
 (some false)
 (cond (!(x.1.2.1 == x.2.2.1))
 (some false)
 (cond (!(x.1.2.2.1 == x.2.2.2.1))
 (some false)
 ((m_w169q (x.1.2.2.2.1,x.2.2.2.2.1)).bind fun r1 =>
 (cond (!r1)
 (some false)
 ((m_w170q (x.1.2.2.2.2,x.2.2.2.2.2)).bind fun r2 =>
 (cond (!r2)
 (some false)
 (some true))))))))
def m_w171q := p_w171q FU
def a_w171q : Ann := .leaf
def S_w171q : FSpec := ⟨[.val Kd22,.val Kd22],[.bool],m_w171q⟩
def l_w172q_1 (n : Nat) (x_1 : Ty56) (x_2 : Ty56) (z0 : Int) : Option Bool :=
(lp (fun rec6 (z5 : Int) =>
 (cond (decide (z5 < (lenI x_1)))
 ((geti x_1 z5).bind fun y7 =>
 ((geti x_2 z5).bind fun y8 =>
 ((m_w171q (y7,y8)).bind fun r9 =>
 (cond (!r9)
 (some false)
 (rec6 (IntKind.wrap .i64 (z5 + 1)))))))
 (some true))) n z0)
def p_w172q (n : Nat) (x : Ty33) : Option Bool :=
(cond (!((lenI x.1) == (lenI x.2)))
 (some false)
 (l_w172q_1 n x.1 x.2 (0 : Int)))
def m_w172q := p_w172q FU
def a_w172q : Ann := (.node .leaf (.node .leaf (.node (.node .leaf (.loop [.slot 5 (.int .i64)] ([4] ++ rg 11 16) .leaf)) .leaf)))
def S_w172q : FSpec := ⟨[.val Kd19,.val Kd19],[.bool],m_w172q⟩
def p_w173q (_ : Nat) (x : Ty33) : Option Bool :=
((m_w172q (x.1,x.2)).bind fun r1 =>
(cond (!r1)
 (some false)
 (some true)))
def m_w173q := p_w173q FU
def a_w173q : Ann := .leaf
def S_w173q : FSpec := ⟨[.val Kd18,.val Kd18],[.bool],m_w173q⟩
def l_w174q_1 (n : Nat) (x_1 : Ty52) (x_2 : Ty52) (z0 : Int) : Option Bool :=
(lp (fun rec6 (z5 : Int) =>
 (cond (decide (z5 < (lenI x_1)))
 ((geti x_1 z5).bind fun y7 =>
 ((geti x_2 z5).bind fun y8 =>
 ((m_w173q (y7,y8)).bind fun r9 =>
 (cond (!r9)
 (some false)
 (rec6 (IntKind.wrap .i64 (z5 + 1)))))))
 (some true))) n z0)
def p_w174q (n : Nat) (x : Ty26) : Option Bool :=
(cond (!((lenI x.1) == (lenI x.2)))
 (some false)
 (l_w174q_1 n x.1 x.2 (0 : Int)))
def m_w174q := p_w174q FU
def a_w174q : Ann := (.node .leaf (.node .leaf (.node (.node .leaf (.loop [.slot 5 (.int .i64)] ([4] ++ rg 11 16) .leaf)) .leaf)))
def S_w174q : FSpec := ⟨[.val Kd14,.val Kd14],[.bool],m_w174q⟩
def p_w175q (_ : Nat) (x : Ty32) : Option Bool :=
(cond (!(x.1.1 == x.2.1))
 (some false)
 (cond (!(x.1.2.1 == x.2.2.1))
 (some false)
 (cond (!(x.1.2.2.1 == x.2.2.2.1))
 (some false)
 (cond (!(x.1.2.2.2.1 == x.2.2.2.2.1))
 (some false)
 ((m_w166q (x.1.2.2.2.2.1,x.2.2.2.2.2.1)).bind fun r1 =>
 (cond (!r1)
 (some false)
 ((m_w170q (x.1.2.2.2.2.2,x.2.2.2.2.2.2)).bind fun r2 =>
 (cond (!r2)
 (some false)
 (some true)))))))))
def m_w175q := p_w175q FU
def a_w175q : Ann := .leaf
def S_w175q : FSpec := ⟨[.val Kd20,.val Kd20],[.bool],m_w175q⟩
def l_w176q_1 (n : Nat) (x_1 : Ty53) (x_2 : Ty53) (z0 : Int) : Option Bool :=
(lp (fun rec6 (z5 : Int) =>
 (cond (decide (z5 < (lenI x_1)))
 ((geti x_1 z5).bind fun y7 =>
 ((geti x_2 z5).bind fun y8 =>
 ((m_w175q (y7,y8)).bind fun r9 =>
 (cond (!r9)
 (some false)
 (rec6 (IntKind.wrap .i64 (z5 + 1)))))))
 (some true))) n z0)
def p_w176q (n : Nat) (x : Ty27) : Option Bool :=
(cond (!((lenI x.1) == (lenI x.2)))
 (some false)
 (l_w176q_1 n x.1 x.2 (0 : Int)))
def m_w176q := p_w176q FU
def a_w176q : Ann := (.node .leaf (.node .leaf (.node (.node .leaf (.loop [.slot 5 (.int .i64)] ([4] ++ rg 11 16) .leaf)) .leaf)))
def S_w176q : FSpec := ⟨[.val Kd16,.val Kd16],[.bool],m_w176q⟩
def p_w177q (_ : Nat) (x : Ty46) : Option Bool :=
(cond (!(x.1.1 == x.2.1))
 (some false)
 (cond (!(x.1.2.1 == x.2.2.1))
 (some false)
 (cond (!(x.1.2.2.1 == x.2.2.2.1))
 (some false)
 (cond (!(x.1.2.2.2.1 == x.2.2.2.2.1))
 (some false)
 (cond (!(x.1.2.2.2.2 == x.2.2.2.2.2))
 (some false)
 (some true))))))
def m_w177q := p_w177q FU
def a_w177q : Ann := .leaf
def S_w177q : FSpec := ⟨[.val Kd28,.val Kd28],[.bool],m_w177q⟩
def l_w178q_1 (n : Nat) (x_1 : Ty66) (x_2 : Ty66) (z0 : Int) : Option Bool :=
(lp (fun rec6 (z5 : Int) =>
 (cond (decide (z5 < (lenI x_1)))
 ((geti x_1 z5).bind fun y7 =>
 ((geti x_2 z5).bind fun y8 =>
 ((m_w177q (y7,y8)).bind fun r9 =>
 (cond (!r9)
 (some false)
 (rec6 (IntKind.wrap .i64 (z5 + 1)))))))
 (some true))) n z0)
def p_w178q (n : Nat) (x : Ty39) : Option Bool :=
(cond (!((lenI x.1) == (lenI x.2)))
 (some false)
 (l_w178q_1 n x.1 x.2 (0 : Int)))
def m_w178q := p_w178q FU
def a_w178q : Ann := (.node .leaf (.node .leaf (.node (.node .leaf (.loop [.slot 5 (.int .i64)] ([4] ++ rg 11 16) .leaf)) .leaf)))
def S_w178q : FSpec := ⟨[.val Kd27,.val Kd27],[.bool],m_w178q⟩
def p_w179q (_ : Nat) (x : Ty16) : Option Bool :=
(cond (!(x.1.1 == x.2.1))
 (some false)
 ((m_w176q (x.1.2.1,x.2.2.1)).bind fun r1 =>
 (cond (!r1)
 (some false)
 ((m_w178q (x.1.2.2,x.2.2.2)).bind fun r2 =>
 (cond (!r2)
 (some false)
 (some true))))))
def m_w179q := p_w179q FU
def a_w179q : Ann := .leaf
def S_w179q : FSpec := ⟨[.val Kd9,.val Kd9],[.bool],m_w179q⟩
def l_w180q_1 (n : Nat) (x_1 : Ty34) (x_2 : Ty34) (z0 : Int) : Option Bool :=
(lp (fun rec6 (z5 : Int) =>
 (cond (decide (z5 < (lenI x_1)))
 ((geti x_1 z5).bind fun y7 =>
 ((geti x_2 z5).bind fun y8 =>
 ((m_w179q (y7,y8)).bind fun r9 =>
 (cond (!r9)
 (some false)
 (rec6 (IntKind.wrap .i64 (z5 + 1)))))))
 (some true))) n z0)
def p_w180q (n : Nat) (x : Ty15) : Option Bool :=
(cond (!((lenI x.1) == (lenI x.2)))
 (some false)
 (l_w180q_1 n x.1 x.2 (0 : Int)))
def m_w180q := p_w180q FU
def a_w180q : Ann := (.node .leaf (.node .leaf (.node (.node .leaf (.loop [.slot 5 (.int .i64)] ([4] ++ rg 11 16) .leaf)) .leaf)))
def S_w180q : FSpec := ⟨[.val Kd8,.val Kd8],[.bool],m_w180q⟩
def p_w181q (_ : Nat) (x : Ty30) : Option Bool :=
(cond (!(x.1.1 == x.2.1))
 (some false)
 (cond (!(x.1.2.1 == x.2.2.1))
 (some false)
 (cond (!(x.1.2.2.1 == x.2.2.2.1))
 (some false)
 (cond (!(x.1.2.2.2.1 == x.2.2.2.2.1))
 (some false)
 (cond (!(x.1.2.2.2.2.1 == x.2.2.2.2.2.1))
 (some false)
 (cond (!(x.1.2.2.2.2.2.1 == x.2.2.2.2.2.2.1))
 (some false)
 (cond (!(x.1.2.2.2.2.2.2.1 == x.2.2.2.2.2.2.2.1))
 (some false)
 ((m_w169q (x.1.2.2.2.2.2.2.2,x.2.2.2.2.2.2.2.2)).bind fun r1 =>
 (cond (!r1)
 (some false)
 (some true))))))))))
def m_w181q := p_w181q FU
def a_w181q : Ann := .leaf
def S_w181q : FSpec := ⟨[.val Kd15,.val Kd15],[.bool],m_w181q⟩
def l_w182q_1 (n : Nat) (x_1 : Ty47) (x_2 : Ty47) (z0 : Int) : Option Bool :=
(lp (fun rec6 (z5 : Int) =>
 (cond (decide (z5 < (lenI x_1)))
 ((geti x_1 z5).bind fun y7 =>
 ((geti x_2 z5).bind fun y8 =>
 ((m_w181q (y7,y8)).bind fun r9 =>
 (cond (!r9)
 (some false)
 (rec6 (IntKind.wrap .i64 (z5 + 1)))))))
 (some true))) n z0)
def p_w182q (n : Nat) (x : Ty24) : Option Bool :=
(cond (!((lenI x.1) == (lenI x.2)))
 (some false)
 (l_w182q_1 n x.1 x.2 (0 : Int)))
def m_w182q := p_w182q FU
def a_w182q : Ann := (.node .leaf (.node .leaf (.node (.node .leaf (.loop [.slot 5 (.int .i64)] ([4] ++ rg 11 16) .leaf)) .leaf)))
def S_w182q : FSpec := ⟨[.val Kd12,.val Kd12],[.bool],m_w182q⟩
def p_w183q (_ : Nat) (x : Ty1) : Option Bool :=
((m_w161q (x.1.1,x.2.1)).bind fun r1 =>
(cond (!r1)
 (some false)
 ((m_w168q (x.1.2.1,x.2.2.1)).bind fun r2 =>
 (cond (!r2)
 (some false)
 ((m_w174q (x.1.2.2.1,x.2.2.2.1)).bind fun r3 =>
 (cond (!r3)
 (some false)
 ((m_w180q (x.1.2.2.2.1,x.2.2.2.2.1)).bind fun r4 =>
 (cond (!r4)
 (some false)
 ((m_w182q (x.1.2.2.2.2,x.2.2.2.2.2)).bind fun r5 =>
 (cond (!r5)
 (some false)
 (some true)))))))))))
def m_w183q := p_w183q FU
def a_w183q : Ann := .leaf
def S_w183q : FSpec := ⟨[.val Kd1,.val Kd1],[.bool],m_w183q⟩
def p_w184q (_ : Nat) (x : Ty12) : Option Bool :=
((m_w19q (x,(1048576 : Int))).bind fun r1 =>
(cond (decide (r1 < 0))
 (some true)
 ((m_w45q x).bind fun r2 =>
 ((m_w86q r2).bind fun r3 =>
 ((m_w45q x).bind fun r4 =>
 ((m_w157q r4).bind fun r5 =>
 (cond (!(r5 == r3))
 (some false)
 ((m_w45q x).bind fun r6 =>
 ((m_w183q (r4,r6)).bind fun r7 =>
 (cond (!r7)
 (some false)
 (some true)))))))))))
def m_w184q := p_w184q FU
def a_w184q : Ann := .leaf
def S_w184q : FSpec := ⟨[.val Kd1],[.bool],m_w184q⟩
def T : Tab := [
 (2,⟨false,1,8,[],0,[.int .i64 0],some (.int .i64),[0]⟩),
 (3,⟨false,1,8,[],0,[.int .i64 0],some (.int .i64),[0]⟩),
 (25,⟨false,1,24,[],2,[.nil],some Kd37,[]⟩),
 (43,⟨false,1,24,[],190,[.nil],some Kd24,[]⟩),
 (44,⟨false,1,24,[],195,[.nil],some Kd4,[]⟩),
 (45,⟨false,1,24,[],199,[.nil],some Kd14,[]⟩),
 (46,⟨false,1,24,[],204,[.nil],some Kd8,[]⟩),
 (47,⟨false,1,24,[],227,[.nil],some Kd12,[]⟩),
 (49,⟨true,5,120,[(0,1,43),(1,1,44),(2,1,45),(3,1,46),(4,1,47)],0,[.nil,.nil,.nil,.nil,.nil],some Kd1,[]⟩),
 (52,⟨false,1,24,[],71,[.nil],some Kd24,[]⟩),
 (53,⟨false,1,24,[],131,[.nil],some Kd4,[]⟩),
 (54,⟨false,1,24,[],135,[.nil],some Kd14,[]⟩),
 (55,⟨false,1,24,[],143,[.nil],some Kd8,[]⟩),
 (56,⟨false,1,24,[],120,[.nil],some Kd12,[]⟩),
 (58,⟨true,5,120,[(0,1,52),(1,1,53),(2,1,54),(3,1,55),(4,1,56)],0,[.nil,.nil,.nil,.nil,.nil],some Kd1,[]⟩),
 (69,⟨false,1,24,[],173,[.nil],some Kd30,[]⟩),
 (71,⟨true,2,32,[(0,1,2),(1,1,69)],0,[.int .i64 0,.nil],some Kd26,[]⟩),
 (115,⟨false,1,8,[],0,[.pnil],none,[]⟩),
 (118,⟨true,2,16,[(0,1,2),(1,1,2)],0,[.int .i64 0,.int .i64 0],some Kd35,[0,0]⟩),
 (120,⟨true,9,72,[(0,1,2),(1,1,2),(2,1,2),(3,1,2),(4,1,2),(5,1,2),(6,1,2),(7,2,118)],0,[.int .i64 0,.int .i64 0,.int .i64 0,.int .i64 0,.int .i64 0,.int .i64 0,.int .i64 0,.int .i64 0,.int .i64 0],some Kd15,[0,0,0,0,0,0,0,0,0]⟩),
 (128,⟨false,1,24,[],341,[.nil],some Kd32,[]⟩),
 (129,⟨false,1,24,[],208,[.nil],some Kd34,[]⟩),
 (131,⟨true,6,128,[(0,1,2),(1,1,128),(2,1,129),(3,1,52),(4,1,129),(5,1,25)],0,[.int .i64 0,.nil,.nil,.nil,.nil,.nil],some Kd5,[]⟩),
 (133,⟨false,1,24,[],211,[.nil],some Kd19,[]⟩),
 (135,⟨true,1,24,[(0,1,133)],0,[.nil],some Kd18,[]⟩),
 (140,⟨false,1,24,[],264,[.nil],some Kd16,[]⟩),
 (141,⟨false,1,24,[],214,[.nil],some Kd27,[]⟩),
 (143,⟨true,3,56,[(0,1,2),(1,1,140),(2,1,141)],0,[.int .i64 0,.nil,.nil],some Kd9,[]⟩),
 (173,⟨true,4,32,[(0,1,2),(1,1,2),(2,1,2),(3,1,2)],0,[.int .i64 0,.int .i64 0,.int .i64 0,.int .i64 0],some Kd31,[0,0,0,0]⟩),
 (183,⟨false,1,8,[],0,[.int .u64 0],some (.int .u64),[0]⟩),
 (188,⟨false,1,24,[],380,[.nil],some Kd30,[]⟩),
 (190,⟨true,2,32,[(0,1,2),(1,1,188)],0,[.int .i64 0,.nil],some Kd26,[]⟩),
 (192,⟨false,1,24,[],382,[.nil],some Kd32,[]⟩),
 (193,⟨false,1,24,[],384,[.nil],some Kd34,[]⟩),
 (195,⟨true,6,128,[(0,1,2),(1,1,192),(2,1,193),(3,1,43),(4,1,193),(5,1,25)],0,[.int .i64 0,.nil,.nil,.nil,.nil,.nil],some Kd5,[]⟩),
 (197,⟨false,1,24,[],370,[.nil],some Kd19,[]⟩),
 (199,⟨true,1,24,[(0,1,197)],0,[.nil],some Kd18,[]⟩),
 (201,⟨false,1,24,[],373,[.nil],some Kd16,[]⟩),
 (202,⟨false,1,24,[],388,[.nil],some Kd27,[]⟩),
 (204,⟨true,3,56,[(0,1,2),(1,1,201),(2,1,202)],0,[.int .i64 0,.nil,.nil],some Kd9,[]⟩),
 (208,⟨true,2,16,[(0,1,2),(1,1,2)],0,[.int .i64 0,.int .i64 0],some Kd35,[0,0]⟩),
 (209,⟨false,1,24,[],118,[.nil],some Kd34,[]⟩),
 (211,⟨true,6,64,[(0,1,2),(1,1,2),(2,1,2),(3,2,118),(5,1,209)],0,[.int .i64 0,.int .i64 0,.int .i64 0,.int .i64 0,.int .i64 0,.nil],some Kd22,[]⟩),
 (214,⟨true,5,40,[(0,1,2),(1,1,2),(2,1,2),(3,1,2),(4,1,2)],0,[.int .i64 0,.int .i64 0,.int .i64 0,.int .i64 0,.int .i64 0],some Kd28,[0,0,0,0,0]⟩),
 (225,⟨true,2,16,[(0,1,2),(1,1,2)],0,[.int .i64 0,.int .i64 0],some Kd35,[0,0]⟩),
 (227,⟨true,9,72,[(0,1,2),(1,1,2),(2,1,2),(3,1,2),(4,1,2),(5,1,2),(6,1,2),(7,2,225)],0,[.int .i64 0,.int .i64 0,.int .i64 0,.int .i64 0,.int .i64 0,.int .i64 0,.int .i64 0,.int .i64 0,.int .i64 0],some Kd15,[0,0,0,0,0,0,0,0,0]⟩),
 (264,⟨true,6,80,[(0,1,2),(1,1,2),(2,1,2),(3,1,2),(4,1,25),(5,1,209)],0,[.int .i64 0,.int .i64 0,.int .i64 0,.int .i64 0,.nil,.nil],some Kd20,[]⟩),
 (272,⟨false,1,8,[(2,0,2)],0,[.undef],none,[]⟩),
 (341,⟨true,3,24,[(0,1,2),(1,1,2),(2,1,2)],0,[.int .i64 0,.int .i64 0,.int .i64 0],some Kd33,[0,0,0]⟩),
 (365,⟨false,1,24,[],3,[.nil],some Kd37,[]⟩),
 (368,⟨false,1,24,[],225,[.nil],some Kd34,[]⟩),
 (370,⟨true,6,64,[(0,1,2),(1,1,2),(2,1,2),(3,2,225),(5,1,368)],0,[.int .i64 0,.int .i64 0,.int .i64 0,.int .i64 0,.int .i64 0,.nil],some Kd22,[]⟩),
 (373,⟨true,6,80,[(0,1,2),(1,1,2),(2,1,2),(3,1,2),(4,1,25),(5,1,368)],0,[.int .i64 0,.int .i64 0,.int .i64 0,.int .i64 0,.nil,.nil],some Kd20,[]⟩),
 (380,⟨true,4,32,[(0,1,2),(1,1,2),(2,1,2),(3,1,2)],0,[.int .i64 0,.int .i64 0,.int .i64 0,.int .i64 0],some Kd31,[0,0,0,0]⟩),
 (382,⟨true,3,24,[(0,1,2),(1,1,2),(2,1,2)],0,[.int .i64 0,.int .i64 0,.int .i64 0],some Kd33,[0,0,0]⟩),
 (384,⟨true,2,16,[(0,1,2),(1,1,2)],0,[.int .i64 0,.int .i64 0],some Kd35,[0,0]⟩),
 (388,⟨true,5,40,[(0,1,2),(1,1,2),(2,1,2),(3,1,2),(4,1,2)],0,[.int .i64 0,.int .i64 0,.int .i64 0,.int .i64 0,.int .i64 0],some Kd28,[0,0,0,0,0]⟩)]
def G_w0q : Env := (256,S_w0q) :: []
def G_w1q : Env := (151,S_w1q) :: G_w0q
def G_w2q : Env := (65,S_w2q) :: G_w1q
def G_w3q : Env := (257,S_w3q) :: G_w2q
def G_w4q : Env := (258,S_w4q) :: G_w3q
def G_w5q : Env := (259,S_w5q) :: G_w4q
def G_w6q : Env := (152,S_w6q) :: G_w5q
def G_w7q : Env := (66,S_w7q) :: G_w6q
def G_w8q : Env := (419,S_w8q) :: G_w7q
def G_w9q : Env := (350,S_w9q) :: G_w8q
def G_w10q : Env := (260,S_w10q) :: G_w9q
def G_w11q : Env := (153,S_w11q) :: G_w10q
def G_w12q : Env := (67,S_w12q) :: G_w11q
def G_w13q : Env := (351,S_w13q) :: G_w12q
def G_w14q : Env := (261,S_w14q) :: G_w13q
def G_w15q : Env := (262,S_w15q) :: G_w14q
def G_w16q : Env := (154,S_w16q) :: G_w15q
def G_w17q : Env := (68,S_w17q) :: G_w16q
def G_w18q : Env := (69,S_w18q) :: G_w17q
def G_w19q : Env := (18,S_w19q) :: G_w18q
def G_w20q : Env := (360,S_w20q) :: G_w19q
def G_w21q : Env := (268,S_w21q) :: G_w20q
def G_w22q : Env := (166,S_w22q) :: G_w21q
def G_w23q : Env := (75,S_w23q) :: G_w22q
def G_w24q : Env := (361,S_w24q) :: G_w23q
def G_w25q : Env := (269,S_w25q) :: G_w24q
def G_w26q : Env := (362,S_w26q) :: G_w25q
def G_w27q : Env := (270,S_w27q) :: G_w26q
def G_w28q : Env := (271,S_w28q) :: G_w27q
def G_w29q : Env := (167,S_w29q) :: G_w28q
def G_w30q : Env := (76,S_w30q) :: G_w29q
def G_w31q : Env := (275,S_w31q) :: G_w30q
def G_w32q : Env := (422,S_w32q) :: G_w31q
def G_w33q : Env := (363,S_w33q) :: G_w32q
def G_w34q : Env := (272,S_w34q) :: G_w33q
def G_w35q : Env := (168,S_w35q) :: G_w34q
def G_w36q : Env := (77,S_w36q) :: G_w35q
def G_w37q : Env := (364,S_w37q) :: G_w36q
def G_w38q : Env := (273,S_w38q) :: G_w37q
def G_w39q : Env := (365,S_w39q) :: G_w38q
def G_w40q : Env := (274,S_w40q) :: G_w39q
def G_w41q : Env := (169,S_w41q) :: G_w40q
def G_w42q : Env := (78,S_w42q) :: G_w41q
def G_w43q : Env := (170,S_w43q) :: G_w42q
def G_w44q : Env := (79,S_w44q) :: G_w43q
def G_w45q : Env := (20,S_w45q) :: G_w44q
def G_w46q : Env := (98,S_w46q) :: G_w45q
def G_w47q : Env := (136,S_w47q) :: G_w46q
def G_w48q : Env := (221,S_w48q) :: G_w47q
def G_w49q : Env := (116,S_w49q) :: G_w48q
def G_w50q : Env := (46,S_w50q) :: G_w49q
def G_w51q : Env := (117,S_w51q) :: G_w50q
def G_w52q : Env := (70,S_w52q) :: G_w51q
def G_w53q : Env := (420,S_w53q) :: G_w52q
def G_w54q : Env := (352,S_w54q) :: G_w53q
def G_w55q : Env := (263,S_w55q) :: G_w54q
def G_w56q : Env := (264,S_w56q) :: G_w55q
def G_w57q : Env := (353,S_w57q) :: G_w56q
def G_w58q : Env := (354,S_w58q) :: G_w57q
def G_w59q : Env := (355,S_w59q) :: G_w58q
def G_w60q : Env := (43,S_w60q) :: G_w59q
def G_w61q : Env := (356,S_w61q) :: G_w60q
def G_w62q : Env := (357,S_w62q) :: G_w61q
def G_w63q : Env := (421,S_w63q) :: G_w62q
def G_w64q : Env := (358,S_w64q) :: G_w63q
def G_w65q : Env := (265,S_w65q) :: G_w64q
def G_w66q : Env := (155,S_w66q) :: G_w65q
def G_w67q : Env := (118,S_w67q) :: G_w66q
def G_w68q : Env := (156,S_w68q) :: G_w67q
def G_w69q : Env := (119,S_w69q) :: G_w68q
def G_w70q : Env := (71,S_w70q) :: G_w69q
def G_w71q : Env := (159,S_w71q) :: G_w70q
def G_w72q : Env := (160,S_w72q) :: G_w71q
def G_w73q : Env := (163,S_w73q) :: G_w72q
def G_w74q : Env := (359,S_w74q) :: G_w73q
def G_w75q : Env := (266,S_w75q) :: G_w74q
def G_w76q : Env := (267,S_w76q) :: G_w75q
def G_w77q : Env := (157,S_w77q) :: G_w76q
def G_w78q : Env := (72,S_w78q) :: G_w77q
def G_w79q : Env := (164,S_w79q) :: G_w78q
def G_w80q : Env := (158,S_w80q) :: G_w79q
def G_w81q : Env := (161,S_w81q) :: G_w80q
def G_w82q : Env := (73,S_w82q) :: G_w81q
def G_w83q : Env := (162,S_w83q) :: G_w82q
def G_w84q : Env := (165,S_w84q) :: G_w83q
def G_w85q : Env := (74,S_w85q) :: G_w84q
def G_w86q : Env := (19,S_w86q) :: G_w85q
def G_w87q : Env := (81,S_w87q) :: G_w86q
def G_w88q : Env := (80,S_w88q) :: G_w87q
def G_w89q : Env := (82,S_w89q) :: G_w88q
def G_w90q : Env := (63,S_w90q) :: G_w89q
def G_w91q : Env := (222,S_w91q) :: G_w90q
def G_w92q : Env := (278,S_w92q) :: G_w91q
def G_w93q : Env := (414,S_w93q) :: G_w92q
def G_w94q : Env := (336,S_w94q) :: G_w93q
def G_w95q : Env := (223,S_w95q) :: G_w94q
def G_w96q : Env := (226,S_w96q) :: G_w95q
def G_w97q : Env := (122,S_w97q) :: G_w96q
def G_w98q : Env := (277,S_w98q) :: G_w97q
def G_w99q : Env := (171,S_w99q) :: G_w98q
def G_w100q : Env := (83,S_w100q) :: G_w99q
def G_w101q : Env := (335,S_w101q) :: G_w100q
def G_w102q : Env := (218,S_w102q) :: G_w101q
def G_w103q : Env := (251,S_w103q) :: G_w102q
def G_w104q : Env := (366,S_w104q) :: G_w103q
def G_w105q : Env := (279,S_w105q) :: G_w104q
def G_w106q : Env := (281,S_w106q) :: G_w105q
def G_w107q : Env := (282,S_w107q) :: G_w106q
def G_w108q : Env := (287,S_w108q) :: G_w107q
def G_w109q : Env := (459,S_w109q) :: G_w108q
def G_w110q : Env := (423,S_w110q) :: G_w109q
def G_w111q : Env := (367,S_w111q) :: G_w110q
def G_w112q : Env := (283,S_w112q) :: G_w111q
def G_w113q : Env := (57,S_w113q) :: G_w112q
def G_w114q : Env := (425,S_w114q) :: G_w113q
def G_w115q : Env := (368,S_w115q) :: G_w114q
def G_w116q : Env := (284,S_w116q) :: G_w115q
def G_w117q : Env := (370,S_w117q) :: G_w116q
def G_w118q : Env := (369,S_w118q) :: G_w117q
def G_w119q : Env := (285,S_w119q) :: G_w118q
def G_w120q : Env := (374,S_w120q) :: G_w119q
def G_w121q : Env := (461,S_w121q) :: G_w120q
def G_w122q : Env := (430,S_w122q) :: G_w121q
def G_w123q : Env := (375,S_w123q) :: G_w122q
def G_w124q : Env := (286,S_w124q) :: G_w123q
def G_w125q : Env := (172,S_w125q) :: G_w124q
def G_w126q : Env := (176,S_w126q) :: G_w125q
def G_w127q : Env := (174,S_w127q) :: G_w126q
def G_w128q : Env := (291,S_w128q) :: G_w127q
def G_w129q : Env := (177,S_w129q) :: G_w128q
def G_w130q : Env := (84,S_w130q) :: G_w129q
def G_w131q : Env := (297,S_w131q) :: G_w130q
def G_w132q : Env := (301,S_w132q) :: G_w131q
def G_w133q : Env := (376,S_w133q) :: G_w132q
def G_w134q : Env := (300,S_w134q) :: G_w133q
def G_w135q : Env := (377,S_w135q) :: G_w134q
def G_w136q : Env := (292,S_w136q) :: G_w135q
def G_w137q : Env := (293,S_w137q) :: G_w136q
def G_w138q : Env := (178,S_w138q) :: G_w137q
def G_w139q : Env := (86,S_w139q) :: G_w138q
def G_w140q : Env := (295,S_w140q) :: G_w139q
def G_w141q : Env := (298,S_w141q) :: G_w140q
def G_w142q : Env := (379,S_w142q) :: G_w141q
def G_w143q : Env := (338,S_w143q) :: G_w142q
def G_w144q : Env := (228,S_w144q) :: G_w143q
def G_w145q : Env := (296,S_w145q) :: G_w144q
def G_w146q : Env := (181,S_w146q) :: G_w145q
def G_w147q : Env := (299,S_w147q) :: G_w146q
def G_w148q : Env := (182,S_w148q) :: G_w147q
def G_w149q : Env := (88,S_w149q) :: G_w148q
def G_w150q : Env := (312,S_w150q) :: G_w149q
def G_w151q : Env := (196,S_w151q) :: G_w150q
def G_w152q : Env := (183,S_w152q) :: G_w151q
def G_w153q : Env := (184,S_w153q) :: G_w152q
def G_w154q : Env := (185,S_w154q) :: G_w153q
def G_w155q : Env := (186,S_w155q) :: G_w154q
def G_w156q : Env := (91,S_w156q) :: G_w155q
def G_w157q : Env := (21,S_w157q) :: G_w156q
def G_w158q : Env := (382,S_w158q) :: G_w157q
def G_w159q : Env := (302,S_w159q) :: G_w158q
def G_w160q : Env := (187,S_w160q) :: G_w159q
def G_w161q : Env := (92,S_w161q) :: G_w160q
def G_w162q : Env := (383,S_w162q) :: G_w161q
def G_w163q : Env := (303,S_w163q) :: G_w162q
def G_w164q : Env := (384,S_w164q) :: G_w163q
def G_w165q : Env := (304,S_w165q) :: G_w164q
def G_w166q : Env := (305,S_w166q) :: G_w165q
def G_w167q : Env := (188,S_w167q) :: G_w166q
def G_w168q : Env := (93,S_w168q) :: G_w167q
def G_w169q : Env := (309,S_w169q) :: G_w168q
def G_w170q : Env := (432,S_w170q) :: G_w169q
def G_w171q : Env := (385,S_w171q) :: G_w170q
def G_w172q : Env := (306,S_w172q) :: G_w171q
def G_w173q : Env := (189,S_w173q) :: G_w172q
def G_w174q : Env := (94,S_w174q) :: G_w173q
def G_w175q : Env := (386,S_w175q) :: G_w174q
def G_w176q : Env := (307,S_w176q) :: G_w175q
def G_w177q : Env := (387,S_w177q) :: G_w176q
def G_w178q : Env := (308,S_w178q) :: G_w177q
def G_w179q : Env := (190,S_w179q) :: G_w178q
def G_w180q : Env := (95,S_w180q) :: G_w179q
def G_w181q : Env := (191,S_w181q) :: G_w180q
def G_w182q : Env := (96,S_w182q) :: G_w181q
def G_w183q : Env := (22,S_w183q) :: G_w182q
def G_w184q : Env := (5,S_w184q) :: G_w183q
end
end Go.RvP
