/- The plain functions that the evaluator comes to, for FnExactCrashLeader. No condition. -/
import Derived.Test.YtjamkpjjlpmofaaGreatRvL
import Derived.Test.YtjamkpjjlpmofaaGreatRvT
namespace Go.RvP
open Go Go.Rv
noncomputable section
def rg (a : Nat) : Nat → List Nat
 | 0 => []
 | n + 1 => a :: rg (a + 1) n
abbrev Ty95 : Type := ((List Int) × (List Int))
abbrev Ty94 : Type := (Int × (List (Int × Int)))
abbrev Ty93 : Type := ((List (Int × Int)) × Int)
abbrev Ty92 : Type := (List (Int × (Int × Int)))
abbrev Ty91 : Type := ((Int × Int) × (Int × Int))
abbrev Ty90 : Type := (Int × (Int × (Int × Int)))
abbrev Ty89 : Type := (Int × Ty94)
abbrev Ty88 : Type := (Int × Ty92)
abbrev Ty87 : Type := (Ty92 × Int)
abbrev Ty86 : Type := (List Ty90)
abbrev Ty85 : Type := (Int × Ty90)
abbrev Ty84 : Type := ((List (Int × Int)) × (List (Int × Int)))
abbrev Ty83 : Type := (Ty92 × (Int × Int))
abbrev Ty82 : Type := (List Ty85)
abbrev Ty81 : Type := (Int × Ty86)
abbrev Ty80 : Type := (Ty86 × Int)
abbrev Ty79 : Type := ((Int × (Int × Int)) × (Int × (Int × Int)))
abbrev Ty78 : Type := (List Ty81)
abbrev Ty77 : Type := (Int × Ty82)
abbrev Ty76 : Type := (Ty82 × Int)
abbrev Ty75 : Type := (Ty81 × Int)
abbrev Ty74 : Type := (Int × Ty78)
abbrev Ty73 : Type := (Ty78 × Int)
abbrev Ty72 : Type := (Int × (Int × (Int × ((Int × Int) × (List (Int × Int))))))
abbrev Ty71 : Type := (Ty90 × Ty90)
abbrev Ty70 : Type := (Int × Ty74)
abbrev Ty69 : Type := (Ty92 × Ty86)
abbrev Ty68 : Type := (Int × (Int × (Int × (Int × ((List Int) × (List (Int × Int)))))))
abbrev Ty67 : Type := (List Ty72)
abbrev Ty66 : Type := (Ty72 × Int)
abbrev Ty65 : Type := (Int × (Int × (Int × (Int × Ty85))))
abbrev Ty64 : Type := (List Ty68)
abbrev Ty63 : Type := (List Ty67)
abbrev Ty62 : Type := (Ty86 × Ty86)
abbrev Ty61 : Type := (Int × Ty67)
abbrev Ty60 : Type := (Ty68 × Int)
abbrev Ty59 : Type := (Ty67 × Int)
abbrev Ty58 : Type := (List Ty65)
abbrev Ty57 : Type := (Ty85 × Ty85)
abbrev Ty56 : Type := (Int × Ty64)
abbrev Ty55 : Type := (Int × Ty63)
abbrev Ty54 : Type := (Ty64 × Int)
abbrev Ty53 : Type := (Ty63 × Int)
abbrev Ty52 : Type := (Int × Ty61)
abbrev Ty51 : Type := (Int × Ty58)
abbrev Ty50 : Type := (Ty58 × Int)
abbrev Ty49 : Type := (Int × Ty56)
abbrev Ty48 : Type := (Int × Ty55)
abbrev Ty47 : Type := (Ty82 × Ty82)
abbrev Ty46 : Type := (Ty81 × Ty81)
abbrev Ty45 : Type := (Int × Ty51)
abbrev Ty44 : Type := (Ty78 × Ty78)
abbrev Ty43 : Type := (Ty72 × Ty72)
abbrev Ty42 : Type := (Int × (Ty64 × Ty82))
abbrev Ty41 : Type := (List Ty42)
abbrev Ty40 : Type := (Ty67 × Ty67)
abbrev Ty39 : Type := (Ty68 × Ty68)
abbrev Ty38 : Type := (Int × Ty42)
abbrev Ty37 : Type := (Ty42 × Int)
abbrev Ty36 : Type := (Ty65 × Ty65)
abbrev Ty35 : Type := (Int × Ty41)
abbrev Ty34 : Type := (Ty41 × Int)
abbrev Ty33 : Type := (Ty64 × Ty64)
abbrev Ty32 : Type := (Ty63 × Ty63)
abbrev Ty31 : Type := (Int × (Ty92 × ((List (Int × Int)) × (Ty78 × ((List (Int × Int)) × (List Int))))))
abbrev Ty30 : Type := (Int × Ty35)
abbrev Ty29 : Type := (Ty58 × Ty58)
abbrev Ty28 : Type := (List Ty31)
abbrev Ty27 : Type := (Int × Ty31)
abbrev Ty26 : Type := (Ty31 × Int)
abbrev Ty25 : Type := (Int × Ty28)
abbrev Ty24 : Type := (Ty28 × Int)
abbrev Ty23 : Type := (Ty31 × (Int × Int))
abbrev Ty22 : Type := (Int × Ty25)
abbrev Ty21 : Type := (Ty31 × Ty81)
abbrev Ty20 : Type := (Ty31 × Ty46)
abbrev Ty19 : Type := (Ty42 × Ty42)
abbrev Ty18 : Type := (Ty41 × Ty41)
abbrev Ty17 : Type := (Ty31 × Ty31)
abbrev Ty16 : Type := (Ty28 × Ty28)
abbrev Ty15 : Type := (Ty78 × (Ty28 × (Ty63 × (Ty41 × Ty58))))
abbrev Ty14 : Type := (Int × Ty15)
abbrev Ty13 : Type := (Ty15 × Int)
abbrev Ty12 : Type := (Ty14 × Int)
abbrev Ty11 : Type := (Ty15 × (Int × Int))
abbrev Ty10 : Type := (Ty15 × Ty82)
abbrev Ty9 : Type := (Ty15 × Ty81)
abbrev Ty8 : Type := (Ty15 × Ty68)
abbrev Ty7 : Type := (Ty15 × Ty67)
abbrev Ty6 : Type := (Ty15 × Ty65)
abbrev Ty5 : Type := (Ty15 × Ty64)
abbrev Ty4 : Type := (Ty15 × Ty54)
abbrev Ty3 : Type := (Ty15 × Ty42)
abbrev Ty2 : Type := (Ty15 × Ty15)
abbrev Ty1 : Type := (Ty14 × Ty14)
abbrev Kd47 : Kd := (.sl none (.int .i64))
abbrev Kd46 : Kd := (.sl (some 2) (.int .i64))
abbrev Kd45 : Kd := (.pair (.int .i64) (.int .i64))
abbrev Kd44 : Kd := (.sl none Kd45)
abbrev Kd43 : Kd := (.pair (.int .i64) Kd45)
abbrev Kd42 : Kd := (.sl none Kd43)
abbrev Kd41 : Kd := (.sl (some 341) Kd43)
abbrev Kd40 : Kd := (.pair (.int .i64) Kd43)
abbrev Kd39 : Kd := (.sl none Kd40)
abbrev Kd38 : Kd := (.sl (some 173) Kd40)
abbrev Kd37 : Kd := (.pair (.int .i64) Kd40)
abbrev Kd36 : Kd := (.sl none Kd37)
abbrev Kd35 : Kd := (.pair (.int .i64) Kd39)
abbrev Kd34 : Kd := (.sl (some 214) Kd37)
abbrev Kd33 : Kd := (.pair (.int .i64) Kd38)
abbrev Kd32 : Kd := (.sl none Kd35)
abbrev Kd31 : Kd := (.sl (some 71) Kd33)
abbrev Kd30 : Kd := (.pair (.int .i64) (.pair (.int .i64) (.pair (.int .i64) (.pair Kd45 Kd44))))
abbrev Kd29 : Kd := (.pair (.int .i64) (.pair (.int .i64) (.pair (.int .i64) (.pair Kd45 (.sl (some 118) Kd45)))))
abbrev Kd28 : Kd := (.pair (.int .i64) (.pair (.int .i64) (.pair (.int .i64) (.pair (.int .i64) (.pair Kd47 Kd44)))))
abbrev Kd27 : Kd := (.sl none Kd30)
abbrev Kd26 : Kd := (.one Kd27)
abbrev Kd25 : Kd := (.pair (.int .i64) (.pair (.int .i64) (.pair (.int .i64) (.pair (.int .i64) (.pair Kd46 (.sl (some 118) Kd45))))))
abbrev Kd24 : Kd := (.sl none Kd28)
abbrev Kd23 : Kd := (.one (.sl (some 211) Kd30))
abbrev Kd22 : Kd := (.pair (.int .i64) (.pair (.int .i64) (.pair (.int .i64) (.pair (.int .i64) Kd37))))
abbrev Kd21 : Kd := (.sl none Kd26)
abbrev Kd20 : Kd := (.one (.sl (some 211) Kd29))
abbrev Kd19 : Kd := (.sl (some 135) Kd26)
abbrev Kd18 : Kd := (.sl (some 264) Kd25)
abbrev Kd17 : Kd := (.sl none Kd22)
abbrev Kd16 : Kd := (.sl (some 120) Kd22)
abbrev Kd15 : Kd := (.sl (some 135) Kd20)
abbrev Kd14 : Kd := (.pair (.int .i64) (.pair Kd24 Kd36))
abbrev Kd13 : Kd := (.sl none Kd14)
abbrev Kd12 : Kd := (.pair (.int .i64) (.pair (.sl (some 264) Kd28) Kd34))
abbrev Kd11 : Kd := (.pair (.int .i64) (.pair Kd18 Kd34))
abbrev Kd10 : Kd := (.pair (.int .i64) (.pair Kd42 (.pair Kd44 (.pair Kd32 (.pair Kd44 Kd47)))))
abbrev Kd9 : Kd := (.sl none Kd10)
abbrev Kd8 : Kd := (.pair (.int .i64) (.pair Kd41 (.pair (.sl (some 208) Kd45) (.pair (.sl (some 71) Kd35) (.pair (.sl (some 208) Kd45) Kd46)))))
abbrev Kd7 : Kd := (.pair (.int .i64) (.pair Kd41 (.pair (.sl (some 208) Kd45) (.pair Kd31 (.pair (.sl (some 208) Kd45) Kd46)))))
abbrev Kd6 : Kd := (.pair Kd32 (.pair Kd9 (.pair Kd21 (.pair Kd13 Kd17))))
abbrev Kd5 : Kd := (.pair (.int .i64) Kd6)
abbrev Kd4 : Kd := (.pair (.sl (some 71) Kd35) (.pair (.sl (some 131) Kd10) (.pair Kd19 (.pair (.sl (some 143) Kd14) Kd16))))
abbrev Kd3 : Kd := (.pair (.int .i64) Kd4)
abbrev Kd2 : Kd := (.pair Kd31 (.pair (.sl (some 131) Kd7) (.pair Kd15 (.pair (.sl (some 143) Kd11) Kd16))))
abbrev Kd1 : Kd := (.pair (.int .i64) Kd2)
def p_w0q (_ : Nat) (x : Ty80) : Option Int :=
(cond (decide ((IntKind.wrap .i64 (x.2 - (lenI x.1))) < 0))
 (some (-1 : Int))
 (some (IntKind.wrap .i64 (x.2 - (lenI x.1)))))
def m_w0q := p_w0q FU
def a_w0q : Ann := .leaf
def S_w0q : FSpec := ⟨[.val Kd39,.val (.int .i64)],[(.int .i64)],m_w0q⟩
def p_w1q (_ : Nat) (x : Ty75) : Option Int :=
((m_w0q (x.1.2,x.2)).bind fun r1 =>
(cond (decide (r1 < 0))
 (some (-1 : Int))
 (some r1)))
def m_w1q := p_w1q FU
def a_w1q : Ann := .leaf
def S_w1q : FSpec := ⟨[.val Kd35,.val (.int .i64)],[(.int .i64)],m_w1q⟩
def l_w2q_1 (n : Nat) (x_1 : Ty78) (z0 : (Int × Int)) : Option Int :=
(lp (fun rec5 (z4 : (Int × Int)) =>
 (cond (decide (z4.2 < (lenI x_1)))
 ((geti x_1 z4.2).bind fun y6 =>
 ((m_w1q (y6,z4.1)).bind fun r7 =>
 (cond (decide (r7 < 0))
 (some (-1 : Int))
 (rec5 (r7,IntKind.wrap .i64 (z4.2 + 1))))))
 (some z4.1))) n z0)
def p_w2q (n : Nat) (x : Ty73) : Option Int :=
(cond (decide ((IntKind.wrap .i64 (x.2 - (lenI x.1))) < 0))
 (some (-1 : Int))
 (l_w2q_1 n x.1 (IntKind.wrap .i64 (x.2 - (lenI x.1)),(0 : Int))))
def m_w2q := p_w2q FU
def a_w2q : Ann := (.node .leaf (.node .leaf (.node .leaf (.node (.node .leaf (.loop [.slot 1 (.int .i64),.slot 5 (.int .i64)] ([4] ++ rg 12 14) .leaf)) .leaf))))
def S_w2q : FSpec := ⟨[.val Kd32,.val (.int .i64)],[(.int .i64)],m_w2q⟩
def p_w3q (_ : Nat) (x : Ty87) : Option Int :=
(cond (decide ((IntKind.wrap .i64 (x.2 - (lenI x.1))) < 0))
 (some (-1 : Int))
 (some (IntKind.wrap .i64 (x.2 - (lenI x.1)))))
def m_w3q := p_w3q FU
def a_w3q : Ann := .leaf
def S_w3q : FSpec := ⟨[.val Kd42,.val (.int .i64)],[(.int .i64)],m_w3q⟩
def p_w4q (_ : Nat) (x : Ty93) : Option Int :=
(cond (decide ((IntKind.wrap .i64 (x.2 - (lenI x.1))) < 0))
 (some (-1 : Int))
 (some (IntKind.wrap .i64 (x.2 - (lenI x.1)))))
def m_w4q := p_w4q FU
def a_w4q : Ann := .leaf
def S_w4q : FSpec := ⟨[.val Kd44,.val (.int .i64)],[(.int .i64)],m_w4q⟩
def p_w5q (_ : Nat) (x : ((List Int) × Int)) : Option Int :=
(cond (decide ((IntKind.wrap .i64 (x.2 - (lenI x.1))) < 0))
 (some (-1 : Int))
 (some (IntKind.wrap .i64 (x.2 - (lenI x.1)))))
def m_w5q := p_w5q FU
def a_w5q : Ann := .leaf
def S_w5q : FSpec := ⟨[.val Kd47,.val (.int .i64)],[(.int .i64)],m_w5q⟩
def p_w6q (_ : Nat) (x : Ty26) : Option Int :=
((m_w3q (x.1.2.1,x.2)).bind fun r1 =>
(cond (decide (r1 < 0))
 (some (-1 : Int))
 ((m_w4q (x.1.2.2.1,r1)).bind fun r2 =>
 (cond (decide (r2 < 0))
 (some (-1 : Int))
 ((m_w2q (x.1.2.2.2.1,r2)).bind fun r3 =>
 (cond (decide (r3 < 0))
 (some (-1 : Int))
 ((m_w4q (x.1.2.2.2.2.1,r3)).bind fun r4 =>
 (cond (decide (r4 < 0))
 (some (-1 : Int))
 ((m_w5q (x.1.2.2.2.2.2,r4)).bind fun r5 =>
 (cond (decide (r5 < 0))
 (some (-1 : Int))
 (some r5)))))))))))
def m_w6q := p_w6q FU
def a_w6q : Ann := .leaf
def S_w6q : FSpec := ⟨[.val Kd10,.val (.int .i64)],[(.int .i64)],m_w6q⟩
def l_w7q_1 (n : Nat) (x_1 : Ty28) (z0 : (Int × Int)) : Option Int :=
(lp (fun rec5 (z4 : (Int × Int)) =>
 (cond (decide (z4.2 < (lenI x_1)))
 ((geti x_1 z4.2).bind fun y6 =>
 ((m_w6q (y6,z4.1)).bind fun r7 =>
 (cond (decide (r7 < 0))
 (some (-1 : Int))
 (rec5 (r7,IntKind.wrap .i64 (z4.2 + 1))))))
 (some z4.1))) n z0)
def p_w7q (n : Nat) (x : Ty24) : Option Int :=
(cond (decide ((IntKind.wrap .i64 (x.2 - (lenI x.1))) < 0))
 (some (-1 : Int))
 (l_w7q_1 n x.1 (IntKind.wrap .i64 (x.2 - (lenI x.1)),(0 : Int))))
def m_w7q := p_w7q FU
def a_w7q : Ann := (.node .leaf (.node .leaf (.node .leaf (.node (.node .leaf (.loop [.slot 1 (.int .i64),.slot 5 (.int .i64)] ([4] ++ rg 12 14) .leaf)) .leaf))))
def S_w7q : FSpec := ⟨[.val Kd9,.val (.int .i64)],[(.int .i64)],m_w7q⟩
def p_w8q (_ : Nat) (x : Ty93) : Option Int :=
(cond (decide ((IntKind.wrap .i64 (x.2 - (lenI x.1))) < 0))
 (some (-1 : Int))
 (some (IntKind.wrap .i64 (x.2 - (lenI x.1)))))
def m_w8q := p_w8q FU
def a_w8q : Ann := .leaf
def S_w8q : FSpec := ⟨[.val Kd44,.val (.int .i64)],[(.int .i64)],m_w8q⟩
def p_w9q (_ : Nat) (x : Ty66) : Option Int :=
((m_w8q (x.1.2.2.2.2,x.2)).bind fun r1 =>
(cond (decide (r1 < 0))
 (some (-1 : Int))
 (some r1)))
def m_w9q := p_w9q FU
def a_w9q : Ann := .leaf
def S_w9q : FSpec := ⟨[.val Kd30,.val (.int .i64)],[(.int .i64)],m_w9q⟩
def l_w10q_1 (n : Nat) (x_1 : Ty67) (z0 : (Int × Int)) : Option Int :=
(lp (fun rec5 (z4 : (Int × Int)) =>
 (cond (decide (z4.2 < (lenI x_1)))
 ((geti x_1 z4.2).bind fun y6 =>
 ((m_w9q (y6,z4.1)).bind fun r7 =>
 (cond (decide (r7 < 0))
 (some (-1 : Int))
 (rec5 (r7,IntKind.wrap .i64 (z4.2 + 1))))))
 (some z4.1))) n z0)
def p_w10q (n : Nat) (x : Ty59) : Option Int :=
(cond (decide ((IntKind.wrap .i64 (x.2 - (lenI x.1))) < 0))
 (some (-1 : Int))
 (l_w10q_1 n x.1 (IntKind.wrap .i64 (x.2 - (lenI x.1)),(0 : Int))))
def m_w10q := p_w10q FU
def a_w10q : Ann := (.node .leaf (.node .leaf (.node .leaf (.node (.node .leaf (.loop [.slot 1 (.int .i64),.slot 5 (.int .i64)] ([4] ++ rg 12 14) .leaf)) .leaf))))
def S_w10q : FSpec := ⟨[.val Kd27,.val (.int .i64)],[(.int .i64)],m_w10q⟩
def p_w11q (_ : Nat) (x : Ty59) : Option Int :=
((m_w10q (x.1,x.2)).bind fun r1 =>
(cond (decide (r1 < 0))
 (some (-1 : Int))
 (some r1)))
def m_w11q := p_w11q FU
def a_w11q : Ann := .leaf
def S_w11q : FSpec := ⟨[.val Kd26,.val (.int .i64)],[(.int .i64)],m_w11q⟩
def l_w12q_1 (n : Nat) (x_1 : Ty63) (z0 : (Int × Int)) : Option Int :=
(lp (fun rec5 (z4 : (Int × Int)) =>
 (cond (decide (z4.2 < (lenI x_1)))
 ((geti x_1 z4.2).bind fun y6 =>
 ((m_w11q (y6,z4.1)).bind fun r7 =>
 (cond (decide (r7 < 0))
 (some (-1 : Int))
 (rec5 (r7,IntKind.wrap .i64 (z4.2 + 1))))))
 (some z4.1))) n z0)
def p_w12q (n : Nat) (x : Ty53) : Option Int :=
(cond (decide ((IntKind.wrap .i64 (x.2 - (lenI x.1))) < 0))
 (some (-1 : Int))
 (l_w12q_1 n x.1 (IntKind.wrap .i64 (x.2 - (lenI x.1)),(0 : Int))))
def m_w12q := p_w12q FU
def a_w12q : Ann := (.node .leaf (.node .leaf (.node .leaf (.node (.node .leaf (.loop [.slot 1 (.int .i64),.slot 5 (.int .i64)] ([4] ++ rg 12 14) .leaf)) .leaf))))
def S_w12q : FSpec := ⟨[.val Kd21,.val (.int .i64)],[(.int .i64)],m_w12q⟩
def p_w13q (_ : Nat) (x : Ty60) : Option Int :=
((m_w5q (x.1.2.2.2.2.1,x.2)).bind fun r1 =>
(cond (decide (r1 < 0))
 (some (-1 : Int))
 ((m_w8q (x.1.2.2.2.2.2,r1)).bind fun r2 =>
 (cond (decide (r2 < 0))
 (some (-1 : Int))
 (some r2)))))
def m_w13q := p_w13q FU
def a_w13q : Ann := .leaf
def S_w13q : FSpec := ⟨[.val Kd28,.val (.int .i64)],[(.int .i64)],m_w13q⟩
def l_w14q_1 (n : Nat) (x_1 : Ty64) (z0 : (Int × Int)) : Option Int :=
(lp (fun rec5 (z4 : (Int × Int)) =>
 (cond (decide (z4.2 < (lenI x_1)))
 ((geti x_1 z4.2).bind fun y6 =>
 ((m_w13q (y6,z4.1)).bind fun r7 =>
 (cond (decide (r7 < 0))
 (some (-1 : Int))
 (rec5 (r7,IntKind.wrap .i64 (z4.2 + 1))))))
 (some z4.1))) n z0)
def p_w14q (n : Nat) (x : Ty54) : Option Int :=
(cond (decide ((IntKind.wrap .i64 (x.2 - (lenI x.1))) < 0))
 (some (-1 : Int))
 (l_w14q_1 n x.1 (IntKind.wrap .i64 (x.2 - (lenI x.1)),(0 : Int))))
def m_w14q := p_w14q FU
def a_w14q : Ann := (.node .leaf (.node .leaf (.node .leaf (.node (.node .leaf (.loop [.slot 1 (.int .i64),.slot 5 (.int .i64)] ([4] ++ rg 12 14) .leaf)) .leaf))))
def S_w14q : FSpec := ⟨[.val Kd24,.val (.int .i64)],[(.int .i64)],m_w14q⟩
def p_w15q (_ : Nat) (x : Ty76) : Option Int :=
(cond (decide ((IntKind.wrap .i64 (x.2 - (lenI x.1))) < 0))
 (some (-1 : Int))
 (some (IntKind.wrap .i64 (x.2 - (lenI x.1)))))
def m_w15q := p_w15q FU
def a_w15q : Ann := .leaf
def S_w15q : FSpec := ⟨[.val Kd36,.val (.int .i64)],[(.int .i64)],m_w15q⟩
def p_w16q (_ : Nat) (x : Ty37) : Option Int :=
((m_w14q (x.1.2.1,x.2)).bind fun r1 =>
(cond (decide (r1 < 0))
 (some (-1 : Int))
 ((m_w15q (x.1.2.2,r1)).bind fun r2 =>
 (cond (decide (r2 < 0))
 (some (-1 : Int))
 (some r2)))))
def m_w16q := p_w16q FU
def a_w16q : Ann := .leaf
def S_w16q : FSpec := ⟨[.val Kd14,.val (.int .i64)],[(.int .i64)],m_w16q⟩
def l_w17q_1 (n : Nat) (x_1 : Ty41) (z0 : (Int × Int)) : Option Int :=
(lp (fun rec5 (z4 : (Int × Int)) =>
 (cond (decide (z4.2 < (lenI x_1)))
 ((geti x_1 z4.2).bind fun y6 =>
 ((m_w16q (y6,z4.1)).bind fun r7 =>
 (cond (decide (r7 < 0))
 (some (-1 : Int))
 (rec5 (r7,IntKind.wrap .i64 (z4.2 + 1))))))
 (some z4.1))) n z0)
def p_w17q (n : Nat) (x : Ty34) : Option Int :=
(cond (decide ((IntKind.wrap .i64 (x.2 - (lenI x.1))) < 0))
 (some (-1 : Int))
 (l_w17q_1 n x.1 (IntKind.wrap .i64 (x.2 - (lenI x.1)),(0 : Int))))
def m_w17q := p_w17q FU
def a_w17q : Ann := (.node .leaf (.node .leaf (.node .leaf (.node (.node .leaf (.loop [.slot 1 (.int .i64),.slot 5 (.int .i64)] ([4] ++ rg 12 14) .leaf)) .leaf))))
def S_w17q : FSpec := ⟨[.val Kd13,.val (.int .i64)],[(.int .i64)],m_w17q⟩
def p_w18q (_ : Nat) (x : Ty50) : Option Int :=
(cond (decide ((IntKind.wrap .i64 (x.2 - (lenI x.1))) < 0))
 (some (-1 : Int))
 (some (IntKind.wrap .i64 (x.2 - (lenI x.1)))))
def m_w18q := p_w18q FU
def a_w18q : Ann := .leaf
def S_w18q : FSpec := ⟨[.val Kd17,.val (.int .i64)],[(.int .i64)],m_w18q⟩
def p_w19q (_ : Nat) (x : Ty13) : Option Int :=
((m_w2q (x.1.1,x.2)).bind fun r1 =>
(cond (decide (r1 < 0))
 (some (-1 : Int))
 ((m_w7q (x.1.2.1,r1)).bind fun r2 =>
 (cond (decide (r2 < 0))
 (some (-1 : Int))
 ((m_w12q (x.1.2.2.1,r2)).bind fun r3 =>
 (cond (decide (r3 < 0))
 (some (-1 : Int))
 ((m_w17q (x.1.2.2.2.1,r3)).bind fun r4 =>
 (cond (decide (r4 < 0))
 (some (-1 : Int))
 ((m_w18q (x.1.2.2.2.2,r4)).bind fun r5 =>
 (cond (decide (r5 < 0))
 (some (-1 : Int))
 (some r5)))))))))))
def m_w19q := p_w19q FU
def a_w19q : Ann := .leaf
def S_w19q : FSpec := ⟨[.val Kd6,.val (.int .i64)],[(.int .i64)],m_w19q⟩
def p_w20q (_ : Nat) (x : Ty90) : Option Ty90 :=
some x
def m_w20q := p_w20q FU
def a_w20q : Ann := .leaf
def S_w20q : FSpec := ⟨[.val Kd40],[Kd40],m_w20q⟩
def l_w21q_1 (n : Nat) (x : Ty86) (z0 : Ty81) : Option Ty86 :=
(lp (fun rec10 (z9 : Ty81) =>
 (cond (decide (z9.1 < (lenI x)))
 ((geti x z9.1).bind fun y11 =>
 ((m_w20q y11).bind fun r12 =>
 ((geti z9.2 z9.1).bind fun _ =>
 ((z9.2[z9.1.toNat]?).bind fun y13 =>
 rec10 (IntKind.wrap .i64 (z9.1 + 1),(z9.2.set z9.1.toNat r12))))))
 (some z9.2))) n z0)
def p_w21q (n : Nat) (x : Ty86) : Option Ty86 :=
(if (lenI x) = (lenI x) then (if 0 ≤ (lenI x) then chk (Nat.ble (32 * (lenI x).toNat) maxBytes)
(l_w21q_1 n x ((0 : Int),(List.replicate (lenI x).toNat ((0 : Int),((0 : Int),((0 : Int),(0 : Int))))))) else none) else none)
def m_w21q := p_w21q FU
def a_w21q : Ann := (.node .leaf (.node .leaf (.node (.node .leaf (.loop [.slot 4 (.int .i64),.row 0 173 Kd40] (rg 8 14) .leaf)) .leaf)))
def S_w21q : FSpec := ⟨[.val Kd39],[Kd38],m_w21q⟩
def p_w22q (_ : Nat) (x : Ty81) : Option Ty81 :=
((m_w21q x.2).bind fun r1 =>
some (x.1,r1))
def m_w22q := p_w22q FU
def a_w22q : Ann := .leaf
def S_w22q : FSpec := ⟨[.val Kd35],[Kd33],m_w22q⟩
def l_w23q_1 (n : Nat) (x : Ty78) (z0 : Ty74) : Option Ty78 :=
(lp (fun rec8 (z7 : Ty74) =>
 (cond (decide (z7.1 < (lenI x)))
 ((geti x z7.1).bind fun y9 =>
 ((m_w22q y9).bind fun r10 =>
 ((geti z7.2 z7.1).bind fun _ =>
 ((z7.2[z7.1.toNat]?).bind fun _ =>
 rec8 (IntKind.wrap .i64 (z7.1 + 1),(z7.2.set z7.1.toNat r10))))))
 (some z7.2))) n z0)
def p_w23q (n : Nat) (x : Ty78) : Option Ty78 :=
(if (lenI x) = (lenI x) then (if 0 ≤ (lenI x) then chk (Nat.ble (32 * (lenI x).toNat) maxBytes)
(l_w23q_1 n x ((0 : Int),(List.replicate (lenI x).toNat ((0 : Int),[])))) else none) else none)
def m_w23q := p_w23q FU
def a_w23q : Ann := (.node .leaf (.node (.own 7 Kd33 .leaf) (.node (.node .leaf (.loop [.slot 4 (.int .i64),.row 0 71 Kd33] (rg 8 14) .leaf)) .leaf)))
def S_w23q : FSpec := ⟨[.val Kd32],[Kd31],m_w23q⟩
def p_w24q (_ : Nat) (x : (Int × (Int × Int))) : Option (Int × (Int × Int)) :=
some x
def m_w24q := p_w24q FU
def a_w24q : Ann := .leaf
def S_w24q : FSpec := ⟨[.val Kd43],[Kd43],m_w24q⟩
def l_w25q_1 (n : Nat) (x : Ty92) (z0 : Ty88) : Option Ty92 :=
(lp (fun rec10 (z9 : Ty88) =>
 (cond (decide (z9.1 < (lenI x)))
 ((geti x z9.1).bind fun y11 =>
 ((m_w24q y11).bind fun r12 =>
 ((geti z9.2 z9.1).bind fun _ =>
 ((z9.2[z9.1.toNat]?).bind fun y13 =>
 rec10 (IntKind.wrap .i64 (z9.1 + 1),(z9.2.set z9.1.toNat r12))))))
 (some z9.2))) n z0)
def p_w25q (n : Nat) (x : Ty92) : Option Ty92 :=
(if (lenI x) = (lenI x) then (if 0 ≤ (lenI x) then chk (Nat.ble (24 * (lenI x).toNat) maxBytes)
(l_w25q_1 n x ((0 : Int),(List.replicate (lenI x).toNat ((0 : Int),((0 : Int),(0 : Int)))))) else none) else none)
def m_w25q := p_w25q FU
def a_w25q : Ann := (.node .leaf (.node .leaf (.node (.node .leaf (.loop [.slot 4 (.int .i64),.row 0 341 Kd43] (rg 8 14) .leaf)) .leaf)))
def S_w25q : FSpec := ⟨[.val Kd42],[Kd41],m_w25q⟩
def p_w26q (_ : Nat) (x : (Int × Int)) : Option (Int × Int) :=
some x
def m_w26q := p_w26q FU
def a_w26q : Ann := .leaf
def S_w26q : FSpec := ⟨[.val Kd45],[Kd45],m_w26q⟩
def l_w27q_1 (n : Nat) (x : (List (Int × Int))) (z0 : Ty94) : Option (List (Int × Int)) :=
(lp (fun rec10 (z9 : Ty94) =>
 (cond (decide (z9.1 < (lenI x)))
 ((geti x z9.1).bind fun y11 =>
 ((m_w26q y11).bind fun r12 =>
 ((geti z9.2 z9.1).bind fun _ =>
 ((z9.2[z9.1.toNat]?).bind fun y13 =>
 rec10 (IntKind.wrap .i64 (z9.1 + 1),(z9.2.set z9.1.toNat r12))))))
 (some z9.2))) n z0)
def p_w27q (n : Nat) (x : (List (Int × Int))) : Option (List (Int × Int)) :=
(if (lenI x) = (lenI x) then (if 0 ≤ (lenI x) then chk (Nat.ble (16 * (lenI x).toNat) maxBytes)
(l_w27q_1 n x ((0 : Int),(List.replicate (lenI x).toNat ((0 : Int),(0 : Int))))) else none) else none)
def m_w27q := p_w27q FU
def a_w27q : Ann := (.node .leaf (.node .leaf (.node (.node .leaf (.loop [.slot 4 (.int .i64),.row 0 208 Kd45] (rg 8 14) .leaf)) .leaf)))
def S_w27q : FSpec := ⟨[.val Kd44],[(.sl (some 208) Kd45)],m_w27q⟩
def l_w28q_1 (n : Nat) (x : (List Int)) (z0 : (Int × (List Int))) : Option (List Int) :=
(lp (fun rec8 (z7 : (Int × (List Int))) =>
 (cond (decide (z7.1 < (lenI x)))
 ((geti x z7.1).bind fun y9 =>
 ((geti z7.2 z7.1).bind fun _ =>
 ((z7.2[z7.1.toNat]?).bind fun y10 =>
 rec8 (IntKind.wrap .i64 (z7.1 + 1),(z7.2.set z7.1.toNat y9)))))
 (some z7.2))) n z0)
def p_w28q (n : Nat) (x : (List Int)) : Option (List Int) :=
(if (lenI x) = (lenI x) then (if 0 ≤ (lenI x) then chk (Nat.ble (8 * (lenI x).toNat) maxBytes)
(l_w28q_1 n x ((0 : Int),(List.replicate (lenI x).toNat (0 : Int)))) else none) else none)
def m_w28q := p_w28q FU
def a_w28q : Ann := (.node .leaf (.node .leaf (.node (.node .leaf (.loop [.slot 4 (.int .i64),.row 0 2 (.int .i64)] (rg 8 13) .leaf)) .leaf)))
def S_w28q : FSpec := ⟨[.val Kd47],[Kd46],m_w28q⟩
def p_w29q (_ : Nat) (x : Ty31) : Option Ty31 :=
((m_w25q x.2.1).bind fun r1 =>
((m_w27q x.2.2.1).bind fun r2 =>
((m_w23q x.2.2.2.1).bind fun r3 =>
((m_w27q x.2.2.2.2.1).bind fun r4 =>
((m_w28q x.2.2.2.2.2).bind fun r5 =>
some (x.1,(r1,(r2,(r3,(r4,r5))))))))))
def m_w29q := p_w29q FU
def a_w29q : Ann := .leaf
def S_w29q : FSpec := ⟨[.val Kd10],[Kd7],m_w29q⟩
def l_w30q_1 (n : Nat) (x : Ty28) (z0 : Ty25) : Option Ty28 :=
(lp (fun rec8 (z7 : Ty25) =>
 (cond (decide (z7.1 < (lenI x)))
 ((geti x z7.1).bind fun y9 =>
 ((m_w29q y9).bind fun r10 =>
 ((geti z7.2 z7.1).bind fun _ =>
 ((z7.2[z7.1.toNat]?).bind fun _ =>
 rec8 (IntKind.wrap .i64 (z7.1 + 1),(z7.2.set z7.1.toNat r10))))))
 (some z7.2))) n z0)
def p_w30q (n : Nat) (x : Ty28) : Option Ty28 :=
(if (lenI x) = (lenI x) then (if 0 ≤ (lenI x) then chk (Nat.ble (128 * (lenI x).toNat) maxBytes)
(l_w30q_1 n x ((0 : Int),(List.replicate (lenI x).toNat ((0 : Int),([],([],([],([],[])))))))) else none) else none)
def m_w30q := p_w30q FU
def a_w30q : Ann := (.node .leaf (.node (.own 7 Kd7 .leaf) (.node (.node .leaf (.loop [.slot 4 (.int .i64),.row 0 131 Kd7] (rg 8 14) .leaf)) .leaf)))
def S_w30q : FSpec := ⟨[.val Kd9],[(.sl (some 131) Kd7)],m_w30q⟩
def p_w31q (_ : Nat) (x : (Int × Int)) : Option (Int × Int) :=
some x
def m_w31q := p_w31q FU
def a_w31q : Ann := .leaf
def S_w31q : FSpec := ⟨[.val Kd45],[Kd45],m_w31q⟩
def l_w32q_1 (n : Nat) (x : (List (Int × Int))) (z0 : Ty94) : Option (List (Int × Int)) :=
(lp (fun rec10 (z9 : Ty94) =>
 (cond (decide (z9.1 < (lenI x)))
 ((geti x z9.1).bind fun y11 =>
 ((m_w31q y11).bind fun r12 =>
 ((geti z9.2 z9.1).bind fun _ =>
 ((z9.2[z9.1.toNat]?).bind fun y13 =>
 rec10 (IntKind.wrap .i64 (z9.1 + 1),(z9.2.set z9.1.toNat r12))))))
 (some z9.2))) n z0)
def p_w32q (n : Nat) (x : (List (Int × Int))) : Option (List (Int × Int)) :=
(if (lenI x) = (lenI x) then (if 0 ≤ (lenI x) then chk (Nat.ble (16 * (lenI x).toNat) maxBytes)
(l_w32q_1 n x ((0 : Int),(List.replicate (lenI x).toNat ((0 : Int),(0 : Int))))) else none) else none)
def m_w32q := p_w32q FU
def a_w32q : Ann := (.node .leaf (.node .leaf (.node (.node .leaf (.loop [.slot 4 (.int .i64),.row 0 118 Kd45] (rg 8 14) .leaf)) .leaf)))
def S_w32q : FSpec := ⟨[.val Kd44],[(.sl (some 118) Kd45)],m_w32q⟩
def p_w33q (_ : Nat) (x : Ty72) : Option Ty72 :=
((m_w31q x.2.2.2.1).bind fun r1 =>
((m_w32q x.2.2.2.2).bind fun r2 =>
some (x.1,(x.2.1,(x.2.2.1,(r1,r2))))))
def m_w33q := p_w33q FU
def a_w33q : Ann := .leaf
def S_w33q : FSpec := ⟨[.val Kd30],[Kd29],m_w33q⟩
def l_w34q_1 (n : Nat) (x : Ty67) (z0 : Ty61) : Option Ty67 :=
(lp (fun rec8 (z7 : Ty61) =>
 (cond (decide (z7.1 < (lenI x)))
 ((geti x z7.1).bind fun y9 =>
 ((m_w33q y9).bind fun r10 =>
 ((geti z7.2 z7.1).bind fun _ =>
 ((z7.2[z7.1.toNat]?).bind fun _ =>
 rec8 (IntKind.wrap .i64 (z7.1 + 1),(z7.2.set z7.1.toNat r10))))))
 (some z7.2))) n z0)
def p_w34q (n : Nat) (x : Ty67) : Option Ty67 :=
(if (lenI x) = (lenI x) then (if 0 ≤ (lenI x) then chk (Nat.ble (64 * (lenI x).toNat) maxBytes)
(l_w34q_1 n x ((0 : Int),(List.replicate (lenI x).toNat ((0 : Int),((0 : Int),((0 : Int),(((0 : Int),(0 : Int)),[]))))))) else none) else none)
def m_w34q := p_w34q FU
def a_w34q : Ann := (.node .leaf (.node (.own 7 Kd29 .leaf) (.node (.node .leaf (.loop [.slot 4 (.int .i64),.row 0 211 Kd29] (rg 8 14) .leaf)) .leaf)))
def S_w34q : FSpec := ⟨[.val Kd27],[(.sl (some 211) Kd29)],m_w34q⟩
def p_w35q (_ : Nat) (x : Ty67) : Option Ty67 :=
((m_w34q x).bind fun r1 =>
some r1)
def m_w35q := p_w35q FU
def a_w35q : Ann := .leaf
def S_w35q : FSpec := ⟨[.val Kd26],[Kd20],m_w35q⟩
def l_w36q_1 (n : Nat) (x : Ty63) (z0 : Ty55) : Option Ty63 :=
(lp (fun rec8 (z7 : Ty55) =>
 (cond (decide (z7.1 < (lenI x)))
 ((geti x z7.1).bind fun y9 =>
 ((m_w35q y9).bind fun r10 =>
 ((geti z7.2 z7.1).bind fun _ =>
 ((z7.2[z7.1.toNat]?).bind fun _ =>
 rec8 (IntKind.wrap .i64 (z7.1 + 1),(z7.2.set z7.1.toNat r10))))))
 (some z7.2))) n z0)
def p_w36q (n : Nat) (x : Ty63) : Option Ty63 :=
(if (lenI x) = (lenI x) then (if 0 ≤ (lenI x) then chk (Nat.ble (24 * (lenI x).toNat) maxBytes)
(l_w36q_1 n x ((0 : Int),(List.replicate (lenI x).toNat []))) else none) else none)
def m_w36q := p_w36q FU
def a_w36q : Ann := (.node .leaf (.node (.own 7 Kd20 .leaf) (.node (.node .leaf (.loop [.slot 4 (.int .i64),.row 0 135 Kd20] (rg 8 14) .leaf)) .leaf)))
def S_w36q : FSpec := ⟨[.val Kd21],[Kd15],m_w36q⟩
def p_w37q (_ : Nat) (x : Ty68) : Option Ty68 :=
((m_w28q x.2.2.2.2.1).bind fun r1 =>
((m_w32q x.2.2.2.2.2).bind fun r2 =>
some (x.1,(x.2.1,(x.2.2.1,(x.2.2.2.1,(r1,r2)))))))
def m_w37q := p_w37q FU
def a_w37q : Ann := .leaf
def S_w37q : FSpec := ⟨[.val Kd28],[Kd25],m_w37q⟩
def l_w38q_1 (n : Nat) (x : Ty64) (z0 : Ty56) : Option Ty64 :=
(lp (fun rec8 (z7 : Ty56) =>
 (cond (decide (z7.1 < (lenI x)))
 ((geti x z7.1).bind fun y9 =>
 ((m_w37q y9).bind fun r10 =>
 ((geti z7.2 z7.1).bind fun _ =>
 ((z7.2[z7.1.toNat]?).bind fun _ =>
 rec8 (IntKind.wrap .i64 (z7.1 + 1),(z7.2.set z7.1.toNat r10))))))
 (some z7.2))) n z0)
def p_w38q (n : Nat) (x : Ty64) : Option Ty64 :=
(if (lenI x) = (lenI x) then (if 0 ≤ (lenI x) then chk (Nat.ble (80 * (lenI x).toNat) maxBytes)
(l_w38q_1 n x ((0 : Int),(List.replicate (lenI x).toNat ((0 : Int),((0 : Int),((0 : Int),((0 : Int),([],[])))))))) else none) else none)
def m_w38q := p_w38q FU
def a_w38q : Ann := (.node .leaf (.node (.own 7 Kd25 .leaf) (.node (.node .leaf (.loop [.slot 4 (.int .i64),.row 0 264 Kd25] (rg 8 14) .leaf)) .leaf)))
def S_w38q : FSpec := ⟨[.val Kd24],[Kd18],m_w38q⟩
def p_w39q (_ : Nat) (x : Ty85) : Option Ty85 :=
some x
def m_w39q := p_w39q FU
def a_w39q : Ann := .leaf
def S_w39q : FSpec := ⟨[.val Kd37],[Kd37],m_w39q⟩
def l_w40q_1 (n : Nat) (x : Ty82) (z0 : Ty77) : Option Ty82 :=
(lp (fun rec10 (z9 : Ty77) =>
 (cond (decide (z9.1 < (lenI x)))
 ((geti x z9.1).bind fun y11 =>
 ((m_w39q y11).bind fun r12 =>
 ((geti z9.2 z9.1).bind fun _ =>
 ((z9.2[z9.1.toNat]?).bind fun y13 =>
 rec10 (IntKind.wrap .i64 (z9.1 + 1),(z9.2.set z9.1.toNat r12))))))
 (some z9.2))) n z0)
def p_w40q (n : Nat) (x : Ty82) : Option Ty82 :=
(if (lenI x) = (lenI x) then (if 0 ≤ (lenI x) then chk (Nat.ble (40 * (lenI x).toNat) maxBytes)
(l_w40q_1 n x ((0 : Int),(List.replicate (lenI x).toNat ((0 : Int),((0 : Int),((0 : Int),((0 : Int),(0 : Int)))))))) else none) else none)
def m_w40q := p_w40q FU
def a_w40q : Ann := (.node .leaf (.node .leaf (.node (.node .leaf (.loop [.slot 4 (.int .i64),.row 0 214 Kd37] (rg 8 14) .leaf)) .leaf)))
def S_w40q : FSpec := ⟨[.val Kd36],[Kd34],m_w40q⟩
def p_w41q (_ : Nat) (x : Ty42) : Option Ty42 :=
((m_w38q x.2.1).bind fun r1 =>
((m_w40q x.2.2).bind fun r2 =>
some (x.1,(r1,r2))))
def m_w41q := p_w41q FU
def a_w41q : Ann := .leaf
def S_w41q : FSpec := ⟨[.val Kd14],[Kd11],m_w41q⟩
def l_w42q_1 (n : Nat) (x : Ty41) (z0 : Ty35) : Option Ty41 :=
(lp (fun rec8 (z7 : Ty35) =>
 (cond (decide (z7.1 < (lenI x)))
 ((geti x z7.1).bind fun y9 =>
 ((m_w41q y9).bind fun r10 =>
 ((geti z7.2 z7.1).bind fun _ =>
 ((z7.2[z7.1.toNat]?).bind fun _ =>
 rec8 (IntKind.wrap .i64 (z7.1 + 1),(z7.2.set z7.1.toNat r10))))))
 (some z7.2))) n z0)
def p_w42q (n : Nat) (x : Ty41) : Option Ty41 :=
(if (lenI x) = (lenI x) then (if 0 ≤ (lenI x) then chk (Nat.ble (56 * (lenI x).toNat) maxBytes)
(l_w42q_1 n x ((0 : Int),(List.replicate (lenI x).toNat ((0 : Int),([],[]))))) else none) else none)
def m_w42q := p_w42q FU
def a_w42q : Ann := (.node .leaf (.node (.own 7 Kd11 .leaf) (.node (.node .leaf (.loop [.slot 4 (.int .i64),.row 0 143 Kd11] (rg 8 14) .leaf)) .leaf)))
def S_w42q : FSpec := ⟨[.val Kd13],[(.sl (some 143) Kd11)],m_w42q⟩
def p_w43q (_ : Nat) (x : Ty65) : Option Ty65 :=
((m_w31q x.2.2.2.2.2.2.2).bind fun r1 =>
some (x.1,(x.2.1,(x.2.2.1,(x.2.2.2.1,(x.2.2.2.2.1,(x.2.2.2.2.2.1,(x.2.2.2.2.2.2.1,r1))))))))
def m_w43q := p_w43q FU
def a_w43q : Ann := .leaf
def S_w43q : FSpec := ⟨[.val Kd22],[Kd22],m_w43q⟩
def l_w44q_1 (n : Nat) (x : Ty58) (z0 : Ty51) : Option Ty58 :=
(lp (fun rec10 (z9 : Ty51) =>
 (cond (decide (z9.1 < (lenI x)))
 ((geti x z9.1).bind fun y11 =>
 ((m_w43q y11).bind fun r12 =>
 ((geti z9.2 z9.1).bind fun _ =>
 ((z9.2[z9.1.toNat]?).bind fun y13 =>
 rec10 (IntKind.wrap .i64 (z9.1 + 1),(z9.2.set z9.1.toNat r12))))))
 (some z9.2))) n z0)
def p_w44q (n : Nat) (x : Ty58) : Option Ty58 :=
(if (lenI x) = (lenI x) then (if 0 ≤ (lenI x) then chk (Nat.ble (72 * (lenI x).toNat) maxBytes)
(l_w44q_1 n x ((0 : Int),(List.replicate (lenI x).toNat ((0 : Int),((0 : Int),((0 : Int),((0 : Int),((0 : Int),((0 : Int),((0 : Int),((0 : Int),(0 : Int)))))))))))) else none) else none)
def m_w44q := p_w44q FU
def a_w44q : Ann := (.node .leaf (.node .leaf (.node (.node .leaf (.loop [.slot 4 (.int .i64),.row 0 120 Kd22] (rg 8 14) .leaf)) .leaf)))
def S_w44q : FSpec := ⟨[.val Kd17],[Kd16],m_w44q⟩
def p_w45q (_ : Nat) (x : Ty15) : Option Ty15 :=
((m_w23q x.1).bind fun r1 =>
((m_w30q x.2.1).bind fun r2 =>
((m_w36q x.2.2.1).bind fun r3 =>
((m_w42q x.2.2.2.1).bind fun r4 =>
((m_w44q x.2.2.2.2).bind fun r5 =>
some (r1,(r2,(r3,(r4,r5)))))))))
def m_w45q := p_w45q FU
def a_w45q : Ann := .leaf
def S_w45q : FSpec := ⟨[.val Kd6],[Kd2],m_w45q⟩
def p_w46q (_ : Nat) (x : (Int × (Int × Int))) : Option Bool :=
(cond (decide (x.1 ≥ x.2.1))
 (some (decide (x.1 ≤ x.2.2)))
 (some false))
def m_w46q := p_w46q FU
def a_w46q : Ann := .leaf
def S_w46q : FSpec := ⟨[.val (.int .i64),.val (.int .i64),.val (.int .i64)],[.bool],m_w46q⟩
def p_w47q (_ : Nat) (x : Int) : Option Bool :=
((m_w46q (x,(1 : Int),(1000000000 : Int))).bind fun r1 =>
some r1)
def m_w47q := p_w47q FU
def a_w47q : Ann := .leaf
def S_w47q : FSpec := ⟨[.val (.int .i64)],[.bool],m_w47q⟩
def p_w48q (_ : Nat) (x : Ty90) : Option Int :=
(Option.bind (α := Bool)
 ((m_w46q (x.1,(0 : Int),(2 : Int))).bind fun r5 =>
 (cond (!r5)
 (some true)
 ((m_w46q (x.2.1,(0 : Int),(5 : Int))).bind fun r6 =>
 (cond (!r6)
 (some true)
 ((m_w46q (x.2.2.1,(0 : Int),(2 : Int))).bind fun r7 =>
 (cond (!r7)
 (some true)
 ((m_w46q (x.2.2.2,(-1000000000000 : Int),(1000000000000 : Int))).bind fun r8 =>
 some (!r8)))))))) fun j9 =>
(cond j9
 (some (3 : Int))
 (cond (x.2.2.2 == 0)
 (some (1 : Int))
 (some (0 : Int)))))
def m_w48q := p_w48q FU
def a_w48q : Ann := (.node .leaf (.node (.join [.slot 24 .bool] (rg 3 21) .leaf .leaf) .leaf))
def S_w48q : FSpec := ⟨[.val Kd40],[(.int .i64)],m_w48q⟩
def l_w49q_1 (n : Nat) (z225_1 : Int) (x_2 : Ty86) (y248_1 : Int) (y248_2_1 : Int) (y248_2_2_1 : Int) (z0 : Int) : Option (Unit ⊕ ((List Int) ⊕ ((List Int) ⊕ Int))) :=
(lp (fun rec262 (z261 : Int) =>
 (cond (decide (z261 < z225_1))
 ((geti x_2 z261).bind fun y263 =>
 (Option.bind (α := Bool)
 (cond (y263.1 == y248_1)
 (cond (y263.2.1 == y248_2_1)
 (some (y263.2.2.1 == y248_2_2_1))
 (some false))
 (some false)) fun j264 =>
 (cond j264
 (some (Sum.inr (Sum.inr (Sum.inr (7 : Int)))))
 (rec262 (IntKind.wrap .i64 (z261 + 1))))))
 (some (Sum.inl ())))) n z0)
def l_w49q_2 (n : Nat) (x_2 : Ty86) (z0 : (Int × (List Int))) : Option ((List Int) ⊕ Int) :=
(lp (fun rec226 (z225 : (Int × (List Int))) =>
 (cond (decide (z225.1 < (lenI x_2)))
 (Option.bind (α := ((List Int) ⊕ ((List Int) ⊕ Int)))
 ((geti x_2 z225.1).bind fun y248 =>
 ((m_w48q y248).bind fun r249 =>
 (cond (!(r249 == 0))
 (some (Sum.inr (Sum.inr r249)))
 (Option.bind (α := (Unit ⊕ ((List Int) ⊕ ((List Int) ⊕ Int))))
 (l_w49q_1 n z225.1 x_2 y248.1 y248.2.1 y248.2.2.1 (0 : Int))
 (Sum.elim (fun j266 =>
 ((geti z225.2 y248.2.2.1).bind fun _ =>
 ((z225.2[y248.2.2.1.toNat]?).bind fun y267 =>
 ((geti z225.2 y248.2.2.1).bind fun _ =>
 ((z225.2[y248.2.2.1.toNat]?).bind fun y268 =>
 some (Sum.inl (z225.2.set y248.2.2.1.toNat (IntKind.wrap .i64 (y267 + y248.2.2.2))))))))) some)))))
 (Sum.elim (fun j269 =>
 rec226 (IntKind.wrap .i64 (z225.1 + 1),j269)) some))
 (some (Sum.inl z225.2)))) n z0)
def l_w49q_3 (n : Nat) (j271 : (List Int)) (z0 : Int) : Option Int :=
(lp (fun rec275 (z274 : Int) =>
 (cond (decide (z274 < (lenI j271)))
 ((geti j271 z274).bind fun _ =>
 ((j271[z274.toNat]?).bind fun y276 =>
 (cond (!(y276 == 0))
 (some (1 : Int))
 (rec275 (IntKind.wrap .i64 (z274 + 1))))))
 (some (0 : Int)))) n z0)
def p_w49q (n : Nat) (x : Ty81) : Option Int :=
((m_w47q x.1).bind fun r1 =>
(cond (!r1)
 (some (3 : Int))
 (Option.bind (α := Bool)
 (cond (decide ((lenI x.2) < 2))
 (some true)
 (some (decide ((lenI x.2) > 8)))) fun j2 =>
 (cond j2
 (some (2 : Int))
 (if (3 : Int) = (3 : Int) then (if 0 ≤ (3 : Int) then chk (Nat.ble (8 * (3 : Int).toNat) maxBytes)
 (Option.bind (α := ((List Int) ⊕ Int))
 (l_w49q_2 n x.2 ((0 : Int),(List.replicate (3 : Int).toNat (0 : Int))))
 (Sum.elim (fun j271 =>
 (l_w49q_3 n j271 (0 : Int))) some)) else none) else none)))))
def m_w49q := p_w49q FU
def a_w49q : Ann := (.node .leaf (.node .leaf (.node (.join [.slot 23 .bool] (rg 14 9) .leaf .leaf) (.node .leaf (.joinx [.row 1 2 (.int .i64)] ([2,4,5,6,7,8] ++ rg 25 58) (.node .leaf (.loop [.slot 4 (.int .i64),.row 1 2 (.int .i64)] ([2,5,6,7,8] ++ rg 25 58) (.node .leaf (.joinx [.row 1 2 (.int .i64)] ([2,5,6,7,8] ++ rg 32 9 ++ rg 42 41) (.node .leaf (.node .leaf (.joinx [] ([2,7,8] ++ rg 42 29) (.node .leaf (.loop [.slot 7 (.int .i64)] ([2,8] ++ rg 42 29) (.node .leaf (.node (.node .leaf (.join [.slot 70 .bool] (rg 52 18) .leaf .leaf)) .leaf)))) .leaf))) .leaf)))) (.node (.node .leaf (.loop [.slot 9 (.int .i64)] ([2] ++ rg 83 11) .leaf)) .leaf))))))
def S_w49q : FSpec := ⟨[.val Kd35],[(.int .i64)],m_w49q⟩
def l_w50q_1 (n : Nat) (x_1 : (List Int)) (x_2 : Int) (z0 : Int) : Option Int :=
(lp (fun rec16 (z15 : Int) =>
 (Option.bind (α := Bool)
 (cond (decide (z15 < (lenI x_1)))
 ((geti x_1 z15).bind fun y18 =>
 some (decide (y18 < x_2)))
 (some false)) fun j19 =>
 (cond j19
 (rec16 (IntKind.wrap .i64 (z15 + 1)))
 (some z15)))) n z0)
def p_w50q (n : Nat) (x : ((List Int) × Int)) : Option (List Int) :=
(Option.bind (α := Int)
 (l_w50q_1 n x.1 x.2 (0 : Int)) fun j21 =>
(Option.bind (α := Bool)
 (cond (decide (j21 < (lenI x.1)))
 ((geti x.1 j21).bind fun y23 =>
 some (y23 == x.2))
 (some false)) fun j24 =>
(cond j24
 (some x.1)
 (chk (bndB none (some j21) none x.1.length)
 (chk (bndB (some j21) none none x.1.length)
 (chk (Nat.ble ((cutL none (some j21) x.1).length * 8) maxBytes)
 (chk (Nat.ble (((cutL none (some j21) x.1).length + [x.2].length) * 8) maxBytes)
 (chk (Nat.ble ((((cutL none (some j21) x.1) ++ [x.2]).length + (cutL (some j21) none x.1).length) * 8) maxBytes)
 (some (((cutL none (some j21) x.1) ++ [x.2]) ++ (cutL (some j21) none x.1)))))))))))
def m_w50q := p_w50q FU
def a_w50q : Ann := (.node .leaf (.node .leaf (.join [.slot 5 (.int .i64)] (rg 6 14) (.loop [.slot 5 (.int .i64)] (rg 6 14) (.node (.join [.slot 17 .bool] (rg 6 11) .leaf .leaf) .leaf)) (.node (.join [.slot 31 .bool] (rg 20 11) .leaf .leaf) (.node (.lazy 39 (.lazy 33 .leaf)) .leaf)))))
def S_w50q : FSpec := ⟨[.val Kd47,.val (.int .i64)],[Kd47],m_w50q⟩
def l_w51q_1 (n : Nat) (x_2 : Ty86) (z0 : ((List Int) × Int)) : Option (List Int) :=
(lp (fun rec8 (z7 : ((List Int) × Int)) =>
 (cond (decide (z7.2 < (lenI x_2)))
 ((geti x_2 z7.2).bind fun y9 =>
 ((m_w50q (z7.1,y9.1)).bind fun r10 =>
 rec8 (r10,IntKind.wrap .i64 (z7.2 + 1))))
 (some z7.1))) n z0)
def p_w51q (n : Nat) (x : Ty81) : Option (List Int) :=
(l_w51q_1 n x.2 (([] : List Int),(0 : Int)))
def m_w51q := p_w51q FU
def a_w51q : Ann := (.node .leaf (.node .leaf (.node (.node .leaf (.loop [.slot 3 Kd47,.slot 4 (.int .i64)] (rg 6 15) .leaf)) .leaf)))
def S_w51q : FSpec := ⟨[.val Kd35],[Kd47],m_w51q⟩
def l_w52q_1 (n : Nat) (x_1 : Ty78) (x_2_1 : Ty28) (z0 : Int) : Option Int :=
(lp (fun rec10 (z9 : Int) =>
 (cond (decide (z9 < (lenI x_1)))
 ((geti x_1 z9).bind fun y11 =>
 ((m_w49q y11).bind fun r12 =>
 (cond (!(r12 == 0))
 (some r12)
 ((m_w51q y11).bind fun r13 =>
 ((geti r13 (IntKind.wrap .i64 ((lenI r13) - 1))).bind fun y14 =>
 (cond (decide (y14 ≥ (lenI x_2_1)))
 (some (4 : Int))
 (Option.bind (α := Bool)
 (cond (decide (z9 > 0))
 ((geti x_1 (IntKind.wrap .i64 (z9 - 1))).bind fun y16 =>
 some (decide (y11.1 ≤ y16.1)))
 (some false)) fun j17 =>
 (cond j17
 (some (1 : Int))
 (rec10 (IntKind.wrap .i64 (z9 + 1)))))))))))
 (some (0 : Int)))) n z0)
def p_w52q (n : Nat) (x : Ty15) : Option Int :=
(l_w52q_1 n x.1 x.2.1 (0 : Int))
def m_w52q := p_w52q FU
def a_w52q : Ann := (.node .leaf (.node (.node .leaf (.loop [.slot 3 (.int .i64)] ([2] ++ rg 4 54) (.node .leaf (.node (.node .leaf (.node .leaf (.node .leaf (.node .leaf (.join [.slot 57 .bool] (rg 42 15) .leaf .leaf))))) .leaf)))) .leaf))
def S_w52q : FSpec := ⟨[.rp Kd6],[(.int .i64)],m_w52q⟩
def p_w53q (_ : Nat) (x : (Int × Int)) : Option Bool :=
((m_w46q (x.1,(0 : Int),(5 : Int))).bind fun r1 =>
(cond r1
 ((m_w46q (x.2,(0 : Int),(2 : Int))).bind fun r2 =>
 some r2)
 (some false)))
def m_w53q := p_w53q FU
def a_w53q : Ann := .leaf
def S_w53q : FSpec := ⟨[.val (.int .i64),.val (.int .i64)],[.bool],m_w53q⟩
def l_w54q_1 (n : Nat) (x : Ty92) (z0 : Int) : Option Int :=
(lp (fun rec14 (z13 : Int) =>
 (cond (decide (z13 < (lenI x)))
 ((geti x z13).bind fun y15 =>
 (Option.bind (α := Bool)
 ((m_w53q (y15.1,y15.2.1)).bind fun r18 =>
 (cond (!r18)
 (some true)
 ((m_w46q (y15.2.2,(1 : Int),(1000000000000 : Int))).bind fun r19 =>
 some (!r19)))) fun j20 =>
 (cond j20
 (some (3 : Int))
 (Option.bind (α := Bool)
 (cond (decide (z13 > 0))
 ((geti x (IntKind.wrap .i64 (z13 - 1))).bind fun y23 =>
 ((geti x (IntKind.wrap .i64 (z13 - 1))).bind fun y24 =>
 some (decide ((IntKind.wrap .i64 ((IntKind.wrap .i64 (y15.1 * (3 : Int))) + y15.2.1)) ≤ (IntKind.wrap .i64 ((IntKind.wrap .i64 (y23.1 * (3 : Int))) + y24.2.1))))))
 (some false)) fun j25 =>
 (cond j25
 (some (1 : Int))
 (rec14 (IntKind.wrap .i64 (z13 + 1))))))))
 (some (0 : Int)))) n z0)
def p_w54q (n : Nat) (x : Ty92) : Option Int :=
(cond (decide ((lenI x) > 18))
 (some (2 : Int))
 (l_w54q_1 n x (0 : Int)))
def m_w54q := p_w54q FU
def a_w54q : Ann := (.node .leaf (.node .leaf (.node (.node .leaf (.loop [.slot 3 (.int .i64)] ([2,4] ++ rg 8 47) (.node .leaf (.node (.node .leaf (.node (.join [.slot 29 .bool] (rg 18 11) .leaf .leaf) (.join [.slot 54 .bool] (rg 30 24) .leaf .leaf))) .leaf)))) .leaf)))
def S_w54q : FSpec := ⟨[.val Kd42],[(.int .i64)],m_w54q⟩
def p_w55q (_ : Nat) (x : Ty88) : Option Int :=
((m_w46q (x.1,(0 : Int),(2 : Int))).bind fun r1 =>
(cond (!r1)
 (some (3 : Int))
 ((m_w54q x.2).bind fun r2 =>
 some r2)))
def m_w55q := p_w55q FU
def a_w55q : Ann := .leaf
def S_w55q : FSpec := ⟨[.val (.int .i64),.val Kd42],[(.int .i64)],m_w55q⟩
def l_w56q_1 (n : Nat) (x : (List (Int × Int))) (z0 : Int) : Option Int :=
(lp (fun rec17 (z16 : Int) =>
 (cond (decide (z16 < (lenI x)))
 (Option.bind (α := Bool)
 ((geti x z16).bind fun y22 =>
 ((m_w47q y22.1).bind fun r23 =>
 (cond (!r23)
 (some true)
 ((geti x z16).bind fun y24 =>
 ((m_w46q (y24.2,(1 : Int),(2 : Int))).bind fun r25 =>
 some (!r25)))))) fun j26 =>
 (cond j26
 (some (3 : Int))
 (Option.bind (α := Bool)
 (cond (decide (z16 > 0))
 ((geti x z16).bind fun y29 =>
 ((geti x (IntKind.wrap .i64 (z16 - 1))).bind fun y30 =>
 some (decide (y29.1 ≤ y30.1))))
 (some false)) fun j31 =>
 (cond j31
 (some (1 : Int))
 (rec17 (IntKind.wrap .i64 (z16 + 1)))))))
 (some (0 : Int)))) n z0)
def p_w56q (n : Nat) (x : (List (Int × Int))) : Option Int :=
(l_w56q_1 n x (0 : Int))
def m_w56q := p_w56q FU
def a_w56q : Ann := (.node .leaf (.node (.node .leaf (.loop [.slot 3 (.int .i64)] ([2] ++ rg 4 38) (.node .leaf (.node (.node (.join [.slot 25 .bool] (rg 10 15) .leaf .leaf) (.join [.slot 41 .bool] (rg 26 15) .leaf .leaf)) .leaf)))) .leaf))
def S_w56q : FSpec := ⟨[.val Kd44],[(.int .i64)],m_w56q⟩
def l_w57q_1 (n : Nat) (x_2 : Int) (x_1_2 : Ty86) (z0 : Ty80) : Option Ty86 :=
(lp (fun rec5 (z4 : Ty80) =>
 (cond (decide (z4.2 < (lenI x_1_2)))
 ((geti x_1_2 z4.2).bind fun y6 =>
 (cond (y6.1 == x_2)
 ((geti x_1_2 z4.2).bind fun y7 =>
 (chk (Nat.ble ((z4.1.length + [y7].length) * 32) maxBytes)
 (rec5 ((z4.1 ++ [y7]),IntKind.wrap .i64 (z4.2 + 1)))))
 (rec5 (z4.1,IntKind.wrap .i64 (z4.2 + 1)))))
 (some z4.1))) n z0)
def p_w57q (n : Nat) (x : Ty75) : Option Ty86 :=
(l_w57q_1 n x.2 x.1.2 (([] : List Ty90),(0 : Int)))
def m_w57q := p_w57q FU
def a_w57q : Ann := (.node .leaf (.node .leaf (.node (.node .leaf (.loop [.slot 5 Kd38,.slot 6 (.int .i64)] (rg 8 23) .leaf)) .leaf)))
def S_w57q : FSpec := ⟨[.val Kd35,.val (.int .i64)],[Kd38],m_w57q⟩
def l_w58q_1 (n : Nat) (x_1 : (List (Int × Int))) (x_2 : Int) (z0 : Int) : Option Int :=
(lp (fun rec5 (z4 : Int) =>
 (cond (decide (z4 < (lenI x_1)))
 ((geti x_1 z4).bind fun y6 =>
 (cond (y6.1 == x_2)
 ((geti x_1 z4).bind fun y7 =>
 some y7.2)
 (rec5 (IntKind.wrap .i64 (z4 + 1)))))
 (some (0 : Int)))) n z0)
def p_w58q (n : Nat) (x : Ty93) : Option Int :=
(l_w58q_1 n x.1 x.2 (0 : Int))
def m_w58q := p_w58q FU
def a_w58q : Ann := (.node .leaf (.node (.node .leaf (.loop [.slot 5 (.int .i64)] ([4] ++ rg 6 18) .leaf)) .leaf))
def S_w58q : FSpec := ⟨[.val Kd44,.val (.int .i64)],[(.int .i64)],m_w58q⟩
def l_w59q_1 (n : Nat) (x_2 : Int) (x_1_2_2_2_1 : Ty78) (z0 : Int) : Option Bool :=
(lp (fun rec4 (z3 : Int) =>
 (cond (decide (z3 < (lenI x_1_2_2_2_1)))
 ((geti x_1_2_2_2_1 z3).bind fun y5 =>
 (cond (y5.1 == x_2)
 (some true)
 (rec4 (IntKind.wrap .i64 (z3 + 1)))))
 (some false))) n z0)
def p_w59q (n : Nat) (x : Ty26) : Option Bool :=
(l_w59q_1 n x.2 x.1.2.2.2.1 (0 : Int))
def m_w59q := p_w59q FU
def a_w59q : Ann := (.node .leaf (.node (.node .leaf (.loop [.slot 5 (.int .i64)] ([4] ++ rg 6 15) .leaf)) .leaf))
def S_w59q : FSpec := ⟨[.val Kd10,.val (.int .i64)],[.bool],m_w59q⟩
def l_w60q_1 (n : Nat) (x_1 : (List Int)) (x_2 : Int) (z0 : Int) : Option Bool :=
(lp (fun rec4 (z3 : Int) =>
 (cond (decide (z3 < (lenI x_1)))
 ((geti x_1 z3).bind fun y5 =>
 (cond (y5 == x_2)
 (some true)
 (rec4 (IntKind.wrap .i64 (z3 + 1)))))
 (some false))) n z0)
def p_w60q (n : Nat) (x : ((List Int) × Int)) : Option Bool :=
(l_w60q_1 n x.1 x.2 (0 : Int))
def m_w60q := p_w60q FU
def a_w60q : Ann := (.node .leaf (.node (.node .leaf (.loop [.slot 5 (.int .i64)] ([4] ++ rg 6 12) .leaf)) .leaf))
def S_w60q : FSpec := ⟨[.val Kd47,.val (.int .i64)],[.bool],m_w60q⟩
def l_w61q_1 (n : Nat) (x_2_2_2_2_1 : (List (Int × Int))) (z0 : (Int × Int)) : Option Int :=
(lp (fun rec10 (z9 : (Int × Int)) =>
 (cond (decide (z9.2 < (lenI x_2_2_2_2_1)))
 ((geti x_2_2_2_2_1 z9.2).bind fun y11 =>
 (cond (y11.2 == 1)
 (rec10 (IntKind.wrap .i64 (z9.1 + 1),IntKind.wrap .i64 (z9.2 + 1)))
 (rec10 (z9.1,IntKind.wrap .i64 (z9.2 + 1)))))
 (some z9.1))) n z0)
def l_w61q_2 (n : Nat) (x_2_2_2_2_1 : (List (Int × Int))) (x_2_2_2_2_2 : (List Int)) (z0 : Int) : Option (Unit ⊕ Bool) :=
(lp (fun rec47 (z46 : Int) =>
 (cond (decide (z46 < (lenI x_2_2_2_2_2)))
 (Option.bind (α := Bool)
 ((geti x_2_2_2_2_2 z46).bind fun y52 =>
 ((m_w58q (x_2_2_2_2_1,y52)).bind fun r53 =>
 (cond (!(r53 == 1))
 (some true)
 (chk (bndB none (some z46) none x_2_2_2_2_2.length)
 ((geti x_2_2_2_2_2 z46).bind fun y54 =>
 ((m_w60q ((cutL none (some z46) x_2_2_2_2_2),y54)).bind fun r55 =>
 some r55)))))) fun j56 =>
 (cond j56
 (some (Sum.inr false))
 (rec47 (IntKind.wrap .i64 (z46 + 1)))))
 (some (Sum.inl ())))) n z0)
def p_w61q (n : Nat) (x : Ty31) : Option Bool :=
(Option.bind (α := Int)
 (l_w61q_1 n x.2.2.2.2.1 ((0 : Int),(0 : Int))) fun j13 =>
(Option.bind (α := (Unit ⊕ Bool))
 (l_w61q_2 n x.2.2.2.2.1 x.2.2.2.2.2 (0 : Int))
 (Sum.elim (fun j58 =>
some (j13 == (lenI x.2.2.2.2.2))) some)))
def m_w61q := p_w61q FU
def a_w61q : Ann := (.node .leaf (.node .leaf (.join [.slot 3 (.int .i64)] ([4] ++ rg 6 16) (.node .leaf (.loop [.slot 3 (.int .i64),.slot 4 (.int .i64)] (rg 6 16) .leaf)) (.joinx [] ([2,5] ++ rg 22 28) (.node .leaf (.loop [.slot 5 (.int .i64)] ([2] ++ rg 22 28) (.node .leaf (.node (.join [.slot 49 .bool] (rg 29 20) .leaf .leaf) .leaf)))) .leaf))))
def S_w61q : FSpec := ⟨[.val Kd10],[.bool],m_w61q⟩
def l_w62q_1 (n : Nat) (x_1 : Ty86) (x_2 : Ty86) (z47 : Int) (z0 : Int) : Option (Unit ⊕ Bool) :=
(lp (fun rec82 (z81 : Int) =>
 (cond (decide (z81 < (lenI x_2)))
 (Option.bind (α := Bool)
 ((geti x_1 z47).bind fun y87 =>
 ((geti x_2 z81).bind fun y88 =>
 (cond (y87.2.1 == y88.2.1)
 ((geti x_1 z47).bind fun y89 =>
 ((geti x_2 z81).bind fun y90 =>
 some (y89.2.2.1 == y90.2.2.1)))
 (some false)))) fun j91 =>
 (cond j91
 (some (Sum.inr true))
 (rec82 (IntKind.wrap .i64 (z81 + 1)))))
 (some (Sum.inl ())))) n z0)
def l_w62q_2 (n : Nat) (x_1 : Ty86) (x_2 : Ty86) (z0 : Int) : Option Bool :=
(lp (fun rec48 (z47 : Int) =>
 (cond (decide (z47 < (lenI x_1)))
 (Option.bind (α := (Unit ⊕ Bool))
 (l_w62q_1 n x_1 x_2 z47 (0 : Int))
 (Sum.elim (fun j93 =>
 rec48 (IntKind.wrap .i64 (z47 + 1))) some))
 (some false))) n z0)
def p_w62q (n : Nat) (x : Ty62) : Option Bool :=
(l_w62q_2 n x.1 x.2 (0 : Int))
def m_w62q := p_w62q FU
def a_w62q : Ann := (.node .leaf (.node (.node .leaf (.loop [.slot 5 (.int .i64)] ([4] ++ rg 6 37) (.node .leaf (.joinx [] ([4,6] ++ rg 13 30) (.node .leaf (.loop [.slot 6 (.int .i64)] ([4] ++ rg 13 30) (.node .leaf (.node (.join [.slot 42 .bool] (rg 19 23) .leaf .leaf) .leaf)))) .leaf)))) .leaf))
def S_w62q : FSpec := ⟨[.val Kd39,.val Kd39],[.bool],m_w62q⟩
def l_w63q_1 (n : Nat) (x_1 : Ty92) (x_2_1 : Int) (x_2_2 : Int) (z0 : Int) : Option Int :=
(lp (fun rec9 (z8 : Int) =>
 (cond (decide (z8 < (lenI x_1)))
 (Option.bind (α := Bool)
 ((geti x_1 z8).bind fun y12 =>
 (cond (y12.1 == x_2_1)
 ((geti x_1 z8).bind fun y13 =>
 some (y13.2.1 == x_2_2))
 (some false))) fun j14 =>
 (cond j14
 ((geti x_1 z8).bind fun y15 =>
 some y15.2.2)
 (rec9 (IntKind.wrap .i64 (z8 + 1)))))
 (some (0 : Int)))) n z0)
def p_w63q (n : Nat) (x : Ty83) : Option Int :=
(l_w63q_1 n x.1 x.2.1 x.2.2 (0 : Int))
def m_w63q := p_w63q FU
def a_w63q : Ann := (.node .leaf (.node (.node .leaf (.loop [.slot 7 (.int .i64)] ([6] ++ rg 8 27) (.node .leaf (.node (.join [.slot 29 .bool] (rg 14 15) .leaf .leaf) .leaf)))) .leaf))
def S_w63q : FSpec := ⟨[.val Kd42,.val (.int .i64),.val (.int .i64)],[(.int .i64)],m_w63q⟩
def l_w64q_1 (n : Nat) (x_1 : Ty92) (x_2 : Ty86) (z0 : Int) : Option Int :=
(lp (fun rec7 (z6 : Int) =>
 (cond (decide (z6 < (lenI x_2)))
 ((geti x_2 z6).bind fun y8 =>
 ((geti x_2 z6).bind fun y9 =>
 ((geti x_2 z6).bind fun y10 =>
 ((m_w63q (x_1,y8.2.1,y9.2.2.1)).bind fun r11 =>
 (cond (decide ((IntKind.wrap .i64 (r11 + y10.2.2.2)) < 0))
 (some (6 : Int))
 (cond (decide ((IntKind.wrap .i64 (r11 + y10.2.2.2)) > 1000000000000))
 (some (3 : Int))
 (rec7 (IntKind.wrap .i64 (z6 + 1)))))))))
 (some (0 : Int)))) n z0)
def p_w64q (n : Nat) (x : Ty69) : Option Int :=
(l_w64q_1 n x.1 x.2 (0 : Int))
def m_w64q := p_w64q FU
def a_w64q : Ann := (.node .leaf (.node (.node .leaf (.loop [.slot 5 (.int .i64)] ([4] ++ rg 6 29) .leaf)) .leaf))
def S_w64q : FSpec := ⟨[.val Kd42,.val Kd39],[(.int .i64)],m_w64q⟩
def l_w65q_1 (n : Nat) (x_1 : Int) (x_2_2_1 : (List (Int × Int))) (x_2_2_2_1 : Ty78) (x_2_2_2_2_1 : (List (Int × Int))) (z0 : Int) : Option (Unit ⊕ Int) :=
(lp (fun rec58 (z57 : Int) =>
 (cond (decide (z57 < (lenI x_2_2_2_1)))
 ((geti x_2_2_2_1 z57).bind fun y59 =>
 ((m_w49q y59).bind fun r60 =>
 (cond (!(r60 == 0))
 (some (Sum.inr r60))
 (Option.bind (α := Bool)
 (cond (decide (z57 > 0))
 ((geti x_2_2_2_1 (IntKind.wrap .i64 (z57 - 1))).bind fun y68 =>
 (cond (decide (y59.1 ≤ y68.1))
 (some true)
 ((m_w57q (y59,x_1)).bind fun r69 =>
 (cond ((lenI r69) == 0)
 (some true)
 ((m_w58q (x_2_2_1,y59.1)).bind fun r70 =>
 (cond (!(r70 == 1))
 (some true)
 ((m_w58q (x_2_2_2_2_1,y59.1)).bind fun r71 =>
 some (!(r71 == 0)))))))))
 ((m_w57q (y59,x_1)).bind fun r72 =>
 (cond ((lenI r72) == 0)
 (some true)
 ((m_w58q (x_2_2_1,y59.1)).bind fun r73 =>
 (cond (!(r73 == 1))
 (some true)
 ((m_w58q (x_2_2_2_2_1,y59.1)).bind fun r74 =>
 some (!(r74 == 0)))))))) fun j75 =>
 (cond j75
 (some (Sum.inr (1 : Int)))
 (rec58 (IntKind.wrap .i64 (z57 + 1))))))))
 (some (Sum.inl ())))) n z0)
def l_w65q_2 (n : Nat) (x : Ty31) (z0 : Int) : Option (Unit ⊕ Int) :=
(lp (fun rec102 (z101 : Int) =>
 (cond (decide (z101 < (lenI x.2.2.1)))
 ((geti x.2.2.1 z101).bind fun y103 =>
 (Option.bind (α := Bool)
 (cond (y103.2 == 1)
 ((m_w59q (x,y103.1)).bind fun r106 =>
 (cond (!r106)
 ((m_w58q (x.2.2.2.2.1,y103.1)).bind fun r107 =>
 some (r107 == 0))
 (some false)))
 (some false)) fun j108 =>
 (cond j108
 (some (Sum.inr (1 : Int)))
 (rec102 (IntKind.wrap .i64 (z101 + 1))))))
 (some (Sum.inl ())))) n z0)
def l_w65q_3 (n : Nat) (z204 : Int) (x_1 : Int) (x_2_2_2_1 : Ty78) (z0 : Int) : Option (Unit ⊕ (Unit ⊕ Int)) :=
(lp (fun rec227 (z226 : Int) =>
 (cond (decide (z226 < z204))
 ((geti x_2_2_2_1 z204).bind fun y228 =>
 ((geti x_2_2_2_1 z226).bind fun y229 =>
 ((m_w57q (y228,x_1)).bind fun r230 =>
 ((m_w57q (y229,x_1)).bind fun r231 =>
 ((m_w62q (r230,r231)).bind fun r232 =>
 (cond r232
 (some (Sum.inr (Sum.inr (7 : Int))))
 (rec227 (IntKind.wrap .i64 (z226 + 1)))))))))
 (some (Sum.inl ())))) n z0)
def l_w65q_4 (n : Nat) (x_1 : Int) (x_2_2_2_1 : Ty78) (z0 : Int) : Option (Unit ⊕ Int) :=
(lp (fun rec205 (z204 : Int) =>
 (cond (decide (z204 < (lenI x_2_2_2_1)))
 (Option.bind (α := (Unit ⊕ (Unit ⊕ Int)))
 (l_w65q_3 n z204 x_1 x_2_2_2_1 (0 : Int))
 (Sum.elim (fun j234 =>
 rec205 (IntKind.wrap .i64 (z204 + 1))) some))
 (some (Sum.inl ())))) n z0)
def l_w65q_5 (n : Nat) (x_1 : Int) (x_2_1 : Ty92) (x_2_2_2_1 : Ty78) (z0 : Int) : Option Int :=
(lp (fun rec242 (z241 : Int) =>
 (cond (decide (z241 < (lenI x_2_2_2_1)))
 ((geti x_2_2_2_1 z241).bind fun y243 =>
 ((m_w57q (y243,x_1)).bind fun r244 =>
 ((m_w64q (x_2_1,r244)).bind fun r245 =>
 (cond (!(r245 == 0))
 (some r245)
 (rec242 (IntKind.wrap .i64 (z241 + 1)))))))
 (some (0 : Int)))) n z0)
def p_w65q (n : Nat) (x : Ty31) : Option Int :=
(Option.bind (α := (Unit ⊕ Int))
 (l_w65q_1 n x.1 x.2.2.1 x.2.2.2.1 x.2.2.2.2.1 (0 : Int))
 (Sum.elim (fun j77 =>
(Option.bind (α := (Unit ⊕ Int))
 (l_w65q_2 n x (0 : Int))
 (Sum.elim (fun j110 =>
((m_w61q x).bind fun r111 =>
(cond (!r111)
 (some (1 : Int))
 (Option.bind (α := (Unit ⊕ Int))
 (l_w65q_4 n x.1 x.2.2.2.1 (0 : Int))
 (Sum.elim (fun j236 =>
 (l_w65q_5 n x.1 x.2.1 x.2.2.2.1 (0 : Int))) some))))) some))) some))
def m_w65q := p_w65q FU
def a_w65q : Ann := (.node .leaf (.joinx [] ([2,3,4,5] ++ rg 12 55) (.node .leaf (.loop [.slot 3 (.int .i64)] ([2,4,5] ++ rg 12 55) (.node .leaf (.node (.node .leaf (.node .leaf (.join [.slot 66 .bool] (rg 29 37) .leaf .leaf))) .leaf)))) (.joinx [] ([2,6,7] ++ rg 67 30) (.node .leaf (.loop [.slot 6 (.int .i64)] ([2,7] ++ rg 67 30) (.node .leaf (.node (.node .leaf (.join [.slot 96 .bool] (rg 79 17) .leaf .leaf)) .leaf)))) (.node .leaf (.joinx [] ([2,8,9] ++ rg 100 29) (.node .leaf (.loop [.slot 8 (.int .i64)] ([2,9] ++ rg 100 29) (.node .leaf (.joinx [] ([2,9] ++ rg 107 22) (.node .leaf (.loop [.slot 9 (.int .i64)] ([2] ++ rg 107 22) .leaf)) .leaf)))) (.node (.node .leaf (.loop [.slot 10 (.int .i64)] ([2,11] ++ rg 129 21) .leaf)) .leaf))))))
def S_w65q : FSpec := ⟨[.val Kd10],[(.int .i64)],m_w65q⟩
def p_w66q (_ : Nat) (x : Ty31) : Option Int :=
((m_w55q (x.1,x.2.1)).bind fun r1 =>
(cond (!(r1 == 0))
 (some r1)
 (Option.bind (α := Bool)
 (cond (decide ((lenI x.2.2.1) > 100))
 (some true)
 (cond (decide ((lenI x.2.2.2.1) > 100))
 (some true)
 (cond (decide ((lenI x.2.2.2.2.1) > 100))
 (some true)
 (some (decide ((lenI x.2.2.2.2.2) > 100)))))) fun j2 =>
 (cond j2
 (some (2 : Int))
 ((m_w56q x.2.2.1).bind fun r3 =>
 (cond (!(r3 == 0))
 (some r3)
 ((m_w56q x.2.2.2.2.1).bind fun r4 =>
 (cond (!(r4 == 0))
 (some r4)
 ((m_w65q x).bind fun r5 =>
 some r5)))))))))
def m_w66q := p_w66q FU
def a_w66q : Ann := (.node .leaf (.node .leaf (.node (.join [.slot 35 .bool] (rg 14 21) .leaf .leaf) .leaf)))
def S_w66q : FSpec := ⟨[.val Kd10],[(.int .i64)],m_w66q⟩
def l_w67q_1 (n : Nat) (x_2 : Int) (x_1_1 : Ty78) (z0 : Int) : Option Int :=
(lp (fun rec4 (z3 : Int) =>
 (cond (decide (z3 < (lenI x_1_1)))
 ((geti x_1_1 z3).bind fun y5 =>
 (cond (y5.1 == x_2)
 (some z3)
 (rec4 (IntKind.wrap .i64 (z3 + 1)))))
 (some (-1 : Int)))) n z0)
def p_w67q (n : Nat) (x : Ty13) : Option Int :=
(l_w67q_1 n x.2 x.1.1 (0 : Int))
def m_w67q := p_w67q FU
def a_w67q : Ann := (.node .leaf (.node (.node .leaf (.loop [.slot 5 (.int .i64)] ([4] ++ rg 6 20) .leaf)) .leaf))
def S_w67q : FSpec := ⟨[.rp Kd6,.val (.int .i64)],[(.int .i64)],m_w67q⟩
def p_w68q (_ : Nat) (x : Ty11) : Option Bool :=
((m_w67q (x.1,x.2.1)).bind fun r1 =>
(cond (decide (r1 ≥ 0))
 ((geti x.1.1 r1).bind fun y2 =>
 ((m_w51q y2).bind fun r3 =>
 ((m_w60q (r3,x.2.2)).bind fun r4 =>
 some r4)))
 (some false)))
def m_w68q := p_w68q FU
def a_w68q : Ann := .leaf
def S_w68q : FSpec := ⟨[.rp Kd6,.val (.int .i64),.val (.int .i64)],[.bool],m_w68q⟩
def l_w69q_1 (n : Nat) (x_1_2 : Ty86) (x_2_2 : Ty86) (z0 : Int) : Option Bool :=
(lp (fun rec6 (z5 : Int) =>
 (cond (decide (z5 < (lenI x_1_2)))
 ((geti x_1_2 z5).bind fun y7 =>
 ((geti x_2_2 z5).bind fun y8 =>
 (cond (!((y7.1 == y8.1) && ((y7.2.1 == y8.2.1) && ((y7.2.2.1 == y8.2.2.1) && ((y7.2.2.2 == y8.2.2.2) && true)))))
 (some false)
 (rec6 (IntKind.wrap .i64 (z5 + 1))))))
 (some true))) n z0)
def p_w69q (n : Nat) (x : Ty46) : Option Bool :=
(Option.bind (α := Bool)
 (cond (!(x.1.1 == x.2.1))
 (some true)
 (some (!((lenI x.1.2) == (lenI x.2.2))))) fun j1 =>
(cond j1
 (some false)
 (l_w69q_1 n x.1.2 x.2.2 (0 : Int))))
def m_w69q := p_w69q FU
def a_w69q : Ann := (.node .leaf (.node (.join [.slot 19 .bool] (rg 6 13) .leaf .leaf) (.node (.node .leaf (.loop [.slot 5 (.int .i64)] ([4] ++ rg 20 18) .leaf)) .leaf)))
def S_w69q : FSpec := ⟨[.val Kd35,.val Kd35],[.bool],m_w69q⟩
def l_w70q_1 (n : Nat) (y128_1 : Int) (y128_2_2_1 : (List (Int × Int))) (y128_2_2_2_2_1 : (List (Int × Int))) (x : Ty15) (z0 : Int) : Option (Unit ⊕ (Unit ⊕ Int)) :=
(lp (fun rec142 (z141 : Int) =>
 (cond (decide (z141 < (lenI (y128_2_2_1 ++ y128_2_2_2_2_1))))
 ((geti (y128_2_2_1 ++ y128_2_2_2_2_1) z141).bind fun _ =>
 (((y128_2_2_1 ++ y128_2_2_2_2_1)[z141.toNat]?).bind fun y143 =>
 ((m_w68q (x,y143.1,y128_1)).bind fun r144 =>
 (cond (!r144)
 (some (Sum.inr (Sum.inr (1 : Int))))
 (rec142 (IntKind.wrap .i64 (z141 + 1)))))))
 (some (Sum.inl ())))) n z0)
def l_w70q_2 (n : Nat) (y128_2_2_2_1 : Ty78) (x : Ty15) (z0 : Int) : Option (Unit ⊕ Int) :=
(lp (fun rec158 (z157 : Int) =>
 (cond (decide (z157 < (lenI y128_2_2_2_1)))
 ((geti y128_2_2_2_1 z157).bind fun y159 =>
 ((m_w67q (x,y159.1)).bind fun r160 =>
 (Option.bind (α := Bool)
 (cond (decide (r160 < 0))
 (some true)
 ((geti x.1 r160).bind fun y164 =>
 ((geti y128_2_2_2_1 z157).bind fun y165 =>
 ((m_w69q (y164,y165)).bind fun r166 =>
 some (!r166))))) fun j167 =>
 (cond j167
 (some (Sum.inr (1 : Int)))
 (rec158 (IntKind.wrap .i64 (z157 + 1)))))))
 (some (Sum.inl ())))) n z0)
def l_w70q_3 (n : Nat) (x : Ty15) (z0 : Int) : Option Int :=
(lp (fun rec86 (z85 : Int) =>
 (cond (decide (z85 < (lenI x.2.1)))
 (Option.bind (α := (Unit ⊕ Int))
 ((geti x.2.1 z85).bind fun y128 =>
 ((m_w66q y128).bind fun r129 =>
 (cond (!(r129 == 0))
 (some (Sum.inr r129))
 (cond (!(y128.1 == z85))
 (some (Sum.inr (1 : Int)))
 (chk (Nat.ble (y128.2.2.1.length * 16) maxBytes)
 (chk (Nat.ble ((y128.2.2.1.length + y128.2.2.2.2.1.length) * 16) maxBytes)
 (Option.bind (α := (Unit ⊕ (Unit ⊕ Int)))
 (l_w70q_1 n y128.1 y128.2.2.1 y128.2.2.2.2.1 x (0 : Int))
 (Sum.elim (fun j146 =>
 (l_w70q_2 n y128.2.2.2.1 x (0 : Int))) some))))))))
 (Sum.elim (fun j169 =>
 rec86 (IntKind.wrap .i64 (z85 + 1))) some))
 (some (0 : Int)))) n z0)
def p_w70q (n : Nat) (x : Ty15) : Option Int :=
(l_w70q_3 n x (0 : Int))
def m_w70q := p_w70q FU
def a_w70q : Ann := (.node .leaf (.node (.node .leaf (.loop [.slot 3 (.int .i64)] ([2] ++ rg 4 87) (.node .leaf (.joinx [] ([2] ++ rg 4 6 ++ rg 19 11 ++ rg 31 60) (.node .leaf (.node .leaf (.node .leaf (.node (.lazy 35 .leaf) (.joinx [] ([2,7] ++ rg 42 16) (.node .leaf (.loop [.slot 7 (.int .i64)] ([2] ++ rg 42 16) .leaf)) (.node .leaf (.loop [.slot 8 (.int .i64)] ([2,9] ++ rg 58 33) (.node .leaf (.node (.node .leaf (.join [.slot 90 .bool] (rg 73 17) .leaf .leaf)) .leaf))))))))) .leaf)))) .leaf))
def S_w70q : FSpec := ⟨[.rp Kd6],[(.int .i64)],m_w70q⟩
def p_w71q (_ : Nat) (x : Int) : Option Bool :=
((m_w46q (x,(0 : Int),(1000 : Int))).bind fun r1 =>
some r1)
def m_w71q := p_w71q FU
def a_w71q : Ann := .leaf
def S_w71q : FSpec := ⟨[.val (.int .i64)],[.bool],m_w71q⟩
def p_w72q (_ : Nat) (x : Int) : Option Bool :=
(cond (x == 1)
 (some true)
 (some (x == 2)))
def m_w72q := p_w72q FU
def a_w72q : Ann := .leaf
def S_w72q : FSpec := ⟨[.val (.int .i64)],[.bool],m_w72q⟩
def p_w73q (_ : Nat) (x : Unit) : Option (Int × Int) :=
some ((-1 : Int),(0 : Int))
def m_w73q := p_w73q FU
def a_w73q : Ann := .leaf
def S_w73q : FSpec := ⟨[],[Kd45],m_w73q⟩
def p_w74q (_ : Nat) (x : Ty72) : Option (Int × Int) :=
(cond ((lenI x.2.2.2.2) == 0)
 ((m_w73q ()).bind fun r1 =>
 some r1)
 ((geti x.2.2.2.2 (IntKind.wrap .i64 ((lenI x.2.2.2.2) - 1))).bind fun y2 =>
 some y2))
def m_w74q := p_w74q FU
def a_w74q : Ann := .leaf
def S_w74q : FSpec := ⟨[.val Kd30],[Kd45],m_w74q⟩
def l_w75q_1 (n : Nat) (x_2_2_2_2 : (List (Int × Int))) (z0 : Int) : Option (Unit ⊕ Int) :=
(lp (fun rec53 (z52 : Int) =>
 (cond (decide (z52 < (lenI x_2_2_2_2)))
 ((geti x_2_2_2_2 z52).bind fun y54 =>
 (Option.bind (α := Bool)
 ((m_w71q y54.1).bind fun r57 =>
 (cond (!r57)
 (some true)
 ((m_w72q y54.2).bind fun r58 =>
 some (!r58)))) fun j59 =>
 (cond j59
 (some (Sum.inr (3 : Int)))
 (Option.bind (α := Bool)
 (cond (decide (z52 > 0))
 ((geti x_2_2_2_2 (IntKind.wrap .i64 (z52 - 1))).bind fun y63 =>
 (cond (decide (y54.1 < y63.1))
 (some true)
 ((geti x_2_2_2_2 (IntKind.wrap .i64 (z52 - 1))).bind fun y64 =>
 (cond (y54.1 == y64.1)
 ((geti x_2_2_2_2 (IntKind.wrap .i64 (z52 - 1))).bind fun y65 =>
 some (!(y54.2 == y65.2)))
 (some false)))))
 (some false)) fun j66 =>
 (cond j66
 (some (Sum.inr (1 : Int)))
 (rec53 (IntKind.wrap .i64 (z52 + 1))))))))
 (some (Sum.inl ())))) n z0)
def p_w75q (n : Nat) (x : Ty72) : Option Int :=
(Option.bind (α := Bool)
 ((m_w47q x.1).bind fun r4 =>
 (cond (!r4)
 (some true)
 ((m_w46q (x.2.1,(0 : Int),(2 : Int))).bind fun r5 =>
 (cond (!r5)
 (some true)
 ((m_w46q (x.2.2.1,(-1 : Int),(1000 : Int))).bind fun r6 =>
 some (!r6)))))) fun j7 =>
(cond j7
 (some (3 : Int))
 (cond (decide ((lenI x.2.2.2.2) > 60))
 (some (2 : Int))
 (Option.bind (α := (Unit ⊕ Int))
 (l_w75q_1 n x.2.2.2.2 (0 : Int))
 (Sum.elim (fun j68 =>
 (Option.bind (α := Bool)
 ((m_w74q x).bind fun r70 =>
 (cond (!((x.2.2.2.1.1 == r70.1) && ((x.2.2.2.1.2 == r70.2) && true)))
 (some true)
 (some (decide (x.2.2.2.1.1 > x.2.2.1))))) fun j71 =>
 (cond j71
 (some (1 : Int))
 (some (0 : Int))))) some)))))
def m_w75q := p_w75q FU
def a_w75q : Ann := (.node .leaf (.node (.join [.slot 20 .bool] (rg 5 15) .leaf .leaf) (.node .leaf (.joinx [] ([2,3,4] ++ rg 25 60) (.node .leaf (.loop [.slot 3 (.int .i64)] ([2,4] ++ rg 25 60) (.node .leaf (.node (.node .leaf (.node (.join [.slot 46 .bool] (rg 37 9) .leaf .leaf) (.join [.slot 84 .bool] (rg 47 37) .leaf .leaf))) .leaf)))) (.node (.join [.slot 97 .bool] (rg 85 12) .leaf .leaf) .leaf)))))
def S_w75q : FSpec := ⟨[.val Kd30],[(.int .i64)],m_w75q⟩
def p_w76q (_ : Nat) (x : Ty43) : Option Bool :=
(cond (!(x.1.1 == x.2.1))
 (some (decide (x.1.1 < x.2.1)))
 (some (decide (x.1.2.1 < x.2.2.1))))
def m_w76q := p_w76q FU
def a_w76q : Ann := .leaf
def S_w76q : FSpec := ⟨[.val Kd30,.val Kd30],[.bool],m_w76q⟩
def l_w77q_1 (n : Nat) (x : Ty67) (z0 : Int) : Option Int :=
(lp (fun rec12 (z11 : Int) =>
 (cond (decide (z11 < (lenI x)))
 ((geti x z11).bind fun y13 =>
 ((m_w75q y13).bind fun r14 =>
 (cond (!(r14 == 0))
 (some r14)
 (Option.bind (α := Bool)
 (cond (decide (z11 > 0))
 ((geti x (IntKind.wrap .i64 (z11 - 1))).bind fun y18 =>
 ((geti x z11).bind fun y19 =>
 ((m_w76q (y18,y19)).bind fun r20 =>
 some (!r20))))
 (some false)) fun j21 =>
 (cond j21
 (some (1 : Int))
 (rec12 (IntKind.wrap .i64 (z11 + 1))))))))
 (some (0 : Int)))) n z0)
def p_w77q (n : Nat) (x : Ty67) : Option Int :=
(cond (decide ((lenI x) > 60))
 (some (2 : Int))
 (l_w77q_1 n x (0 : Int)))
def m_w77q := p_w77q FU
def a_w77q : Ann := (.node .leaf (.node .leaf (.node (.node .leaf (.loop [.slot 3 (.int .i64)] ([2,4] ++ rg 9 33) (.node .leaf (.node (.node .leaf (.join [.slot 41 .bool] (rg 25 16) .leaf .leaf)) .leaf)))) .leaf)))
def S_w77q : FSpec := ⟨[.val Kd26],[(.int .i64)],m_w77q⟩
def l_w78q_1 (n : Nat) (x : Ty15) (z31 : Int) (z0 : Int) : Option (Unit ⊕ Int) :=
(lp (fun rec55 (z54 : Int) =>
 ((geti x.2.2.1 z31).bind fun y56 =>
 (cond (decide (z54 < (lenI y56)))
 ((geti x.2.2.1 z31).bind fun y57 =>
 ((geti y57 z54).bind fun y58 =>
 ((m_w68q (x,y58.1,y58.2.1)).bind fun r59 =>
 (cond (!r59)
 (some (Sum.inr (4 : Int)))
 (rec55 (IntKind.wrap .i64 (z54 + 1)))))))
 (some (Sum.inl ()))))) n z0)
def l_w78q_2 (n : Nat) (x : Ty15) (z0 : Int) : Option Int :=
(lp (fun rec32 (z31 : Int) =>
 (cond (decide (z31 < (lenI x.2.2.1)))
 (Option.bind (α := (Unit ⊕ Int))
 ((geti x.2.2.1 z31).bind fun y47 =>
 ((m_w77q y47).bind fun r48 =>
 (cond (!(r48 == 0))
 (some (Sum.inr r48))
 (l_w78q_1 n x z31 (0 : Int)))))
 (Sum.elim (fun j61 =>
 rec32 (IntKind.wrap .i64 (z31 + 1))) some))
 (some (0 : Int)))) n z0)
def p_w78q (n : Nat) (x : Ty15) : Option Int :=
(l_w78q_2 n x (0 : Int))
def m_w78q := p_w78q FU
def a_w78q : Ann := (.node .leaf (.node (.node .leaf (.loop [.slot 3 (.int .i64)] ([2] ++ rg 4 54) (.node .leaf (.joinx [] ([2,4,5,6] ++ rg 16 10 ++ rg 27 31) (.node .leaf (.node .leaf (.loop [.slot 5 (.int .i64)] ([2,6] ++ rg 27 31) .leaf))) .leaf)))) .leaf))
def S_w78q : FSpec := ⟨[.rp Kd6],[(.int .i64)],m_w78q⟩
def p_w79q (_ : Nat) (x : (Int × Int)) : Option Bool :=
((m_w71q x.1).bind fun r1 =>
(cond r1
 ((m_w72q x.2).bind fun r2 =>
 some r2)
 (some false)))
def m_w79q := p_w79q FU
def a_w79q : Ann := .leaf
def S_w79q : FSpec := ⟨[.val Kd45],[.bool],m_w79q⟩
def l_w80q_1 (n : Nat) (y1_2_2_2_2_1 : (List Int)) (y1_2_2_2_2_2 : (List (Int × Int))) (x_1_2_2_1 : Ty63) (z0 : Int) : Option (Unit ⊕ Int) :=
(lp (fun rec60 (z59 : Int) =>
 (cond (decide (z59 < (lenI y1_2_2_2_2_1)))
 (Option.bind (α := Bool)
 ((geti y1_2_2_2_2_1 z59).bind fun y67 =>
 ((m_w46q (y67,(0 : Int),IntKind.wrap .i64 ((lenI x_1_2_2_1) - 1))).bind fun r68 =>
 (cond (!r68)
 (some true)
 ((geti y1_2_2_2_2_2 z59).bind fun y69 =>
 ((m_w73q ()).bind fun r70 =>
 (cond (!((y69.1 == r70.1) && ((y69.2 == r70.2) && true)))
 ((geti y1_2_2_2_2_2 z59).bind fun y71 =>
 ((m_w79q y71).bind fun r72 =>
 some (!r72)))
 (some false))))))) fun j73 =>
 (cond j73
 (some (Sum.inr (3 : Int)))
 (rec60 (IntKind.wrap .i64 (z59 + 1)))))
 (some (Sum.inl ())))) n z0)
def l_w80q_2 (n : Nat) (y1_2_2_2_2_1 : (List Int)) (z0 : Int) : Option Int :=
(lp (fun rec80 (z79 : Int) =>
 (cond (decide (z79 < (lenI y1_2_2_2_2_1)))
 (chk (bndB none (some z79) none y1_2_2_2_2_1.length)
 ((geti y1_2_2_2_2_1 z79).bind fun y81 =>
 ((m_w60q ((cutL none (some z79) y1_2_2_2_2_1),y81)).bind fun r82 =>
 (cond r82
 (some (7 : Int))
 (rec80 (IntKind.wrap .i64 (z79 + 1)))))))
 (some (0 : Int)))) n z0)
def p_w80q (n : Nat) (x : Ty4) : Option Int :=
((geti x.2.1 x.2.2).bind fun y1 =>
((m_w68q (x.1,y1.1,y1.2.1)).bind fun r2 =>
(cond (!r2)
 (some (4 : Int))
 (Option.bind (α := Bool)
 ((m_w46q (y1.2.2.1,(1 : Int),(1000 : Int))).bind fun r5 =>
 (cond (!r5)
 (some true)
 ((m_w46q (y1.2.2.2.1,(0 : Int),(2 : Int))).bind fun r6 =>
 some (!r6)))) fun j7 =>
 (cond j7
 (some (3 : Int))
 (Option.bind (α := Bool)
 (cond (decide (x.2.2 > 0))
 ((geti x.2.1 (IntKind.wrap .i64 (x.2.2 - 1))).bind fun y11 =>
 ((geti x.2.1 (IntKind.wrap .i64 (x.2.2 - 1))).bind fun y12 =>
 ((m_w76q ((y11.1,(y12.2.1,((0 : Int),(((0 : Int),(0 : Int)),[])))),(y1.1,(y1.2.1,((0 : Int),(((0 : Int),(0 : Int)),[])))))).bind fun r13 =>
 (cond (!r13)
 (some true)
 (some (!((lenI y1.2.2.2.2.1) == (lenI y1.2.2.2.2.2))))))))
 (some (!((lenI y1.2.2.2.2.1) == (lenI y1.2.2.2.2.2))))) fun j14 =>
 (cond j14
 (some (1 : Int))
 (Option.bind (α := (Unit ⊕ Int))
 (l_w80q_1 n y1.2.2.2.2.1 y1.2.2.2.2.2 x.1.2.2.1 (0 : Int))
 (Sum.elim (fun j75 =>
 (l_w80q_2 n y1.2.2.2.2.1 (0 : Int))) some)))))))))
def m_w80q := p_w80q FU
def a_w80q : Ann := (.node .leaf (.node .leaf (.node .leaf (.node (.join [.slot 30 .bool] (rg 21 9) .leaf .leaf) (.node (.join [.slot 63 .bool] (rg 31 32) .leaf .leaf) (.joinx [] ([6,8] ++ rg 64 38) (.node .leaf (.loop [.slot 8 (.int .i64)] ([6] ++ rg 64 38) (.node .leaf (.node (.join [.slot 101 .bool] (rg 71 30) .leaf .leaf) .leaf)))) (.node (.node .leaf (.loop [.slot 9 (.int .i64)] ([6] ++ rg 102 17) .leaf)) .leaf)))))))
def S_w80q : FSpec := ⟨[.rp Kd6,.val Kd24,.val (.int .i64)],[(.int .i64)],m_w80q⟩
def l_w81q_1 (n : Nat) (x_1_1 : Int) (x_2_1 : Int) (x_1_2_1 : Int) (x_2_2_1 : Int) (x_1_2_2_1 : Int) (x_2_2_2_1 : Int) (x_1_2_2_2_1 : Int) (x_1_2_2_2_2 : Int) (x_2_2_2_2_1 : Int) (x_2_2_2_2_2 : Int) (z0 : Int) : Option Bool :=
(lp (fun rec7 (z6 : Int) =>
 (cond (decide (z6 < 5))
 ((geti [x_1_1,x_1_2_1,x_1_2_2_1,x_1_2_2_2_1,x_1_2_2_2_2] z6).bind fun _ =>
 (([x_1_1,x_1_2_1,x_1_2_2_1,x_1_2_2_2_1,x_1_2_2_2_2][z6.toNat]?).bind fun y8 =>
 ((geti [x_2_1,x_2_2_1,x_2_2_2_1,x_2_2_2_2_1,x_2_2_2_2_2] z6).bind fun _ =>
 (([x_2_1,x_2_2_1,x_2_2_2_1,x_2_2_2_2_1,x_2_2_2_2_2][z6.toNat]?).bind fun y9 =>
 (cond (!(y8 == y9))
 ((geti [x_1_1,x_1_2_1,x_1_2_2_1,x_1_2_2_2_1,x_1_2_2_2_2] z6).bind fun _ =>
 (([x_1_1,x_1_2_1,x_1_2_2_1,x_1_2_2_2_1,x_1_2_2_2_2][z6.toNat]?).bind fun y10 =>
 ((geti [x_2_1,x_2_2_1,x_2_2_2_1,x_2_2_2_2_1,x_2_2_2_2_2] z6).bind fun _ =>
 (([x_2_1,x_2_2_1,x_2_2_2_1,x_2_2_2_2_1,x_2_2_2_2_2][z6.toNat]?).bind fun y11 =>
 some (decide (y10 < y11))))))
 (rec7 (IntKind.wrap .i64 (z6 + 1))))))))
 (some false))) n z0)
def p_w81q (n : Nat) (x : Ty57) : Option Bool :=
(l_w81q_1 n x.1.1 x.2.1 x.1.2.1 x.2.2.1 x.1.2.2.1 x.2.2.2.1 x.1.2.2.2.1 x.1.2.2.2.2 x.2.2.2.2.1 x.2.2.2.2.2 (0 : Int))
def m_w81q := p_w81q FU
def a_w81q : Ann := (.node .leaf (.node .leaf (.node .leaf (.node (.node .leaf (.loop [.slot 7 (.int .i64)] ([4] ++ rg 30 22) .leaf)) .leaf))))
def S_w81q : FSpec := ⟨[.val Kd37,.val Kd37],[.bool],m_w81q⟩
def l_w82q_1 (n : Nat) (y149_2_1 : Ty64) (x : Ty15) (z0 : Int) : Option (Unit ⊕ (Unit ⊕ Int)) :=
(lp (fun rec161 (z160 : Int) =>
 (cond (decide (z160 < (lenI y149_2_1)))
 ((m_w80q (x,y149_2_1,z160)).bind fun r162 =>
 (cond (!(r162 == 0))
 (some (Sum.inr (Sum.inr r162)))
 (rec161 (IntKind.wrap .i64 (z160 + 1)))))
 (some (Sum.inl ())))) n z0)
def l_w82q_2 (n : Nat) (y149_2_2 : Ty82) (x : Ty15) (z0 : Int) : Option (Unit ⊕ Int) :=
(lp (fun rec181 (z180 : Int) =>
 (cond (decide (z180 < (lenI y149_2_2)))
 ((geti y149_2_2 z180).bind fun y182 =>
 ((m_w68q (x,y182.1,y182.2.1)).bind fun r183 =>
 (cond (!r183)
 (some (Sum.inr (4 : Int)))
 (Option.bind (α := Bool)
 ((m_w71q y182.2.2.1).bind fun r187 =>
 (cond (!r187)
 (some true)
 ((m_w72q y182.2.2.2.1).bind fun r188 =>
 (cond (!r188)
 (some true)
 ((m_w46q (y182.2.2.2.2,(0 : Int),IntKind.wrap .i64 ((lenI x.2.2.1) - 1))).bind fun r189 =>
 some (!r189)))))) fun j190 =>
 (cond j190
 (some (Sum.inr (3 : Int)))
 (Option.bind (α := Bool)
 (cond (decide (z180 > 0))
 ((geti y149_2_2 (IntKind.wrap .i64 (z180 - 1))).bind fun y193 =>
 ((m_w81q (y193,y182)).bind fun r194 =>
 some (!r194)))
 (some false)) fun j195 =>
 (cond j195
 (some (Sum.inr (1 : Int)))
 (rec181 (IntKind.wrap .i64 (z180 + 1))))))))))
 (some (Sum.inl ())))) n z0)
def l_w82q_3 (n : Nat) (x : Ty15) (z0 : Int) : Option Int :=
(lp (fun rec100 (z99 : Int) =>
 (cond (decide (z99 < (lenI x.2.2.2.1)))
 (Option.bind (α := (Unit ⊕ Int))
 ((geti x.2.2.2.1 z99).bind fun y149 =>
 ((m_w46q (y149.1,(0 : Int),(400 : Int))).bind fun r150 =>
 (cond (!r150)
 (some (Sum.inr (3 : Int)))
 (Option.bind (α := Bool)
 (cond (decide ((lenI y149.2.1) > 60))
 (some true)
 (some (decide ((lenI y149.2.2) > 300)))) fun j151 =>
 (cond j151
 (some (Sum.inr (2 : Int)))
 (Option.bind (α := (Unit ⊕ (Unit ⊕ Int)))
 (l_w82q_1 n y149.2.1 x (0 : Int))
 (Sum.elim (fun j164 =>
 (l_w82q_2 n y149.2.2 x (0 : Int))) some)))))))
 (Sum.elim (fun j197 =>
 rec100 (IntKind.wrap .i64 (z99 + 1))) some))
 (some (0 : Int)))) n z0)
def p_w82q (n : Nat) (x : Ty15) : Option Int :=
(l_w82q_3 n x (0 : Int))
def m_w82q := p_w82q FU
def a_w82q : Ann := (.node .leaf (.node (.node .leaf (.loop [.slot 3 (.int .i64)] ([2] ++ rg 4 104) (.node .leaf (.joinx [] ([2,4,5,6,7,8] ++ rg 18 90) (.node .leaf (.node .leaf (.node (.join [.slot 38 .bool] (rg 29 9) .leaf .leaf) (.joinx [] ([2,5,6] ++ rg 39 15) (.node .leaf (.loop [.slot 5 (.int .i64)] ([2,6] ++ rg 39 15) .leaf)) (.node .leaf (.loop [.slot 7 (.int .i64)] ([2,8] ++ rg 54 54) (.node .leaf (.node (.node .leaf (.node .leaf (.node (.join [.slot 94 .bool] (rg 73 21) .leaf .leaf) (.join [.slot 107 .bool] (rg 95 12) .leaf .leaf)))) .leaf)))))))) .leaf)))) .leaf))
def S_w82q : FSpec := ⟨[.rp Kd6],[(.int .i64)],m_w82q⟩
def p_w83q (_ : Nat) (x : Ty6) : Option Bool :=
(Option.bind (α := Int)
 (Option.bind (α := Bool)
 (cond (x.2.1 == 1)
 (some true)
 (some (x.2.1 == 6))) fun j2 =>
 (cond j2
 (some (lenI x.1.2.1))
 (some (lenI x.1.2.2.1)))) fun j3 =>
(Option.bind (α := Int)
 (Option.bind (α := Bool)
 (cond (x.2.1 == 3)
 (some true)
 (some (x.2.1 == 5))) fun j5 =>
 (cond j5
 (some (lenI x.1.2.2.2.1))
 (some j3))) fun j6 =>
(Option.bind (α := Int)
 (cond (x.2.1 == 4)
 (some (lenI x.1.2.2.2.1))
 (some (lenI x.1.2.2.1))) fun j7 =>
((m_w46q (x.2.2.1,(0 : Int),IntKind.wrap .i64 (j6 - 1))).bind fun r8 =>
(cond r8
 (cond (decide (x.2.1 < 3))
 (some true)
 (cond (decide (x.2.1 > 5))
 (some true)
 ((m_w46q (x.2.2.2.1,(0 : Int),IntKind.wrap .i64 (j7 - 1))).bind fun r9 =>
 some r9)))
 (some false))))))
def m_w83q := p_w83q FU
def a_w83q : Ann := (.node .leaf (.node .leaf (.join [.slot 5 (.int .i64)] (rg 12 13) (.join [.slot 19 .bool] (rg 12 7) .leaf .leaf) (.join [.slot 5 (.int .i64)] (rg 25 13) (.join [.slot 32 .bool] (rg 25 7) .leaf .leaf) (.node .leaf (.join [.slot 6 (.int .i64)] (rg 43 8) .leaf .leaf))))))
def S_w83q : FSpec := ⟨[.rp Kd6,.val Kd22],[.bool],m_w83q⟩
def p_w84q (_ : Nat) (x : Ty65) : Option Ty65 :=
(Option.bind (α := Ty65)
 (Option.bind (α := Bool)
 (cond (decide (x.1 ≥ 2))
 (some (decide (x.1 ≤ 5)))
 (some false)) fun j2 =>
 (cond j2
 (some (x.1,(x.2.1,((0 : Int),(x.2.2.2.1,(x.2.2.2.2.1,(x.2.2.2.2.2.1,((0 : Int),((0 : Int),(0 : Int))))))))))
 (some (x.1,(x.2.1,((0 : Int),(x.2.2.2.1,((0 : Int),((0 : Int),((0 : Int),((0 : Int),(0 : Int)))))))))))) fun j3 =>
(Option.bind (α := Ty65)
 (Option.bind (α := Bool)
 (cond (x.1 == 2)
 (some true)
 (cond (x.1 == 3)
 (some true)
 (some (x.1 == 6)))) fun j5 =>
 (cond j5
 (some (j3.1,(j3.2.1,(j3.2.2.1,(j3.2.2.2.1,(j3.2.2.2.2.1,(j3.2.2.2.2.2.1,(x.2.2.2.2.2.2.1,j3.2.2.2.2.2.2.2))))))))
 (some j3))) fun j6 =>
(Option.bind (α := Ty65)
 (Option.bind (α := Bool)
 (cond (decide (x.1 ≥ 3))
 (some (decide (x.1 ≤ 5)))
 (some false)) fun j8 =>
 (cond j8
 (some (j6.1,(j6.2.1,(x.2.2.1,j6.2.2.2))))
 (some j6))) fun j9 =>
(cond (x.1 == 5)
 (some (j9.1,(j9.2.1,(j9.2.2.1,(j9.2.2.2.1,(j9.2.2.2.2.1,(j9.2.2.2.2.2.1,(j9.2.2.2.2.2.2.1,x.2.2.2.2.2.2.2))))))))
 (some j9)))))
def m_w84q := p_w84q FU
def a_w84q : Ann := (.node .leaf (.node .leaf (.join [.box 2 Kd22] (rg 11 14) (.join [.slot 18 .bool] (rg 11 7) .leaf .leaf) (.join [.box 2 Kd22] (rg 25 16) (.join [.slot 37 .bool] (rg 25 12) .leaf .leaf) (.join [.box 2 Kd22] (rg 41 11) (.join [.slot 48 .bool] (rg 41 7) .leaf .leaf) .leaf)))))
def S_w84q : FSpec := ⟨[.val Kd22],[Kd22],m_w84q⟩
def p_w85q (_ : Nat) (x : Ty6) : Option Int :=
((m_w46q (x.2.1,(1 : Int),(6 : Int))).bind fun r1 =>
(cond (!r1)
 (some (5 : Int))
 ((m_w83q (x.1,x.2)).bind fun r2 =>
 (cond (!r2)
 (some (3 : Int))
 ((m_w67q (x.1,x.2.2.2.2.1)).bind fun r3 =>
 (cond (decide (r3 < 0))
 (some (4 : Int))
 (Option.bind (α := Int)
 (Option.bind (α := Bool)
 (cond (x.2.1 == 1)
 (some true)
 (some (x.2.1 == 6))) fun j5 =>
 (cond j5
 (some x.2.2.1)
 (some x.2.2.2.2.2.1))) fun j6 =>
 ((m_w68q (x.1,x.2.2.2.2.1,j6)).bind fun r7 =>
 (cond (!r7)
 (some (3 : Int))
 (Option.bind (α := Bool)
 (cond (decide (x.2.1 ≥ 2))
 (cond (decide (x.2.1 ≤ 5))
 ((m_w71q x.2.2.2.2.2.2.1).bind fun r9 =>
 some (!r9))
 (some false))
 (some false)) fun j10 =>
 (cond j10
 (some (3 : Int))
 (Option.bind (α := Bool)
 (cond (x.2.1 == 2)
 ((m_w72q x.2.2.2.2.2.2.2.1).bind fun r14 =>
 some (!r14))
 (cond (x.2.1 == 3)
 ((m_w72q x.2.2.2.2.2.2.2.1).bind fun r15 =>
 some (!r15))
 (cond (x.2.1 == 6)
 ((m_w72q x.2.2.2.2.2.2.2.1).bind fun r16 =>
 some (!r16))
 (some false)))) fun j17 =>
 (cond j17
 (some (3 : Int))
 (Option.bind (α := Bool)
 (cond (x.2.1 == 5)
 ((m_w73q ()).bind fun r20 =>
 (cond (!((x.2.2.2.2.2.2.2.2.1 == r20.1) && ((x.2.2.2.2.2.2.2.2.2 == r20.2) && true)))
 ((m_w79q x.2.2.2.2.2.2.2.2).bind fun r21 =>
 some (!r21))
 (some false)))
 (some false)) fun j22 =>
 (cond j22
 (some (3 : Int))
 ((m_w84q x.2).bind fun r23 =>
 (cond (!((x.2.1 == r23.1) && ((x.2.2.1 == r23.2.1) && ((x.2.2.2.1 == r23.2.2.1) && ((x.2.2.2.2.1 == r23.2.2.2.1) && ((x.2.2.2.2.2.1 == r23.2.2.2.2.1) && ((x.2.2.2.2.2.2.1 == r23.2.2.2.2.2.1) && ((x.2.2.2.2.2.2.2.1 == r23.2.2.2.2.2.2.1) && ((x.2.2.2.2.2.2.2.2.1 == r23.2.2.2.2.2.2.2.1) && ((x.2.2.2.2.2.2.2.2.2 == r23.2.2.2.2.2.2.2.2) && true))))))))))
 (some (1 : Int))
 (some (0 : Int)))))))))))))))))))
def m_w85q := p_w85q FU
def a_w85q : Ann := (.node .leaf (.node .leaf (.node .leaf (.node .leaf (.node .leaf (.join [.slot 5 (.int .i64)] (rg 21 10) (.join [.slot 28 .bool] (rg 21 7) .leaf .leaf) (.node .leaf (.node (.join [.slot 50 .bool] (rg 37 13) .leaf .leaf) (.node (.join [.slot 69 .bool] (rg 51 18) .leaf .leaf) (.node (.join [.slot 84 .bool] (rg 70 14) .leaf .leaf) .leaf))))))))))
def S_w85q : FSpec := ⟨[.rp Kd6,.val Kd22],[(.int .i64)],m_w85q⟩
def l_w86q_1 (n : Nat) (x : Ty15) (z0 : Int) : Option Int :=
(lp (fun rec10 (z9 : Int) =>
 (cond (decide (z9 < (lenI x.2.2.2.2)))
 ((geti x.2.2.2.2 z9).bind fun y11 =>
 ((m_w85q (x,y11)).bind fun r12 =>
 (cond (!(r12 == 0))
 (some r12)
 (rec10 (IntKind.wrap .i64 (z9 + 1))))))
 (some (0 : Int)))) n z0)
def p_w86q (n : Nat) (x : Ty15) : Option Int :=
(Option.bind (α := Bool)
 (cond (decide ((lenI x.1) > 20))
 (some true)
 (cond (decide ((lenI x.2.1) < 1))
 (some true)
 (cond (decide ((lenI x.2.1) > 3))
 (some true)
 (cond (decide ((lenI x.2.2.1) < 1))
 (some true)
 (cond (decide ((lenI x.2.2.1) > 5))
 (some true)
 (cond (!((lenI x.2.2.2.1) == 2))
 (some true)
 (some (decide ((lenI x.2.2.2.2) > 200))))))))) fun j1 =>
(cond j1
 (some (2 : Int))
 ((m_w52q x).bind fun r2 =>
 (cond (!(r2 == 0))
 (some r2)
 ((m_w70q x).bind fun r3 =>
 (cond (!(r3 == 0))
 (some r3)
 ((m_w78q x).bind fun r4 =>
 (cond (!(r4 == 0))
 (some r4)
 ((m_w82q x).bind fun r5 =>
 (cond (!(r5 == 0))
 (some r5)
 (l_w86q_1 n x (0 : Int))))))))))))
def m_w86q := p_w86q FU
def a_w86q : Ann := (.node .leaf (.node (.join [.slot 48 .bool] (rg 9 39) .leaf .leaf) (.node .leaf (.node .leaf (.node .leaf (.node .leaf (.node (.node .leaf (.loop [.slot 7 (.int .i64)] ([2,8] ++ rg 65 16) .leaf)) .leaf)))))))
def S_w86q : FSpec := ⟨[.val Kd6],[(.int .i64)],m_w86q⟩
def p_w87q (_ : Nat) (x : Int) : Option Ty14 :=
some (x,([],([],([],([],[])))))
def m_w87q := p_w87q FU
def a_w87q : Ann := .leaf
def S_w87q : FSpec := ⟨[.val (.int .i64)],[Kd3],m_w87q⟩
def p_w88q (_ : Nat) (x : Ty72) : Option Ty72 :=
(chk (Nat.ble ((([] : List (Int × Int)).length + x.2.2.2.2.length) * 16) maxBytes)
(some (x.1,(x.2.1,(x.2.2.1,(x.2.2.2.1,(([] : List (Int × Int)) ++ x.2.2.2.2)))))))
def m_w88q := p_w88q FU
def a_w88q : Ann := .leaf
def S_w88q : FSpec := ⟨[.val Kd30],[Kd29],m_w88q⟩
def l_w89q_1 (n : Nat) (x : Ty67) (z0 : Ty61) : Option Ty67 :=
(lp (fun rec8 (z7 : Ty61) =>
 (cond (decide (z7.1 < (lenI x)))
 ((geti x z7.1).bind fun y9 =>
 ((m_w88q y9).bind fun r10 =>
 (chk (Nat.ble ((z7.2.length + [r10].length) * 64) maxBytes)
 (rec8 (IntKind.wrap .i64 (z7.1 + 1),(z7.2 ++ [r10]))))))
 (some z7.2))) n z0)
def p_w89q (n : Nat) (x : Ty67) : Option Ty67 :=
(l_w89q_1 n x ((0 : Int),[]))
def m_w89q := p_w89q FU
def a_w89q : Ann := (.node .leaf (.node .leaf (.node (.node .leaf (.loop [.slot 4 (.int .i64),.box 2 Kd23] (rg 6 18) .leaf)) .leaf)))
def S_w89q : FSpec := ⟨[.val Kd26],[Kd23],m_w89q⟩
def l_w90q_1 (n : Nat) (x : Ty63) (z0 : Ty53) : Option Ty63 :=
(lp (fun rec5 (z4 : Ty53) =>
 (cond (decide (z4.2 < (lenI x)))
 ((geti x z4.2).bind fun y6 =>
 ((m_w89q y6).bind fun r7 =>
 (chk (Nat.ble ((z4.1.length + [r7].length) * 24) maxBytes)
 (rec5 ((z4.1 ++ [r7]),IntKind.wrap .i64 (z4.2 + 1))))))
 (some z4.1))) n z0)
def p_w90q (n : Nat) (x : Ty63) : Option Ty63 :=
(l_w90q_1 n x (([] : List Ty67),(0 : Int)))
def m_w90q := p_w90q FU
def a_w90q : Ann := (.node .leaf (.node .leaf (.node (.node .leaf (.loop [.slot 3 Kd19,.slot 4 (.int .i64)] (rg 6 14) .leaf)) .leaf)))
def S_w90q : FSpec := ⟨[.val Kd21],[Kd19],m_w90q⟩
def p_w91q (_ : Nat) (x : Ty81) : Option Ty81 :=
(chk (Nat.ble (x.2.length * 32) maxBytes)
(some x))
def m_w91q := p_w91q FU
def a_w91q : Ann := (.node .leaf (.node (.lazy 5 .leaf) .leaf))
def S_w91q : FSpec := ⟨[.val Kd35],[Kd33],m_w91q⟩
def l_w92q_1 (n : Nat) (x_2_2_2_1 : Ty78) (z0 : Ty27) : Option Ty31 :=
(lp (fun rec8 (z7 : Ty27) =>
 (cond (decide (z7.1 < (lenI x_2_2_2_1)))
 ((geti x_2_2_2_1 z7.1).bind fun y9 =>
 ((m_w91q y9).bind fun r10 =>
 (chk (Nat.ble ((z7.2.2.2.2.1.length + [r10].length) * 32) maxBytes)
 (rec8 (IntKind.wrap .i64 (z7.1 + 1),(z7.2.1,(z7.2.2.1,(z7.2.2.2.1,((z7.2.2.2.2.1 ++ [r10]),z7.2.2.2.2.2)))))))))
 (some z7.2))) n z0)
def p_w92q (n : Nat) (x : Ty31) : Option Ty31 :=
(same
 (chk (Nat.ble (x.2.1.length * 24) maxBytes)
 (same
 (chk (Nat.ble (x.2.2.1.length * 16) maxBytes)
 (same
 (chk (Nat.ble (x.2.2.2.2.1.length * 16) maxBytes)
 (dup 1
 (chk (Nat.ble (x.2.2.2.2.2.length * 8) maxBytes)
 (l_w92q_1 n x.2.2.2.1 ((0 : Int),(x.1,(x.2.1,(x.2.2.1,([],x.2.2.2.2)))))))))
 (chk (Nat.ble (x.2.2.2.2.1.length * 16) maxBytes)
 (chk (Nat.ble (x.2.2.2.2.2.length * 8) maxBytes)
 (l_w92q_1 n x.2.2.2.1 ((0 : Int),(x.1,(x.2.1,(x.2.2.1,([],x.2.2.2.2))))))))))
 (chk (Nat.ble (x.2.2.1.length * 16) maxBytes)
 (chk (Nat.ble (x.2.2.2.2.1.length * 16) maxBytes)
 (chk (Nat.ble (x.2.2.2.2.2.length * 8) maxBytes)
 (l_w92q_1 n x.2.2.2.1 ((0 : Int),(x.1,(x.2.1,(x.2.2.1,([],x.2.2.2.2)))))))))))
 (chk (Nat.ble (x.2.1.length * 24) maxBytes)
 (chk (Nat.ble (x.2.2.1.length * 16) maxBytes)
 (chk (Nat.ble (x.2.2.2.2.1.length * 16) maxBytes)
 (chk (Nat.ble (x.2.2.2.2.2.length * 8) maxBytes)
 (l_w92q_1 n x.2.2.2.1 ((0 : Int),(x.1,(x.2.1,(x.2.2.1,([],x.2.2.2.2)))))))))))
def m_w92q := p_w92q FU
def a_w92q : Ann := (.node .leaf (.node (.lazy 19 (.lazy 15 (.lazy 11 (.lazy 7 .leaf)))) (.node (.node .leaf (.loop [.slot 4 (.int .i64),.box 1000003 Kd8] (rg 24 18) .leaf)) .leaf)))
def S_w92q : FSpec := ⟨[.val Kd10],[Kd8],m_w92q⟩
def l_w93q_1 (n : Nat) (x_2_1 : Ty64) (z0 : Ty38) : Option Ty42 :=
(lp (fun rec6 (z5 : Ty38) =>
 (cond (decide (z5.1 < (lenI x_2_1)))
 ((geti x_2_1 z5.1).bind fun y7 =>
 (chk (Nat.ble ((([] : List Int).length + y7.2.2.2.2.1.length) * 8) maxBytes)
 (chk (Nat.ble ((([] : List (Int × Int)).length + y7.2.2.2.2.2.length) * 16) maxBytes)
 (chk (Nat.ble ((z5.2.2.1.length + ([(y7.1,(y7.2.1,(y7.2.2.1,(y7.2.2.2.1,((([] : List Int) ++ y7.2.2.2.2.1),(([] : List (Int × Int)) ++ y7.2.2.2.2.2))))))] : List Ty68).length) * 80) maxBytes)
 (rec6 (IntKind.wrap .i64 (z5.1 + 1),(z5.2.1,((z5.2.2.1 ++ [(y7.1,(y7.2.1,(y7.2.2.1,(y7.2.2.2.1,((([] : List Int) ++ y7.2.2.2.2.1),(([] : List (Int × Int)) ++ y7.2.2.2.2.2))))))]),z5.2.2.2))))))))
 (some z5.2))) n z0)
def p_w93q (n : Nat) (x : Ty42) : Option Ty42 :=
(dup 1
 (chk (Nat.ble (x.2.2.length * 40) maxBytes)
 (l_w93q_1 n x.2.1 ((0 : Int),(x.1,([],x.2.2))))))
def m_w93q := p_w93q FU
def a_w93q : Ann := (.node .leaf (.node (.lazy 8 .leaf) (.node (.node .leaf (.loop [.slot 4 (.int .i64),.box 1000003 Kd12] ([5] ++ rg 13 28) .leaf)) .leaf)))
def S_w93q : FSpec := ⟨[.val Kd14],[Kd12],m_w93q⟩
def l_w94q_1 (n : Nat) (x_1 : Ty78) (z0 : Ty14) : Option Ty15 :=
(lp (fun rec26 (z25 : Ty14) =>
 (cond (decide (z25.1 < (lenI x_1)))
 ((geti x_1 z25.1).bind fun y27 =>
 ((m_w91q y27).bind fun r28 =>
 (chk (Nat.ble ((z25.2.1.length + [r28].length) * 32) maxBytes)
 (rec26 (IntKind.wrap .i64 (z25.1 + 1),((z25.2.1 ++ [r28]),z25.2.2))))))
 (some z25.2))) n z0)
def l_w94q_2 (n : Nat) (x_2_1 : Ty28) (z0 : Ty14) : Option Ty15 :=
(lp (fun rec49 (z48 : Ty14) =>
 (cond (decide (z48.1 < (lenI x_2_1)))
 ((geti x_2_1 z48.1).bind fun y50 =>
 ((m_w92q y50).bind fun r51 =>
 (chk (Nat.ble ((z48.2.2.1.length + [r51].length) * 128) maxBytes)
 (rec49 (IntKind.wrap .i64 (z48.1 + 1),(z48.2.1,((z48.2.2.1 ++ [r51]),z48.2.2.2)))))))
 (some z48.2))) n z0)
def l_w94q_3 (n : Nat) (x_2_2_2_1 : Ty41) (z0 : Ty14) : Option Ty15 :=
(lp (fun rec61 (z60 : Ty14) =>
 (cond (decide (z60.1 < (lenI x_2_2_2_1)))
 ((geti x_2_2_2_1 z60.1).bind fun y62 =>
 ((m_w93q y62).bind fun r63 =>
 (chk (Nat.ble ((z60.2.2.2.2.1.length + [r63].length) * 56) maxBytes)
 (rec61 (IntKind.wrap .i64 (z60.1 + 1),(z60.2.1,(z60.2.2.1,(z60.2.2.2.1,((z60.2.2.2.2.1 ++ [r63]),z60.2.2.2.2.2)))))))))
 (some z60.2))) n z0)
def p_w94q (n : Nat) (x : Ty15) : Option Ty15 :=
(same
 ((m_w90q x.2.2.1).bind fun r1 =>
 (dup 1
 (chk (Nat.ble (x.2.2.2.2.length * 72) maxBytes)
 (Option.bind (α := Ty15)
 (l_w94q_1 n x.1 ((0 : Int),([],([],(r1,([],x.2.2.2.2)))))) fun j30 =>
 (Option.bind (α := Ty15)
 (l_w94q_2 n x.2.1 ((0 : Int),j30)) fun j53 =>
 (l_w94q_3 n x.2.2.2.1 ((0 : Int),j53)))))))
 ((m_w90q x.2.2.1).bind fun r1 =>
 (chk (Nat.ble (x.2.2.2.2.length * 72) maxBytes)
 (Option.bind (α := Ty15)
 (l_w94q_1 n x.1 ((0 : Int),([],([],(r1,([],x.2.2.2.2)))))) fun j30 =>
 (Option.bind (α := Ty15)
 (l_w94q_2 n x.2.1 ((0 : Int),j30)) fun j53 =>
 (l_w94q_3 n x.2.2.2.1 ((0 : Int),j53)))))))
def m_w94q := p_w94q FU
def a_w94q : Ann := (.node .leaf (.node (.lazy 10 .leaf) (.join [.box 1000003 Kd4] ([4] ++ rg 15 18) (.node .leaf (.loop [.slot 4 (.int .i64),.box 1000003 Kd4] (rg 15 18) .leaf)) (.join [.box 1000003 Kd4] ([5] ++ rg 33 18) (.node .leaf (.loop [.slot 5 (.int .i64),.box 1000003 Kd4] (rg 33 18) .leaf)) (.node (.node .leaf (.loop [.slot 6 (.int .i64),.box 1000003 Kd4] (rg 51 18) .leaf)) .leaf)))))
def S_w94q : FSpec := ⟨[.val Kd6],[Kd4],m_w94q⟩
def p_w95q (_ : Nat) (x : Ty13) : Option Ty14 :=
((m_w86q x.1).bind fun r1 =>
(cond (!(r1 == 0))
 ((m_w87q r1).bind fun r2 =>
 some r2)
 ((m_w46q (x.2,(0 : Int),(1 : Int))).bind fun r3 =>
 (cond (!r3)
 ((m_w87q (3 : Int)).bind fun r4 =>
 some r4)
 ((m_w94q x.1).bind fun r5 =>
 ((geti x.1.2.2.2.1 x.2).bind fun y6 =>
 ((geti r5.2.2.2.1 x.2).bind fun _ =>
 ((r5.2.2.2.1[x.2.toNat]?).bind fun y7 =>
 some ((0 : Int),(r5.1,(r5.2.1,(r5.2.2.1,((r5.2.2.2.1.set x.2.toNat (y6.1,([],[]))),r5.2.2.2.2)))))))))))))
def m_w95q := p_w95q FU
def a_w95q : Ann := .leaf
def S_w95q : FSpec := ⟨[.val Kd6,.val (.int .i64)],[Kd3],m_w95q⟩
def p_w96q (_ : Nat) (x : Ty28) : Option Int :=
some (lenI x)
def m_w96q := p_w96q FU
def a_w96q : Ann := .leaf
def S_w96q : FSpec := ⟨[.val Kd9],[(.int .i64)],m_w96q⟩
def p_w97q (_ : Nat) (x : (Int × (Int × Int))) : Option Bool :=
(cond (decide (x.1 ≥ x.2.1))
 (some (decide (x.1 ≤ x.2.2)))
 (some false))
def m_w97q := p_w97q FU
def a_w97q : Ann := .leaf
def S_w97q : FSpec := ⟨[.val (.int .i64),.val (.int .i64),.val (.int .i64)],[.bool],m_w97q⟩
def p_w98q (_ : Nat) (x : Ty63) : Option Int :=
some (lenI x)
def m_w98q := p_w98q FU
def a_w98q : Ann := .leaf
def S_w98q : FSpec := ⟨[.val Kd21],[(.int .i64)],m_w98q⟩
def p_w99q (_ : Nat) (x : Int) : Option Bool :=
((m_w97q (x,(1 : Int),(1000000000 : Int))).bind fun r1 =>
some r1)
def m_w99q := p_w99q FU
def a_w99q : Ann := .leaf
def S_w99q : FSpec := ⟨[.val (.int .i64)],[.bool],m_w99q⟩
def p_w100q (_ : Nat) (x : Ty86) : Option Int :=
some (lenI x)
def m_w100q := p_w100q FU
def a_w100q : Ann := .leaf
def S_w100q : FSpec := ⟨[.val Kd39],[(.int .i64)],m_w100q⟩
def p_w101q (_ : Nat) (x : Int) : Option Bool :=
((m_w97q (x,(0 : Int),(2 : Int))).bind fun r1 =>
some r1)
def m_w101q := p_w101q FU
def a_w101q : Ann := .leaf
def S_w101q : FSpec := ⟨[.val (.int .i64)],[.bool],m_w101q⟩
def p_w102q (_ : Nat) (x : Int) : Option Bool :=
((m_w97q (x,(0 : Int),(2 : Int))).bind fun r1 =>
some r1)
def m_w102q := p_w102q FU
def a_w102q : Ann := .leaf
def S_w102q : FSpec := ⟨[.val (.int .i64)],[.bool],m_w102q⟩
def p_w103q (_ : Nat) (x : (Int × Int)) : Option Bool :=
((m_w97q (x.1,(0 : Int),(5 : Int))).bind fun r1 =>
(cond r1
 ((m_w102q x.2).bind fun r2 =>
 some r2)
 (some false)))
def m_w103q := p_w103q FU
def a_w103q : Ann := .leaf
def S_w103q : FSpec := ⟨[.val (.int .i64),.val (.int .i64)],[.bool],m_w103q⟩
def p_w104q (_ : Nat) (x : Ty90) : Option Int :=
(Option.bind (α := Bool)
 ((m_w101q x.1).bind fun r4 =>
 (cond (!r4)
 (some true)
 ((m_w103q (x.2.1,x.2.2.1)).bind fun r5 =>
 (cond (!r5)
 (some true)
 ((m_w97q (x.2.2.2,(-1000000000000 : Int),(1000000000000 : Int))).bind fun r6 =>
 some (!r6)))))) fun j7 =>
(cond j7
 (some (3 : Int))
 (cond (x.2.2.2 == 0)
 (some (1 : Int))
 (some (0 : Int)))))
def m_w104q := p_w104q FU
def a_w104q : Ann := (.node .leaf (.node (.join [.slot 3 .bool] (rg 4 18) .leaf .leaf) .leaf))
def S_w104q : FSpec := ⟨[.val Kd40],[(.int .i64)],m_w104q⟩
def p_w105q (_ : Nat) (x : Ty71) : Option Bool :=
(cond (x.1.1 == x.2.1)
 (cond (x.1.2.1 == x.2.2.1)
 (some (x.1.2.2.1 == x.2.2.2.1))
 (some false))
 (some false))
def m_w105q := p_w105q FU
def a_w105q : Ann := .leaf
def S_w105q : FSpec := ⟨[.val Kd40,.val Kd40],[.bool],m_w105q⟩
def l_w106q_1 (n : Nat) (z106_1 : Int) (x_2 : Ty86) (y108 : Ty90) (z0 : Int) : Option Int :=
(lp (fun rec122 (z121 : Int) =>
 (cond (decide (z121 < (lenI (cutL none (some z106_1) x_2))))
 ((geti (cutL none (some z106_1) x_2) z121).bind fun y123 =>
 ((m_w105q (y123,y108)).bind fun r124 =>
 (cond r124
 (some z121)
 (rec122 (IntKind.wrap .i64 (z121 + 1))))))
 (some (-1 : Int)))) n z0)
def l_w106q_2 (n : Nat) (x_2 : Ty86) (z0 : Ty94) : Option ((List (Int × Int)) ⊕ Int) :=
(lp (fun rec107 (z106 : Ty94) =>
 (cond (decide (z106.1 < (lenI x_2)))
 ((geti x_2 z106.1).bind fun y108 =>
 ((m_w104q y108).bind fun r109 =>
 (cond (!(r109 == 0))
 (some (Sum.inr r109))
 (chk (bndB none (some z106.1) none x_2.length)
 (Option.bind (α := Int)
 (l_w106q_1 n z106.1 x_2 y108 (0 : Int)) fun j126 =>
 (cond (decide (j126 ≥ 0))
 (some (Sum.inr (7 : Int)))
 (rec107 (IntKind.wrap .i64 (z106.1 + 1),(mupd (.int .i64) z106.2 y108.2.2.1 (IntKind.wrap .i64 ((mlook (.int .i64) z106.2 y108.2.2.1) + y108.2.2.2)))))))))))
 (some (Sum.inl z106.2)))) n z0)
def l_w106q_3 (n : Nat) (j128 : (List (Int × Int))) (z0 : (Int × (List Int))) : Option Int :=
(lp (fun rec140 (z139 : (Int × (List Int))) =>
 (chk (z139.1 == lenI j128)
 (drawM (leftM z139.1 z139.2) (fun y141 =>
 ((geti j128 y141).bind fun y142 =>
 (chk (z139.1 == lenI j128)
 (((z139.2 ++ [y141]).getLast?).bind fun y143 =>
 ((geti j128 y143).bind fun y144 =>
 (cond (!(y144.2 == 0))
 (some (1 : Int))
 (rec140 (z139.1,(z139.2 ++ [y141])))))))))
 (some (0 : Int))))) n z0)
def p_w106q (n : Nat) (x : Ty81) : Option Int :=
((m_w99q x.1).bind fun r1 =>
(cond (!r1)
 (some (3 : Int))
 ((m_w100q x.2).bind fun r2 =>
 ((m_w97q (r2,(2 : Int),(8 : Int))).bind fun r3 =>
 (cond (!r3)
 (some (2 : Int))
 (Option.bind (α := ((List (Int × Int)) ⊕ Int))
 (l_w106q_2 n x.2 ((0 : Int),([] : List (Int × Int))))
 (Sum.elim (fun j128 =>
 (l_w106q_3 n j128 ((lenI j128),([] : List Int)))) some)))))))
def m_w106q := p_w106q FU
def a_w106q : Ann := (.node .leaf (.node .leaf (.node .leaf (.joinx [.map 1 (.int .i64) .i64] ([2,4,5,6] ++ rg 21 27) (.node .leaf (.loop [.slot 24 (.int .i64),.map 1 (.int .i64) .i64] ([2,4,5,6] ++ rg 25 23) (.node .leaf (.node .leaf (.node (.node .leaf (.node .leaf (.node (.node (.reg 39 (.node .leaf (.node (.regj 7 [.slot 7 (.int .i64)] [] (.node .leaf (.node (.node .leaf (.loop [.slot 8 (.int .i64)] ([4,5] ++ rg 9 10) .leaf)) .leaf)) .leaf) .leaf)) .leaf) .leaf) .leaf))) .leaf))))) (.node (.node .leaf (.loop [.iter 2 1] ([2,8] ++ rg 50 6) .leaf)) .leaf)))))
def S_w106q : FSpec := ⟨[.val Kd35],[(.int .i64)],m_w106q⟩
def p_w107q (_ : Nat) (x : Ty25) : Option Bool :=
((m_w96q x.2).bind fun r1 =>
((m_w97q (x.1,(0 : Int),IntKind.wrap .i64 (r1 - 1))).bind fun r2 =>
some r2))
def m_w107q := p_w107q FU
def a_w107q : Ann := .leaf
def S_w107q : FSpec := ⟨[.val (.int .i64),.val Kd9],[.bool],m_w107q⟩
def l_w108q_1 (n : Nat) (x_2_2 : Ty86) (x_1_2_1 : Ty28) (z0 : Int) : Option Int :=
(lp (fun rec13 (z12 : Int) =>
 (cond (decide (z12 < (lenI x_2_2)))
 ((geti x_2_2 z12).bind fun y14 =>
 ((m_w107q (y14.1,x_1_2_1)).bind fun r15 =>
 (cond (!r15)
 (some z12)
 (rec13 (IntKind.wrap .i64 (z12 + 1))))))
 (some (-1 : Int)))) n z0)
def p_w108q (n : Nat) (x : Ty9) : Option Bool :=
(Option.bind (α := Int)
 (l_w108q_1 n x.2.2 x.1.2.1 (0 : Int)) fun j17 =>
some (!(decide (j17 ≥ 0))))
def m_w108q := p_w108q FU
def a_w108q : Ann := (.node .leaf (.node (.reg 8 (.node .leaf (.node (.regj 7 [.slot 7 (.int .i64)] [] (.node .leaf (.node (.node .leaf (.loop [.slot 8 (.int .i64)] ([4,5] ++ rg 9 10) .leaf)) .leaf)) .leaf) .leaf)) .leaf) .leaf))
def S_w108q : FSpec := ⟨[.rp Kd6,.val Kd35],[.bool],m_w108q⟩
def l_w109q_1 (n : Nat) (x : Ty15) (z0 : Int) : Option Int :=
(lp (fun rec9 (z8 : Int) =>
 (cond (decide (z8 < (lenI x.1)))
 ((geti x.1 z8).bind fun y10 =>
 ((m_w106q y10).bind fun r11 =>
 (cond (!(r11 == 0))
 (some r11)
 ((m_w108q (x,y10)).bind fun r12 =>
 (cond (!r12)
 (some (4 : Int))
 (Option.bind (α := Bool)
 (cond (decide (z8 > 0))
 ((geti x.1 (IntKind.wrap .i64 (z8 - 1))).bind fun y14 =>
 some (decide (y14.1 ≥ y10.1)))
 (some false)) fun j15 =>
 (cond j15
 (some (1 : Int))
 (rec9 (IntKind.wrap .i64 (z8 + 1))))))))))
 (some (0 : Int)))) n z0)
def p_w109q (n : Nat) (x : Ty15) : Option Int :=
(l_w109q_1 n x (0 : Int))
def m_w109q := p_w109q FU
def a_w109q : Ann := (.node .leaf (.node (.node .leaf (.loop [.slot 11 (.int .i64)] ([2,3,4,5] ++ rg 12 32) (.node .leaf (.node .leaf (.node (.node .leaf (.node .leaf (.node .leaf (.node .leaf (.join [.slot 26 .bool] (rg 27 16) .leaf .leaf))))) .leaf))))) .leaf))
def S_w109q : FSpec := ⟨[.rp Kd6],[(.int .i64)],m_w109q⟩
def p_w110q (_ : Nat) (x : Int) : Option Bool :=
some (!(x == x))
def m_w110q := p_w110q FU
def a_w110q : Ann := .leaf
def S_w110q : FSpec := ⟨[.val (.int .i64)],[.bool],m_w110q⟩
def p_w111q (_ : Nat) (x : (Int × Int)) : Option Int :=
((m_w110q x.1).bind fun r1 =>
((m_w110q x.2).bind fun r2 =>
(cond r1
 (cond r2
 (some (0 : Int))
 (some (-1 : Int)))
 (cond r2
 (some (1 : Int))
 (cond (decide (x.1 < x.2))
 (some (-1 : Int))
 (cond (decide (x.1 > x.2))
 (some (1 : Int))
 (some (0 : Int))))))))
def m_w111q := p_w111q FU
def a_w111q : Ann := .leaf
def S_w111q : FSpec := ⟨[.val (.int .i64),.val (.int .i64)],[(.int .i64)],m_w111q⟩
def l_w112q_1 (n : Nat) (x : (List Int)) (z0 : Int) : Option Int :=
(lp (fun rec4 (z3 : Int) =>
 (cond (decide (z3 < (lenI x)))
 ((geti x z3).bind fun y5 =>
 (cond (!(y5 == 0))
 (some y5)
 (rec4 (IntKind.wrap .i64 (z3 + 1)))))
 (some (0 : Int)))) n z0)
def p_w112q (n : Nat) (x : (List Int)) : Option Int :=
(l_w112q_1 n x (0 : Int))
def m_w112q := p_w112q FU
def a_w112q : Ann := (.node .leaf (.node .leaf (.node (.node .leaf (.loop [.slot 8 (.int .i64)] ([2,5] ++ rg 9 8) .leaf)) .leaf)))
def S_w112q : FSpec := ⟨[.val Kd47],[(.int .i64)],m_w112q⟩
def p_w113q (_ : Nat) (x : Ty79) : Option Int :=
((m_w111q (x.1.1,x.2.1)).bind fun r1 =>
((m_w111q (x.1.2.1,x.2.2.1)).bind fun r2 =>
((m_w112q [r1,r2]).bind fun r3 =>
some r3)))
def m_w113q := p_w113q FU
def a_w113q : Ann := (.node .leaf (.node (.lazy 15 .leaf) .leaf))
def S_w113q : FSpec := ⟨[.val Kd43,.val Kd43],[(.int .i64)],m_w113q⟩
def l_w114q_1 (n : Nat) (x : Ty92) (z0 : Int) : Option Int :=
(lp (fun rec14 (z13 : Int) =>
 (cond (decide (z13 < (lenI x)))
 ((geti x z13).bind fun y15 =>
 (Option.bind (α := Bool)
 ((m_w103q (y15.1,y15.2.1)).bind fun r18 =>
 (cond (!r18)
 (some true)
 ((m_w97q (y15.2.2,(1 : Int),(1000000000000 : Int))).bind fun r19 =>
 some (!r19)))) fun j20 =>
 (cond j20
 (some (3 : Int))
 (Option.bind (α := Bool)
 (cond (decide (z13 > 0))
 ((geti x (IntKind.wrap .i64 (z13 - 1))).bind fun y23 =>
 ((m_w113q (y23,y15)).bind fun r24 =>
 some (decide (r24 ≥ 0))))
 (some false)) fun j25 =>
 (cond j25
 (some (1 : Int))
 (rec14 (IntKind.wrap .i64 (z13 + 1))))))))
 (some (0 : Int)))) n z0)
def p_w114q (n : Nat) (x : Ty92) : Option Int :=
(cond (decide ((lenI x) > 18))
 (some (2 : Int))
 (l_w114q_1 n x (0 : Int)))
def m_w114q := p_w114q FU
def a_w114q : Ann := (.node .leaf (.node .leaf (.node (.node .leaf (.loop [.slot 10 (.int .i64)] ([2,3,4] ++ rg 11 31) (.node .leaf (.node .leaf (.node (.node .leaf (.join [.slot 15 .bool] (rg 16 12) .leaf (.node .leaf (.join [.slot 28 .bool] (rg 29 12) .leaf .leaf)))) .leaf))))) .leaf)))
def S_w114q : FSpec := ⟨[.val Kd42],[(.int .i64)],m_w114q⟩
def p_w115q (_ : Nat) (x : Int) : Option Bool :=
(cond (x == 1)
 (some true)
 (some (x == 2)))
def m_w115q := p_w115q FU
def a_w115q : Ann := .leaf
def S_w115q : FSpec := ⟨[.val (.int .i64)],[.bool],m_w115q⟩
def p_w116q (_ : Nat) (x : Int) : Option Bool :=
(cond (x == 1)
 (some true)
 (some (x == 2)))
def m_w116q := p_w116q FU
def a_w116q : Ann := .leaf
def S_w116q : FSpec := ⟨[.val (.int .i64)],[.bool],m_w116q⟩
def l_w117q_1 (n : Nat) (x_2 : Int) (x_1_2 : Ty86) (z0 : Ty80) : Option Ty86 :=
(lp (fun rec4 (z3 : Ty80) =>
 (cond (decide (z3.2 < (lenI x_1_2)))
 ((geti x_1_2 z3.2).bind fun y5 =>
 (cond (y5.1 == x_2)
 (chk (Nat.ble ((z3.1.length + [y5].length) * 32) maxBytes)
 (rec4 ((z3.1 ++ [y5]),IntKind.wrap .i64 (z3.2 + 1))))
 (rec4 (z3.1,IntKind.wrap .i64 (z3.2 + 1)))))
 (some z3.1))) n z0)
def p_w117q (n : Nat) (x : Ty75) : Option Ty86 :=
(l_w117q_1 n x.2 x.1.2 (([] : List Ty90),(0 : Int)))
def m_w117q := p_w117q FU
def a_w117q : Ann := (.node .leaf (.node .leaf (.node (.node .leaf (.loop [.slot 5 Kd38,.slot 12 (.int .i64)] ([7] ++ rg 13 12) .leaf)) .leaf)))
def S_w117q : FSpec := ⟨[.val Kd35,.val (.int .i64)],[Kd38],m_w117q⟩
def p_w118q (_ : Nat) (x : ((Int × Int) × Int)) : Option Int :=
((m_w111q (x.1.1,x.2)).bind fun r1 =>
some r1)
def m_w118q := p_w118q FU
def a_w118q : Ann := .leaf
def S_w118q : FSpec := ⟨[.val Kd45,.val (.int .i64)],[(.int .i64)],m_w118q⟩
def l_w118q (n : Nat) (x_1 : (List (Int × Int))) (x_2 : Int) (z0 : (Int × Int)) : Option Int :=
(lp (fun rec13 (z12 : (Int × Int)) =>
 (cond (decide (z12.1 < z12.2))
 (chk (decide (0 ≤ (1 : Int)))
 ((geti x_1 (IntKind.wrap .i64 (Int.fdiv (IntKind.wrap .u64 (IntKind.wrap .i64 (z12.1 + z12.2))) (2 ^ (min (1 : Int).toNat 64))))).bind fun y14 =>
 ((m_w118q (y14,x_2)).bind fun r15 =>
 (cond (decide (r15 < 0))
 (rec13 (IntKind.wrap .i64 ((IntKind.wrap .i64 (Int.fdiv (IntKind.wrap .u64 (IntKind.wrap .i64 (z12.1 + z12.2))) (2 ^ (min (1 : Int).toNat 64)))) + 1),z12.2))
 (rec13 (z12.1,IntKind.wrap .i64 (Int.fdiv (IntKind.wrap .u64 (IntKind.wrap .i64 (z12.1 + z12.2))) (2 ^ (min (1 : Int).toNat 64)))))))))
 (some z12.1))) n z0)
def p_w119q (n : Nat) (x : Ty93) : Option (Int × Bool) :=
(Option.bind (α := Int)
 (l_w118q n x.1 x.2 ((0 : Int),lenI x.1)) fun j17 =>
(cond (decide (j17 < (lenI x.1)))
 ((geti x.1 j17).bind fun y18 =>
 ((m_w118q (y18,x.2)).bind fun r19 =>
 some (j17,(r19 == 0))))
 (some (j17,false))))
def m_w119q := p_w119q FU
def a_w119q : Ann := (.node .leaf (.node (.reg 8 (.node .leaf (.node .leaf (.node .leaf (.join [.slot 9 (.int .i64)] ([10,11] ++ rg 15 20) (.loop [.slot 9 (.int .i64),.slot 10 (.int .i64)] ([11] ++ rg 15 20) .leaf) .leaf)))) .leaf) .leaf))
def S_w119q : FSpec := ⟨[.val Kd44,.val (.int .i64)],[(.int .i64),.bool],m_w119q⟩
def p_w120q (_ : Nat) (x : Ty93) : Option Int :=
((m_w119q (x.1,x.2)).bind fun r1 =>
(cond (!r1.2)
 (some (0 : Int))
 ((geti x.1 r1.1).bind fun y2 =>
 some y2.2)))
def m_w120q := p_w120q FU
def a_w120q : Ann := .leaf
def S_w120q : FSpec := ⟨[.val Kd44,.val (.int .i64)],[(.int .i64)],m_w120q⟩
def l_w121q_1 (n : Nat) (x_1 : Int) (x_2_2_1 : (List (Int × Int))) (x_2_2_2_1 : Ty78) (x_2_2_2_2_1 : (List (Int × Int))) (z0 : Int) : Option Int :=
(lp (fun rec20 (z19 : Int) =>
 (cond (decide (z19 < (lenI x_2_2_2_1)))
 ((geti x_2_2_2_1 z19).bind fun y21 =>
 ((m_w106q y21).bind fun r22 =>
 (cond (!(r22 == 0))
 (some r22)
 (Option.bind (α := Bool)
 (cond (decide (z19 > 0))
 ((geti x_2_2_2_1 (IntKind.wrap .i64 (z19 - 1))).bind fun y30 =>
 (cond (decide (y30.1 ≥ y21.1))
 (some true)
 ((m_w117q (y21,x_1)).bind fun r31 =>
 (cond ((lenI r31) == 0)
 (some true)
 ((m_w120q (x_2_2_1,y21.1)).bind fun r32 =>
 (cond (!(r32 == 1))
 (some true)
 ((m_w120q (x_2_2_2_2_1,y21.1)).bind fun r33 =>
 some (!(r33 == 0)))))))))
 ((m_w117q (y21,x_1)).bind fun r34 =>
 (cond ((lenI r34) == 0)
 (some true)
 ((m_w120q (x_2_2_1,y21.1)).bind fun r35 =>
 (cond (!(r35 == 1))
 (some true)
 ((m_w120q (x_2_2_2_2_1,y21.1)).bind fun r36 =>
 some (!(r36 == 0)))))))) fun j37 =>
 (cond j37
 (some (1 : Int))
 (rec20 (IntKind.wrap .i64 (z19 + 1))))))))
 (some (0 : Int)))) n z0)
def p_w121q (n : Nat) (x : Ty31) : Option Int :=
(l_w121q_1 n x.1 x.2.2.1 x.2.2.2.1 x.2.2.2.2.1 (0 : Int))
def m_w121q := p_w121q FU
def a_w121q : Ann := (.node .leaf (.node (.node .leaf (.loop [.slot 9 (.int .i64)] ([2,3,4,5] ++ rg 10 48) (.node .leaf (.node .leaf (.node (.node .leaf (.node .leaf (.join [.slot 56 .bool] (rg 19 37) .leaf .leaf))) .leaf))))) .leaf))
def S_w121q : FSpec := ⟨[.val Kd10],[(.int .i64)],m_w121q⟩
def l_w122q_1 (n : Nat) (x : (List Int)) (z0 : Int) : Option Int :=
(lp (fun rec4 (z3 : Int) =>
 (cond (decide (z3 < (lenI x)))
 ((geti x z3).bind fun y5 =>
 (cond (!(y5 == 0))
 (some y5)
 (rec4 (IntKind.wrap .i64 (z3 + 1)))))
 (some (0 : Int)))) n z0)
def p_w122q (n : Nat) (x : (List Int)) : Option Int :=
(l_w122q_1 n x (0 : Int))
def m_w122q := p_w122q FU
def a_w122q : Ann := (.node .leaf (.node (.node .leaf (.loop [.slot 7 (.int .i64)] ([2,4] ++ rg 8 7) .leaf)) .leaf))
def S_w122q : FSpec := ⟨[.val Kd47],[(.int .i64)],m_w122q⟩
def p_w123q (_ : Nat) (x : Ty75) : Option Int :=
((m_w111q (x.1.1,x.2)).bind fun r1 =>
some r1)
def m_w123q := p_w123q FU
def a_w123q : Ann := .leaf
def S_w123q : FSpec := ⟨[.val Kd35,.val (.int .i64)],[(.int .i64)],m_w123q⟩
def l_w123q (n : Nat) (x_2 : Int) (x_1_2_2_2_1 : Ty78) (z0 : (Int × Int)) : Option Int :=
(lp (fun rec13 (z12 : (Int × Int)) =>
 (cond (decide (z12.1 < z12.2))
 (chk (decide (0 ≤ (1 : Int)))
 ((geti x_1_2_2_2_1 (IntKind.wrap .i64 (Int.fdiv (IntKind.wrap .u64 (IntKind.wrap .i64 (z12.1 + z12.2))) (2 ^ (min (1 : Int).toNat 64))))).bind fun y14 =>
 ((m_w123q (y14,x_2)).bind fun r15 =>
 (cond (decide (r15 < 0))
 (rec13 (IntKind.wrap .i64 ((IntKind.wrap .i64 (Int.fdiv (IntKind.wrap .u64 (IntKind.wrap .i64 (z12.1 + z12.2))) (2 ^ (min (1 : Int).toNat 64)))) + 1),z12.2))
 (rec13 (z12.1,IntKind.wrap .i64 (Int.fdiv (IntKind.wrap .u64 (IntKind.wrap .i64 (z12.1 + z12.2))) (2 ^ (min (1 : Int).toNat 64)))))))))
 (some z12.1))) n z0)
def p_w124q (n : Nat) (x : Ty26) : Option (Int × Bool) :=
(Option.bind (α := Int)
 (l_w123q n x.2 x.1.2.2.2.1 ((0 : Int),lenI x.1.2.2.2.1)) fun j17 =>
(cond (decide (j17 < (lenI x.1.2.2.2.1)))
 ((geti x.1.2.2.2.1 j17).bind fun y18 =>
 ((m_w123q (y18,x.2)).bind fun r19 =>
 some (j17,(r19 == 0))))
 (some (j17,false))))
def m_w124q := p_w124q FU
def a_w124q : Ann := (.node .leaf (.node (.reg 9 (.node .leaf (.node .leaf (.node .leaf (.join [.slot 9 (.int .i64)] ([10,11] ++ rg 15 20) (.loop [.slot 9 (.int .i64),.slot 10 (.int .i64)] ([11] ++ rg 15 20) .leaf) .leaf)))) .leaf) .leaf))
def S_w124q : FSpec := ⟨[.val Kd10,.val (.int .i64)],[(.int .i64),.bool],m_w124q⟩
def p_w125q (_ : Nat) (x : Ty23) : Option Bool :=
((m_w124q (x.1,x.2.1)).bind fun r1 =>
(cond (x.2.2 == 1)
 (cond (!r1.2)
 ((m_w120q (x.1.2.2.2.2.1,x.2.1)).bind fun r2 =>
 some (r2 == 0))
 (some false))
 (some false)))
def m_w125q := p_w125q FU
def a_w125q : Ann := .leaf
def S_w125q : FSpec := ⟨[.val Kd10,.val Kd45],[.bool],m_w125q⟩
def p_w126q (_ : Nat) (x : (List Int)) : Option Ty95 :=
sortedRun x
def m_w126q := p_w126q FU
def S_w126q : FSpec := ⟨[.fbox 427 Kd47],[Kd46],m_w126q⟩
def l_w127q_1 (n : Nat) (x_1 : (List Int)) (x_2 : (List Int)) (z0 : Int) : Option Bool :=
(lp (fun rec5 (z4 : Int) =>
 (cond (decide (z4 < (lenI x_1)))
 ((geti x_1 z4).bind fun y6 =>
 ((geti x_2 z4).bind fun y7 =>
 (cond (!(y6 == y7))
 (some false)
 (rec5 (IntKind.wrap .i64 (z4 + 1))))))
 (some true))) n z0)
def p_w127q (n : Nat) (x : Ty95) : Option Bool :=
(cond (!((lenI x.1) == (lenI x.2)))
 (some false)
 (l_w127q_1 n x.1 x.2 (0 : Int)))
def m_w127q := p_w127q FU
def a_w127q : Ann := (.node .leaf (.node .leaf (.node (.node .leaf (.loop [.slot 13 (.int .i64)] ([4,5] ++ rg 14 12) .leaf)) .leaf)))
def S_w127q : FSpec := ⟨[.val Kd47,.val Kd47],[.bool],m_w127q⟩
def l_w128q_1 (n : Nat) (x_2_2_2_2_1 : (List (Int × Int))) (z0 : ((List Int) × Int)) : Option (List Int) :=
(lp (fun rec10 (z9 : ((List Int) × Int)) =>
 (cond (decide (z9.2 < (lenI x_2_2_2_2_1)))
 ((geti x_2_2_2_2_1 z9.2).bind fun y11 =>
 (cond (y11.2 == 1)
 (chk (Nat.ble ((z9.1.length + [y11.1].length) * 8) maxBytes)
 (rec10 ((z9.1 ++ [y11.1]),IntKind.wrap .i64 (z9.2 + 1))))
 (rec10 (z9.1,IntKind.wrap .i64 (z9.2 + 1)))))
 (some z9.1))) n z0)
def p_w128q (n : Nat) (x : Ty31) : Option Bool :=
(Option.bind (α := (List Int))
 (l_w128q_1 n x.2.2.2.2.1 (([] : List Int),(0 : Int))) fun j13 =>
((m_w126q x.2.2.2.2.2).bind fun r14 =>
((m_w127q (r14.1,j13)).bind fun r15 =>
some r15)))
def m_w128q := p_w128q FU
def a_w128q : Ann := (.node .leaf (.node .leaf (.join [.slot 3 Kd46] ([5] ++ rg 7 16) (.node .leaf (.loop [.slot 3 Kd46,.slot 10 (.int .i64)] ([5] ++ rg 11 12) .leaf)) .leaf)))
def S_w128q : FSpec := ⟨[.val Kd10],[.bool],m_w128q⟩
def l_w129q_1 (n : Nat) (r67 : Ty86) (y66 : Ty90) (z0 : Int) : Option Int :=
(lp (fun rec80 (z79 : Int) =>
 (cond (decide (z79 < (lenI r67)))
 ((geti r67 z79).bind fun _ =>
 ((r67[z79.toNat]?).bind fun y81 =>
 ((m_w105q (y66,y81)).bind fun r82 =>
 (cond r82
 (some z79)
 (rec80 (IntKind.wrap .i64 (z79 + 1)))))))
 (some (-1 : Int)))) n z0)
def l_w129q_2 (n : Nat) (r1 : Ty86) (x_1_1 : Int) (x_2_2 : Ty81) (z0 : Int) : Option Int :=
(lp (fun rec65 (z64 : Int) =>
 (cond (decide (z64 < (lenI r1)))
 ((geti r1 z64).bind fun _ =>
 ((r1[z64.toNat]?).bind fun y66 =>
 ((m_w117q (x_2_2,x_1_1)).bind fun r67 =>
 (Option.bind (α := Int)
 (l_w129q_1 n r67 y66 (0 : Int)) fun j84 =>
 (cond (decide (j84 ≥ 0))
 (some z64)
 (rec65 (IntKind.wrap .i64 (z64 + 1))))))))
 (some (-1 : Int)))) n z0)
def p_w129q (n : Nat) (x : Ty20) : Option Bool :=
((m_w117q (x.2.1,x.1.1)).bind fun r1 =>
(Option.bind (α := Int)
 (l_w129q_2 n r1 x.1.1 x.2.2 (0 : Int)) fun j86 =>
some (decide (j86 ≥ 0))))
def m_w129q := p_w129q FU
def a_w129q : Ann := (.node .leaf (.node (.reg 12 (.node .leaf (.node (.regj 7 [.slot 7 (.int .i64)] [] (.node .leaf (.node (.node .leaf (.loop [.slot 8 (.int .i64)] ([4,5] ++ rg 9 10) (.node .leaf (.node .leaf (.node (.node .leaf (.node (.reg 16 (.node .leaf (.node (.reg 10 (.node .leaf (.node (.regj 7 [.slot 7 (.int .i64)] [] (.node .leaf (.node (.node .leaf (.loop [.slot 8 (.int .i64)] ([4,5] ++ rg 9 10) .leaf)) .leaf)) .leaf) .leaf)) .leaf) .leaf)) .leaf) .leaf)) .leaf))))) .leaf)) .leaf) .leaf)) .leaf) .leaf))
def S_w129q : FSpec := ⟨[.val Kd10,.val Kd35,.val Kd35],[.bool],m_w129q⟩
def l_w130q_1 (n : Nat) (x_1 : Ty92) (x_2_1 : Int) (x_2_2 : Int) (z0 : (Int × Int)) : Option Int :=
(lp (fun rec32 (z31 : (Int × Int)) =>
 (cond (decide (z31.1 < z31.2))
 (chk (decide (0 ≤ (1 : Int)))
 ((geti x_1 (IntKind.wrap .i64 (Int.fdiv (IntKind.wrap .u64 (IntKind.wrap .i64 (z31.1 + z31.2))) (2 ^ (min (1 : Int).toNat 64))))).bind fun y33 =>
 ((m_w113q (y33,(x_2_1,(x_2_2,(0 : Int))))).bind fun r34 =>
 (cond (decide (r34 < 0))
 (rec32 (IntKind.wrap .i64 ((IntKind.wrap .i64 (Int.fdiv (IntKind.wrap .u64 (IntKind.wrap .i64 (z31.1 + z31.2))) (2 ^ (min (1 : Int).toNat 64)))) + 1),z31.2))
 (rec32 (z31.1,IntKind.wrap .i64 (Int.fdiv (IntKind.wrap .u64 (IntKind.wrap .i64 (z31.1 + z31.2))) (2 ^ (min (1 : Int).toNat 64)))))))))
 (some z31.1))) n z0)
def p_w130q (n : Nat) (x : Ty83) : Option Int :=
(Option.bind (α := (Int × Bool))
 (Option.bind (α := Int)
 (l_w130q_1 n x.1 x.2.1 x.2.2 ((0 : Int),lenI x.1)) fun j36 =>
 (cond (decide (j36 < (lenI x.1)))
 ((geti x.1 j36).bind fun y37 =>
 ((m_w113q (y37,(x.2.1,(x.2.2,(0 : Int))))).bind fun r38 =>
 some (j36,(r38 == 0))))
 (some (j36,false)))) fun j39 =>
(cond (!j39.2)
 (some (0 : Int))
 ((geti x.1 j39.1).bind fun y40 =>
 some y40.2.2)))
def m_w130q := p_w130q FU
def a_w130q : Ann := (.node .leaf (.join [.slot 7 (.int .i64),.slot 8 .bool] (rg 9 8) (.reg 14 (.node .leaf (.node .leaf (.node .leaf (.join [.slot 9 (.int .i64)] ([10,11] ++ rg 15 20) (.loop [.slot 9 (.int .i64),.slot 10 (.int .i64)] ([11] ++ rg 15 20) .leaf) .leaf)))) .leaf) .leaf))
def S_w130q : FSpec := ⟨[.val Kd42,.val (.int .i64),.val (.int .i64)],[(.int .i64)],m_w130q⟩
def p_w131q (_ : Nat) (x : (Ty92 × Ty90)) : Option Int :=
((m_w130q (x.1,x.2.2.1,x.2.2.2.1)).bind fun r1 =>
(cond (decide ((IntKind.wrap .i64 (r1 + x.2.2.2.2)) < 0))
 (some (6 : Int))
 (cond (decide ((IntKind.wrap .i64 (r1 + x.2.2.2.2)) > 1000000000000))
 (some (3 : Int))
 (some (0 : Int)))))
def m_w131q := p_w131q FU
def a_w131q : Ann := .leaf
def S_w131q : FSpec := ⟨[.val Kd42,.val Kd40],[(.int .i64)],m_w131q⟩
def l_w132q_1 (n : Nat) (r1 : Ty86) (x_1_2_1 : Ty92) (z0 : Int) : Option Int :=
(lp (fun rec6 (z5 : Int) =>
 (cond (decide (z5 < (lenI r1)))
 ((geti r1 z5).bind fun _ =>
 ((r1[z5.toNat]?).bind fun y7 =>
 ((m_w131q (x_1_2_1,y7)).bind fun r8 =>
 (cond (!(r8 == 0))
 (some r8)
 (rec6 (IntKind.wrap .i64 (z5 + 1)))))))
 (some (0 : Int)))) n z0)
def p_w132q (n : Nat) (x : Ty21) : Option Int :=
((m_w117q (x.2,x.1.1)).bind fun r1 =>
(l_w132q_1 n r1 x.1.2.1 (0 : Int)))
def m_w132q := p_w132q FU
def a_w132q : Ann := (.node .leaf (.node (.node .leaf (.loop [.slot 13 (.int .i64)] ([4,6,7] ++ rg 14 11) .leaf)) .leaf))
def S_w132q : FSpec := ⟨[.val Kd10,.val Kd35],[(.int .i64)],m_w132q⟩
def l_w133q_1 (n : Nat) (z60 : Int) (x : Ty31) (y62 : Ty81) (z0 : Int) : Option Int :=
(lp (fun rec75 (z74 : Int) =>
 (cond (decide (z74 < (lenI (cutL none (some z60) x.2.2.2.1))))
 ((geti (cutL none (some z60) x.2.2.2.1) z74).bind fun y76 =>
 ((m_w129q (x,y76,y62)).bind fun r77 =>
 (cond r77
 (some z74)
 (rec75 (IntKind.wrap .i64 (z74 + 1))))))
 (some (-1 : Int)))) n z0)
def l_w133q_2 (n : Nat) (x : Ty31) (z0 : Int) : Option (Unit ⊕ Int) :=
(lp (fun rec61 (z60 : Int) =>
 (cond (decide (z60 < (lenI x.2.2.2.1)))
 ((geti x.2.2.2.1 z60).bind fun y62 =>
 (chk (bndB none (some z60) none x.2.2.2.1.length)
 (Option.bind (α := Int)
 (l_w133q_1 n z60 x y62 (0 : Int)) fun j79 =>
 (cond (decide (j79 ≥ 0))
 (some (Sum.inr (7 : Int)))
 (rec61 (IntKind.wrap .i64 (z60 + 1)))))))
 (some (Sum.inl ())))) n z0)
def l_w133q_3 (n : Nat) (x : Ty31) (z0 : Int) : Option Int :=
(lp (fun rec86 (z85 : Int) =>
 (cond (decide (z85 < (lenI x.2.2.2.1)))
 ((geti x.2.2.2.1 z85).bind fun y87 =>
 ((m_w132q (x,y87)).bind fun r88 =>
 (cond (!(r88 == 0))
 (some r88)
 (rec86 (IntKind.wrap .i64 (z85 + 1))))))
 (some (0 : Int)))) n z0)
def p_w133q (n : Nat) (x : Ty31) : Option Int :=
(Option.bind (α := (Unit ⊕ Int))
 (l_w133q_2 n x (0 : Int))
 (Sum.elim (fun j81 =>
(l_w133q_3 n x (0 : Int))) some))
def m_w133q := p_w133q FU
def a_w133q : Ann := (.node .leaf (.joinx [] ([2,3,4] ++ rg 8 15) (.node .leaf (.loop [.slot 11 (.int .i64)] ([2,3,4] ++ rg 12 11) (.node .leaf (.node .leaf (.node (.node .leaf (.node (.reg 21 (.node .leaf (.node (.regj 7 [.slot 7 (.int .i64)] [] (.node .leaf (.node (.node .leaf (.loop [.slot 8 (.int .i64)] ([4,5] ++ rg 9 10) .leaf)) .leaf)) .leaf) .leaf)) .leaf) .leaf)) .leaf))))) (.node (.node .leaf (.loop [.slot 26 (.int .i64)] ([2,6,7] ++ rg 27 10) .leaf)) .leaf)))
def S_w133q : FSpec := ⟨[.val Kd10],[(.int .i64)],m_w133q⟩
def l_w134q_1 (n : Nat) (x_2_2_1 : (List (Int × Int))) (z0 : Int) : Option Int :=
(lp (fun rec36 (z35 : Int) =>
 (cond (decide (z35 < (lenI x_2_2_1)))
 ((geti x_2_2_1 z35).bind fun y37 =>
 (Option.bind (α := Bool)
 ((m_w99q y37.1).bind fun r40 =>
 (cond (!r40)
 (some true)
 ((m_w115q y37.2).bind fun r41 =>
 some (!r41)))) fun j42 =>
 (cond j42
 (some (3 : Int))
 (Option.bind (α := Bool)
 (cond (decide (z35 > 0))
 ((geti x_2_2_1 (IntKind.wrap .i64 (z35 - 1))).bind fun y44 =>
 some (decide (y44.1 ≥ y37.1)))
 (some false)) fun j45 =>
 (cond j45
 (some (1 : Int))
 (rec36 (IntKind.wrap .i64 (z35 + 1))))))))
 (some (0 : Int)))) n z0)
def l_w134q_2 (n : Nat) (x_2_2_2_2_1 : (List (Int × Int))) (z0 : Int) : Option Int :=
(lp (fun rec81 (z80 : Int) =>
 (cond (decide (z80 < (lenI x_2_2_2_2_1)))
 ((geti x_2_2_2_2_1 z80).bind fun y82 =>
 (Option.bind (α := Bool)
 ((m_w99q y82.1).bind fun r85 =>
 (cond (!r85)
 (some true)
 ((m_w116q y82.2).bind fun r86 =>
 some (!r86)))) fun j87 =>
 (cond j87
 (some (3 : Int))
 (Option.bind (α := Bool)
 (cond (decide (z80 > 0))
 ((geti x_2_2_2_2_1 (IntKind.wrap .i64 (z80 - 1))).bind fun y89 =>
 some (decide (y89.1 ≥ y82.1)))
 (some false)) fun j90 =>
 (cond j90
 (some (1 : Int))
 (rec81 (IntKind.wrap .i64 (z80 + 1))))))))
 (some (0 : Int)))) n z0)
def l_w134q_3 (n : Nat) (x : Ty31) (z0 : Int) : Option Int :=
(lp (fun rec125 (z124 : Int) =>
 (cond (decide (z124 < (lenI x.2.2.1)))
 ((geti x.2.2.1 z124).bind fun y126 =>
 ((m_w125q (x,y126)).bind fun r127 =>
 (cond r127
 (some z124)
 (rec125 (IntKind.wrap .i64 (z124 + 1))))))
 (some (-1 : Int)))) n z0)
def p_w134q (n : Nat) (x : Ty31) : Option Int :=
((m_w101q x.1).bind fun r1 =>
(cond (!r1)
 (some (3 : Int))
 ((m_w114q x.2.1).bind fun r2 =>
 (cond (!(r2 == 0))
 (some r2)
 (cond (decide ((if (lenI x.2.2.2.2.2) > (if (lenI x.2.2.2.2.1) > (if (lenI x.2.2.2.1) > (lenI x.2.2.1) then lenI x.2.2.2.1 else lenI x.2.2.1) then lenI x.2.2.2.2.1 else (if (lenI x.2.2.2.1) > (lenI x.2.2.1) then lenI x.2.2.2.1 else lenI x.2.2.1)) then lenI x.2.2.2.2.2 else (if (lenI x.2.2.2.2.1) > (if (lenI x.2.2.2.1) > (lenI x.2.2.1) then lenI x.2.2.2.1 else lenI x.2.2.1) then lenI x.2.2.2.2.1 else (if (lenI x.2.2.2.1) > (lenI x.2.2.1) then lenI x.2.2.2.1 else lenI x.2.2.1))) > 100))
 (some (2 : Int))
 (Option.bind (α := Int)
 (l_w134q_1 n x.2.2.1 (0 : Int)) fun j47 =>
 (Option.bind (α := Int)
 (l_w134q_2 n x.2.2.2.2.1 (0 : Int)) fun j92 =>
 ((m_w121q x).bind fun r93 =>
 ((m_w122q [j47,j92,r93]).bind fun r94 =>
 (cond (!(r94 == 0))
 (some r94)
 (Option.bind (α := Bool)
 (Option.bind (α := Int)
 (l_w134q_3 n x (0 : Int)) fun j129 =>
 (cond (decide (j129 ≥ 0))
 (some true)
 ((m_w128q x).bind fun r130 =>
 some (!r130)))) fun j131 =>
 (cond j131
 (some (1 : Int))
 ((m_w133q x).bind fun r132 =>
 some r132)))))))))))))
def m_w134q := p_w134q FU
def a_w134q : Ann := (.node .leaf (.node .leaf (.node .leaf (.node .leaf (.node (.node (.regj 31 [.slot 31 (.int .i64)] [] (.node .leaf (.node (.node .leaf (.loop [.slot 9 (.int .i64)] ([4,5,6] ++ rg 10 31) (.node .leaf (.node .leaf (.node (.node .leaf (.join [.slot 14 .bool] (rg 15 11) .leaf (.node .leaf (.join [.slot 26 .bool] (rg 27 13) .leaf .leaf)))) .leaf))))) .leaf)) (.regj 34 [.slot 34 (.int .i64)] [] (.node .leaf (.node (.node .leaf (.loop [.slot 9 (.int .i64)] ([4,5,6] ++ rg 10 31) (.node .leaf (.node .leaf (.node (.node .leaf (.join [.slot 14 .bool] (rg 15 11) .leaf (.node .leaf (.join [.slot 26 .bool] (rg 27 13) .leaf .leaf)))) .leaf))))) .leaf)) (.lazy 37 .leaf))) .leaf) (.node (.join [.slot 51 .bool] (rg 42 9) (.reg 46 (.node .leaf (.node (.regj 7 [.slot 7 (.int .i64)] [] (.node .leaf (.node (.node .leaf (.loop [.slot 8 (.int .i64)] ([4,5] ++ rg 9 10) .leaf)) .leaf)) .leaf) .leaf)) .leaf) .leaf) .leaf))))))
def S_w134q : FSpec := ⟨[.val Kd10],[(.int .i64)],m_w134q⟩
def l_w135q_1 (n : Nat) (x_2 : Int) (x_1_1 : Ty78) (z0 : Int) : Option Int :=
(lp (fun rec10 (z9 : Int) =>
 (cond (decide (z9 < (lenI x_1_1)))
 ((geti x_1_1 z9).bind fun y11 =>
 (cond (y11.1 == x_2)
 (some z9)
 (rec10 (IntKind.wrap .i64 (z9 + 1)))))
 (some (-1 : Int)))) n z0)
def p_w135q (n : Nat) (x : Ty13) : Option (Ty81 × Bool) :=
(Option.bind (α := Int)
 (l_w135q_1 n x.2 x.1.1 (0 : Int)) fun j13 =>
(cond (decide (j13 < 0))
 (some (((0 : Int),[]),false))
 ((geti x.1.1 j13).bind fun y14 =>
 some (y14,true))))
def m_w135q := p_w135q FU
def a_w135q : Ann := (.node .leaf (.node (.regj 12 [.slot 12 (.int .i64)] [] (.node .leaf (.node (.node .leaf (.loop [.slot 8 (.int .i64)] ([4,5] ++ rg 9 10) .leaf)) .leaf)) .leaf) .leaf))
def S_w135q : FSpec := ⟨[.rp Kd6,.val (.int .i64)],[Kd35,.bool],m_w135q⟩
def p_w136q (_ : Nat) (x : Ty11) : Option Bool :=
((m_w135q (x.1,x.2.1)).bind fun r1 =>
(cond r1.2
 ((m_w117q (r1.1,x.2.2)).bind fun r2 =>
 some (decide ((lenI r2) > 0)))
 (some false)))
def m_w136q := p_w136q FU
def a_w136q : Ann := .leaf
def S_w136q : FSpec := ⟨[.rp Kd6,.val (.int .i64),.val (.int .i64)],[.bool],m_w136q⟩
def l_w137q_1 (n : Nat) (x_1 : Ty86) (x_2 : Ty86) (z0 : Int) : Option Bool :=
(lp (fun rec5 (z4 : Int) =>
 (cond (decide (z4 < (lenI x_1)))
 ((geti x_1 z4).bind fun y6 =>
 ((geti x_2 z4).bind fun y7 =>
 (cond (!((y6.1 == y7.1) && ((y6.2.1 == y7.2.1) && ((y6.2.2.1 == y7.2.2.1) && ((y6.2.2.2 == y7.2.2.2) && true)))))
 (some false)
 (rec5 (IntKind.wrap .i64 (z4 + 1))))))
 (some true))) n z0)
def p_w137q (n : Nat) (x : Ty62) : Option Bool :=
(cond (!((lenI x.1) == (lenI x.2)))
 (some false)
 (l_w137q_1 n x.1 x.2 (0 : Int)))
def m_w137q := p_w137q FU
def a_w137q : Ann := (.node .leaf (.node .leaf (.node (.node .leaf (.loop [.slot 13 (.int .i64)] ([4,5] ++ rg 14 12) .leaf)) .leaf)))
def S_w137q : FSpec := ⟨[.val Kd39,.val Kd39],[.bool],m_w137q⟩
def p_w138q (_ : Nat) (x : Ty46) : Option Bool :=
(cond (x.1.1 == x.2.1)
 ((m_w137q (x.1.2,x.2.2)).bind fun r1 =>
 some r1)
 (some false))
def m_w138q := p_w138q FU
def a_w138q : Ann := .leaf
def S_w138q : FSpec := ⟨[.val Kd35,.val Kd35],[.bool],m_w138q⟩
def l_w139q_1 (n : Nat) (y1_2_2_1 : (List (Int × Int))) (x_1 : Ty15) (x_2 : Int) (z0 : Int) : Option Int :=
(lp (fun rec49 (z48 : Int) =>
 (cond (decide (z48 < (lenI y1_2_2_1)))
 ((geti y1_2_2_1 z48).bind fun y50 =>
 ((m_w136q (x_1,y50.1,x_2)).bind fun r51 =>
 (cond (!r51)
 (some z48)
 (rec49 (IntKind.wrap .i64 (z48 + 1))))))
 (some (-1 : Int)))) n z0)
def l_w139q_2 (n : Nat) (y1_2_2_2_2_1 : (List (Int × Int))) (x_1 : Ty15) (x_2 : Int) (z0 : Int) : Option Int :=
(lp (fun rec66 (z65 : Int) =>
 (cond (decide (z65 < (lenI y1_2_2_2_2_1)))
 ((geti y1_2_2_2_2_1 z65).bind fun y67 =>
 ((m_w136q (x_1,y67.1,x_2)).bind fun r68 =>
 (cond (!r68)
 (some z65)
 (rec66 (IntKind.wrap .i64 (z65 + 1))))))
 (some (-1 : Int)))) n z0)
def l_w139q_3 (n : Nat) (y1_2_2_2_1 : Ty78) (x_1 : Ty15) (z0 : Int) : Option Int :=
(lp (fun rec77 (z76 : Int) =>
 (cond (decide (z76 < (lenI y1_2_2_2_1)))
 ((geti y1_2_2_2_1 z76).bind fun y78 =>
 ((m_w135q (x_1,y78.1)).bind fun r79 =>
 ((m_w138q (r79.1,y78)).bind fun r80 =>
 (cond (!r80)
 (some (1 : Int))
 (rec77 (IntKind.wrap .i64 (z76 + 1)))))))
 (some (0 : Int)))) n z0)
def p_w139q (n : Nat) (x : Ty13) : Option Int :=
((geti x.1.2.1 x.2).bind fun y1 =>
((m_w134q y1).bind fun r2 =>
(cond (!(r2 == 0))
 (some r2)
 (Option.bind (α := Bool)
 (cond (!(y1.1 == x.2))
 (some true)
 (Option.bind (α := Int)
 (l_w139q_1 n y1.2.2.1 x.1 x.2 (0 : Int)) fun j53 =>
 (cond (decide (j53 ≥ 0))
 (some true)
 (Option.bind (α := Int)
 (l_w139q_2 n y1.2.2.2.2.1 x.1 x.2 (0 : Int)) fun j70 =>
 some (decide (j70 ≥ 0)))))) fun j71 =>
 (cond j71
 (some (1 : Int))
 (l_w139q_3 n y1.2.2.2.1 x.1 (0 : Int)))))))
def m_w139q := p_w139q FU
def a_w139q : Ann := (.node .leaf (.node .leaf (.node .leaf (.node .leaf (.node (.join [.slot 40 .bool] (rg 25 15) (.reg 33 (.node .leaf (.node (.regj 7 [.slot 7 (.int .i64)] [] (.node .leaf (.node (.node .leaf (.loop [.slot 8 (.int .i64)] ([4,5] ++ rg 9 10) .leaf)) .leaf)) .leaf) .leaf)) (.reg 39 (.node .leaf (.node (.regj 7 [.slot 7 (.int .i64)] [] (.node .leaf (.node (.node .leaf (.loop [.slot 8 (.int .i64)] ([4,5] ++ rg 9 10) .leaf)) .leaf)) .leaf) .leaf)) .leaf)) .leaf) (.node (.node .leaf (.loop [.slot 44 (.int .i64)] ([4,9,10,11] ++ rg 45 15) .leaf)) .leaf))))))
def S_w139q : FSpec := ⟨[.rp Kd6,.val (.int .i64)],[(.int .i64)],m_w139q⟩
def p_w140q (_ : Nat) (x : Int) : Option Bool :=
((m_w97q (x,(0 : Int),(1000 : Int))).bind fun r1 =>
some r1)
def m_w140q := p_w140q FU
def a_w140q : Ann := .leaf
def S_w140q : FSpec := ⟨[.val (.int .i64)],[.bool],m_w140q⟩
def p_w141q (_ : Nat) (x : (Int × Int)) : Option Bool :=
((m_w140q x.1).bind fun r1 =>
(cond r1
 ((m_w115q x.2).bind fun r2 =>
 some r2)
 (some false)))
def m_w141q := p_w141q FU
def a_w141q : Ann := .leaf
def S_w141q : FSpec := ⟨[.val Kd45],[.bool],m_w141q⟩
def l_w142q_1 (n : Nat) (x : (List (Int × Int))) (z0 : Int) : Option Int :=
(lp (fun rec12 (z11 : Int) =>
 (cond (decide (z11 < (lenI x)))
 ((geti x z11).bind fun y13 =>
 ((m_w141q y13).bind fun r14 =>
 (cond (!r14)
 (some (3 : Int))
 (Option.bind (α := Bool)
 (cond (decide (z11 > 0))
 ((geti x (IntKind.wrap .i64 (z11 - 1))).bind fun y18 =>
 (cond (decide (y13.1 < y18.1))
 (some true)
 ((geti x (IntKind.wrap .i64 (z11 - 1))).bind fun y19 =>
 (cond (y13.1 == y19.1)
 ((geti x (IntKind.wrap .i64 (z11 - 1))).bind fun y20 =>
 some (!(y13.2 == y20.2)))
 (some false)))))
 (some false)) fun j21 =>
 (cond j21
 (some (1 : Int))
 (rec12 (IntKind.wrap .i64 (z11 + 1))))))))
 (some (0 : Int)))) n z0)
def p_w142q (n : Nat) (x : (List (Int × Int))) : Option Int :=
(l_w142q_1 n x (0 : Int))
def m_w142q := p_w142q FU
def a_w142q : Ann := (.node .leaf (.node (.node .leaf (.loop [.slot 7 (.int .i64)] ([2,3,4] ++ rg 8 45) (.node .leaf (.node .leaf (.node (.node .leaf (.node .leaf (.node .leaf (.join [.slot 16 .bool] (rg 17 35) .leaf .leaf)))) .leaf))))) .leaf))
def S_w142q : FSpec := ⟨[.val Kd44],[(.int .i64)],m_w142q⟩
def p_w143q (_ : Nat) (x : Unit) : Option (Int × Int) :=
some ((-1 : Int),(0 : Int))
def m_w143q := p_w143q FU
def a_w143q : Ann := .leaf
def S_w143q : FSpec := ⟨[],[Kd45],m_w143q⟩
def p_w144q (_ : Nat) (x : (List (Int × Int))) : Option (Int × Int) :=
(cond ((lenI x) == 0)
 ((m_w143q ()).bind fun r1 =>
 some r1)
 ((geti x (IntKind.wrap .i64 ((lenI x) - 1))).bind fun y2 =>
 some y2))
def m_w144q := p_w144q FU
def a_w144q : Ann := .leaf
def S_w144q : FSpec := ⟨[.val Kd44],[Kd45],m_w144q⟩
def p_w145q (_ : Nat) (x : Ty72) : Option Int :=
(Option.bind (α := Bool)
 ((m_w99q x.1).bind fun r4 =>
 (cond (!r4)
 (some true)
 ((m_w101q x.2.1).bind fun r5 =>
 (cond (!r5)
 (some true)
 ((m_w97q (x.2.2.1,(-1 : Int),(1000 : Int))).bind fun r6 =>
 some (!r6)))))) fun j7 =>
(cond j7
 (some (3 : Int))
 (cond (decide ((lenI x.2.2.2.2) > 60))
 (some (2 : Int))
 ((m_w142q x.2.2.2.2).bind fun r8 =>
 (cond (!(r8 == 0))
 (some r8)
 (Option.bind (α := Bool)
 ((m_w144q x.2.2.2.2).bind fun r10 =>
 (cond (!((x.2.2.2.1.1 == r10.1) && ((x.2.2.2.1.2 == r10.2) && true)))
 (some true)
 (some (decide (x.2.2.2.1.1 > x.2.2.1))))) fun j11 =>
 (cond j11
 (some (1 : Int))
 (some (0 : Int)))))))))
def m_w145q := p_w145q FU
def a_w145q : Ann := (.node .leaf (.node (.join [.slot 4 .bool] (rg 5 16) .leaf .leaf) (.node .leaf (.node (.join [.slot 45 .bool] (rg 32 13) .leaf .leaf) .leaf))))
def S_w145q : FSpec := ⟨[.val Kd30],[(.int .i64)],m_w145q⟩
def p_w146q (_ : Nat) (x : Ty43) : Option Int :=
((m_w111q (x.1.1,x.2.1)).bind fun r1 =>
((m_w111q (x.1.2.1,x.2.2.1)).bind fun r2 =>
((m_w112q [r1,r2]).bind fun r3 =>
some r3)))
def m_w146q := p_w146q FU
def a_w146q : Ann := (.node .leaf (.node (.lazy 15 .leaf) .leaf))
def S_w146q : FSpec := ⟨[.val Kd30,.val Kd30],[(.int .i64)],m_w146q⟩
def l_w147q_1 (n : Nat) (x : Ty67) (z0 : Int) : Option Int :=
(lp (fun rec10 (z9 : Int) =>
 (cond (decide (z9 < (lenI x)))
 ((geti x z9).bind fun y11 =>
 ((m_w145q y11).bind fun r12 =>
 (cond (!(r12 == 0))
 (some r12)
 (Option.bind (α := Bool)
 (cond (decide (z9 > 0))
 ((geti x (IntKind.wrap .i64 (z9 - 1))).bind fun y15 =>
 ((m_w146q (y15,y11)).bind fun r16 =>
 some (decide (r16 ≥ 0))))
 (some false)) fun j17 =>
 (cond j17
 (some (1 : Int))
 (rec10 (IntKind.wrap .i64 (z9 + 1))))))))
 (some (0 : Int)))) n z0)
def p_w147q (n : Nat) (x : Ty67) : Option Int :=
(cond (decide ((lenI x) > 60))
 (some (2 : Int))
 (l_w147q_1 n x (0 : Int)))
def m_w147q := p_w147q FU
def a_w147q : Ann := (.node .leaf (.node .leaf (.node (.node .leaf (.loop [.slot 13 (.int .i64)] ([2,3,4,5] ++ rg 14 23) (.node .leaf (.node .leaf (.node (.node .leaf (.node .leaf (.join [.slot 35 .bool] (rg 23 12) .leaf .leaf))) .leaf))))) .leaf)))
def S_w147q : FSpec := ⟨[.val Kd26],[(.int .i64)],m_w147q⟩
def l_w148q_1 (n : Nat) (x_1 : Ty15) (x_2 : Ty67) (z0 : Int) : Option Int :=
(lp (fun rec14 (z13 : Int) =>
 (cond (decide (z13 < (lenI x_2)))
 ((geti x_2 z13).bind fun y15 =>
 ((m_w136q (x_1,y15.1,y15.2.1)).bind fun r16 =>
 (cond (!r16)
 (some z13)
 (rec14 (IntKind.wrap .i64 (z13 + 1))))))
 (some (-1 : Int)))) n z0)
def p_w148q (n : Nat) (x : Ty7) : Option Int :=
((m_w147q x.2).bind fun r1 =>
(cond (!(r1 == 0))
 (some r1)
 (Option.bind (α := Int)
 (l_w148q_1 n x.1 x.2 (0 : Int)) fun j18 =>
 (cond (decide (j18 ≥ 0))
 (some (4 : Int))
 (some (0 : Int))))))
def m_w148q := p_w148q FU
def a_w148q : Ann := (.node .leaf (.node .leaf (.node (.node (.reg 14 (.node .leaf (.node (.regj 7 [.slot 7 (.int .i64)] [] (.node .leaf (.node (.node .leaf (.loop [.slot 8 (.int .i64)] ([4,5] ++ rg 9 10) .leaf)) .leaf)) .leaf) .leaf)) .leaf) .leaf) .leaf)))
def S_w148q : FSpec := ⟨[.rp Kd6,.val Kd26],[(.int .i64)],m_w148q⟩
def p_w149q (_ : Nat) (x : Ty39) : Option Int :=
((m_w111q (x.1.1,x.2.1)).bind fun r1 =>
((m_w111q (x.1.2.1,x.2.2.1)).bind fun r2 =>
((m_w112q [r1,r2]).bind fun r3 =>
some r3)))
def m_w149q := p_w149q FU
def a_w149q : Ann := (.node .leaf (.node (.lazy 15 .leaf) .leaf))
def S_w149q : FSpec := ⟨[.val Kd28,.val Kd28],[(.int .i64)],m_w149q⟩
def p_w150q (_ : Nat) (x : Ty55) : Option Bool :=
((m_w98q x.2).bind fun r1 =>
((m_w97q (x.1,(0 : Int),IntKind.wrap .i64 (r1 - 1))).bind fun r2 =>
some r2))
def m_w150q := p_w150q FU
def a_w150q : Ann := .leaf
def S_w150q : FSpec := ⟨[.val (.int .i64),.val Kd21],[.bool],m_w150q⟩
def p_w151q (_ : Nat) (x : (Int × Int)) : Option Bool :=
((m_w143q ()).bind fun r1 =>
(cond (!((x.1 == r1.1) && ((x.2 == r1.2) && true)))
 ((m_w141q x).bind fun r2 =>
 some (!r2))
 (some false)))
def m_w151q := p_w151q FU
def a_w151q : Ann := .leaf
def S_w151q : FSpec := ⟨[.val Kd45],[.bool],m_w151q⟩
def l_w152q_1 (n : Nat) (x_1 : (List Int)) (x_2 : Int) (z0 : Int) : Option Int :=
(lp (fun rec4 (z3 : Int) =>
 (cond (decide (z3 < (lenI x_1)))
 ((geti x_1 z3).bind fun y5 =>
 (cond (x_2 == y5)
 (some z3)
 (rec4 (IntKind.wrap .i64 (z3 + 1)))))
 (some (-1 : Int)))) n z0)
def p_w152q (n : Nat) (x : ((List Int) × Int)) : Option Int :=
(l_w152q_1 n x.1 x.2 (0 : Int))
def m_w152q := p_w152q FU
def a_w152q : Ann := (.node .leaf (.node (.node .leaf (.loop [.slot 8 (.int .i64)] ([4,5] ++ rg 9 10) .leaf)) .leaf))
def S_w152q : FSpec := ⟨[.val Kd47,.val (.int .i64)],[(.int .i64)],m_w152q⟩
def p_w153q (_ : Nat) (x : ((List Int) × Int)) : Option Bool :=
((m_w152q (x.1,x.2)).bind fun r1 =>
some (decide (r1 ≥ 0)))
def m_w153q := p_w153q FU
def a_w153q : Ann := .leaf
def S_w153q : FSpec := ⟨[.val Kd47,.val (.int .i64)],[.bool],m_w153q⟩
def l_w154q_1 (n : Nat) (x_1_2_2_1 : Ty63) (x_2_2_2_2_2_1 : (List Int)) (z0 : Int) : Option Int :=
(lp (fun rec47 (z46 : Int) =>
 (cond (decide (z46 < (lenI x_2_2_2_2_2_1)))
 ((geti x_2_2_2_2_2_1 z46).bind fun y48 =>
 ((m_w150q (y48,x_1_2_2_1)).bind fun r49 =>
 (cond (!r49)
 (some z46)
 (rec47 (IntKind.wrap .i64 (z46 + 1))))))
 (some (-1 : Int)))) n z0)
def l_w151q (n : Nat) (x_2_2_2_2_2_2 : (List (Int × Int))) (z0 : Int) : Option Int :=
(lp (fun rec64 (z63 : Int) =>
 (cond (decide (z63 < (lenI x_2_2_2_2_2_2)))
 ((geti x_2_2_2_2_2_2 z63).bind fun y65 =>
 ((m_w151q y65).bind fun r66 =>
 (cond r66
 (some z63)
 (rec64 (IntKind.wrap .i64 (z63 + 1))))))
 (some (-1 : Int)))) n z0)
def l_w154q_3 (n : Nat) (x_2_2_2_2_2_1 : (List Int)) (z0 : Int) : Option Int :=
(lp (fun rec74 (z73 : Int) =>
 (cond (decide (z73 < (lenI x_2_2_2_2_2_1)))
 ((geti x_2_2_2_2_2_1 z73).bind fun y75 =>
 (chk (bndB none (some z73) none x_2_2_2_2_2_1.length)
 ((m_w153q ((cutL none (some z73) x_2_2_2_2_2_1),y75)).bind fun r76 =>
 (cond r76
 (some (7 : Int))
 (rec74 (IntKind.wrap .i64 (z73 + 1)))))))
 (some (0 : Int)))) n z0)
def p_w154q (n : Nat) (x : Ty8) : Option Int :=
(cond (!((lenI x.2.2.2.2.2.2) == (lenI x.2.2.2.2.2.1)))
 (some (1 : Int))
 (Option.bind (α := Bool)
 (Option.bind (α := Int)
 (l_w154q_1 n x.1.2.2.1 x.2.2.2.2.2.1 (0 : Int)) fun j51 =>
 (cond (decide (j51 ≥ 0))
 (some true)
 (Option.bind (α := Int)
 (l_w151q n x.2.2.2.2.2.2 (0 : Int)) fun j68 =>
 some (decide (j68 ≥ 0))))) fun j69 =>
 (cond j69
 (some (3 : Int))
 (l_w154q_3 n x.2.2.2.2.2.1 (0 : Int)))))
def m_w154q := p_w154q FU
def a_w154q : Ann := (.node .leaf (.node .leaf (.node .leaf (.node (.node .leaf (.node .leaf (.join [.slot 18 .bool] (rg 19 10) (.reg 22 (.node .leaf (.node (.regj 7 [.slot 7 (.int .i64)] [] (.node .leaf (.node (.node .leaf (.loop [.slot 8 (.int .i64)] ([4,5] ++ rg 9 10) .leaf)) .leaf)) .leaf) .leaf)) (.reg 27 (.node .leaf (.node (.regj 7 [.slot 7 (.int .i64)] [] (.node .leaf (.node (.node .leaf (.loop [.slot 8 (.int .i64)] ([4,5] ++ rg 9 10) .leaf)) .leaf)) .leaf) .leaf)) .leaf)) .leaf))) (.node (.node .leaf (.loop [.slot 32 (.int .i64)] ([4,7,8] ++ rg 33 11) .leaf)) .leaf)))))
def S_w154q : FSpec := ⟨[.rp Kd6,.val Kd28],[(.int .i64)],m_w154q⟩
def l_w155q_1 (n : Nat) (x_1 : Ty15) (x_2 : Ty64) (z0 : Int) : Option Int :=
(lp (fun rec16 (z15 : Int) =>
 (cond (decide (z15 < (lenI x_2)))
 ((geti x_2 z15).bind fun y17 =>
 ((m_w136q (x_1,y17.1,y17.2.1)).bind fun r18 =>
 (cond (!r18)
 (some (4 : Int))
 (Option.bind (α := Bool)
 ((m_w97q (y17.2.2.1,(1 : Int),(1000 : Int))).bind fun r21 =>
 (cond (!r21)
 (some true)
 ((m_w97q (y17.2.2.2.1,(0 : Int),(2 : Int))).bind fun r22 =>
 some (!r22)))) fun j23 =>
 (cond j23
 (some (3 : Int))
 (Option.bind (α := Bool)
 (cond (decide (z15 > 0))
 ((geti x_2 (IntKind.wrap .i64 (z15 - 1))).bind fun y26 =>
 ((m_w149q (y26,y17)).bind fun r27 =>
 some (decide (r27 ≥ 0))))
 (some false)) fun j28 =>
 (cond j28
 (some (1 : Int))
 ((m_w154q (x_1,y17)).bind fun r29 =>
 (cond (!(r29 == 0))
 (some r29)
 (rec16 (IntKind.wrap .i64 (z15 + 1))))))))))))
 (some (0 : Int)))) n z0)
def p_w155q (n : Nat) (x : Ty5) : Option Int :=
(l_w155q_1 n x.1 x.2 (0 : Int))
def m_w155q := p_w155q FU
def a_w155q : Ann := (.node .leaf (.node (.node .leaf (.loop [.slot 10 (.int .i64)] ([4,5,6,7] ++ rg 11 43) (.node .leaf (.node .leaf (.node (.node .leaf (.node (.node .leaf (.node .leaf (.join [.slot 23 .bool] (rg 24 10) .leaf (.node .leaf (.join [.slot 34 .bool] (rg 35 12) .leaf .leaf))))) .leaf)) .leaf))))) .leaf))
def S_w155q : FSpec := ⟨[.rp Kd6,.val Kd24],[(.int .i64)],m_w155q⟩
def p_w156q (_ : Nat) (x : Ty57) : Option Int :=
((m_w111q (x.1.1,x.2.1)).bind fun r1 =>
((m_w111q (x.1.2.1,x.2.2.1)).bind fun r2 =>
((m_w111q (x.1.2.2.1,x.2.2.2.1)).bind fun r3 =>
((m_w111q (x.1.2.2.2.1,x.2.2.2.2.1)).bind fun r4 =>
((m_w111q (x.1.2.2.2.2,x.2.2.2.2.2)).bind fun r5 =>
((m_w112q [r1,r2,r3,r4,r5]).bind fun r6 =>
some r6))))))
def m_w156q := p_w156q FU
def a_w156q : Ann := (.node .leaf (.node (.lazy 30 .leaf) .leaf))
def S_w156q : FSpec := ⟨[.val Kd37,.val Kd37],[(.int .i64)],m_w156q⟩
def l_w157q_1 (n : Nat) (x_1 : Ty15) (x_2 : Ty82) (z0 : Int) : Option Int :=
(lp (fun rec17 (z16 : Int) =>
 (cond (decide (z16 < (lenI x_2)))
 ((geti x_2 z16).bind fun y18 =>
 ((m_w136q (x_1,y18.1,y18.2.1)).bind fun r19 =>
 (cond (!r19)
 (some (4 : Int))
 (Option.bind (α := Bool)
 ((m_w140q y18.2.2.1).bind fun r23 =>
 (cond (!r23)
 (some true)
 ((m_w115q y18.2.2.2.1).bind fun r24 =>
 (cond (!r24)
 (some true)
 ((m_w150q (y18.2.2.2.2,x_1.2.2.1)).bind fun r25 =>
 some (!r25)))))) fun j26 =>
 (cond j26
 (some (3 : Int))
 (Option.bind (α := Bool)
 (cond (decide (z16 > 0))
 ((geti x_2 (IntKind.wrap .i64 (z16 - 1))).bind fun y29 =>
 ((m_w156q (y29,y18)).bind fun r30 =>
 some (decide (r30 ≥ 0))))
 (some false)) fun j31 =>
 (cond j31
 (some (1 : Int))
 (rec17 (IntKind.wrap .i64 (z16 + 1))))))))))
 (some (0 : Int)))) n z0)
def p_w157q (n : Nat) (x : Ty10) : Option Int :=
(l_w157q_1 n x.1 x.2 (0 : Int))
def m_w157q := p_w157q FU
def a_w157q : Ann := (.node .leaf (.node (.node .leaf (.loop [.slot 9 (.int .i64)] ([4,5,6] ++ rg 10 47) (.node .leaf (.node .leaf (.node (.node .leaf (.node .leaf (.node .leaf (.join [.slot 22 .bool] (rg 23 20) .leaf (.node .leaf (.join [.slot 43 .bool] (rg 44 12) .leaf .leaf)))))) .leaf))))) .leaf))
def S_w157q : FSpec := ⟨[.rp Kd6,.val Kd36],[(.int .i64)],m_w157q⟩
def p_w158q (_ : Nat) (x : Ty3) : Option Int :=
((m_w97q (x.2.1,(0 : Int),(400 : Int))).bind fun r1 =>
(cond (!r1)
 (some (3 : Int))
 (Option.bind (α := Bool)
 (cond (decide ((lenI x.2.2.1) > 60))
 (some true)
 (some (decide ((lenI x.2.2.2) > 300)))) fun j2 =>
 (cond j2
 (some (2 : Int))
 ((m_w155q (x.1,x.2.2.1)).bind fun r3 =>
 ((m_w157q (x.1,x.2.2.2)).bind fun r4 =>
 ((m_w122q [r3,r4]).bind fun r5 =>
 some r5)))))))
def m_w158q := p_w158q FU
def a_w158q : Ann := (.node .leaf (.node (.node .leaf (.node .leaf (.join [.slot 10 .bool] (rg 11 10) .leaf .leaf))) (.node (.lazy 29 .leaf) .leaf)))
def S_w158q : FSpec := ⟨[.rp Kd6,.val Kd14],[(.int .i64)],m_w158q⟩
def p_w159q (_ : Nat) (x : Ty41) : Option Int :=
some (lenI x)
def m_w159q := p_w159q FU
def a_w159q : Ann := .leaf
def S_w159q : FSpec := ⟨[.val Kd13],[(.int .i64)],m_w159q⟩
def p_w160q (_ : Nat) (x : Ty35) : Option Bool :=
((m_w159q x.2).bind fun r1 =>
((m_w97q (x.1,(0 : Int),IntKind.wrap .i64 (r1 - 1))).bind fun r2 =>
some r2))
def m_w160q := p_w160q FU
def a_w160q : Ann := .leaf
def S_w160q : FSpec := ⟨[.val (.int .i64),.val Kd13],[.bool],m_w160q⟩
def p_w161q (_ : Nat) (x : Ty6) : Option Bool :=
(Option.bind (α := Bool)
 (cond (x.2.1 == 1)
 (some (x.2.1 == 1))
 (some (x.2.1 == 6))) fun j1 =>
(cond j1
 ((m_w107q (x.2.2.1,x.1.2.1)).bind fun r2 =>
 some r2)
 (Option.bind (α := Bool)
 (cond (x.2.1 == 2)
 (some (x.2.1 == 2))
 (some (x.2.1 == 4))) fun j3 =>
 (cond j3
 ((m_w150q (x.2.2.1,x.1.2.2.1)).bind fun r4 =>
 some r4)
 ((m_w160q (x.2.2.1,x.1.2.2.2.1)).bind fun r5 =>
 some r5)))))
def m_w161q := p_w161q FU
def a_w161q : Ann := (.node .leaf (.node (.node .leaf (.join [.slot 7 .bool] [8,9] .leaf (.node .leaf (.join [.slot 17 .bool] [18,19] .leaf .leaf)))) .leaf))
def S_w161q : FSpec := ⟨[.rp Kd6,.val Kd22],[.bool],m_w161q⟩
def p_w162q (_ : Nat) (x : Ty6) : Option Bool :=
(cond (x.2.1 == 4)
 ((m_w160q (x.2.2.2.1,x.1.2.2.2.1)).bind fun r1 =>
 some r1)
 (Option.bind (α := Bool)
 (cond (x.2.1 == 3)
 (some (x.2.1 == 3))
 (some (x.2.1 == 5))) fun j2 =>
 (cond j2
 ((m_w150q (x.2.2.2.1,x.1.2.2.1)).bind fun r3 =>
 some r3)
 (some true))))
def m_w162q := p_w162q FU
def a_w162q : Ann := (.node .leaf (.node (.node .leaf (.node .leaf (.node .leaf (.join [.slot 16 .bool] [17,18] .leaf .leaf)))) .leaf))
def S_w162q : FSpec := ⟨[.rp Kd6,.val Kd22],[.bool],m_w162q⟩
def p_w163q (_ : Nat) (x : Ty6) : Option Bool :=
(cond (x.2.1 == 1)
 ((m_w136q (x.1,x.2.2.2.2.1,x.2.2.1)).bind fun r1 =>
 some r1)
 (cond (x.2.1 == 6)
 ((m_w136q (x.1,x.2.2.2.2.1,x.2.2.1)).bind fun r2 =>
 (cond r2
 ((m_w116q x.2.2.2.2.2.2.2.1).bind fun r3 =>
 some r3)
 (some false)))
 (Option.bind (α := Bool)
 ((m_w136q (x.1,x.2.2.2.2.1,x.2.2.2.2.2.1)).bind fun r6 =>
 (cond (!r6)
 (some true)
 ((m_w140q x.2.2.2.2.2.2.1).bind fun r7 =>
 some (!r7)))) fun j8 =>
 (cond j8
 (some false)
 (Option.bind (α := Bool)
 (cond (x.2.1 == 2)
 (some (x.2.1 == 2))
 (some (x.2.1 == 3))) fun j9 =>
 (cond j9
 ((m_w115q x.2.2.2.2.2.2.2.1).bind fun r10 =>
 some r10)
 (cond (x.2.1 == 5)
 ((m_w143q ()).bind fun r11 =>
 (cond ((x.2.2.2.2.2.2.2.2.1 == r11.1) && ((x.2.2.2.2.2.2.2.2.2 == r11.2) && true))
 (some true)
 ((m_w141q x.2.2.2.2.2.2.2.2).bind fun r12 =>
 some r12)))
 (some true))))))))
def m_w163q := p_w163q FU
def a_w163q : Ann := (.node .leaf (.node .leaf (.node (.join [.slot 40 .bool] (rg 28 12) .leaf .leaf) (.node (.node .leaf (.join [.slot 43 .bool] [44,45] .leaf .leaf)) .leaf))))
def S_w163q : FSpec := ⟨[.rp Kd6,.val Kd22],[.bool],m_w163q⟩
def p_w164q (_ : Nat) (x : Ty65) : Option Ty65 :=
(Option.bind (α := Ty65)
 (Option.bind (α := Bool)
 (cond (!(x.1 == 1))
 (some (!(x.1 == 6)))
 (some false)) fun j2 =>
 (cond j2
 (some (x.1,(x.2.1,((0 : Int),(x.2.2.2.1,(x.2.2.2.2.1,(x.2.2.2.2.2.1,((0 : Int),((0 : Int),(0 : Int))))))))))
 (some (x.1,(x.2.1,((0 : Int),(x.2.2.2.1,((0 : Int),((0 : Int),((0 : Int),((0 : Int),(0 : Int)))))))))))) fun j3 =>
(Option.bind (α := Bool)
 (cond (x.1 == 2)
 (some (x.1 == 2))
 (some (x.1 == 6))) fun j4 =>
(cond j4
 (some (j3.1,(j3.2.1,(j3.2.2.1,(j3.2.2.2.1,(j3.2.2.2.2.1,(j3.2.2.2.2.2.1,(x.2.2.2.2.2.2.1,j3.2.2.2.2.2.2.2))))))))
 (cond (x.1 == 3)
 (some (j3.1,(j3.2.1,(x.2.2.1,(j3.2.2.2.1,(j3.2.2.2.2.1,(j3.2.2.2.2.2.1,(x.2.2.2.2.2.2.1,j3.2.2.2.2.2.2.2))))))))
 (cond (x.1 == 4)
 (some (j3.1,(j3.2.1,(x.2.2.1,j3.2.2.2))))
 (cond (x.1 == 5)
 (some (j3.1,(j3.2.1,(x.2.2.1,(j3.2.2.2.1,(j3.2.2.2.2.1,(j3.2.2.2.2.2.1,(j3.2.2.2.2.2.2.1,x.2.2.2.2.2.2.2))))))))
 (some j3)))))))
def m_w164q := p_w164q FU
def a_w164q : Ann := (.node .leaf (.node .leaf (.join [.box 2 Kd22] (rg 11 14) (.join [.slot 18 .bool] (rg 11 7) .leaf .leaf) (.node (.node .leaf (.join [.slot 27 .bool] [28,29] .leaf .leaf)) .leaf))))
def S_w164q : FSpec := ⟨[.val Kd22],[Kd22],m_w164q⟩
def p_w165q (_ : Nat) (x : Ty6) : Option Int :=
((m_w97q (x.2.1,(1 : Int),(6 : Int))).bind fun r1 =>
(cond (!r1)
 (some (5 : Int))
 ((m_w161q (x.1,x.2)).bind fun r2 =>
 (cond (!r2)
 (some (3 : Int))
 ((m_w162q (x.1,x.2)).bind fun r3 =>
 (cond (!r3)
 (some (3 : Int))
 ((m_w135q (x.1,x.2.2.2.2.1)).bind fun r4 =>
 (cond (!r4.2)
 (some (4 : Int))
 ((m_w163q (x.1,x.2)).bind fun r5 =>
 (cond (!r5)
 (some (3 : Int))
 ((m_w164q x.2).bind fun r6 =>
 (cond (!((x.2.1 == r6.1) && ((x.2.2.1 == r6.2.1) && ((x.2.2.2.1 == r6.2.2.1) && ((x.2.2.2.2.1 == r6.2.2.2.1) && ((x.2.2.2.2.2.1 == r6.2.2.2.2.1) && ((x.2.2.2.2.2.2.1 == r6.2.2.2.2.2.1) && ((x.2.2.2.2.2.2.2.1 == r6.2.2.2.2.2.2.1) && ((x.2.2.2.2.2.2.2.2.1 == r6.2.2.2.2.2.2.2.1) && ((x.2.2.2.2.2.2.2.2.2 == r6.2.2.2.2.2.2.2.2) && true))))))))))
 (some (1 : Int))
 (some (0 : Int))))))))))))))
def m_w165q := p_w165q FU
def a_w165q : Ann := .leaf
def S_w165q : FSpec := ⟨[.val Kd6,.val Kd22],[(.int .i64)],m_w165q⟩
def l_w166q_1 (n : Nat) (x : Ty15) (z0 : Int) : Option (Unit ⊕ Int) :=
(lp (fun rec20 (z19 : Int) =>
 (cond (decide (z19 < (lenI x.2.1)))
 ((m_w139q (x,z19)).bind fun r21 =>
 (cond (!(r21 == 0))
 (some (Sum.inr r21))
 (rec20 (IntKind.wrap .i64 (z19 + 1)))))
 (some (Sum.inl ())))) n z0)
def l_w166q_2 (n : Nat) (x : Ty15) (z0 : Int) : Option Int :=
(lp (fun rec36 (z35 : Int) =>
 (cond (decide (z35 < (lenI x.2.2.1)))
 ((geti x.2.2.1 z35).bind fun y37 =>
 ((m_w148q (x,y37)).bind fun r38 =>
 (cond (!(r38 == 0))
 (some r38)
 (rec36 (IntKind.wrap .i64 (z35 + 1))))))
 (some (0 : Int)))) n z0)
def l_w166q_3 (n : Nat) (x : Ty15) (z0 : Int) : Option Int :=
(lp (fun rec53 (z52 : Int) =>
 (cond (decide (z52 < (lenI x.2.2.2.1)))
 ((geti x.2.2.2.1 z52).bind fun y54 =>
 ((m_w158q (x,y54)).bind fun r55 =>
 (cond (!(r55 == 0))
 (some r55)
 (rec53 (IntKind.wrap .i64 (z52 + 1))))))
 (some (0 : Int)))) n z0)
def l_w166q_4 (n : Nat) (x : Ty15) (z0 : Int) : Option Int :=
(lp (fun rec71 (z70 : Int) =>
 (cond (decide (z70 < (lenI x.2.2.2.2)))
 ((geti x.2.2.2.2 z70).bind fun y72 =>
 ((m_w165q (x,y72)).bind fun r73 =>
 (cond (!(r73 == 0))
 (some r73)
 (rec71 (IntKind.wrap .i64 (z70 + 1))))))
 (some (0 : Int)))) n z0)
def p_w166q (n : Nat) (x : Ty15) : Option Int :=
(Option.bind (α := Bool)
 (cond (decide ((lenI x.1) > 20))
 (some true)
 ((m_w96q x.2.1).bind fun r5 =>
 ((m_w97q (r5,(1 : Int),(3 : Int))).bind fun r6 =>
 (cond (!r6)
 (some true)
 ((m_w98q x.2.2.1).bind fun r7 =>
 ((m_w97q (r7,(1 : Int),(5 : Int))).bind fun r8 =>
 (cond (!r8)
 (some true)
 (cond (!((lenI x.2.2.2.1) == 2))
 (some true)
 (some (decide ((lenI x.2.2.2.2) > 200))))))))))) fun j9 =>
(cond j9
 (some (2 : Int))
 ((m_w109q x).bind fun r10 =>
 (cond (!(r10 == 0))
 (some r10)
 (Option.bind (α := (Unit ⊕ Int))
 (l_w166q_1 n x (0 : Int))
 (Sum.elim (fun j23 =>
 (Option.bind (α := Int)
 (l_w166q_2 n x (0 : Int)) fun j40 =>
 (Option.bind (α := Int)
 (l_w166q_3 n x (0 : Int)) fun j57 =>
 ((m_w122q [j40,j57]).bind fun r58 =>
 (cond (!(r58 == 0))
 (some r58)
 (Option.bind (α := Int)
 (l_w166q_4 n x (0 : Int)) fun j75 =>
 some j75)))))) some))))))
def m_w166q := p_w166q FU
def a_w166q : Ann := (.node .leaf (.node (.join [.slot 36 .bool] (rg 7 29) .leaf .leaf) (.node .leaf (.joinx [] ([2,4,5] ++ rg 41 12) (.node .leaf (.loop [.slot 44 (.int .i64)] ([2,4,5] ++ rg 45 8) .leaf)) (.node (.node (.regj 56 [.slot 56 (.int .i64)] [] (.node .leaf (.node (.node .leaf (.loop [.slot 10 (.int .i64)] ([4,6,7] ++ rg 11 10) .leaf)) .leaf)) (.regj 60 [.slot 60 (.int .i64)] [] (.node .leaf (.node (.node .leaf (.loop [.slot 10 (.int .i64)] ([4,6,7] ++ rg 11 10) .leaf)) .leaf)) (.lazy 61 .leaf))) .leaf) (.node (.regj 69 [.slot 69 (.int .i64)] [] (.node .leaf (.node (.node .leaf (.loop [.slot 10 (.int .i64)] ([4,6,7] ++ rg 11 10) .leaf)) .leaf)) .leaf) .leaf))))))
def S_w166q : FSpec := ⟨[.val Kd6],[(.int .i64)],m_w166q⟩
def p_w167q (_ : Nat) (x : Ty86) : Option Ty86 :=
(cond (List.isEmpty x)
 (same
 (some [])
 (chk (Nat.ble ((([] : List Ty90).length + x.length) * 32) maxBytes)
 (some (([] : List Ty90) ++ x))))
 (chk (Nat.ble ((([] : List Ty90).length + x.length) * 32) maxBytes)
 (some (([] : List Ty90) ++ x))))
def m_w167q := p_w167q FU
def a_w167q : Ann := .leaf
def S_w167q : FSpec := ⟨[.val Kd39],[Kd38],m_w167q⟩
def p_w168q (_ : Nat) (x : Ty81) : Option Ty81 :=
((m_w167q x.2).bind fun r1 =>
some (x.1,r1))
def m_w168q := p_w168q FU
def a_w168q : Ann := .leaf
def S_w168q : FSpec := ⟨[.val Kd35],[Kd33],m_w168q⟩
def l_w169q_1 (n : Nat) (x : Ty78) (z0 : Ty73) : Option Ty78 :=
(lp (fun rec5 (z4 : Ty73) =>
 (cond (decide (z4.2 < (lenI x)))
 ((geti x z4.2).bind fun y6 =>
 ((m_w168q y6).bind fun r7 =>
 (chk (Nat.ble ((z4.1.length + [r7].length) * 32) maxBytes)
 (rec5 ((z4.1 ++ [r7]),IntKind.wrap .i64 (z4.2 + 1))))))
 (some z4.1))) n z0)
def p_w169q (n : Nat) (x : Ty78) : Option Ty78 :=
(l_w169q_1 n x (([] : List Ty81),(0 : Int)))
def m_w169q := p_w169q FU
def a_w169q : Ann := (.node .leaf (.node (.own 6 Kd33 .leaf) (.node (.node .leaf (.loop [.slot 3 Kd31,.slot 9 (.int .i64)] ([5] ++ rg 10 9) (.node .leaf (.node .leaf (.node (.node .leaf (.own 16 Kd33 .leaf)) .leaf))))) .leaf)))
def S_w169q : FSpec := ⟨[.val Kd32],[Kd31],m_w169q⟩
def p_w170q (_ : Nat) (x : (List (Int × Int))) : Option (List (Int × Int)) :=
(cond (List.isEmpty x)
 (same
 (some [])
 (chk (Nat.ble ((([] : List (Int × Int)).length + x.length) * 16) maxBytes)
 (some (([] : List (Int × Int)) ++ x))))
 (chk (Nat.ble ((([] : List (Int × Int)).length + x.length) * 16) maxBytes)
 (some (([] : List (Int × Int)) ++ x))))
def m_w170q := p_w170q FU
def a_w170q : Ann := .leaf
def S_w170q : FSpec := ⟨[.val Kd44],[(.sl (some 118) Kd45)],m_w170q⟩
def p_w171q (_ : Nat) (x : Ty72) : Option Ty72 :=
((m_w170q x.2.2.2.2).bind fun r1 =>
some (x.1,(x.2.1,(x.2.2.1,(x.2.2.2.1,r1)))))
def m_w171q := p_w171q FU
def a_w171q : Ann := .leaf
def S_w171q : FSpec := ⟨[.val Kd30],[Kd29],m_w171q⟩
def l_w172q_1 (n : Nat) (x : Ty67) (z0 : Ty61) : Option Ty67 :=
(lp (fun rec8 (z7 : Ty61) =>
 (cond (decide (z7.1 < (lenI x)))
 ((geti x z7.1).bind fun y9 =>
 ((m_w171q y9).bind fun r10 =>
 (chk (Nat.ble ((z7.2.length + [r10].length) * 64) maxBytes)
 (rec8 (IntKind.wrap .i64 (z7.1 + 1),(z7.2 ++ [r10]))))))
 (some z7.2))) n z0)
def p_w172q (n : Nat) (x : Ty67) : Option Ty67 :=
(l_w172q_1 n x ((0 : Int),[]))
def m_w172q := p_w172q FU
def a_w172q : Ann := (.node .leaf (.node .leaf (.node (.node .leaf (.loop [.slot 10 (.int .i64),.box 2 Kd20] ([5] ++ rg 11 11) (.node .leaf (.node .leaf (.node (.node .leaf (.own 18 Kd29 .leaf)) .leaf))))) .leaf)))
def S_w172q : FSpec := ⟨[.val Kd26],[Kd20],m_w172q⟩
def l_w173q_1 (n : Nat) (x : Ty63) (z0 : Ty53) : Option Ty63 :=
(lp (fun rec5 (z4 : Ty53) =>
 (cond (decide (z4.2 < (lenI x)))
 ((geti x z4.2).bind fun y6 =>
 ((m_w172q y6).bind fun r7 =>
 (chk (Nat.ble ((z4.1.length + [r7].length) * 24) maxBytes)
 (rec5 ((z4.1 ++ [r7]),IntKind.wrap .i64 (z4.2 + 1))))))
 (some z4.1))) n z0)
def p_w173q (n : Nat) (x : Ty63) : Option Ty63 :=
(l_w173q_1 n x (([] : List Ty67),(0 : Int)))
def m_w173q := p_w173q FU
def a_w173q : Ann := (.node .leaf (.node (.own 6 Kd20 .leaf) (.node (.node .leaf (.loop [.slot 3 Kd15,.slot 9 (.int .i64)] ([5] ++ rg 10 9) (.node .leaf (.node .leaf (.node (.node .leaf (.own 16 Kd20 .leaf)) .leaf))))) .leaf)))
def S_w173q : FSpec := ⟨[.val Kd21],[Kd15],m_w173q⟩
def p_w174q (_ : Nat) (x : Ty58) : Option Ty58 :=
(cond (List.isEmpty x)
 (same
 (some [])
 (chk (Nat.ble ((([] : List Ty65).length + x.length) * 72) maxBytes)
 (some (([] : List Ty65) ++ x))))
 (chk (Nat.ble ((([] : List Ty65).length + x.length) * 72) maxBytes)
 (some (([] : List Ty65) ++ x))))
def m_w174q := p_w174q FU
def a_w174q : Ann := .leaf
def S_w174q : FSpec := ⟨[.val Kd17],[Kd16],m_w174q⟩
def p_w175q (_ : Nat) (x : Ty92) : Option Ty92 :=
(cond (List.isEmpty x)
 (same
 (some [])
 (chk (Nat.ble ((([] : List (Int × (Int × Int))).length + x.length) * 24) maxBytes)
 (some (([] : List (Int × (Int × Int))) ++ x))))
 (chk (Nat.ble ((([] : List (Int × (Int × Int))).length + x.length) * 24) maxBytes)
 (some (([] : List (Int × (Int × Int))) ++ x))))
def m_w175q := p_w175q FU
def a_w175q : Ann := .leaf
def S_w175q : FSpec := ⟨[.val Kd42],[Kd41],m_w175q⟩
def p_w176q (_ : Nat) (x : (List (Int × Int))) : Option (List (Int × Int)) :=
(cond (List.isEmpty x)
 (same
 (some [])
 (chk (Nat.ble ((([] : List (Int × Int)).length + x.length) * 16) maxBytes)
 (some (([] : List (Int × Int)) ++ x))))
 (chk (Nat.ble ((([] : List (Int × Int)).length + x.length) * 16) maxBytes)
 (some (([] : List (Int × Int)) ++ x))))
def m_w176q := p_w176q FU
def a_w176q : Ann := .leaf
def S_w176q : FSpec := ⟨[.val Kd44],[(.sl (some 208) Kd45)],m_w176q⟩
def p_w177q (_ : Nat) (x : (List Int)) : Option (List Int) :=
(cond (List.isEmpty x)
 (same
 (some [])
 (chk (Nat.ble ((([] : List Int).length + x.length) * 8) maxBytes)
 (some (([] : List Int) ++ x))))
 (chk (Nat.ble ((([] : List Int).length + x.length) * 8) maxBytes)
 (some (([] : List Int) ++ x))))
def m_w177q := p_w177q FU
def a_w177q : Ann := .leaf
def S_w177q : FSpec := ⟨[.val Kd47],[Kd46],m_w177q⟩
def p_w178q (_ : Nat) (x : Ty31) : Option Ty31 :=
((m_w175q x.2.1).bind fun r1 =>
((m_w176q x.2.2.1).bind fun r2 =>
((m_w169q x.2.2.2.1).bind fun r3 =>
((m_w176q x.2.2.2.2.1).bind fun r4 =>
((m_w177q x.2.2.2.2.2).bind fun r5 =>
some (x.1,(r1,(r2,(r3,(r4,r5))))))))))
def m_w178q := p_w178q FU
def a_w178q : Ann := .leaf
def S_w178q : FSpec := ⟨[.val Kd10],[Kd7],m_w178q⟩
def p_w179q (_ : Nat) (x : Ty82) : Option Ty82 :=
(cond (List.isEmpty x)
 (same
 (some [])
 (chk (Nat.ble ((([] : List Ty85).length + x.length) * 40) maxBytes)
 (some (([] : List Ty85) ++ x))))
 (chk (Nat.ble ((([] : List Ty85).length + x.length) * 40) maxBytes)
 (some (([] : List Ty85) ++ x))))
def m_w179q := p_w179q FU
def a_w179q : Ann := .leaf
def S_w179q : FSpec := ⟨[.val Kd36],[Kd34],m_w179q⟩
def l_w180q_1 (n : Nat) (x_2_1 : Ty28) (z0 : Ty14) : Option Ty15 :=
(lp (fun rec28 (z27 : Ty14) =>
 (cond (decide (z27.1 < (lenI x_2_1)))
 ((geti x_2_1 z27.1).bind fun y29 =>
 ((m_w178q y29).bind fun r30 =>
 (chk (Nat.ble ((z27.2.2.1.length + [r30].length) * 128) maxBytes)
 (rec28 (IntKind.wrap .i64 (z27.1 + 1),(z27.2.1,((z27.2.2.1 ++ [r30]),z27.2.2.2)))))))
 (some z27.2))) n z0)
def l_w180q_2 (n : Nat) (y154_2_1 : Ty64) (z0 : Ty54) : Option Ty64 :=
(lp (fun rec170 (z169 : Ty54) =>
 (cond (decide (z169.2 < (lenI y154_2_1)))
 ((geti y154_2_1 z169.2).bind fun y171 =>
 ((m_w177q y171.2.2.2.2.1).bind fun r172 =>
 ((m_w170q y171.2.2.2.2.2).bind fun r173 =>
 (chk (Nat.ble ((z169.1.length + [(y171.1,(y171.2.1,(y171.2.2.1,(y171.2.2.2.1,(r172,r173)))))].length) * 80) maxBytes)
 (rec170 ((z169.1 ++ [(y171.1,(y171.2.1,(y171.2.2.1,(y171.2.2.2.1,(r172,r173)))))]),IntKind.wrap .i64 (z169.2 + 1)))))))
 (some z169.1))) n z0)
def l_w180q_3 (n : Nat) (x_2_2_2_1 : Ty41) (z0 : Ty14) : Option Ty15 :=
(lp (fun rec130 (z129 : Ty14) =>
 (cond (decide (z129.1 < (lenI x_2_2_2_1)))
 (Option.bind (α := Ty15)
 ((geti x_2_2_2_1 z129.1).bind fun y154 =>
 (Option.bind (α := Ty64)
 (l_w180q_2 n y154.2.1 (([] : List Ty68),(0 : Int))) fun j175 =>
 ((m_w179q y154.2.2).bind fun r176 =>
 (chk (Nat.ble ((z129.2.2.2.2.1.length + [(y154.1,(j175,r176))].length) * 56) maxBytes)
 (some (z129.2.1,(z129.2.2.1,(z129.2.2.2.1,((z129.2.2.2.2.1 ++ [(y154.1,(j175,r176))]),z129.2.2.2.2.2))))))))) fun j177 =>
 rec130 (IntKind.wrap .i64 (z129.1 + 1),j177))
 (some z129.2))) n z0)
def p_w180q (n : Nat) (x : Ty15) : Option Ty15 :=
(same
 ((m_w169q x.1).bind fun r1 =>
 (same
 ((m_w173q x.2.2.1).bind fun r2 =>
 (dup 1
 ((m_w174q x.2.2.2.2).bind fun r3 =>
 (Option.bind (α := Ty15)
 (l_w180q_1 n x.2.1 ((0 : Int),(r1,([],(r2,([],r3)))))) fun j32 =>
 (l_w180q_3 n x.2.2.2.1 ((0 : Int),j32))))))
 ((m_w173q x.2.2.1).bind fun r2 =>
 ((m_w174q x.2.2.2.2).bind fun r3 =>
 (Option.bind (α := Ty15)
 (l_w180q_1 n x.2.1 ((0 : Int),(r1,([],(r2,([],r3)))))) fun j32 =>
 (l_w180q_3 n x.2.2.2.1 ((0 : Int),j32)))))))
 ((m_w169q x.1).bind fun r1 =>
 ((m_w173q x.2.2.1).bind fun r2 =>
 ((m_w174q x.2.2.2.2).bind fun r3 =>
 (Option.bind (α := Ty15)
 (l_w180q_1 n x.2.1 ((0 : Int),(r1,([],(r2,([],r3)))))) fun j32 =>
 (l_w180q_3 n x.2.2.2.1 ((0 : Int),j32)))))))
def m_w180q := p_w180q FU
def a_w180q : Ann := (.node .leaf (.node .leaf (.join [.box 1000003 Kd2] ([5] ++ rg 21 15) (.node .leaf (.loop [.slot 24 (.int .i64),.box 1000003 Kd2] ([5] ++ rg 25 11) (.node .leaf (.node .leaf (.node (.node .leaf (.own 32 Kd7 .leaf)) .leaf))))) (.node (.node .leaf (.loop [.slot 39 (.int .i64),.box 1000003 Kd2] ([7,8,10] ++ rg 40 37) (.node .leaf (.node .leaf (.join [.box 1000003 Kd2] ([7,8,10] ++ rg 41 35) (.node .leaf (.node (.own 43 Kd25 .leaf) (.join [.slot 8 Kd18] ([10] ++ rg 44 20) (.node .leaf (.loop [.slot 8 Kd18,.slot 47 (.int .i64)] ([10] ++ rg 48 16) (.node .leaf (.node .leaf (.node (.node .leaf (.node .leaf (.own 61 Kd25 .leaf))) .leaf))))) (.own 73 Kd11 .leaf)))) .leaf))))) .leaf))))
def S_w180q : FSpec := ⟨[.val Kd6],[Kd2],m_w180q⟩
def p_w181q (_ : Nat) (x : Ty13) : Option Ty14 :=
(Option.bind (α := Ty14)
 ((m_w166q x.1).bind fun r21 =>
 (cond (!(r21 == 0))
 (some (r21,([],([],([],([],[]))))))
 (Option.bind (α := Ty14)
 ((m_w180q x.1).bind fun r31 =>
 (Option.bind (α := Ty35)
 ((m_w160q (x.2,r31.2.2.2.1)).bind fun r34 =>
 (cond (!r34)
 (some ((3 : Int),r31.2.2.2.1))
 ((geti r31.2.2.2.1 x.2).bind fun _ =>
 ((r31.2.2.2.1[x.2.toNat]?).bind fun y35 =>
 ((geti r31.2.2.2.1 x.2).bind fun _ =>
 ((r31.2.2.2.1[x.2.toNat]?).bind fun _ =>
 some ((0 : Int),(r31.2.2.2.1.set x.2.toNat (y35.1,([],[])))))))))) fun j36 =>
 (Option.bind (α := Int)
 (Option.bind (α := Bool)
 (cond (j36.1 == 0)
 (some (decide ((lenI r31.2.2.2.2) > 200)))
 (some false)) fun j38 =>
 (cond j38
 (some (2 : Int))
 (some j36.1))) fun j39 =>
 (cond (!(j39 == 0))
 (some (j39,([],([],([],([],[]))))))
 (some ((0 : Int),(r31.1,(r31.2.1,(r31.2.2.1,(j36.2,r31.2.2.2.2)))))))))) fun j40 =>
 some j40))) fun j41 =>
some j41)
def m_w181q := p_w181q FU
def a_w181q : Ann := (.node .leaf (.node (.regj 7 [.slot 7 Kd1] [] (.node .leaf (.node .leaf (.node (.regj 14 [.slot 14 Kd1] [] (.node .leaf (.node .leaf (.node (.reg 10 (.node .leaf (.node (.regj 6 [.slot 6 (.int .i64),.row 13 143 Kd11] [] .leaf .leaf) .leaf)) .leaf) (.join [.slot 6 (.int .i64)] (rg 11 8) (.join [.slot 18 .bool] (rg 11 7) .leaf .leaf) .leaf)))) .leaf) .leaf))) .leaf) .leaf))
def S_w181q : FSpec := ⟨[.val Kd6,.val (.int .i64)],[Kd1],m_w181q⟩
def p_w182q (_ : Nat) (x : Ty71) : Option Bool :=
(cond (!(x.1.1 == x.2.1))
 (some false)
 (cond (!(x.1.2.1 == x.2.2.1))
 (some false)
 (cond (!(x.1.2.2.1 == x.2.2.2.1))
 (some false)
 (cond (!(x.1.2.2.2 == x.2.2.2.2))
 (some false)
 (some true)))))
def m_w182q := p_w182q FU
def a_w182q : Ann := .leaf
def S_w182q : FSpec := ⟨[.val Kd40,.val Kd40],[.bool],m_w182q⟩
def l_w183q_1 (n : Nat) (x_1 : Ty86) (x_2 : Ty86) (z0 : Int) : Option Bool :=
(lp (fun rec6 (z5 : Int) =>
 (cond (decide (z5 < (lenI x_1)))
 ((geti x_1 z5).bind fun y7 =>
 ((geti x_2 z5).bind fun y8 =>
 ((m_w182q (y7,y8)).bind fun r9 =>
 (cond (!r9)
 (some false)
 (rec6 (IntKind.wrap .i64 (z5 + 1)))))))
 (some true))) n z0)
def p_w183q (n : Nat) (x : Ty62) : Option Bool :=
(cond (!((lenI x.1) == (lenI x.2)))
 (some false)
 (l_w183q_1 n x.1 x.2 (0 : Int)))
def m_w183q := p_w183q FU
def a_w183q : Ann := (.node .leaf (.node .leaf (.node (.node .leaf (.loop [.slot 5 (.int .i64)] ([4] ++ rg 11 16) .leaf)) .leaf)))
def S_w183q : FSpec := ⟨[.val Kd39,.val Kd39],[.bool],m_w183q⟩
def p_w184q (_ : Nat) (x : Ty46) : Option Bool :=
(cond (!(x.1.1 == x.2.1))
 (some false)
 ((m_w183q (x.1.2,x.2.2)).bind fun r1 =>
 (cond (!r1)
 (some false)
 (some true))))
def m_w184q := p_w184q FU
def a_w184q : Ann := .leaf
def S_w184q : FSpec := ⟨[.val Kd35,.val Kd35],[.bool],m_w184q⟩
def l_w185q_1 (n : Nat) (x_1 : Ty78) (x_2 : Ty78) (z0 : Int) : Option Bool :=
(lp (fun rec6 (z5 : Int) =>
 (cond (decide (z5 < (lenI x_1)))
 ((geti x_1 z5).bind fun y7 =>
 ((geti x_2 z5).bind fun y8 =>
 ((m_w184q (y7,y8)).bind fun r9 =>
 (cond (!r9)
 (some false)
 (rec6 (IntKind.wrap .i64 (z5 + 1)))))))
 (some true))) n z0)
def p_w185q (n : Nat) (x : Ty44) : Option Bool :=
(cond (!((lenI x.1) == (lenI x.2)))
 (some false)
 (l_w185q_1 n x.1 x.2 (0 : Int)))
def m_w185q := p_w185q FU
def a_w185q : Ann := (.node .leaf (.node .leaf (.node (.node .leaf (.loop [.slot 5 (.int .i64)] ([4] ++ rg 11 16) .leaf)) .leaf)))
def S_w185q : FSpec := ⟨[.val Kd32,.val Kd32],[.bool],m_w185q⟩
def p_w186q (_ : Nat) (x : Ty79) : Option Bool :=
(cond (!(x.1.1 == x.2.1))
 (some false)
 (cond (!(x.1.2.1 == x.2.2.1))
 (some false)
 (cond (!(x.1.2.2 == x.2.2.2))
 (some false)
 (some true))))
def m_w186q := p_w186q FU
def a_w186q : Ann := .leaf
def S_w186q : FSpec := ⟨[.val Kd43,.val Kd43],[.bool],m_w186q⟩
def l_w187q_1 (n : Nat) (x_1 : Ty92) (x_2 : Ty92) (z0 : Int) : Option Bool :=
(lp (fun rec6 (z5 : Int) =>
 (cond (decide (z5 < (lenI x_1)))
 ((geti x_1 z5).bind fun y7 =>
 ((geti x_2 z5).bind fun y8 =>
 ((m_w186q (y7,y8)).bind fun r9 =>
 (cond (!r9)
 (some false)
 (rec6 (IntKind.wrap .i64 (z5 + 1)))))))
 (some true))) n z0)
def p_w187q (n : Nat) (x : (Ty92 × Ty92)) : Option Bool :=
(cond (!((lenI x.1) == (lenI x.2)))
 (some false)
 (l_w187q_1 n x.1 x.2 (0 : Int)))
def m_w187q := p_w187q FU
def a_w187q : Ann := (.node .leaf (.node .leaf (.node (.node .leaf (.loop [.slot 5 (.int .i64)] ([4] ++ rg 11 16) .leaf)) .leaf)))
def S_w187q : FSpec := ⟨[.val Kd42,.val Kd42],[.bool],m_w187q⟩
def p_w188q (_ : Nat) (x : Ty91) : Option Bool :=
(cond (!(x.1.1 == x.2.1))
 (some false)
 (cond (!(x.1.2 == x.2.2))
 (some false)
 (some true)))
def m_w188q := p_w188q FU
def a_w188q : Ann := .leaf
def S_w188q : FSpec := ⟨[.val Kd45,.val Kd45],[.bool],m_w188q⟩
def l_w189q_1 (n : Nat) (x_1 : (List (Int × Int))) (x_2 : (List (Int × Int))) (z0 : Int) : Option Bool :=
(lp (fun rec6 (z5 : Int) =>
 (cond (decide (z5 < (lenI x_1)))
 ((geti x_1 z5).bind fun y7 =>
 ((geti x_2 z5).bind fun y8 =>
 ((m_w188q (y7,y8)).bind fun r9 =>
 (cond (!r9)
 (some false)
 (rec6 (IntKind.wrap .i64 (z5 + 1)))))))
 (some true))) n z0)
def p_w189q (n : Nat) (x : Ty84) : Option Bool :=
(cond (!((lenI x.1) == (lenI x.2)))
 (some false)
 (l_w189q_1 n x.1 x.2 (0 : Int)))
def m_w189q := p_w189q FU
def a_w189q : Ann := (.node .leaf (.node .leaf (.node (.node .leaf (.loop [.slot 5 (.int .i64)] ([4] ++ rg 11 16) .leaf)) .leaf)))
def S_w189q : FSpec := ⟨[.val Kd44,.val Kd44],[.bool],m_w189q⟩
def l_w190q_1 (n : Nat) (x_1 : (List Int)) (x_2 : (List Int)) (z0 : Int) : Option Bool :=
(lp (fun rec5 (z4 : Int) =>
 (cond (decide (z4 < (lenI x_1)))
 ((geti x_1 z4).bind fun y6 =>
 ((geti x_2 z4).bind fun y7 =>
 (cond (!(y6 == y7))
 (some false)
 (rec5 (IntKind.wrap .i64 (z4 + 1))))))
 (some true))) n z0)
def p_w190q (n : Nat) (x : Ty95) : Option Bool :=
(cond (!((lenI x.1) == (lenI x.2)))
 (some false)
 (l_w190q_1 n x.1 x.2 (0 : Int)))
def m_w190q := p_w190q FU
def a_w190q : Ann := (.node .leaf (.node .leaf (.node (.node .leaf (.loop [.slot 5 (.int .i64)] ([4] ++ rg 11 15) .leaf)) .leaf)))
def S_w190q : FSpec := ⟨[.val Kd47,.val Kd47],[.bool],m_w190q⟩
def p_w191q (_ : Nat) (x : Ty17) : Option Bool :=
(cond (!(x.1.1 == x.2.1))
 (some false)
 ((m_w187q (x.1.2.1,x.2.2.1)).bind fun r1 =>
 (cond (!r1)
 (some false)
 ((m_w189q (x.1.2.2.1,x.2.2.2.1)).bind fun r2 =>
 (cond (!r2)
 (some false)
 ((m_w185q (x.1.2.2.2.1,x.2.2.2.2.1)).bind fun r3 =>
 (cond (!r3)
 (some false)
 ((m_w189q (x.1.2.2.2.2.1,x.2.2.2.2.2.1)).bind fun r4 =>
 (cond (!r4)
 (some false)
 ((m_w190q (x.1.2.2.2.2.2,x.2.2.2.2.2.2)).bind fun r5 =>
 (cond (!r5)
 (some false)
 (some true))))))))))))
def m_w191q := p_w191q FU
def a_w191q : Ann := .leaf
def S_w191q : FSpec := ⟨[.val Kd10,.val Kd10],[.bool],m_w191q⟩
def l_w192q_1 (n : Nat) (x_1 : Ty28) (x_2 : Ty28) (z0 : Int) : Option Bool :=
(lp (fun rec6 (z5 : Int) =>
 (cond (decide (z5 < (lenI x_1)))
 ((geti x_1 z5).bind fun y7 =>
 ((geti x_2 z5).bind fun y8 =>
 ((m_w191q (y7,y8)).bind fun r9 =>
 (cond (!r9)
 (some false)
 (rec6 (IntKind.wrap .i64 (z5 + 1)))))))
 (some true))) n z0)
def p_w192q (n : Nat) (x : Ty16) : Option Bool :=
(cond (!((lenI x.1) == (lenI x.2)))
 (some false)
 (l_w192q_1 n x.1 x.2 (0 : Int)))
def m_w192q := p_w192q FU
def a_w192q : Ann := (.node .leaf (.node .leaf (.node (.node .leaf (.loop [.slot 5 (.int .i64)] ([4] ++ rg 11 16) .leaf)) .leaf)))
def S_w192q : FSpec := ⟨[.val Kd9,.val Kd9],[.bool],m_w192q⟩
def p_w193q (_ : Nat) (x : Ty91) : Option Bool :=
(cond (!(x.1.1 == x.2.1))
 (some false)
 (cond (!(x.1.2 == x.2.2))
 (some false)
 (some true)))
def m_w193q := p_w193q FU
def a_w193q : Ann := .leaf
def S_w193q : FSpec := ⟨[.val Kd45,.val Kd45],[.bool],m_w193q⟩
def l_w194q_1 (n : Nat) (x_1 : (List (Int × Int))) (x_2 : (List (Int × Int))) (z0 : Int) : Option Bool :=
(lp (fun rec6 (z5 : Int) =>
 (cond (decide (z5 < (lenI x_1)))
 ((geti x_1 z5).bind fun y7 =>
 ((geti x_2 z5).bind fun y8 =>
 ((m_w193q (y7,y8)).bind fun r9 =>
 (cond (!r9)
 (some false)
 (rec6 (IntKind.wrap .i64 (z5 + 1)))))))
 (some true))) n z0)
def p_w194q (n : Nat) (x : Ty84) : Option Bool :=
(cond (!((lenI x.1) == (lenI x.2)))
 (some false)
 (l_w194q_1 n x.1 x.2 (0 : Int)))
def m_w194q := p_w194q FU
def a_w194q : Ann := (.node .leaf (.node .leaf (.node (.node .leaf (.loop [.slot 5 (.int .i64)] ([4] ++ rg 11 16) .leaf)) .leaf)))
def S_w194q : FSpec := ⟨[.val Kd44,.val Kd44],[.bool],m_w194q⟩
def p_w195q (_ : Nat) (x : Ty43) : Option Bool :=
(cond (!(x.1.1 == x.2.1))
 (some false)
 (cond (!(x.1.2.1 == x.2.2.1))
 (some false)
 (cond (!(x.1.2.2.1 == x.2.2.2.1))
 (some false)
 ((m_w193q (x.1.2.2.2.1,x.2.2.2.2.1)).bind fun r1 =>
 (cond (!r1)
 (some false)
 ((m_w194q (x.1.2.2.2.2,x.2.2.2.2.2)).bind fun r2 =>
 (cond (!r2)
 (some false)
 (some true))))))))
def m_w195q := p_w195q FU
def a_w195q : Ann := .leaf
def S_w195q : FSpec := ⟨[.val Kd30,.val Kd30],[.bool],m_w195q⟩
def l_w196q_1 (n : Nat) (x_1 : Ty67) (x_2 : Ty67) (z0 : Int) : Option Bool :=
(lp (fun rec6 (z5 : Int) =>
 (cond (decide (z5 < (lenI x_1)))
 ((geti x_1 z5).bind fun y7 =>
 ((geti x_2 z5).bind fun y8 =>
 ((m_w195q (y7,y8)).bind fun r9 =>
 (cond (!r9)
 (some false)
 (rec6 (IntKind.wrap .i64 (z5 + 1)))))))
 (some true))) n z0)
def p_w196q (n : Nat) (x : Ty40) : Option Bool :=
(cond (!((lenI x.1) == (lenI x.2)))
 (some false)
 (l_w196q_1 n x.1 x.2 (0 : Int)))
def m_w196q := p_w196q FU
def a_w196q : Ann := (.node .leaf (.node .leaf (.node (.node .leaf (.loop [.slot 5 (.int .i64)] ([4] ++ rg 11 16) .leaf)) .leaf)))
def S_w196q : FSpec := ⟨[.val Kd27,.val Kd27],[.bool],m_w196q⟩
def p_w197q (_ : Nat) (x : Ty40) : Option Bool :=
((m_w196q (x.1,x.2)).bind fun r1 =>
(cond (!r1)
 (some false)
 (some true)))
def m_w197q := p_w197q FU
def a_w197q : Ann := .leaf
def S_w197q : FSpec := ⟨[.val Kd26,.val Kd26],[.bool],m_w197q⟩
def l_w198q_1 (n : Nat) (x_1 : Ty63) (x_2 : Ty63) (z0 : Int) : Option Bool :=
(lp (fun rec6 (z5 : Int) =>
 (cond (decide (z5 < (lenI x_1)))
 ((geti x_1 z5).bind fun y7 =>
 ((geti x_2 z5).bind fun y8 =>
 ((m_w197q (y7,y8)).bind fun r9 =>
 (cond (!r9)
 (some false)
 (rec6 (IntKind.wrap .i64 (z5 + 1)))))))
 (some true))) n z0)
def p_w198q (n : Nat) (x : Ty32) : Option Bool :=
(cond (!((lenI x.1) == (lenI x.2)))
 (some false)
 (l_w198q_1 n x.1 x.2 (0 : Int)))
def m_w198q := p_w198q FU
def a_w198q : Ann := (.node .leaf (.node .leaf (.node (.node .leaf (.loop [.slot 5 (.int .i64)] ([4] ++ rg 11 16) .leaf)) .leaf)))
def S_w198q : FSpec := ⟨[.val Kd21,.val Kd21],[.bool],m_w198q⟩
def p_w199q (_ : Nat) (x : Ty39) : Option Bool :=
(cond (!(x.1.1 == x.2.1))
 (some false)
 (cond (!(x.1.2.1 == x.2.2.1))
 (some false)
 (cond (!(x.1.2.2.1 == x.2.2.2.1))
 (some false)
 (cond (!(x.1.2.2.2.1 == x.2.2.2.2.1))
 (some false)
 ((m_w190q (x.1.2.2.2.2.1,x.2.2.2.2.2.1)).bind fun r1 =>
 (cond (!r1)
 (some false)
 ((m_w194q (x.1.2.2.2.2.2,x.2.2.2.2.2.2)).bind fun r2 =>
 (cond (!r2)
 (some false)
 (some true)))))))))
def m_w199q := p_w199q FU
def a_w199q : Ann := .leaf
def S_w199q : FSpec := ⟨[.val Kd28,.val Kd28],[.bool],m_w199q⟩
def l_w200q_1 (n : Nat) (x_1 : Ty64) (x_2 : Ty64) (z0 : Int) : Option Bool :=
(lp (fun rec6 (z5 : Int) =>
 (cond (decide (z5 < (lenI x_1)))
 ((geti x_1 z5).bind fun y7 =>
 ((geti x_2 z5).bind fun y8 =>
 ((m_w199q (y7,y8)).bind fun r9 =>
 (cond (!r9)
 (some false)
 (rec6 (IntKind.wrap .i64 (z5 + 1)))))))
 (some true))) n z0)
def p_w200q (n : Nat) (x : Ty33) : Option Bool :=
(cond (!((lenI x.1) == (lenI x.2)))
 (some false)
 (l_w200q_1 n x.1 x.2 (0 : Int)))
def m_w200q := p_w200q FU
def a_w200q : Ann := (.node .leaf (.node .leaf (.node (.node .leaf (.loop [.slot 5 (.int .i64)] ([4] ++ rg 11 16) .leaf)) .leaf)))
def S_w200q : FSpec := ⟨[.val Kd24,.val Kd24],[.bool],m_w200q⟩
def p_w201q (_ : Nat) (x : Ty57) : Option Bool :=
(cond (!(x.1.1 == x.2.1))
 (some false)
 (cond (!(x.1.2.1 == x.2.2.1))
 (some false)
 (cond (!(x.1.2.2.1 == x.2.2.2.1))
 (some false)
 (cond (!(x.1.2.2.2.1 == x.2.2.2.2.1))
 (some false)
 (cond (!(x.1.2.2.2.2 == x.2.2.2.2.2))
 (some false)
 (some true))))))
def m_w201q := p_w201q FU
def a_w201q : Ann := .leaf
def S_w201q : FSpec := ⟨[.val Kd37,.val Kd37],[.bool],m_w201q⟩
def l_w202q_1 (n : Nat) (x_1 : Ty82) (x_2 : Ty82) (z0 : Int) : Option Bool :=
(lp (fun rec6 (z5 : Int) =>
 (cond (decide (z5 < (lenI x_1)))
 ((geti x_1 z5).bind fun y7 =>
 ((geti x_2 z5).bind fun y8 =>
 ((m_w201q (y7,y8)).bind fun r9 =>
 (cond (!r9)
 (some false)
 (rec6 (IntKind.wrap .i64 (z5 + 1)))))))
 (some true))) n z0)
def p_w202q (n : Nat) (x : Ty47) : Option Bool :=
(cond (!((lenI x.1) == (lenI x.2)))
 (some false)
 (l_w202q_1 n x.1 x.2 (0 : Int)))
def m_w202q := p_w202q FU
def a_w202q : Ann := (.node .leaf (.node .leaf (.node (.node .leaf (.loop [.slot 5 (.int .i64)] ([4] ++ rg 11 16) .leaf)) .leaf)))
def S_w202q : FSpec := ⟨[.val Kd36,.val Kd36],[.bool],m_w202q⟩
def p_w203q (_ : Nat) (x : Ty19) : Option Bool :=
(cond (!(x.1.1 == x.2.1))
 (some false)
 ((m_w200q (x.1.2.1,x.2.2.1)).bind fun r1 =>
 (cond (!r1)
 (some false)
 ((m_w202q (x.1.2.2,x.2.2.2)).bind fun r2 =>
 (cond (!r2)
 (some false)
 (some true))))))
def m_w203q := p_w203q FU
def a_w203q : Ann := .leaf
def S_w203q : FSpec := ⟨[.val Kd14,.val Kd14],[.bool],m_w203q⟩
def l_w204q_1 (n : Nat) (x_1 : Ty41) (x_2 : Ty41) (z0 : Int) : Option Bool :=
(lp (fun rec6 (z5 : Int) =>
 (cond (decide (z5 < (lenI x_1)))
 ((geti x_1 z5).bind fun y7 =>
 ((geti x_2 z5).bind fun y8 =>
 ((m_w203q (y7,y8)).bind fun r9 =>
 (cond (!r9)
 (some false)
 (rec6 (IntKind.wrap .i64 (z5 + 1)))))))
 (some true))) n z0)
def p_w204q (n : Nat) (x : Ty18) : Option Bool :=
(cond (!((lenI x.1) == (lenI x.2)))
 (some false)
 (l_w204q_1 n x.1 x.2 (0 : Int)))
def m_w204q := p_w204q FU
def a_w204q : Ann := (.node .leaf (.node .leaf (.node (.node .leaf (.loop [.slot 5 (.int .i64)] ([4] ++ rg 11 16) .leaf)) .leaf)))
def S_w204q : FSpec := ⟨[.val Kd13,.val Kd13],[.bool],m_w204q⟩
def p_w205q (_ : Nat) (x : Ty36) : Option Bool :=
(cond (!(x.1.1 == x.2.1))
 (some false)
 (cond (!(x.1.2.1 == x.2.2.1))
 (some false)
 (cond (!(x.1.2.2.1 == x.2.2.2.1))
 (some false)
 (cond (!(x.1.2.2.2.1 == x.2.2.2.2.1))
 (some false)
 (cond (!(x.1.2.2.2.2.1 == x.2.2.2.2.2.1))
 (some false)
 (cond (!(x.1.2.2.2.2.2.1 == x.2.2.2.2.2.2.1))
 (some false)
 (cond (!(x.1.2.2.2.2.2.2.1 == x.2.2.2.2.2.2.2.1))
 (some false)
 ((m_w193q (x.1.2.2.2.2.2.2.2,x.2.2.2.2.2.2.2.2)).bind fun r1 =>
 (cond (!r1)
 (some false)
 (some true))))))))))
def m_w205q := p_w205q FU
def a_w205q : Ann := .leaf
def S_w205q : FSpec := ⟨[.val Kd22,.val Kd22],[.bool],m_w205q⟩
def l_w206q_1 (n : Nat) (x_1 : Ty58) (x_2 : Ty58) (z0 : Int) : Option Bool :=
(lp (fun rec6 (z5 : Int) =>
 (cond (decide (z5 < (lenI x_1)))
 ((geti x_1 z5).bind fun y7 =>
 ((geti x_2 z5).bind fun y8 =>
 ((m_w205q (y7,y8)).bind fun r9 =>
 (cond (!r9)
 (some false)
 (rec6 (IntKind.wrap .i64 (z5 + 1)))))))
 (some true))) n z0)
def p_w206q (n : Nat) (x : Ty29) : Option Bool :=
(cond (!((lenI x.1) == (lenI x.2)))
 (some false)
 (l_w206q_1 n x.1 x.2 (0 : Int)))
def m_w206q := p_w206q FU
def a_w206q : Ann := (.node .leaf (.node .leaf (.node (.node .leaf (.loop [.slot 5 (.int .i64)] ([4] ++ rg 11 16) .leaf)) .leaf)))
def S_w206q : FSpec := ⟨[.val Kd17,.val Kd17],[.bool],m_w206q⟩
def p_w207q (_ : Nat) (x : Ty2) : Option Bool :=
((m_w185q (x.1.1,x.2.1)).bind fun r1 =>
(cond (!r1)
 (some false)
 ((m_w192q (x.1.2.1,x.2.2.1)).bind fun r2 =>
 (cond (!r2)
 (some false)
 ((m_w198q (x.1.2.2.1,x.2.2.2.1)).bind fun r3 =>
 (cond (!r3)
 (some false)
 ((m_w204q (x.1.2.2.2.1,x.2.2.2.2.1)).bind fun r4 =>
 (cond (!r4)
 (some false)
 ((m_w206q (x.1.2.2.2.2,x.2.2.2.2.2)).bind fun r5 =>
 (cond (!r5)
 (some false)
 (some true)))))))))))
def m_w207q := p_w207q FU
def a_w207q : Ann := .leaf
def S_w207q : FSpec := ⟨[.val Kd6,.val Kd6],[.bool],m_w207q⟩
def p_w208q (_ : Nat) (x : Ty1) : Option Bool :=
(cond (!(x.1.1 == x.2.1))
 (some false)
 ((m_w207q (x.1.2,x.2.2)).bind fun r1 =>
 (cond (!r1)
 (some false)
 (some true))))
def m_w208q := p_w208q FU
def a_w208q : Ann := .leaf
def S_w208q : FSpec := ⟨[.val Kd5,.val Kd5],[.bool],m_w208q⟩
def l_w209q_1 (n : Nat)  (z0 : (Int × Ty81)) : Option Ty81 :=
(lp (fun rec12 (z11 : (Int × Ty81)) =>
 (cond (decide (z11.2.1 < (lenI z11.2.2)))
 ((geti z11.2.2 z11.2.1).bind fun _ =>
 ((z11.2.2[z11.2.1.toNat]?).bind fun y13 =>
 ((geti (z11.2.2.set z11.2.1.toNat (z11.1,y13.2)) z11.2.1).bind fun _ =>
 (((z11.2.2.set z11.2.1.toNat (z11.1,y13.2))[z11.2.1.toNat]?).bind fun y14 =>
 ((geti ((z11.2.2.set z11.2.1.toNat (z11.1,y13.2)).set z11.2.1.toNat (y14.1,(IntKind.wrap .i64 (z11.1 + 1),y14.2.2))) z11.2.1).bind fun _ =>
 ((((z11.2.2.set z11.2.1.toNat (z11.1,y13.2)).set z11.2.1.toNat (y14.1,(IntKind.wrap .i64 (z11.1 + 1),y14.2.2)))[z11.2.1.toNat]?).bind fun y15 =>
 ((geti (((z11.2.2.set z11.2.1.toNat (z11.1,y13.2)).set z11.2.1.toNat (y14.1,(IntKind.wrap .i64 (z11.1 + 1),y14.2.2))).set z11.2.1.toNat (y15.1,(y15.2.1,(IntKind.wrap .i64 ((IntKind.wrap .i64 (z11.1 + 1)) + 1),y15.2.2.2)))) z11.2.1).bind fun _ =>
 (((((z11.2.2.set z11.2.1.toNat (z11.1,y13.2)).set z11.2.1.toNat (y14.1,(IntKind.wrap .i64 (z11.1 + 1),y14.2.2))).set z11.2.1.toNat (y15.1,(y15.2.1,(IntKind.wrap .i64 ((IntKind.wrap .i64 (z11.1 + 1)) + 1),y15.2.2.2))))[z11.2.1.toNat]?).bind fun y16 =>
 rec12 (IntKind.wrap .i64 ((IntKind.wrap .i64 ((IntKind.wrap .i64 ((IntKind.wrap .i64 (z11.1 + 1)) + 1)) + 1)) + 1),IntKind.wrap .i64 (z11.2.1 + 1),((((z11.2.2.set z11.2.1.toNat (z11.1,y13.2)).set z11.2.1.toNat (y14.1,(IntKind.wrap .i64 (z11.1 + 1),y14.2.2))).set z11.2.1.toNat (y15.1,(y15.2.1,(IntKind.wrap .i64 ((IntKind.wrap .i64 (z11.1 + 1)) + 1),y15.2.2.2)))).set z11.2.1.toNat (y16.1,(y16.2.1,(y16.2.2.1,IntKind.wrap .i64 ((IntKind.wrap .i64 ((IntKind.wrap .i64 (z11.1 + 1)) + 1)) + 1))))))))))))))
 (some (z11.1,z11.2.2)))) n z0)
def p_w209q (n : Nat) (x : Ty80) : Option Ty81 :=
(l_w209q_1 n  (x.2,(0 : Int),x.1))
def m_w209q := p_w209q FU
def a_w209q : Ann := (.node .leaf (.node (.node .leaf (.loop [.slot 1 (.int .i64),.slot 5 (.int .i64),.row 0 173 Kd40] (rg 6 34) .leaf)) .leaf))
def S_w209q : FSpec := ⟨[.row 173 Kd40,.val (.int .i64)],[(.int .i64)],m_w209q⟩
def l_w210q_1 (n : Nat)  (z0 : Ty70) : Option Ty74 :=
(lp (fun rec12 (z11 : Ty70) =>
 (cond (decide (z11.2.1 < (lenI z11.2.2)))
 ((geti z11.2.2 z11.2.1).bind fun _ =>
 ((z11.2.2[z11.2.1.toNat]?).bind fun y13 =>
 ((geti (z11.2.2.set z11.2.1.toNat (z11.1,y13.2)) z11.2.1).bind fun _ =>
 (((z11.2.2.set z11.2.1.toNat (z11.1,y13.2))[z11.2.1.toNat]?).bind fun y14 =>
 (((z11.2.2.set z11.2.1.toNat (z11.1,y13.2))[z11.2.1.toNat]?).bind fun y15 =>
 ((m_w209q (y15.2,IntKind.wrap .i64 (z11.1 + 1))).bind fun r16 =>
 rec12 (r16.1,IntKind.wrap .i64 (z11.2.1 + 1),((z11.2.2.set z11.2.1.toNat (z11.1,y13.2)).set z11.2.1.toNat (y15.1,r16.2)))))))))
 (some (z11.1,z11.2.2)))) n z0)
def p_w210q (n : Nat) (x : Ty73) : Option Ty74 :=
(l_w210q_1 n  (x.2,(0 : Int),x.1))
def m_w210q := p_w210q FU
def a_w210q : Ann := (.node .leaf (.node (.node .leaf (.loop [.slot 1 (.int .i64),.slot 5 (.int .i64),.row 0 71 Kd33] (rg 6 20) .leaf)) .leaf))
def S_w210q : FSpec := ⟨[.row 71 Kd33,.val (.int .i64)],[(.int .i64)],m_w210q⟩
def l_w211q_1 (n : Nat)  (z0 : (Int × Ty88)) : Option Ty88 :=
(lp (fun rec10 (z9 : (Int × Ty88)) =>
 (cond (decide (z9.2.1 < (lenI z9.2.2)))
 ((geti z9.2.2 z9.2.1).bind fun _ =>
 ((z9.2.2[z9.2.1.toNat]?).bind fun y11 =>
 ((geti (z9.2.2.set z9.2.1.toNat (z9.1,y11.2)) z9.2.1).bind fun _ =>
 (((z9.2.2.set z9.2.1.toNat (z9.1,y11.2))[z9.2.1.toNat]?).bind fun y12 =>
 ((geti ((z9.2.2.set z9.2.1.toNat (z9.1,y11.2)).set z9.2.1.toNat (y12.1,(IntKind.wrap .i64 (z9.1 + 1),y12.2.2))) z9.2.1).bind fun _ =>
 ((((z9.2.2.set z9.2.1.toNat (z9.1,y11.2)).set z9.2.1.toNat (y12.1,(IntKind.wrap .i64 (z9.1 + 1),y12.2.2)))[z9.2.1.toNat]?).bind fun y13 =>
 rec10 (IntKind.wrap .i64 ((IntKind.wrap .i64 ((IntKind.wrap .i64 (z9.1 + 1)) + 1)) + 1),IntKind.wrap .i64 (z9.2.1 + 1),(((z9.2.2.set z9.2.1.toNat (z9.1,y11.2)).set z9.2.1.toNat (y12.1,(IntKind.wrap .i64 (z9.1 + 1),y12.2.2))).set z9.2.1.toNat (y13.1,(y13.2.1,IntKind.wrap .i64 ((IntKind.wrap .i64 (z9.1 + 1)) + 1)))))))))))
 (some (z9.1,z9.2.2)))) n z0)
def p_w211q (n : Nat) (x : Ty87) : Option Ty88 :=
(l_w211q_1 n  (x.2,(0 : Int),x.1))
def m_w211q := p_w211q FU
def a_w211q : Ann := (.node .leaf (.node (.node .leaf (.loop [.slot 1 (.int .i64),.slot 5 (.int .i64),.row 0 341 Kd43] (rg 6 27) .leaf)) .leaf))
def S_w211q : FSpec := ⟨[.row 341 Kd43,.val (.int .i64)],[(.int .i64)],m_w211q⟩
def l_w212q_1 (n : Nat)  (z0 : Ty89) : Option Ty94 :=
(lp (fun rec8 (z7 : Ty89) =>
 (cond (decide (z7.2.1 < (lenI z7.2.2)))
 ((geti z7.2.2 z7.2.1).bind fun _ =>
 ((z7.2.2[z7.2.1.toNat]?).bind fun y9 =>
 ((geti (z7.2.2.set z7.2.1.toNat (z7.1,y9.2)) z7.2.1).bind fun _ =>
 (((z7.2.2.set z7.2.1.toNat (z7.1,y9.2))[z7.2.1.toNat]?).bind fun y10 =>
 rec8 (IntKind.wrap .i64 ((IntKind.wrap .i64 (z7.1 + 1)) + 1),IntKind.wrap .i64 (z7.2.1 + 1),((z7.2.2.set z7.2.1.toNat (z7.1,y9.2)).set z7.2.1.toNat (y10.1,IntKind.wrap .i64 (z7.1 + 1))))))))
 (some (z7.1,z7.2.2)))) n z0)
def p_w212q (n : Nat) (x : Ty93) : Option Ty94 :=
(l_w212q_1 n  (x.2,(0 : Int),x.1))
def m_w212q := p_w212q FU
def a_w212q : Ann := (.node .leaf (.node (.node .leaf (.loop [.slot 1 (.int .i64),.slot 5 (.int .i64),.row 0 208 Kd45] (rg 6 20) .leaf)) .leaf))
def S_w212q : FSpec := ⟨[.row 208 Kd45,.val (.int .i64)],[(.int .i64)],m_w212q⟩
def l_w213q_1 (n : Nat)  (z0 : (Int × (Int × (List Int)))) : Option (Int × (List Int)) :=
(lp (fun rec6 (z5 : (Int × (Int × (List Int)))) =>
 (cond (decide (z5.2.1 < (lenI z5.2.2)))
 ((geti z5.2.2 z5.2.1).bind fun _ =>
 ((z5.2.2[z5.2.1.toNat]?).bind fun y7 =>
 rec6 (IntKind.wrap .i64 (z5.1 + 1),IntKind.wrap .i64 (z5.2.1 + 1),(z5.2.2.set z5.2.1.toNat z5.1))))
 (some (z5.1,z5.2.2)))) n z0)
def p_w213q (n : Nat) (x : ((List Int) × Int)) : Option (Int × (List Int)) :=
(l_w213q_1 n  (x.2,(0 : Int),x.1))
def m_w213q := p_w213q FU
def a_w213q : Ann := (.node .leaf (.node (.node .leaf (.loop [.slot 1 (.int .i64),.slot 5 (.int .i64),.row 0 2 (.int .i64)] (rg 6 12) .leaf)) .leaf))
def S_w213q : FSpec := ⟨[.row 2 (.int .i64),.val (.int .i64)],[(.int .i64)],m_w213q⟩
def l_w214q_1 (n : Nat)  (z0 : Ty22) : Option Ty25 :=
(lp (fun rec36 (z35 : Ty22) =>
 (cond (decide (z35.2.1 < (lenI z35.2.2)))
 ((geti z35.2.2 z35.2.1).bind fun _ =>
 ((z35.2.2[z35.2.1.toNat]?).bind fun y37 =>
 ((geti (z35.2.2.set z35.2.1.toNat (z35.1,y37.2)) z35.2.1).bind fun _ =>
 (((z35.2.2.set z35.2.1.toNat (z35.1,y37.2))[z35.2.1.toNat]?).bind fun y38 =>
 (((z35.2.2.set z35.2.1.toNat (z35.1,y37.2))[z35.2.1.toNat]?).bind fun y39 =>
 ((m_w211q (y39.2.1,IntKind.wrap .i64 (z35.1 + 1))).bind fun r40 =>
 ((geti ((z35.2.2.set z35.2.1.toNat (z35.1,y37.2)).set z35.2.1.toNat (y39.1,(r40.2,y39.2.2))) z35.2.1).bind fun _ =>
 ((((z35.2.2.set z35.2.1.toNat (z35.1,y37.2)).set z35.2.1.toNat (y39.1,(r40.2,y39.2.2)))[z35.2.1.toNat]?).bind fun y41 =>
 ((((z35.2.2.set z35.2.1.toNat (z35.1,y37.2)).set z35.2.1.toNat (y39.1,(r40.2,y39.2.2)))[z35.2.1.toNat]?).bind fun y42 =>
 ((m_w212q (y42.2.2.1,r40.1)).bind fun r43 =>
 ((geti (((z35.2.2.set z35.2.1.toNat (z35.1,y37.2)).set z35.2.1.toNat (y39.1,(r40.2,y39.2.2))).set z35.2.1.toNat (y42.1,(y42.2.1,(r43.2,y42.2.2.2)))) z35.2.1).bind fun _ =>
 (((((z35.2.2.set z35.2.1.toNat (z35.1,y37.2)).set z35.2.1.toNat (y39.1,(r40.2,y39.2.2))).set z35.2.1.toNat (y42.1,(y42.2.1,(r43.2,y42.2.2.2))))[z35.2.1.toNat]?).bind fun y44 =>
 (((((z35.2.2.set z35.2.1.toNat (z35.1,y37.2)).set z35.2.1.toNat (y39.1,(r40.2,y39.2.2))).set z35.2.1.toNat (y42.1,(y42.2.1,(r43.2,y42.2.2.2))))[z35.2.1.toNat]?).bind fun y45 =>
 ((m_w210q (y45.2.2.2.1,r43.1)).bind fun r46 =>
 ((geti ((((z35.2.2.set z35.2.1.toNat (z35.1,y37.2)).set z35.2.1.toNat (y39.1,(r40.2,y39.2.2))).set z35.2.1.toNat (y42.1,(y42.2.1,(r43.2,y42.2.2.2)))).set z35.2.1.toNat (y45.1,(y45.2.1,(y45.2.2.1,(r46.2,y45.2.2.2.2))))) z35.2.1).bind fun _ =>
 ((((((z35.2.2.set z35.2.1.toNat (z35.1,y37.2)).set z35.2.1.toNat (y39.1,(r40.2,y39.2.2))).set z35.2.1.toNat (y42.1,(y42.2.1,(r43.2,y42.2.2.2)))).set z35.2.1.toNat (y45.1,(y45.2.1,(y45.2.2.1,(r46.2,y45.2.2.2.2)))))[z35.2.1.toNat]?).bind fun y47 =>
 ((((((z35.2.2.set z35.2.1.toNat (z35.1,y37.2)).set z35.2.1.toNat (y39.1,(r40.2,y39.2.2))).set z35.2.1.toNat (y42.1,(y42.2.1,(r43.2,y42.2.2.2)))).set z35.2.1.toNat (y45.1,(y45.2.1,(y45.2.2.1,(r46.2,y45.2.2.2.2)))))[z35.2.1.toNat]?).bind fun y48 =>
 ((m_w212q (y48.2.2.2.2.1,r46.1)).bind fun r49 =>
 ((geti (((((z35.2.2.set z35.2.1.toNat (z35.1,y37.2)).set z35.2.1.toNat (y39.1,(r40.2,y39.2.2))).set z35.2.1.toNat (y42.1,(y42.2.1,(r43.2,y42.2.2.2)))).set z35.2.1.toNat (y45.1,(y45.2.1,(y45.2.2.1,(r46.2,y45.2.2.2.2))))).set z35.2.1.toNat (y48.1,(y48.2.1,(y48.2.2.1,(y48.2.2.2.1,(r49.2,y48.2.2.2.2.2)))))) z35.2.1).bind fun _ =>
 (((((((z35.2.2.set z35.2.1.toNat (z35.1,y37.2)).set z35.2.1.toNat (y39.1,(r40.2,y39.2.2))).set z35.2.1.toNat (y42.1,(y42.2.1,(r43.2,y42.2.2.2)))).set z35.2.1.toNat (y45.1,(y45.2.1,(y45.2.2.1,(r46.2,y45.2.2.2.2))))).set z35.2.1.toNat (y48.1,(y48.2.1,(y48.2.2.1,(y48.2.2.2.1,(r49.2,y48.2.2.2.2.2))))))[z35.2.1.toNat]?).bind fun y50 =>
 (((((((z35.2.2.set z35.2.1.toNat (z35.1,y37.2)).set z35.2.1.toNat (y39.1,(r40.2,y39.2.2))).set z35.2.1.toNat (y42.1,(y42.2.1,(r43.2,y42.2.2.2)))).set z35.2.1.toNat (y45.1,(y45.2.1,(y45.2.2.1,(r46.2,y45.2.2.2.2))))).set z35.2.1.toNat (y48.1,(y48.2.1,(y48.2.2.1,(y48.2.2.2.1,(r49.2,y48.2.2.2.2.2))))))[z35.2.1.toNat]?).bind fun y51 =>
 ((m_w213q (y51.2.2.2.2.2,r49.1)).bind fun r52 =>
 rec36 (r52.1,IntKind.wrap .i64 (z35.2.1 + 1),((((((z35.2.2.set z35.2.1.toNat (z35.1,y37.2)).set z35.2.1.toNat (y39.1,(r40.2,y39.2.2))).set z35.2.1.toNat (y42.1,(y42.2.1,(r43.2,y42.2.2.2)))).set z35.2.1.toNat (y45.1,(y45.2.1,(y45.2.2.1,(r46.2,y45.2.2.2.2))))).set z35.2.1.toNat (y48.1,(y48.2.1,(y48.2.2.1,(y48.2.2.2.1,(r49.2,y48.2.2.2.2.2)))))).set z35.2.1.toNat (y51.1,(y51.2.1,(y51.2.2.1,(y51.2.2.2.1,(y51.2.2.2.2.1,r52.2)))))))))))))))))))))))))))))
 (some (z35.1,z35.2.2)))) n z0)
def p_w214q (n : Nat) (x : Ty24) : Option Ty25 :=
(l_w214q_1 n  (x.2,(0 : Int),x.1))
def m_w214q := p_w214q FU
def a_w214q : Ann := (.node .leaf (.node (.node .leaf (.loop [.slot 1 (.int .i64),.slot 5 (.int .i64),.row 0 131 Kd7] (rg 6 48) .leaf)) .leaf))
def S_w214q : FSpec := ⟨[.row 131 Kd7,.val (.int .i64)],[(.int .i64)],m_w214q⟩
def l_w215q_1 (n : Nat)  (z0 : Ty89) : Option Ty94 :=
(lp (fun rec8 (z7 : Ty89) =>
 (cond (decide (z7.2.1 < (lenI z7.2.2)))
 ((geti z7.2.2 z7.2.1).bind fun _ =>
 ((z7.2.2[z7.2.1.toNat]?).bind fun y9 =>
 ((geti (z7.2.2.set z7.2.1.toNat (z7.1,y9.2)) z7.2.1).bind fun _ =>
 (((z7.2.2.set z7.2.1.toNat (z7.1,y9.2))[z7.2.1.toNat]?).bind fun y10 =>
 rec8 (IntKind.wrap .i64 ((IntKind.wrap .i64 (z7.1 + 1)) + 1),IntKind.wrap .i64 (z7.2.1 + 1),((z7.2.2.set z7.2.1.toNat (z7.1,y9.2)).set z7.2.1.toNat (y10.1,IntKind.wrap .i64 (z7.1 + 1))))))))
 (some (z7.1,z7.2.2)))) n z0)
def p_w215q (n : Nat) (x : Ty93) : Option Ty94 :=
(l_w215q_1 n  (x.2,(0 : Int),x.1))
def m_w215q := p_w215q FU
def a_w215q : Ann := (.node .leaf (.node (.node .leaf (.loop [.slot 1 (.int .i64),.slot 5 (.int .i64),.row 0 118 Kd45] (rg 6 20) .leaf)) .leaf))
def S_w215q : FSpec := ⟨[.row 118 Kd45,.val (.int .i64)],[(.int .i64)],m_w215q⟩
def l_w216q_1 (n : Nat)  (z0 : Ty52) : Option Ty61 :=
(lp (fun rec20 (z19 : Ty52) =>
 (cond (decide (z19.2.1 < (lenI z19.2.2)))
 ((geti z19.2.2 z19.2.1).bind fun _ =>
 ((z19.2.2[z19.2.1.toNat]?).bind fun y21 =>
 ((geti (z19.2.2.set z19.2.1.toNat (z19.1,y21.2)) z19.2.1).bind fun _ =>
 (((z19.2.2.set z19.2.1.toNat (z19.1,y21.2))[z19.2.1.toNat]?).bind fun y22 =>
 ((geti ((z19.2.2.set z19.2.1.toNat (z19.1,y21.2)).set z19.2.1.toNat (y22.1,(IntKind.wrap .i64 (z19.1 + 1),y22.2.2))) z19.2.1).bind fun _ =>
 ((((z19.2.2.set z19.2.1.toNat (z19.1,y21.2)).set z19.2.1.toNat (y22.1,(IntKind.wrap .i64 (z19.1 + 1),y22.2.2)))[z19.2.1.toNat]?).bind fun y23 =>
 ((geti (((z19.2.2.set z19.2.1.toNat (z19.1,y21.2)).set z19.2.1.toNat (y22.1,(IntKind.wrap .i64 (z19.1 + 1),y22.2.2))).set z19.2.1.toNat (y23.1,(y23.2.1,(IntKind.wrap .i64 ((IntKind.wrap .i64 (z19.1 + 1)) + 1),y23.2.2.2)))) z19.2.1).bind fun _ =>
 (((((z19.2.2.set z19.2.1.toNat (z19.1,y21.2)).set z19.2.1.toNat (y22.1,(IntKind.wrap .i64 (z19.1 + 1),y22.2.2))).set z19.2.1.toNat (y23.1,(y23.2.1,(IntKind.wrap .i64 ((IntKind.wrap .i64 (z19.1 + 1)) + 1),y23.2.2.2))))[z19.2.1.toNat]?).bind fun y24 =>
 ((geti ((((z19.2.2.set z19.2.1.toNat (z19.1,y21.2)).set z19.2.1.toNat (y22.1,(IntKind.wrap .i64 (z19.1 + 1),y22.2.2))).set z19.2.1.toNat (y23.1,(y23.2.1,(IntKind.wrap .i64 ((IntKind.wrap .i64 (z19.1 + 1)) + 1),y23.2.2.2)))).set z19.2.1.toNat (y24.1,(y24.2.1,(y24.2.2.1,((IntKind.wrap .i64 ((IntKind.wrap .i64 ((IntKind.wrap .i64 (z19.1 + 1)) + 1)) + 1),y24.2.2.2.1.2),y24.2.2.2.2))))) z19.2.1).bind fun _ =>
 ((((((z19.2.2.set z19.2.1.toNat (z19.1,y21.2)).set z19.2.1.toNat (y22.1,(IntKind.wrap .i64 (z19.1 + 1),y22.2.2))).set z19.2.1.toNat (y23.1,(y23.2.1,(IntKind.wrap .i64 ((IntKind.wrap .i64 (z19.1 + 1)) + 1),y23.2.2.2)))).set z19.2.1.toNat (y24.1,(y24.2.1,(y24.2.2.1,((IntKind.wrap .i64 ((IntKind.wrap .i64 ((IntKind.wrap .i64 (z19.1 + 1)) + 1)) + 1),y24.2.2.2.1.2),y24.2.2.2.2)))))[z19.2.1.toNat]?).bind fun y25 =>
 ((geti (((((z19.2.2.set z19.2.1.toNat (z19.1,y21.2)).set z19.2.1.toNat (y22.1,(IntKind.wrap .i64 (z19.1 + 1),y22.2.2))).set z19.2.1.toNat (y23.1,(y23.2.1,(IntKind.wrap .i64 ((IntKind.wrap .i64 (z19.1 + 1)) + 1),y23.2.2.2)))).set z19.2.1.toNat (y24.1,(y24.2.1,(y24.2.2.1,((IntKind.wrap .i64 ((IntKind.wrap .i64 ((IntKind.wrap .i64 (z19.1 + 1)) + 1)) + 1),y24.2.2.2.1.2),y24.2.2.2.2))))).set z19.2.1.toNat (y25.1,(y25.2.1,(y25.2.2.1,((y25.2.2.2.1.1,IntKind.wrap .i64 ((IntKind.wrap .i64 ((IntKind.wrap .i64 ((IntKind.wrap .i64 (z19.1 + 1)) + 1)) + 1)) + 1)),y25.2.2.2.2))))) z19.2.1).bind fun _ =>
 (((((((z19.2.2.set z19.2.1.toNat (z19.1,y21.2)).set z19.2.1.toNat (y22.1,(IntKind.wrap .i64 (z19.1 + 1),y22.2.2))).set z19.2.1.toNat (y23.1,(y23.2.1,(IntKind.wrap .i64 ((IntKind.wrap .i64 (z19.1 + 1)) + 1),y23.2.2.2)))).set z19.2.1.toNat (y24.1,(y24.2.1,(y24.2.2.1,((IntKind.wrap .i64 ((IntKind.wrap .i64 ((IntKind.wrap .i64 (z19.1 + 1)) + 1)) + 1),y24.2.2.2.1.2),y24.2.2.2.2))))).set z19.2.1.toNat (y25.1,(y25.2.1,(y25.2.2.1,((y25.2.2.2.1.1,IntKind.wrap .i64 ((IntKind.wrap .i64 ((IntKind.wrap .i64 ((IntKind.wrap .i64 (z19.1 + 1)) + 1)) + 1)) + 1)),y25.2.2.2.2)))))[z19.2.1.toNat]?).bind fun y26 =>
 (((((((z19.2.2.set z19.2.1.toNat (z19.1,y21.2)).set z19.2.1.toNat (y22.1,(IntKind.wrap .i64 (z19.1 + 1),y22.2.2))).set z19.2.1.toNat (y23.1,(y23.2.1,(IntKind.wrap .i64 ((IntKind.wrap .i64 (z19.1 + 1)) + 1),y23.2.2.2)))).set z19.2.1.toNat (y24.1,(y24.2.1,(y24.2.2.1,((IntKind.wrap .i64 ((IntKind.wrap .i64 ((IntKind.wrap .i64 (z19.1 + 1)) + 1)) + 1),y24.2.2.2.1.2),y24.2.2.2.2))))).set z19.2.1.toNat (y25.1,(y25.2.1,(y25.2.2.1,((y25.2.2.2.1.1,IntKind.wrap .i64 ((IntKind.wrap .i64 ((IntKind.wrap .i64 ((IntKind.wrap .i64 (z19.1 + 1)) + 1)) + 1)) + 1)),y25.2.2.2.2)))))[z19.2.1.toNat]?).bind fun y27 =>
 ((m_w215q (y27.2.2.2.2,IntKind.wrap .i64 ((IntKind.wrap .i64 ((IntKind.wrap .i64 ((IntKind.wrap .i64 ((IntKind.wrap .i64 (z19.1 + 1)) + 1)) + 1)) + 1)) + 1))).bind fun r28 =>
 rec20 (r28.1,IntKind.wrap .i64 (z19.2.1 + 1),((((((z19.2.2.set z19.2.1.toNat (z19.1,y21.2)).set z19.2.1.toNat (y22.1,(IntKind.wrap .i64 (z19.1 + 1),y22.2.2))).set z19.2.1.toNat (y23.1,(y23.2.1,(IntKind.wrap .i64 ((IntKind.wrap .i64 (z19.1 + 1)) + 1),y23.2.2.2)))).set z19.2.1.toNat (y24.1,(y24.2.1,(y24.2.2.1,((IntKind.wrap .i64 ((IntKind.wrap .i64 ((IntKind.wrap .i64 (z19.1 + 1)) + 1)) + 1),y24.2.2.2.1.2),y24.2.2.2.2))))).set z19.2.1.toNat (y25.1,(y25.2.1,(y25.2.2.1,((y25.2.2.2.1.1,IntKind.wrap .i64 ((IntKind.wrap .i64 ((IntKind.wrap .i64 ((IntKind.wrap .i64 (z19.1 + 1)) + 1)) + 1)) + 1)),y25.2.2.2.2))))).set z19.2.1.toNat (y27.1,(y27.2.1,(y27.2.2.1,(y27.2.2.2.1,r28.2))))))))))))))))))))
 (some (z19.1,z19.2.2)))) n z0)
def p_w216q (n : Nat) (x : Ty59) : Option Ty61 :=
(l_w216q_1 n  (x.2,(0 : Int),x.1))
def m_w216q := p_w216q FU
def a_w216q : Ann := (.node .leaf (.node (.node .leaf (.loop [.slot 1 (.int .i64),.slot 5 (.int .i64),.row 0 211 Kd29] (rg 6 50) .leaf)) .leaf))
def S_w216q : FSpec := ⟨[.row 211 Kd29,.val (.int .i64)],[(.int .i64)],m_w216q⟩
def l_w217q_1 (n : Nat)  (z0 : Ty48) : Option Ty55 :=
(lp (fun rec10 (z9 : Ty48) =>
 (cond (decide (z9.2.1 < (lenI z9.2.2)))
 ((geti z9.2.2 z9.2.1).bind fun _ =>
 ((z9.2.2[z9.2.1.toNat]?).bind fun y11 =>
 ((z9.2.2[z9.2.1.toNat]?).bind fun y12 =>
 ((m_w216q (y12,z9.1)).bind fun r13 =>
 rec10 (r13.1,IntKind.wrap .i64 (z9.2.1 + 1),(z9.2.2.set z9.2.1.toNat r13.2))))))
 (some (z9.1,z9.2.2)))) n z0)
def p_w217q (n : Nat) (x : Ty53) : Option Ty55 :=
(l_w217q_1 n  (x.2,(0 : Int),x.1))
def m_w217q := p_w217q FU
def a_w217q : Ann := (.node .leaf (.node (.node .leaf (.loop [.slot 1 (.int .i64),.slot 5 (.int .i64),.row 0 135 Kd20] (rg 6 13) .leaf)) .leaf))
def S_w217q : FSpec := ⟨[.row 135 Kd20,.val (.int .i64)],[(.int .i64)],m_w217q⟩
def l_w218q_1 (n : Nat)  (z0 : Ty49) : Option Ty56 :=
(lp (fun rec24 (z23 : Ty49) =>
 (cond (decide (z23.2.1 < (lenI z23.2.2)))
 ((geti z23.2.2 z23.2.1).bind fun _ =>
 ((z23.2.2[z23.2.1.toNat]?).bind fun y25 =>
 ((geti (z23.2.2.set z23.2.1.toNat (z23.1,y25.2)) z23.2.1).bind fun _ =>
 (((z23.2.2.set z23.2.1.toNat (z23.1,y25.2))[z23.2.1.toNat]?).bind fun y26 =>
 ((geti ((z23.2.2.set z23.2.1.toNat (z23.1,y25.2)).set z23.2.1.toNat (y26.1,(IntKind.wrap .i64 (z23.1 + 1),y26.2.2))) z23.2.1).bind fun _ =>
 ((((z23.2.2.set z23.2.1.toNat (z23.1,y25.2)).set z23.2.1.toNat (y26.1,(IntKind.wrap .i64 (z23.1 + 1),y26.2.2)))[z23.2.1.toNat]?).bind fun y27 =>
 ((geti (((z23.2.2.set z23.2.1.toNat (z23.1,y25.2)).set z23.2.1.toNat (y26.1,(IntKind.wrap .i64 (z23.1 + 1),y26.2.2))).set z23.2.1.toNat (y27.1,(y27.2.1,(IntKind.wrap .i64 ((IntKind.wrap .i64 (z23.1 + 1)) + 1),y27.2.2.2)))) z23.2.1).bind fun _ =>
 (((((z23.2.2.set z23.2.1.toNat (z23.1,y25.2)).set z23.2.1.toNat (y26.1,(IntKind.wrap .i64 (z23.1 + 1),y26.2.2))).set z23.2.1.toNat (y27.1,(y27.2.1,(IntKind.wrap .i64 ((IntKind.wrap .i64 (z23.1 + 1)) + 1),y27.2.2.2))))[z23.2.1.toNat]?).bind fun y28 =>
 ((geti ((((z23.2.2.set z23.2.1.toNat (z23.1,y25.2)).set z23.2.1.toNat (y26.1,(IntKind.wrap .i64 (z23.1 + 1),y26.2.2))).set z23.2.1.toNat (y27.1,(y27.2.1,(IntKind.wrap .i64 ((IntKind.wrap .i64 (z23.1 + 1)) + 1),y27.2.2.2)))).set z23.2.1.toNat (y28.1,(y28.2.1,(y28.2.2.1,(IntKind.wrap .i64 ((IntKind.wrap .i64 ((IntKind.wrap .i64 (z23.1 + 1)) + 1)) + 1),y28.2.2.2.2))))) z23.2.1).bind fun _ =>
 ((((((z23.2.2.set z23.2.1.toNat (z23.1,y25.2)).set z23.2.1.toNat (y26.1,(IntKind.wrap .i64 (z23.1 + 1),y26.2.2))).set z23.2.1.toNat (y27.1,(y27.2.1,(IntKind.wrap .i64 ((IntKind.wrap .i64 (z23.1 + 1)) + 1),y27.2.2.2)))).set z23.2.1.toNat (y28.1,(y28.2.1,(y28.2.2.1,(IntKind.wrap .i64 ((IntKind.wrap .i64 ((IntKind.wrap .i64 (z23.1 + 1)) + 1)) + 1),y28.2.2.2.2)))))[z23.2.1.toNat]?).bind fun y29 =>
 ((((((z23.2.2.set z23.2.1.toNat (z23.1,y25.2)).set z23.2.1.toNat (y26.1,(IntKind.wrap .i64 (z23.1 + 1),y26.2.2))).set z23.2.1.toNat (y27.1,(y27.2.1,(IntKind.wrap .i64 ((IntKind.wrap .i64 (z23.1 + 1)) + 1),y27.2.2.2)))).set z23.2.1.toNat (y28.1,(y28.2.1,(y28.2.2.1,(IntKind.wrap .i64 ((IntKind.wrap .i64 ((IntKind.wrap .i64 (z23.1 + 1)) + 1)) + 1),y28.2.2.2.2)))))[z23.2.1.toNat]?).bind fun y30 =>
 ((m_w213q (y30.2.2.2.2.1,IntKind.wrap .i64 ((IntKind.wrap .i64 ((IntKind.wrap .i64 ((IntKind.wrap .i64 (z23.1 + 1)) + 1)) + 1)) + 1))).bind fun r31 =>
 ((geti (((((z23.2.2.set z23.2.1.toNat (z23.1,y25.2)).set z23.2.1.toNat (y26.1,(IntKind.wrap .i64 (z23.1 + 1),y26.2.2))).set z23.2.1.toNat (y27.1,(y27.2.1,(IntKind.wrap .i64 ((IntKind.wrap .i64 (z23.1 + 1)) + 1),y27.2.2.2)))).set z23.2.1.toNat (y28.1,(y28.2.1,(y28.2.2.1,(IntKind.wrap .i64 ((IntKind.wrap .i64 ((IntKind.wrap .i64 (z23.1 + 1)) + 1)) + 1),y28.2.2.2.2))))).set z23.2.1.toNat (y30.1,(y30.2.1,(y30.2.2.1,(y30.2.2.2.1,(r31.2,y30.2.2.2.2.2)))))) z23.2.1).bind fun _ =>
 (((((((z23.2.2.set z23.2.1.toNat (z23.1,y25.2)).set z23.2.1.toNat (y26.1,(IntKind.wrap .i64 (z23.1 + 1),y26.2.2))).set z23.2.1.toNat (y27.1,(y27.2.1,(IntKind.wrap .i64 ((IntKind.wrap .i64 (z23.1 + 1)) + 1),y27.2.2.2)))).set z23.2.1.toNat (y28.1,(y28.2.1,(y28.2.2.1,(IntKind.wrap .i64 ((IntKind.wrap .i64 ((IntKind.wrap .i64 (z23.1 + 1)) + 1)) + 1),y28.2.2.2.2))))).set z23.2.1.toNat (y30.1,(y30.2.1,(y30.2.2.1,(y30.2.2.2.1,(r31.2,y30.2.2.2.2.2))))))[z23.2.1.toNat]?).bind fun y32 =>
 (((((((z23.2.2.set z23.2.1.toNat (z23.1,y25.2)).set z23.2.1.toNat (y26.1,(IntKind.wrap .i64 (z23.1 + 1),y26.2.2))).set z23.2.1.toNat (y27.1,(y27.2.1,(IntKind.wrap .i64 ((IntKind.wrap .i64 (z23.1 + 1)) + 1),y27.2.2.2)))).set z23.2.1.toNat (y28.1,(y28.2.1,(y28.2.2.1,(IntKind.wrap .i64 ((IntKind.wrap .i64 ((IntKind.wrap .i64 (z23.1 + 1)) + 1)) + 1),y28.2.2.2.2))))).set z23.2.1.toNat (y30.1,(y30.2.1,(y30.2.2.1,(y30.2.2.2.1,(r31.2,y30.2.2.2.2.2))))))[z23.2.1.toNat]?).bind fun y33 =>
 ((m_w215q (y33.2.2.2.2.2,r31.1)).bind fun r34 =>
 rec24 (r34.1,IntKind.wrap .i64 (z23.2.1 + 1),((((((z23.2.2.set z23.2.1.toNat (z23.1,y25.2)).set z23.2.1.toNat (y26.1,(IntKind.wrap .i64 (z23.1 + 1),y26.2.2))).set z23.2.1.toNat (y27.1,(y27.2.1,(IntKind.wrap .i64 ((IntKind.wrap .i64 (z23.1 + 1)) + 1),y27.2.2.2)))).set z23.2.1.toNat (y28.1,(y28.2.1,(y28.2.2.1,(IntKind.wrap .i64 ((IntKind.wrap .i64 ((IntKind.wrap .i64 (z23.1 + 1)) + 1)) + 1),y28.2.2.2.2))))).set z23.2.1.toNat (y30.1,(y30.2.1,(y30.2.2.1,(y30.2.2.2.1,(r31.2,y30.2.2.2.2.2)))))).set z23.2.1.toNat (y33.1,(y33.2.1,(y33.2.2.1,(y33.2.2.2.1,(y33.2.2.2.2.1,r34.2)))))))))))))))))))))))
 (some (z23.1,z23.2.2)))) n z0)
def p_w218q (n : Nat) (x : Ty54) : Option Ty56 :=
(l_w218q_1 n  (x.2,(0 : Int),x.1))
def m_w218q := p_w218q FU
def a_w218q : Ann := (.node .leaf (.node (.node .leaf (.loop [.slot 1 (.int .i64),.slot 5 (.int .i64),.row 0 264 Kd25] (rg 6 48) .leaf)) .leaf))
def S_w218q : FSpec := ⟨[.row 264 Kd25,.val (.int .i64)],[(.int .i64)],m_w218q⟩
def l_w219q_1 (n : Nat)  (z0 : (Int × Ty77)) : Option Ty77 :=
(lp (fun rec14 (z13 : (Int × Ty77)) =>
 (cond (decide (z13.2.1 < (lenI z13.2.2)))
 ((geti z13.2.2 z13.2.1).bind fun _ =>
 ((z13.2.2[z13.2.1.toNat]?).bind fun y15 =>
 ((geti (z13.2.2.set z13.2.1.toNat (z13.1,y15.2)) z13.2.1).bind fun _ =>
 (((z13.2.2.set z13.2.1.toNat (z13.1,y15.2))[z13.2.1.toNat]?).bind fun y16 =>
 ((geti ((z13.2.2.set z13.2.1.toNat (z13.1,y15.2)).set z13.2.1.toNat (y16.1,(IntKind.wrap .i64 (z13.1 + 1),y16.2.2))) z13.2.1).bind fun _ =>
 ((((z13.2.2.set z13.2.1.toNat (z13.1,y15.2)).set z13.2.1.toNat (y16.1,(IntKind.wrap .i64 (z13.1 + 1),y16.2.2)))[z13.2.1.toNat]?).bind fun y17 =>
 ((geti (((z13.2.2.set z13.2.1.toNat (z13.1,y15.2)).set z13.2.1.toNat (y16.1,(IntKind.wrap .i64 (z13.1 + 1),y16.2.2))).set z13.2.1.toNat (y17.1,(y17.2.1,(IntKind.wrap .i64 ((IntKind.wrap .i64 (z13.1 + 1)) + 1),y17.2.2.2)))) z13.2.1).bind fun _ =>
 (((((z13.2.2.set z13.2.1.toNat (z13.1,y15.2)).set z13.2.1.toNat (y16.1,(IntKind.wrap .i64 (z13.1 + 1),y16.2.2))).set z13.2.1.toNat (y17.1,(y17.2.1,(IntKind.wrap .i64 ((IntKind.wrap .i64 (z13.1 + 1)) + 1),y17.2.2.2))))[z13.2.1.toNat]?).bind fun y18 =>
 ((geti ((((z13.2.2.set z13.2.1.toNat (z13.1,y15.2)).set z13.2.1.toNat (y16.1,(IntKind.wrap .i64 (z13.1 + 1),y16.2.2))).set z13.2.1.toNat (y17.1,(y17.2.1,(IntKind.wrap .i64 ((IntKind.wrap .i64 (z13.1 + 1)) + 1),y17.2.2.2)))).set z13.2.1.toNat (y18.1,(y18.2.1,(y18.2.2.1,(IntKind.wrap .i64 ((IntKind.wrap .i64 ((IntKind.wrap .i64 (z13.1 + 1)) + 1)) + 1),y18.2.2.2.2))))) z13.2.1).bind fun _ =>
 ((((((z13.2.2.set z13.2.1.toNat (z13.1,y15.2)).set z13.2.1.toNat (y16.1,(IntKind.wrap .i64 (z13.1 + 1),y16.2.2))).set z13.2.1.toNat (y17.1,(y17.2.1,(IntKind.wrap .i64 ((IntKind.wrap .i64 (z13.1 + 1)) + 1),y17.2.2.2)))).set z13.2.1.toNat (y18.1,(y18.2.1,(y18.2.2.1,(IntKind.wrap .i64 ((IntKind.wrap .i64 ((IntKind.wrap .i64 (z13.1 + 1)) + 1)) + 1),y18.2.2.2.2)))))[z13.2.1.toNat]?).bind fun y19 =>
 rec14 (IntKind.wrap .i64 ((IntKind.wrap .i64 ((IntKind.wrap .i64 ((IntKind.wrap .i64 ((IntKind.wrap .i64 (z13.1 + 1)) + 1)) + 1)) + 1)) + 1),IntKind.wrap .i64 (z13.2.1 + 1),(((((z13.2.2.set z13.2.1.toNat (z13.1,y15.2)).set z13.2.1.toNat (y16.1,(IntKind.wrap .i64 (z13.1 + 1),y16.2.2))).set z13.2.1.toNat (y17.1,(y17.2.1,(IntKind.wrap .i64 ((IntKind.wrap .i64 (z13.1 + 1)) + 1),y17.2.2.2)))).set z13.2.1.toNat (y18.1,(y18.2.1,(y18.2.2.1,(IntKind.wrap .i64 ((IntKind.wrap .i64 ((IntKind.wrap .i64 (z13.1 + 1)) + 1)) + 1),y18.2.2.2.2))))).set z13.2.1.toNat (y19.1,(y19.2.1,(y19.2.2.1,(y19.2.2.2.1,IntKind.wrap .i64 ((IntKind.wrap .i64 ((IntKind.wrap .i64 ((IntKind.wrap .i64 (z13.1 + 1)) + 1)) + 1)) + 1)))))))))))))))))
 (some (z13.1,z13.2.2)))) n z0)
def p_w219q (n : Nat) (x : Ty76) : Option Ty77 :=
(l_w219q_1 n  (x.2,(0 : Int),x.1))
def m_w219q := p_w219q FU
def a_w219q : Ann := (.node .leaf (.node (.node .leaf (.loop [.slot 1 (.int .i64),.slot 5 (.int .i64),.row 0 214 Kd37] (rg 6 41) .leaf)) .leaf))
def S_w219q : FSpec := ⟨[.row 214 Kd37,.val (.int .i64)],[(.int .i64)],m_w219q⟩
def l_w220q_1 (n : Nat)  (z0 : Ty30) : Option Ty35 :=
(lp (fun rec18 (z17 : Ty30) =>
 (cond (decide (z17.2.1 < (lenI z17.2.2)))
 ((geti z17.2.2 z17.2.1).bind fun _ =>
 ((z17.2.2[z17.2.1.toNat]?).bind fun y19 =>
 ((geti (z17.2.2.set z17.2.1.toNat (z17.1,y19.2)) z17.2.1).bind fun _ =>
 (((z17.2.2.set z17.2.1.toNat (z17.1,y19.2))[z17.2.1.toNat]?).bind fun y20 =>
 (((z17.2.2.set z17.2.1.toNat (z17.1,y19.2))[z17.2.1.toNat]?).bind fun y21 =>
 ((m_w218q (y21.2.1,IntKind.wrap .i64 (z17.1 + 1))).bind fun r22 =>
 ((geti ((z17.2.2.set z17.2.1.toNat (z17.1,y19.2)).set z17.2.1.toNat (y21.1,(r22.2,y21.2.2))) z17.2.1).bind fun _ =>
 ((((z17.2.2.set z17.2.1.toNat (z17.1,y19.2)).set z17.2.1.toNat (y21.1,(r22.2,y21.2.2)))[z17.2.1.toNat]?).bind fun y23 =>
 ((((z17.2.2.set z17.2.1.toNat (z17.1,y19.2)).set z17.2.1.toNat (y21.1,(r22.2,y21.2.2)))[z17.2.1.toNat]?).bind fun y24 =>
 ((m_w219q (y24.2.2,r22.1)).bind fun r25 =>
 rec18 (r25.1,IntKind.wrap .i64 (z17.2.1 + 1),(((z17.2.2.set z17.2.1.toNat (z17.1,y19.2)).set z17.2.1.toNat (y21.1,(r22.2,y21.2.2))).set z17.2.1.toNat (y24.1,(y24.2.1,r25.2))))))))))))))
 (some (z17.1,z17.2.2)))) n z0)
def p_w220q (n : Nat) (x : Ty34) : Option Ty35 :=
(l_w220q_1 n  (x.2,(0 : Int),x.1))
def m_w220q := p_w220q FU
def a_w220q : Ann := (.node .leaf (.node (.node .leaf (.loop [.slot 1 (.int .i64),.slot 5 (.int .i64),.row 0 143 Kd11] (rg 6 27) .leaf)) .leaf))
def S_w220q : FSpec := ⟨[.row 143 Kd11,.val (.int .i64)],[(.int .i64)],m_w220q⟩
def l_w221q_1 (n : Nat)  (z0 : Ty45) : Option Ty51 :=
(lp (fun rec22 (z21 : Ty45) =>
 (cond (decide (z21.2.1 < (lenI z21.2.2)))
 ((geti z21.2.2 z21.2.1).bind fun _ =>
 ((z21.2.2[z21.2.1.toNat]?).bind fun y23 =>
 ((geti (z21.2.2.set z21.2.1.toNat (z21.1,y23.2)) z21.2.1).bind fun _ =>
 (((z21.2.2.set z21.2.1.toNat (z21.1,y23.2))[z21.2.1.toNat]?).bind fun y24 =>
 ((geti ((z21.2.2.set z21.2.1.toNat (z21.1,y23.2)).set z21.2.1.toNat (y24.1,(IntKind.wrap .i64 (z21.1 + 1),y24.2.2))) z21.2.1).bind fun _ =>
 ((((z21.2.2.set z21.2.1.toNat (z21.1,y23.2)).set z21.2.1.toNat (y24.1,(IntKind.wrap .i64 (z21.1 + 1),y24.2.2)))[z21.2.1.toNat]?).bind fun y25 =>
 ((geti (((z21.2.2.set z21.2.1.toNat (z21.1,y23.2)).set z21.2.1.toNat (y24.1,(IntKind.wrap .i64 (z21.1 + 1),y24.2.2))).set z21.2.1.toNat (y25.1,(y25.2.1,(IntKind.wrap .i64 ((IntKind.wrap .i64 (z21.1 + 1)) + 1),y25.2.2.2)))) z21.2.1).bind fun _ =>
 (((((z21.2.2.set z21.2.1.toNat (z21.1,y23.2)).set z21.2.1.toNat (y24.1,(IntKind.wrap .i64 (z21.1 + 1),y24.2.2))).set z21.2.1.toNat (y25.1,(y25.2.1,(IntKind.wrap .i64 ((IntKind.wrap .i64 (z21.1 + 1)) + 1),y25.2.2.2))))[z21.2.1.toNat]?).bind fun y26 =>
 ((geti ((((z21.2.2.set z21.2.1.toNat (z21.1,y23.2)).set z21.2.1.toNat (y24.1,(IntKind.wrap .i64 (z21.1 + 1),y24.2.2))).set z21.2.1.toNat (y25.1,(y25.2.1,(IntKind.wrap .i64 ((IntKind.wrap .i64 (z21.1 + 1)) + 1),y25.2.2.2)))).set z21.2.1.toNat (y26.1,(y26.2.1,(y26.2.2.1,(IntKind.wrap .i64 ((IntKind.wrap .i64 ((IntKind.wrap .i64 (z21.1 + 1)) + 1)) + 1),y26.2.2.2.2))))) z21.2.1).bind fun _ =>
 ((((((z21.2.2.set z21.2.1.toNat (z21.1,y23.2)).set z21.2.1.toNat (y24.1,(IntKind.wrap .i64 (z21.1 + 1),y24.2.2))).set z21.2.1.toNat (y25.1,(y25.2.1,(IntKind.wrap .i64 ((IntKind.wrap .i64 (z21.1 + 1)) + 1),y25.2.2.2)))).set z21.2.1.toNat (y26.1,(y26.2.1,(y26.2.2.1,(IntKind.wrap .i64 ((IntKind.wrap .i64 ((IntKind.wrap .i64 (z21.1 + 1)) + 1)) + 1),y26.2.2.2.2)))))[z21.2.1.toNat]?).bind fun y27 =>
 ((geti (((((z21.2.2.set z21.2.1.toNat (z21.1,y23.2)).set z21.2.1.toNat (y24.1,(IntKind.wrap .i64 (z21.1 + 1),y24.2.2))).set z21.2.1.toNat (y25.1,(y25.2.1,(IntKind.wrap .i64 ((IntKind.wrap .i64 (z21.1 + 1)) + 1),y25.2.2.2)))).set z21.2.1.toNat (y26.1,(y26.2.1,(y26.2.2.1,(IntKind.wrap .i64 ((IntKind.wrap .i64 ((IntKind.wrap .i64 (z21.1 + 1)) + 1)) + 1),y26.2.2.2.2))))).set z21.2.1.toNat (y27.1,(y27.2.1,(y27.2.2.1,(y27.2.2.2.1,(IntKind.wrap .i64 ((IntKind.wrap .i64 ((IntKind.wrap .i64 ((IntKind.wrap .i64 (z21.1 + 1)) + 1)) + 1)) + 1),y27.2.2.2.2.2)))))) z21.2.1).bind fun _ =>
 (((((((z21.2.2.set z21.2.1.toNat (z21.1,y23.2)).set z21.2.1.toNat (y24.1,(IntKind.wrap .i64 (z21.1 + 1),y24.2.2))).set z21.2.1.toNat (y25.1,(y25.2.1,(IntKind.wrap .i64 ((IntKind.wrap .i64 (z21.1 + 1)) + 1),y25.2.2.2)))).set z21.2.1.toNat (y26.1,(y26.2.1,(y26.2.2.1,(IntKind.wrap .i64 ((IntKind.wrap .i64 ((IntKind.wrap .i64 (z21.1 + 1)) + 1)) + 1),y26.2.2.2.2))))).set z21.2.1.toNat (y27.1,(y27.2.1,(y27.2.2.1,(y27.2.2.2.1,(IntKind.wrap .i64 ((IntKind.wrap .i64 ((IntKind.wrap .i64 ((IntKind.wrap .i64 (z21.1 + 1)) + 1)) + 1)) + 1),y27.2.2.2.2.2))))))[z21.2.1.toNat]?).bind fun y28 =>
 ((geti ((((((z21.2.2.set z21.2.1.toNat (z21.1,y23.2)).set z21.2.1.toNat (y24.1,(IntKind.wrap .i64 (z21.1 + 1),y24.2.2))).set z21.2.1.toNat (y25.1,(y25.2.1,(IntKind.wrap .i64 ((IntKind.wrap .i64 (z21.1 + 1)) + 1),y25.2.2.2)))).set z21.2.1.toNat (y26.1,(y26.2.1,(y26.2.2.1,(IntKind.wrap .i64 ((IntKind.wrap .i64 ((IntKind.wrap .i64 (z21.1 + 1)) + 1)) + 1),y26.2.2.2.2))))).set z21.2.1.toNat (y27.1,(y27.2.1,(y27.2.2.1,(y27.2.2.2.1,(IntKind.wrap .i64 ((IntKind.wrap .i64 ((IntKind.wrap .i64 ((IntKind.wrap .i64 (z21.1 + 1)) + 1)) + 1)) + 1),y27.2.2.2.2.2)))))).set z21.2.1.toNat (y28.1,(y28.2.1,(y28.2.2.1,(y28.2.2.2.1,(y28.2.2.2.2.1,(IntKind.wrap .i64 ((IntKind.wrap .i64 ((IntKind.wrap .i64 ((IntKind.wrap .i64 ((IntKind.wrap .i64 (z21.1 + 1)) + 1)) + 1)) + 1)) + 1),y28.2.2.2.2.2.2))))))) z21.2.1).bind fun _ =>
 ((((((((z21.2.2.set z21.2.1.toNat (z21.1,y23.2)).set z21.2.1.toNat (y24.1,(IntKind.wrap .i64 (z21.1 + 1),y24.2.2))).set z21.2.1.toNat (y25.1,(y25.2.1,(IntKind.wrap .i64 ((IntKind.wrap .i64 (z21.1 + 1)) + 1),y25.2.2.2)))).set z21.2.1.toNat (y26.1,(y26.2.1,(y26.2.2.1,(IntKind.wrap .i64 ((IntKind.wrap .i64 ((IntKind.wrap .i64 (z21.1 + 1)) + 1)) + 1),y26.2.2.2.2))))).set z21.2.1.toNat (y27.1,(y27.2.1,(y27.2.2.1,(y27.2.2.2.1,(IntKind.wrap .i64 ((IntKind.wrap .i64 ((IntKind.wrap .i64 ((IntKind.wrap .i64 (z21.1 + 1)) + 1)) + 1)) + 1),y27.2.2.2.2.2)))))).set z21.2.1.toNat (y28.1,(y28.2.1,(y28.2.2.1,(y28.2.2.2.1,(y28.2.2.2.2.1,(IntKind.wrap .i64 ((IntKind.wrap .i64 ((IntKind.wrap .i64 ((IntKind.wrap .i64 ((IntKind.wrap .i64 (z21.1 + 1)) + 1)) + 1)) + 1)) + 1),y28.2.2.2.2.2.2)))))))[z21.2.1.toNat]?).bind fun y29 =>
 ((geti (((((((z21.2.2.set z21.2.1.toNat (z21.1,y23.2)).set z21.2.1.toNat (y24.1,(IntKind.wrap .i64 (z21.1 + 1),y24.2.2))).set z21.2.1.toNat (y25.1,(y25.2.1,(IntKind.wrap .i64 ((IntKind.wrap .i64 (z21.1 + 1)) + 1),y25.2.2.2)))).set z21.2.1.toNat (y26.1,(y26.2.1,(y26.2.2.1,(IntKind.wrap .i64 ((IntKind.wrap .i64 ((IntKind.wrap .i64 (z21.1 + 1)) + 1)) + 1),y26.2.2.2.2))))).set z21.2.1.toNat (y27.1,(y27.2.1,(y27.2.2.1,(y27.2.2.2.1,(IntKind.wrap .i64 ((IntKind.wrap .i64 ((IntKind.wrap .i64 ((IntKind.wrap .i64 (z21.1 + 1)) + 1)) + 1)) + 1),y27.2.2.2.2.2)))))).set z21.2.1.toNat (y28.1,(y28.2.1,(y28.2.2.1,(y28.2.2.2.1,(y28.2.2.2.2.1,(IntKind.wrap .i64 ((IntKind.wrap .i64 ((IntKind.wrap .i64 ((IntKind.wrap .i64 ((IntKind.wrap .i64 (z21.1 + 1)) + 1)) + 1)) + 1)) + 1),y28.2.2.2.2.2.2))))))).set z21.2.1.toNat (y29.1,(y29.2.1,(y29.2.2.1,(y29.2.2.2.1,(y29.2.2.2.2.1,(y29.2.2.2.2.2.1,(IntKind.wrap .i64 ((IntKind.wrap .i64 ((IntKind.wrap .i64 ((IntKind.wrap .i64 ((IntKind.wrap .i64 ((IntKind.wrap .i64 (z21.1 + 1)) + 1)) + 1)) + 1)) + 1)) + 1),y29.2.2.2.2.2.2.2)))))))) z21.2.1).bind fun _ =>
 (((((((((z21.2.2.set z21.2.1.toNat (z21.1,y23.2)).set z21.2.1.toNat (y24.1,(IntKind.wrap .i64 (z21.1 + 1),y24.2.2))).set z21.2.1.toNat (y25.1,(y25.2.1,(IntKind.wrap .i64 ((IntKind.wrap .i64 (z21.1 + 1)) + 1),y25.2.2.2)))).set z21.2.1.toNat (y26.1,(y26.2.1,(y26.2.2.1,(IntKind.wrap .i64 ((IntKind.wrap .i64 ((IntKind.wrap .i64 (z21.1 + 1)) + 1)) + 1),y26.2.2.2.2))))).set z21.2.1.toNat (y27.1,(y27.2.1,(y27.2.2.1,(y27.2.2.2.1,(IntKind.wrap .i64 ((IntKind.wrap .i64 ((IntKind.wrap .i64 ((IntKind.wrap .i64 (z21.1 + 1)) + 1)) + 1)) + 1),y27.2.2.2.2.2)))))).set z21.2.1.toNat (y28.1,(y28.2.1,(y28.2.2.1,(y28.2.2.2.1,(y28.2.2.2.2.1,(IntKind.wrap .i64 ((IntKind.wrap .i64 ((IntKind.wrap .i64 ((IntKind.wrap .i64 ((IntKind.wrap .i64 (z21.1 + 1)) + 1)) + 1)) + 1)) + 1),y28.2.2.2.2.2.2))))))).set z21.2.1.toNat (y29.1,(y29.2.1,(y29.2.2.1,(y29.2.2.2.1,(y29.2.2.2.2.1,(y29.2.2.2.2.2.1,(IntKind.wrap .i64 ((IntKind.wrap .i64 ((IntKind.wrap .i64 ((IntKind.wrap .i64 ((IntKind.wrap .i64 ((IntKind.wrap .i64 (z21.1 + 1)) + 1)) + 1)) + 1)) + 1)) + 1),y29.2.2.2.2.2.2.2))))))))[z21.2.1.toNat]?).bind fun y30 =>
 ((geti ((((((((z21.2.2.set z21.2.1.toNat (z21.1,y23.2)).set z21.2.1.toNat (y24.1,(IntKind.wrap .i64 (z21.1 + 1),y24.2.2))).set z21.2.1.toNat (y25.1,(y25.2.1,(IntKind.wrap .i64 ((IntKind.wrap .i64 (z21.1 + 1)) + 1),y25.2.2.2)))).set z21.2.1.toNat (y26.1,(y26.2.1,(y26.2.2.1,(IntKind.wrap .i64 ((IntKind.wrap .i64 ((IntKind.wrap .i64 (z21.1 + 1)) + 1)) + 1),y26.2.2.2.2))))).set z21.2.1.toNat (y27.1,(y27.2.1,(y27.2.2.1,(y27.2.2.2.1,(IntKind.wrap .i64 ((IntKind.wrap .i64 ((IntKind.wrap .i64 ((IntKind.wrap .i64 (z21.1 + 1)) + 1)) + 1)) + 1),y27.2.2.2.2.2)))))).set z21.2.1.toNat (y28.1,(y28.2.1,(y28.2.2.1,(y28.2.2.2.1,(y28.2.2.2.2.1,(IntKind.wrap .i64 ((IntKind.wrap .i64 ((IntKind.wrap .i64 ((IntKind.wrap .i64 ((IntKind.wrap .i64 (z21.1 + 1)) + 1)) + 1)) + 1)) + 1),y28.2.2.2.2.2.2))))))).set z21.2.1.toNat (y29.1,(y29.2.1,(y29.2.2.1,(y29.2.2.2.1,(y29.2.2.2.2.1,(y29.2.2.2.2.2.1,(IntKind.wrap .i64 ((IntKind.wrap .i64 ((IntKind.wrap .i64 ((IntKind.wrap .i64 ((IntKind.wrap .i64 ((IntKind.wrap .i64 (z21.1 + 1)) + 1)) + 1)) + 1)) + 1)) + 1),y29.2.2.2.2.2.2.2)))))))).set z21.2.1.toNat (y30.1,(y30.2.1,(y30.2.2.1,(y30.2.2.2.1,(y30.2.2.2.2.1,(y30.2.2.2.2.2.1,(y30.2.2.2.2.2.2.1,(IntKind.wrap .i64 ((IntKind.wrap .i64 ((IntKind.wrap .i64 ((IntKind.wrap .i64 ((IntKind.wrap .i64 ((IntKind.wrap .i64 ((IntKind.wrap .i64 (z21.1 + 1)) + 1)) + 1)) + 1)) + 1)) + 1)) + 1),y30.2.2.2.2.2.2.2.2))))))))) z21.2.1).bind fun _ =>
 ((((((((((z21.2.2.set z21.2.1.toNat (z21.1,y23.2)).set z21.2.1.toNat (y24.1,(IntKind.wrap .i64 (z21.1 + 1),y24.2.2))).set z21.2.1.toNat (y25.1,(y25.2.1,(IntKind.wrap .i64 ((IntKind.wrap .i64 (z21.1 + 1)) + 1),y25.2.2.2)))).set z21.2.1.toNat (y26.1,(y26.2.1,(y26.2.2.1,(IntKind.wrap .i64 ((IntKind.wrap .i64 ((IntKind.wrap .i64 (z21.1 + 1)) + 1)) + 1),y26.2.2.2.2))))).set z21.2.1.toNat (y27.1,(y27.2.1,(y27.2.2.1,(y27.2.2.2.1,(IntKind.wrap .i64 ((IntKind.wrap .i64 ((IntKind.wrap .i64 ((IntKind.wrap .i64 (z21.1 + 1)) + 1)) + 1)) + 1),y27.2.2.2.2.2)))))).set z21.2.1.toNat (y28.1,(y28.2.1,(y28.2.2.1,(y28.2.2.2.1,(y28.2.2.2.2.1,(IntKind.wrap .i64 ((IntKind.wrap .i64 ((IntKind.wrap .i64 ((IntKind.wrap .i64 ((IntKind.wrap .i64 (z21.1 + 1)) + 1)) + 1)) + 1)) + 1),y28.2.2.2.2.2.2))))))).set z21.2.1.toNat (y29.1,(y29.2.1,(y29.2.2.1,(y29.2.2.2.1,(y29.2.2.2.2.1,(y29.2.2.2.2.2.1,(IntKind.wrap .i64 ((IntKind.wrap .i64 ((IntKind.wrap .i64 ((IntKind.wrap .i64 ((IntKind.wrap .i64 ((IntKind.wrap .i64 (z21.1 + 1)) + 1)) + 1)) + 1)) + 1)) + 1),y29.2.2.2.2.2.2.2)))))))).set z21.2.1.toNat (y30.1,(y30.2.1,(y30.2.2.1,(y30.2.2.2.1,(y30.2.2.2.2.1,(y30.2.2.2.2.2.1,(y30.2.2.2.2.2.2.1,(IntKind.wrap .i64 ((IntKind.wrap .i64 ((IntKind.wrap .i64 ((IntKind.wrap .i64 ((IntKind.wrap .i64 ((IntKind.wrap .i64 ((IntKind.wrap .i64 (z21.1 + 1)) + 1)) + 1)) + 1)) + 1)) + 1)) + 1),y30.2.2.2.2.2.2.2.2)))))))))[z21.2.1.toNat]?).bind fun y31 =>
 rec22 (IntKind.wrap .i64 ((IntKind.wrap .i64 ((IntKind.wrap .i64 ((IntKind.wrap .i64 ((IntKind.wrap .i64 ((IntKind.wrap .i64 ((IntKind.wrap .i64 ((IntKind.wrap .i64 ((IntKind.wrap .i64 (z21.1 + 1)) + 1)) + 1)) + 1)) + 1)) + 1)) + 1)) + 1)) + 1),IntKind.wrap .i64 (z21.2.1 + 1),(((((((((z21.2.2.set z21.2.1.toNat (z21.1,y23.2)).set z21.2.1.toNat (y24.1,(IntKind.wrap .i64 (z21.1 + 1),y24.2.2))).set z21.2.1.toNat (y25.1,(y25.2.1,(IntKind.wrap .i64 ((IntKind.wrap .i64 (z21.1 + 1)) + 1),y25.2.2.2)))).set z21.2.1.toNat (y26.1,(y26.2.1,(y26.2.2.1,(IntKind.wrap .i64 ((IntKind.wrap .i64 ((IntKind.wrap .i64 (z21.1 + 1)) + 1)) + 1),y26.2.2.2.2))))).set z21.2.1.toNat (y27.1,(y27.2.1,(y27.2.2.1,(y27.2.2.2.1,(IntKind.wrap .i64 ((IntKind.wrap .i64 ((IntKind.wrap .i64 ((IntKind.wrap .i64 (z21.1 + 1)) + 1)) + 1)) + 1),y27.2.2.2.2.2)))))).set z21.2.1.toNat (y28.1,(y28.2.1,(y28.2.2.1,(y28.2.2.2.1,(y28.2.2.2.2.1,(IntKind.wrap .i64 ((IntKind.wrap .i64 ((IntKind.wrap .i64 ((IntKind.wrap .i64 ((IntKind.wrap .i64 (z21.1 + 1)) + 1)) + 1)) + 1)) + 1),y28.2.2.2.2.2.2))))))).set z21.2.1.toNat (y29.1,(y29.2.1,(y29.2.2.1,(y29.2.2.2.1,(y29.2.2.2.2.1,(y29.2.2.2.2.2.1,(IntKind.wrap .i64 ((IntKind.wrap .i64 ((IntKind.wrap .i64 ((IntKind.wrap .i64 ((IntKind.wrap .i64 ((IntKind.wrap .i64 (z21.1 + 1)) + 1)) + 1)) + 1)) + 1)) + 1),y29.2.2.2.2.2.2.2)))))))).set z21.2.1.toNat (y30.1,(y30.2.1,(y30.2.2.1,(y30.2.2.2.1,(y30.2.2.2.2.1,(y30.2.2.2.2.2.1,(y30.2.2.2.2.2.2.1,(IntKind.wrap .i64 ((IntKind.wrap .i64 ((IntKind.wrap .i64 ((IntKind.wrap .i64 ((IntKind.wrap .i64 ((IntKind.wrap .i64 ((IntKind.wrap .i64 (z21.1 + 1)) + 1)) + 1)) + 1)) + 1)) + 1)) + 1),y30.2.2.2.2.2.2.2.2))))))))).set z21.2.1.toNat (y31.1,(y31.2.1,(y31.2.2.1,(y31.2.2.2.1,(y31.2.2.2.2.1,(y31.2.2.2.2.2.1,(y31.2.2.2.2.2.2.1,(y31.2.2.2.2.2.2.2.1,IntKind.wrap .i64 ((IntKind.wrap .i64 ((IntKind.wrap .i64 ((IntKind.wrap .i64 ((IntKind.wrap .i64 ((IntKind.wrap .i64 ((IntKind.wrap .i64 ((IntKind.wrap .i64 (z21.1 + 1)) + 1)) + 1)) + 1)) + 1)) + 1)) + 1)) + 1)))))))))))))))))))))))))))))
 (some (z21.1,z21.2.2)))) n z0)
def p_w221q (n : Nat) (x : Ty50) : Option Ty51 :=
(l_w221q_1 n  (x.2,(0 : Int),x.1))
def m_w221q := p_w221q FU
def a_w221q : Ann := (.node .leaf (.node (.node .leaf (.loop [.slot 1 (.int .i64),.slot 5 (.int .i64),.row 0 120 Kd22] (rg 6 71) .leaf)) .leaf))
def S_w221q : FSpec := ⟨[.row 120 Kd22,.val (.int .i64)],[(.int .i64)],m_w221q⟩
def l_w222q_1 (n : Nat) (x_1 : Ty86) (z0 : (Int × Int)) : Option Int :=
(lp (fun rec7 (z6 : (Int × Int)) =>
 (cond (decide (z6.2 < (lenI x_1)))
 ((geti x_1 z6.2).bind fun y8 =>
 (cond (!(y8.1 == z6.1))
 (some (-1 : Int))
 ((geti x_1 z6.2).bind fun y9 =>
 (cond (!(y9.2.1 == (IntKind.wrap .i64 (z6.1 + 1))))
 (some (-1 : Int))
 ((geti x_1 z6.2).bind fun y10 =>
 (cond (!(y10.2.2.1 == (IntKind.wrap .i64 ((IntKind.wrap .i64 (z6.1 + 1)) + 1))))
 (some (-1 : Int))
 ((geti x_1 z6.2).bind fun y11 =>
 (cond (!(y11.2.2.2 == (IntKind.wrap .i64 ((IntKind.wrap .i64 ((IntKind.wrap .i64 (z6.1 + 1)) + 1)) + 1))))
 (some (-1 : Int))
 (rec7 (IntKind.wrap .i64 ((IntKind.wrap .i64 ((IntKind.wrap .i64 ((IntKind.wrap .i64 (z6.1 + 1)) + 1)) + 1)) + 1),IntKind.wrap .i64 (z6.2 + 1)))))))))))
 (some z6.1))) n z0)
def p_w222q (n : Nat) (x : Ty80) : Option Int :=
(l_w222q_1 n x.1 (x.2,(0 : Int)))
def m_w222q := p_w222q FU
def a_w222q : Ann := (.node .leaf (.node (.node .leaf (.loop [.slot 1 (.int .i64),.slot 5 (.int .i64)] ([4] ++ rg 6 42) .leaf)) .leaf))
def S_w222q : FSpec := ⟨[.val Kd39,.val (.int .i64)],[(.int .i64)],m_w222q⟩
def l_w223q_1 (n : Nat) (x_1 : Ty78) (z0 : (Int × Int)) : Option Int :=
(lp (fun rec6 (z5 : (Int × Int)) =>
 (cond (decide (z5.2 < (lenI x_1)))
 ((geti x_1 z5.2).bind fun y7 =>
 (cond (!(y7.1 == z5.1))
 (some (-1 : Int))
 ((geti x_1 z5.2).bind fun y8 =>
 ((m_w222q (y8.2,IntKind.wrap .i64 (z5.1 + 1))).bind fun r9 =>
 (cond (decide (r9 < 0))
 (some (-1 : Int))
 (rec6 (r9,IntKind.wrap .i64 (z5.2 + 1))))))))
 (some z5.1))) n z0)
def p_w223q (n : Nat) (x : Ty73) : Option Int :=
(l_w223q_1 n x.1 (x.2,(0 : Int)))
def m_w223q := p_w223q FU
def a_w223q : Ann := (.node .leaf (.node (.node .leaf (.loop [.slot 1 (.int .i64),.slot 5 (.int .i64)] ([4] ++ rg 6 24) .leaf)) .leaf))
def S_w223q : FSpec := ⟨[.val Kd32,.val (.int .i64)],[(.int .i64)],m_w223q⟩
def l_w224q_1 (n : Nat) (x_1 : Ty92) (z0 : (Int × Int)) : Option Int :=
(lp (fun rec6 (z5 : (Int × Int)) =>
 (cond (decide (z5.2 < (lenI x_1)))
 ((geti x_1 z5.2).bind fun y7 =>
 (cond (!(y7.1 == z5.1))
 (some (-1 : Int))
 ((geti x_1 z5.2).bind fun y8 =>
 (cond (!(y8.2.1 == (IntKind.wrap .i64 (z5.1 + 1))))
 (some (-1 : Int))
 ((geti x_1 z5.2).bind fun y9 =>
 (cond (!(y9.2.2 == (IntKind.wrap .i64 ((IntKind.wrap .i64 (z5.1 + 1)) + 1))))
 (some (-1 : Int))
 (rec6 (IntKind.wrap .i64 ((IntKind.wrap .i64 ((IntKind.wrap .i64 (z5.1 + 1)) + 1)) + 1),IntKind.wrap .i64 (z5.2 + 1)))))))))
 (some z5.1))) n z0)
def p_w224q (n : Nat) (x : Ty87) : Option Int :=
(l_w224q_1 n x.1 (x.2,(0 : Int)))
def m_w224q := p_w224q FU
def a_w224q : Ann := (.node .leaf (.node (.node .leaf (.loop [.slot 1 (.int .i64),.slot 5 (.int .i64)] ([4] ++ rg 6 33) .leaf)) .leaf))
def S_w224q : FSpec := ⟨[.val Kd42,.val (.int .i64)],[(.int .i64)],m_w224q⟩
def l_w225q_1 (n : Nat) (x_1 : (List (Int × Int))) (z0 : (Int × Int)) : Option Int :=
(lp (fun rec5 (z4 : (Int × Int)) =>
 (cond (decide (z4.2 < (lenI x_1)))
 ((geti x_1 z4.2).bind fun y6 =>
 (cond (!(y6.1 == z4.1))
 (some (-1 : Int))
 ((geti x_1 z4.2).bind fun y7 =>
 (cond (!(y7.2 == (IntKind.wrap .i64 (z4.1 + 1))))
 (some (-1 : Int))
 (rec5 (IntKind.wrap .i64 ((IntKind.wrap .i64 (z4.1 + 1)) + 1),IntKind.wrap .i64 (z4.2 + 1)))))))
 (some z4.1))) n z0)
def p_w225q (n : Nat) (x : Ty93) : Option Int :=
(l_w225q_1 n x.1 (x.2,(0 : Int)))
def m_w225q := p_w225q FU
def a_w225q : Ann := (.node .leaf (.node (.node .leaf (.loop [.slot 1 (.int .i64),.slot 5 (.int .i64)] ([4] ++ rg 6 24) .leaf)) .leaf))
def S_w225q : FSpec := ⟨[.val Kd44,.val (.int .i64)],[(.int .i64)],m_w225q⟩
def l_w226q_1 (n : Nat) (x_1 : (List Int)) (z0 : (Int × Int)) : Option Int :=
(lp (fun rec4 (z3 : (Int × Int)) =>
 (cond (decide (z3.2 < (lenI x_1)))
 ((geti x_1 z3.2).bind fun y5 =>
 (cond (!(y5 == z3.1))
 (some (-1 : Int))
 (rec4 (IntKind.wrap .i64 (z3.1 + 1),IntKind.wrap .i64 (z3.2 + 1)))))
 (some z3.1))) n z0)
def p_w226q (n : Nat) (x : ((List Int) × Int)) : Option Int :=
(l_w226q_1 n x.1 (x.2,(0 : Int)))
def m_w226q := p_w226q FU
def a_w226q : Ann := (.node .leaf (.node (.node .leaf (.loop [.slot 1 (.int .i64),.slot 5 (.int .i64)] ([4] ++ rg 6 14) .leaf)) .leaf))
def S_w226q : FSpec := ⟨[.val Kd47,.val (.int .i64)],[(.int .i64)],m_w226q⟩
def l_w227q_1 (n : Nat) (x_1 : Ty28) (z0 : (Int × Int)) : Option Int :=
(lp (fun rec14 (z13 : (Int × Int)) =>
 (cond (decide (z13.2 < (lenI x_1)))
 ((geti x_1 z13.2).bind fun y15 =>
 (cond (!(y15.1 == z13.1))
 (some (-1 : Int))
 ((geti x_1 z13.2).bind fun y16 =>
 ((m_w224q (y16.2.1,IntKind.wrap .i64 (z13.1 + 1))).bind fun r17 =>
 (cond (decide (r17 < 0))
 (some (-1 : Int))
 ((geti x_1 z13.2).bind fun y18 =>
 ((m_w225q (y18.2.2.1,r17)).bind fun r19 =>
 (cond (decide (r19 < 0))
 (some (-1 : Int))
 ((geti x_1 z13.2).bind fun y20 =>
 ((m_w223q (y20.2.2.2.1,r19)).bind fun r21 =>
 (cond (decide (r21 < 0))
 (some (-1 : Int))
 ((geti x_1 z13.2).bind fun y22 =>
 ((m_w225q (y22.2.2.2.2.1,r21)).bind fun r23 =>
 (cond (decide (r23 < 0))
 (some (-1 : Int))
 ((geti x_1 z13.2).bind fun y24 =>
 ((m_w226q (y24.2.2.2.2.2,r23)).bind fun r25 =>
 (cond (decide (r25 < 0))
 (some (-1 : Int))
 (rec14 (r25,IntKind.wrap .i64 (z13.2 + 1))))))))))))))))))))
 (some z13.1))) n z0)
def p_w227q (n : Nat) (x : Ty24) : Option Int :=
(l_w227q_1 n x.1 (x.2,(0 : Int)))
def m_w227q := p_w227q FU
def a_w227q : Ann := (.node .leaf (.node (.node .leaf (.loop [.slot 1 (.int .i64),.slot 5 (.int .i64)] ([4] ++ rg 6 60) .leaf)) .leaf))
def S_w227q : FSpec := ⟨[.val Kd9,.val (.int .i64)],[(.int .i64)],m_w227q⟩
def l_w228q_1 (n : Nat) (x_1 : (List (Int × Int))) (z0 : (Int × Int)) : Option Int :=
(lp (fun rec5 (z4 : (Int × Int)) =>
 (cond (decide (z4.2 < (lenI x_1)))
 ((geti x_1 z4.2).bind fun y6 =>
 (cond (!(y6.1 == z4.1))
 (some (-1 : Int))
 ((geti x_1 z4.2).bind fun y7 =>
 (cond (!(y7.2 == (IntKind.wrap .i64 (z4.1 + 1))))
 (some (-1 : Int))
 (rec5 (IntKind.wrap .i64 ((IntKind.wrap .i64 (z4.1 + 1)) + 1),IntKind.wrap .i64 (z4.2 + 1)))))))
 (some z4.1))) n z0)
def p_w228q (n : Nat) (x : Ty93) : Option Int :=
(l_w228q_1 n x.1 (x.2,(0 : Int)))
def m_w228q := p_w228q FU
def a_w228q : Ann := (.node .leaf (.node (.node .leaf (.loop [.slot 1 (.int .i64),.slot 5 (.int .i64)] ([4] ++ rg 6 24) .leaf)) .leaf))
def S_w228q : FSpec := ⟨[.val Kd44,.val (.int .i64)],[(.int .i64)],m_w228q⟩
def l_w229q_1 (n : Nat) (x_1 : Ty67) (z0 : (Int × Int)) : Option Int :=
(lp (fun rec10 (z9 : (Int × Int)) =>
 (cond (decide (z9.2 < (lenI x_1)))
 ((geti x_1 z9.2).bind fun y11 =>
 (cond (!(y11.1 == z9.1))
 (some (-1 : Int))
 ((geti x_1 z9.2).bind fun y12 =>
 (cond (!(y12.2.1 == (IntKind.wrap .i64 (z9.1 + 1))))
 (some (-1 : Int))
 ((geti x_1 z9.2).bind fun y13 =>
 (cond (!(y13.2.2.1 == (IntKind.wrap .i64 ((IntKind.wrap .i64 (z9.1 + 1)) + 1))))
 (some (-1 : Int))
 ((geti x_1 z9.2).bind fun y14 =>
 (cond (!(y14.2.2.2.1.1 == (IntKind.wrap .i64 ((IntKind.wrap .i64 ((IntKind.wrap .i64 (z9.1 + 1)) + 1)) + 1))))
 (some (-1 : Int))
 ((geti x_1 z9.2).bind fun y15 =>
 (cond (!(y15.2.2.2.1.2 == (IntKind.wrap .i64 ((IntKind.wrap .i64 ((IntKind.wrap .i64 ((IntKind.wrap .i64 (z9.1 + 1)) + 1)) + 1)) + 1))))
 (some (-1 : Int))
 ((geti x_1 z9.2).bind fun y16 =>
 ((m_w228q (y16.2.2.2.2,IntKind.wrap .i64 ((IntKind.wrap .i64 ((IntKind.wrap .i64 ((IntKind.wrap .i64 ((IntKind.wrap .i64 (z9.1 + 1)) + 1)) + 1)) + 1)) + 1))).bind fun r17 =>
 (cond (decide (r17 < 0))
 (some (-1 : Int))
 (rec10 (r17,IntKind.wrap .i64 (z9.2 + 1))))))))))))))))
 (some z9.1))) n z0)
def p_w229q (n : Nat) (x : Ty59) : Option Int :=
(l_w229q_1 n x.1 (x.2,(0 : Int)))
def m_w229q := p_w229q FU
def a_w229q : Ann := (.node .leaf (.node (.node .leaf (.loop [.slot 1 (.int .i64),.slot 5 (.int .i64)] ([4] ++ rg 6 62) .leaf)) .leaf))
def S_w229q : FSpec := ⟨[.val Kd27,.val (.int .i64)],[(.int .i64)],m_w229q⟩
def l_w230q_1 (n : Nat) (x_1 : Ty63) (z0 : (Int × Int)) : Option Int :=
(lp (fun rec5 (z4 : (Int × Int)) =>
 (cond (decide (z4.2 < (lenI x_1)))
 ((geti x_1 z4.2).bind fun y6 =>
 ((m_w229q (y6,z4.1)).bind fun r7 =>
 (cond (decide (r7 < 0))
 (some (-1 : Int))
 (rec5 (r7,IntKind.wrap .i64 (z4.2 + 1))))))
 (some z4.1))) n z0)
def p_w230q (n : Nat) (x : Ty53) : Option Int :=
(l_w230q_1 n x.1 (x.2,(0 : Int)))
def m_w230q := p_w230q FU
def a_w230q : Ann := (.node .leaf (.node (.node .leaf (.loop [.slot 1 (.int .i64),.slot 5 (.int .i64)] ([4] ++ rg 6 15) .leaf)) .leaf))
def S_w230q : FSpec := ⟨[.val Kd21,.val (.int .i64)],[(.int .i64)],m_w230q⟩
def l_w231q_1 (n : Nat) (x_1 : Ty64) (z0 : (Int × Int)) : Option Int :=
(lp (fun rec11 (z10 : (Int × Int)) =>
 (cond (decide (z10.2 < (lenI x_1)))
 ((geti x_1 z10.2).bind fun y12 =>
 (cond (!(y12.1 == z10.1))
 (some (-1 : Int))
 ((geti x_1 z10.2).bind fun y13 =>
 (cond (!(y13.2.1 == (IntKind.wrap .i64 (z10.1 + 1))))
 (some (-1 : Int))
 ((geti x_1 z10.2).bind fun y14 =>
 (cond (!(y14.2.2.1 == (IntKind.wrap .i64 ((IntKind.wrap .i64 (z10.1 + 1)) + 1))))
 (some (-1 : Int))
 ((geti x_1 z10.2).bind fun y15 =>
 (cond (!(y15.2.2.2.1 == (IntKind.wrap .i64 ((IntKind.wrap .i64 ((IntKind.wrap .i64 (z10.1 + 1)) + 1)) + 1))))
 (some (-1 : Int))
 ((geti x_1 z10.2).bind fun y16 =>
 ((m_w226q (y16.2.2.2.2.1,IntKind.wrap .i64 ((IntKind.wrap .i64 ((IntKind.wrap .i64 ((IntKind.wrap .i64 (z10.1 + 1)) + 1)) + 1)) + 1))).bind fun r17 =>
 (cond (decide (r17 < 0))
 (some (-1 : Int))
 ((geti x_1 z10.2).bind fun y18 =>
 ((m_w228q (y18.2.2.2.2.2,r17)).bind fun r19 =>
 (cond (decide (r19 < 0))
 (some (-1 : Int))
 (rec11 (r19,IntKind.wrap .i64 (z10.2 + 1)))))))))))))))))
 (some z10.1))) n z0)
def p_w231q (n : Nat) (x : Ty54) : Option Int :=
(l_w231q_1 n x.1 (x.2,(0 : Int)))
def m_w231q := p_w231q FU
def a_w231q : Ann := (.node .leaf (.node (.node .leaf (.loop [.slot 1 (.int .i64),.slot 5 (.int .i64)] ([4] ++ rg 6 60) .leaf)) .leaf))
def S_w231q : FSpec := ⟨[.val Kd24,.val (.int .i64)],[(.int .i64)],m_w231q⟩
def l_w232q_1 (n : Nat) (x_1 : Ty82) (z0 : (Int × Int)) : Option Int :=
(lp (fun rec8 (z7 : (Int × Int)) =>
 (cond (decide (z7.2 < (lenI x_1)))
 ((geti x_1 z7.2).bind fun y9 =>
 (cond (!(y9.1 == z7.1))
 (some (-1 : Int))
 ((geti x_1 z7.2).bind fun y10 =>
 (cond (!(y10.2.1 == (IntKind.wrap .i64 (z7.1 + 1))))
 (some (-1 : Int))
 ((geti x_1 z7.2).bind fun y11 =>
 (cond (!(y11.2.2.1 == (IntKind.wrap .i64 ((IntKind.wrap .i64 (z7.1 + 1)) + 1))))
 (some (-1 : Int))
 ((geti x_1 z7.2).bind fun y12 =>
 (cond (!(y12.2.2.2.1 == (IntKind.wrap .i64 ((IntKind.wrap .i64 ((IntKind.wrap .i64 (z7.1 + 1)) + 1)) + 1))))
 (some (-1 : Int))
 ((geti x_1 z7.2).bind fun y13 =>
 (cond (!(y13.2.2.2.2 == (IntKind.wrap .i64 ((IntKind.wrap .i64 ((IntKind.wrap .i64 ((IntKind.wrap .i64 (z7.1 + 1)) + 1)) + 1)) + 1))))
 (some (-1 : Int))
 (rec8 (IntKind.wrap .i64 ((IntKind.wrap .i64 ((IntKind.wrap .i64 ((IntKind.wrap .i64 ((IntKind.wrap .i64 (z7.1 + 1)) + 1)) + 1)) + 1)) + 1),IntKind.wrap .i64 (z7.2 + 1)))))))))))))
 (some z7.1))) n z0)
def p_w232q (n : Nat) (x : Ty76) : Option Int :=
(l_w232q_1 n x.1 (x.2,(0 : Int)))
def m_w232q := p_w232q FU
def a_w232q : Ann := (.node .leaf (.node (.node .leaf (.loop [.slot 1 (.int .i64),.slot 5 (.int .i64)] ([4] ++ rg 6 51) .leaf)) .leaf))
def S_w232q : FSpec := ⟨[.val Kd36,.val (.int .i64)],[(.int .i64)],m_w232q⟩
def l_w233q_1 (n : Nat) (x_1 : Ty41) (z0 : (Int × Int)) : Option Int :=
(lp (fun rec8 (z7 : (Int × Int)) =>
 (cond (decide (z7.2 < (lenI x_1)))
 ((geti x_1 z7.2).bind fun y9 =>
 (cond (!(y9.1 == z7.1))
 (some (-1 : Int))
 ((geti x_1 z7.2).bind fun y10 =>
 ((m_w231q (y10.2.1,IntKind.wrap .i64 (z7.1 + 1))).bind fun r11 =>
 (cond (decide (r11 < 0))
 (some (-1 : Int))
 ((geti x_1 z7.2).bind fun y12 =>
 ((m_w232q (y12.2.2,r11)).bind fun r13 =>
 (cond (decide (r13 < 0))
 (some (-1 : Int))
 (rec8 (r13,IntKind.wrap .i64 (z7.2 + 1)))))))))))
 (some z7.1))) n z0)
def p_w233q (n : Nat) (x : Ty34) : Option Int :=
(l_w233q_1 n x.1 (x.2,(0 : Int)))
def m_w233q := p_w233q FU
def a_w233q : Ann := (.node .leaf (.node (.node .leaf (.loop [.slot 1 (.int .i64),.slot 5 (.int .i64)] ([4] ++ rg 6 33) .leaf)) .leaf))
def S_w233q : FSpec := ⟨[.val Kd13,.val (.int .i64)],[(.int .i64)],m_w233q⟩
def l_w234q_1 (n : Nat) (x_1 : Ty58) (z0 : (Int × Int)) : Option Int :=
(lp (fun rec12 (z11 : (Int × Int)) =>
 (cond (decide (z11.2 < (lenI x_1)))
 ((geti x_1 z11.2).bind fun y13 =>
 (cond (!(y13.1 == z11.1))
 (some (-1 : Int))
 ((geti x_1 z11.2).bind fun y14 =>
 (cond (!(y14.2.1 == (IntKind.wrap .i64 (z11.1 + 1))))
 (some (-1 : Int))
 ((geti x_1 z11.2).bind fun y15 =>
 (cond (!(y15.2.2.1 == (IntKind.wrap .i64 ((IntKind.wrap .i64 (z11.1 + 1)) + 1))))
 (some (-1 : Int))
 ((geti x_1 z11.2).bind fun y16 =>
 (cond (!(y16.2.2.2.1 == (IntKind.wrap .i64 ((IntKind.wrap .i64 ((IntKind.wrap .i64 (z11.1 + 1)) + 1)) + 1))))
 (some (-1 : Int))
 ((geti x_1 z11.2).bind fun y17 =>
 (cond (!(y17.2.2.2.2.1 == (IntKind.wrap .i64 ((IntKind.wrap .i64 ((IntKind.wrap .i64 ((IntKind.wrap .i64 (z11.1 + 1)) + 1)) + 1)) + 1))))
 (some (-1 : Int))
 ((geti x_1 z11.2).bind fun y18 =>
 (cond (!(y18.2.2.2.2.2.1 == (IntKind.wrap .i64 ((IntKind.wrap .i64 ((IntKind.wrap .i64 ((IntKind.wrap .i64 ((IntKind.wrap .i64 (z11.1 + 1)) + 1)) + 1)) + 1)) + 1))))
 (some (-1 : Int))
 ((geti x_1 z11.2).bind fun y19 =>
 (cond (!(y19.2.2.2.2.2.2.1 == (IntKind.wrap .i64 ((IntKind.wrap .i64 ((IntKind.wrap .i64 ((IntKind.wrap .i64 ((IntKind.wrap .i64 ((IntKind.wrap .i64 (z11.1 + 1)) + 1)) + 1)) + 1)) + 1)) + 1))))
 (some (-1 : Int))
 ((geti x_1 z11.2).bind fun y20 =>
 (cond (!(y20.2.2.2.2.2.2.2.1 == (IntKind.wrap .i64 ((IntKind.wrap .i64 ((IntKind.wrap .i64 ((IntKind.wrap .i64 ((IntKind.wrap .i64 ((IntKind.wrap .i64 ((IntKind.wrap .i64 (z11.1 + 1)) + 1)) + 1)) + 1)) + 1)) + 1)) + 1))))
 (some (-1 : Int))
 ((geti x_1 z11.2).bind fun y21 =>
 (cond (!(y21.2.2.2.2.2.2.2.2 == (IntKind.wrap .i64 ((IntKind.wrap .i64 ((IntKind.wrap .i64 ((IntKind.wrap .i64 ((IntKind.wrap .i64 ((IntKind.wrap .i64 ((IntKind.wrap .i64 ((IntKind.wrap .i64 (z11.1 + 1)) + 1)) + 1)) + 1)) + 1)) + 1)) + 1)) + 1))))
 (some (-1 : Int))
 (rec12 (IntKind.wrap .i64 ((IntKind.wrap .i64 ((IntKind.wrap .i64 ((IntKind.wrap .i64 ((IntKind.wrap .i64 ((IntKind.wrap .i64 ((IntKind.wrap .i64 ((IntKind.wrap .i64 ((IntKind.wrap .i64 (z11.1 + 1)) + 1)) + 1)) + 1)) + 1)) + 1)) + 1)) + 1)) + 1),IntKind.wrap .i64 (z11.2 + 1)))))))))))))))))))))
 (some z11.1))) n z0)
def p_w234q (n : Nat) (x : Ty50) : Option Int :=
(l_w234q_1 n x.1 (x.2,(0 : Int)))
def m_w234q := p_w234q FU
def a_w234q : Ann := (.node .leaf (.node (.node .leaf (.loop [.slot 1 (.int .i64),.slot 5 (.int .i64)] ([4] ++ rg 6 89) .leaf)) .leaf))
def S_w234q : FSpec := ⟨[.val Kd17,.val (.int .i64)],[(.int .i64)],m_w234q⟩
def p_w235q (_ : Nat) (x : Ty13) : Option Int :=
((m_w223q (x.1.1,x.2)).bind fun r1 =>
(cond (decide (r1 < 0))
 (some (-1 : Int))
 ((m_w227q (x.1.2.1,r1)).bind fun r2 =>
 (cond (decide (r2 < 0))
 (some (-1 : Int))
 ((m_w230q (x.1.2.2.1,r2)).bind fun r3 =>
 (cond (decide (r3 < 0))
 (some (-1 : Int))
 ((m_w233q (x.1.2.2.2.1,r3)).bind fun r4 =>
 (cond (decide (r4 < 0))
 (some (-1 : Int))
 ((m_w234q (x.1.2.2.2.2,r4)).bind fun r5 =>
 (cond (decide (r5 < 0))
 (some (-1 : Int))
 (some r5)))))))))))
def m_w235q := p_w235q FU
def a_w235q : Ann := .leaf
def S_w235q : FSpec := ⟨[.val Kd6,.val (.int .i64)],[(.int .i64)],m_w235q⟩
def p_w236q (_ : Nat) (x : Ty12) : Option Int :=
((m_w235q (x.1.2,x.2)).bind fun r1 =>
(cond (decide (r1 < 0))
 (some (-1 : Int))
 (some r1)))
def m_w236q := p_w236q FU
def a_w236q : Ann := .leaf
def S_w236q : FSpec := ⟨[.val Kd5,.val (.int .i64)],[(.int .i64)],m_w236q⟩
def p_w237q (_ : Nat) (x : Ty13) : Option Bool :=
((m_w19q (x.1,(1048576 : Int))).bind fun r1 =>
(cond (decide (r1 < 0))
 (some true)
 ((m_w45q x.1).bind fun r2 =>
 ((m_w95q (r2,x.2)).bind fun r3 =>
 ((m_w45q x.1).bind fun r4 =>
 ((m_w181q (r4,x.2)).bind fun r5 =>
 ((m_w208q (r5,r3)).bind fun r6 =>
 (cond (!r6)
 (some false)
 ((m_w45q x.1).bind fun r7 =>
 ((m_w207q (r4,r7)).bind fun r8 =>
 (cond (!r8)
 (some false)
 ((m_w210q (r4.1,(1 : Int))).bind fun r9 =>
 ((m_w214q (r4.2.1,r9.1)).bind fun r10 =>
 ((m_w217q (r4.2.2.1,r10.1)).bind fun r11 =>
 ((m_w220q (r4.2.2.2.1,r11.1)).bind fun r12 =>
 ((m_w221q (r4.2.2.2.2,r12.1)).bind fun r13 =>
 (Option.bind (α := Bool)
 (cond (decide (r13.1 < 0))
 (some true)
 ((m_w208q (r5,r3)).bind fun r15 =>
 some (!r15))) fun j16 =>
 (cond j16
 (some false)
 ((m_w210q (r5.2.1,(1 : Int))).bind fun r17 =>
 ((m_w214q (r5.2.2.1,r17.1)).bind fun r18 =>
 ((m_w217q (r5.2.2.2.1,r18.1)).bind fun r19 =>
 ((m_w220q (r5.2.2.2.2.1,r19.1)).bind fun r20 =>
 ((m_w221q (r5.2.2.2.2.2,r20.1)).bind fun r21 =>
 ((m_w236q ((r5.1,(r17.2,(r18.2,(r19.2,(r20.2,r21.2))))),(1 : Int))).bind fun r22 =>
 (cond (decide (r22 < 0))
 (some false)
 (cond (!(r22 == r21.1))
 (some false)
 ((m_w45q x.1).bind fun r23 =>
 ((m_w181q (r23,x.2)).bind fun r24 =>
 ((m_w208q (r24,r3)).bind fun r25 =>
 (cond (!r25)
 (some false)
 ((m_w236q ((r5.1,(r17.2,(r18.2,(r19.2,(r20.2,r21.2))))),(1 : Int))).bind fun r26 =>
 (cond (decide (r26 < 0))
 (some false)
 (cond (!(r26 == r21.1))
 (some false)
 (some true))))))))))))))))))))))))))))))))))
def m_w237q := p_w237q FU
def a_w237q : Ann := (.node .leaf (.node .leaf (.node .leaf (.node .leaf (.node .leaf (.node .leaf (.node .leaf (.node .leaf (.node .leaf (.node .leaf (.node .leaf (.node (.join [.slot 46 .bool] (rg 39 7) .leaf .leaf) .leaf))))))))))))
def S_w237q : FSpec := ⟨[.val Kd6,.val (.int .i64)],[.bool],m_w237q⟩
def T : Tab := [
 (2,⟨false,1,8,[],0,[.int .i64 0],some (.int .i64),[0]⟩),
 (3,⟨false,1,8,[],0,[.int .i64 0],some (.int .i64),[0]⟩),
 (25,⟨false,1,24,[],2,[.nil],some Kd47,[]⟩),
 (43,⟨false,1,24,[],190,[.nil],some Kd32,[]⟩),
 (44,⟨false,1,24,[],195,[.nil],some Kd9,[]⟩),
 (45,⟨false,1,24,[],199,[.nil],some Kd21,[]⟩),
 (46,⟨false,1,24,[],204,[.nil],some Kd13,[]⟩),
 (47,⟨false,1,24,[],227,[.nil],some Kd17,[]⟩),
 (49,⟨true,5,120,[(0,1,43),(1,1,44),(2,1,45),(3,1,46),(4,1,47)],0,[.nil,.nil,.nil,.nil,.nil],some Kd6,[]⟩),
 (52,⟨false,1,24,[],71,[.nil],some Kd32,[]⟩),
 (53,⟨false,1,24,[],131,[.nil],some Kd9,[]⟩),
 (54,⟨false,1,24,[],135,[.nil],some Kd21,[]⟩),
 (55,⟨false,1,24,[],143,[.nil],some Kd13,[]⟩),
 (56,⟨false,1,24,[],120,[.nil],some Kd17,[]⟩),
 (58,⟨true,5,120,[(0,1,52),(1,1,53),(2,1,54),(3,1,55),(4,1,56)],0,[.nil,.nil,.nil,.nil,.nil],some Kd6,[]⟩),
 (63,⟨true,6,128,[(0,1,2),(1,5,58)],0,[.int .i64 0,.nil,.nil,.nil,.nil,.nil],some Kd5,[]⟩),
 (69,⟨false,1,24,[],173,[.nil],some Kd39,[]⟩),
 (71,⟨true,2,32,[(0,1,2),(1,1,69)],0,[.int .i64 0,.nil],some Kd35,[]⟩),
 (115,⟨false,1,8,[],0,[.pnil],none,[]⟩),
 (118,⟨true,2,16,[(0,1,2),(1,1,2)],0,[.int .i64 0,.int .i64 0],some Kd45,[0,0]⟩),
 (120,⟨true,9,72,[(0,1,2),(1,1,2),(2,1,2),(3,1,2),(4,1,2),(5,1,2),(6,1,2),(7,2,118)],0,[.int .i64 0,.int .i64 0,.int .i64 0,.int .i64 0,.int .i64 0,.int .i64 0,.int .i64 0,.int .i64 0,.int .i64 0],some Kd22,[0,0,0,0,0,0,0,0,0]⟩),
 (128,⟨false,1,24,[],341,[.nil],some Kd42,[]⟩),
 (129,⟨false,1,24,[],208,[.nil],some Kd44,[]⟩),
 (131,⟨true,6,128,[(0,1,2),(1,1,128),(2,1,129),(3,1,52),(4,1,129),(5,1,25)],0,[.int .i64 0,.nil,.nil,.nil,.nil,.nil],some Kd10,[]⟩),
 (133,⟨false,1,24,[],211,[.nil],some Kd27,[]⟩),
 (135,⟨true,1,24,[(0,1,133)],0,[.nil],some Kd26,[]⟩),
 (140,⟨false,1,24,[],264,[.nil],some Kd24,[]⟩),
 (141,⟨false,1,24,[],214,[.nil],some Kd36,[]⟩),
 (143,⟨true,3,56,[(0,1,2),(1,1,140),(2,1,141)],0,[.int .i64 0,.nil,.nil],some Kd14,[]⟩),
 (173,⟨true,4,32,[(0,1,2),(1,1,2),(2,1,2),(3,1,2)],0,[.int .i64 0,.int .i64 0,.int .i64 0,.int .i64 0],some Kd40,[0,0,0,0]⟩),
 (183,⟨false,1,8,[],0,[.int .u64 0],some (.int .u64),[0]⟩),
 (188,⟨false,1,24,[],380,[.nil],some Kd39,[]⟩),
 (190,⟨true,2,32,[(0,1,2),(1,1,188)],0,[.int .i64 0,.nil],some Kd35,[]⟩),
 (192,⟨false,1,24,[],382,[.nil],some Kd42,[]⟩),
 (193,⟨false,1,24,[],384,[.nil],some Kd44,[]⟩),
 (195,⟨true,6,128,[(0,1,2),(1,1,192),(2,1,193),(3,1,43),(4,1,193),(5,1,25)],0,[.int .i64 0,.nil,.nil,.nil,.nil,.nil],some Kd10,[]⟩),
 (197,⟨false,1,24,[],370,[.nil],some Kd27,[]⟩),
 (199,⟨true,1,24,[(0,1,197)],0,[.nil],some Kd26,[]⟩),
 (201,⟨false,1,24,[],373,[.nil],some Kd24,[]⟩),
 (202,⟨false,1,24,[],388,[.nil],some Kd36,[]⟩),
 (204,⟨true,3,56,[(0,1,2),(1,1,201),(2,1,202)],0,[.int .i64 0,.nil,.nil],some Kd14,[]⟩),
 (208,⟨true,2,16,[(0,1,2),(1,1,2)],0,[.int .i64 0,.int .i64 0],some Kd45,[0,0]⟩),
 (209,⟨false,1,24,[],118,[.nil],some Kd44,[]⟩),
 (211,⟨true,6,64,[(0,1,2),(1,1,2),(2,1,2),(3,2,118),(5,1,209)],0,[.int .i64 0,.int .i64 0,.int .i64 0,.int .i64 0,.int .i64 0,.nil],some Kd30,[]⟩),
 (214,⟨true,5,40,[(0,1,2),(1,1,2),(2,1,2),(3,1,2),(4,1,2)],0,[.int .i64 0,.int .i64 0,.int .i64 0,.int .i64 0,.int .i64 0],some Kd37,[0,0,0,0,0]⟩),
 (225,⟨true,2,16,[(0,1,2),(1,1,2)],0,[.int .i64 0,.int .i64 0],some Kd45,[0,0]⟩),
 (227,⟨true,9,72,[(0,1,2),(1,1,2),(2,1,2),(3,1,2),(4,1,2),(5,1,2),(6,1,2),(7,2,225)],0,[.int .i64 0,.int .i64 0,.int .i64 0,.int .i64 0,.int .i64 0,.int .i64 0,.int .i64 0,.int .i64 0,.int .i64 0],some Kd22,[0,0,0,0,0,0,0,0,0]⟩),
 (264,⟨true,6,80,[(0,1,2),(1,1,2),(2,1,2),(3,1,2),(4,1,25),(5,1,209)],0,[.int .i64 0,.int .i64 0,.int .i64 0,.int .i64 0,.nil,.nil],some Kd28,[]⟩),
 (272,⟨false,1,8,[(2,0,2)],0,[.undef],none,[]⟩),
 (341,⟨true,3,24,[(0,1,2),(1,1,2),(2,1,2)],0,[.int .i64 0,.int .i64 0,.int .i64 0],some Kd43,[0,0,0]⟩),
 (365,⟨false,1,24,[],3,[.nil],some Kd47,[]⟩),
 (368,⟨false,1,24,[],225,[.nil],some Kd44,[]⟩),
 (370,⟨true,6,64,[(0,1,2),(1,1,2),(2,1,2),(3,2,225),(5,1,368)],0,[.int .i64 0,.int .i64 0,.int .i64 0,.int .i64 0,.int .i64 0,.nil],some Kd30,[]⟩),
 (373,⟨true,6,80,[(0,1,2),(1,1,2),(2,1,2),(3,1,2),(4,1,25),(5,1,368)],0,[.int .i64 0,.int .i64 0,.int .i64 0,.int .i64 0,.nil,.nil],some Kd28,[]⟩),
 (380,⟨true,4,32,[(0,1,2),(1,1,2),(2,1,2),(3,1,2)],0,[.int .i64 0,.int .i64 0,.int .i64 0,.int .i64 0],some Kd40,[0,0,0,0]⟩),
 (382,⟨true,3,24,[(0,1,2),(1,1,2),(2,1,2)],0,[.int .i64 0,.int .i64 0,.int .i64 0],some Kd43,[0,0,0]⟩),
 (384,⟨true,2,16,[(0,1,2),(1,1,2)],0,[.int .i64 0,.int .i64 0],some Kd45,[0,0]⟩),
 (388,⟨true,5,40,[(0,1,2),(1,1,2),(2,1,2),(3,1,2),(4,1,2)],0,[.int .i64 0,.int .i64 0,.int .i64 0,.int .i64 0,.int .i64 0],some Kd37,[0,0,0,0,0]⟩)]
def G_w0q : Env := (256,S_w0q) :: []
def G_w1q : Env := (151,S_w1q) :: G_w0q
def G_w2q : Env := (65,S_w2q) :: G_w1q
def G_w3q : Env := (257,S_w3q) :: G_w2q
def G_w4q : Env := (258,S_w4q) :: G_w3q
def G_w5q : Env := (259,S_w5q) :: G_w4q
def G_w6q : Env := (152,S_w6q) :: G_w5q
def G_w7q : Env := (66,S_w7q) :: G_w6q
def G_w8q : Env := (419,S_w8q) :: G_w7q
def G_w9q : Env := (350,S_w9q) :: G_w8q
def G_w10q : Env := (260,S_w10q) :: G_w9q
def G_w11q : Env := (153,S_w11q) :: G_w10q
def G_w12q : Env := (67,S_w12q) :: G_w11q
def G_w13q : Env := (351,S_w13q) :: G_w12q
def G_w14q : Env := (261,S_w14q) :: G_w13q
def G_w15q : Env := (262,S_w15q) :: G_w14q
def G_w16q : Env := (154,S_w16q) :: G_w15q
def G_w17q : Env := (68,S_w17q) :: G_w16q
def G_w18q : Env := (69,S_w18q) :: G_w17q
def G_w19q : Env := (18,S_w19q) :: G_w18q
def G_w20q : Env := (360,S_w20q) :: G_w19q
def G_w21q : Env := (268,S_w21q) :: G_w20q
def G_w22q : Env := (166,S_w22q) :: G_w21q
def G_w23q : Env := (75,S_w23q) :: G_w22q
def G_w24q : Env := (361,S_w24q) :: G_w23q
def G_w25q : Env := (269,S_w25q) :: G_w24q
def G_w26q : Env := (362,S_w26q) :: G_w25q
def G_w27q : Env := (270,S_w27q) :: G_w26q
def G_w28q : Env := (271,S_w28q) :: G_w27q
def G_w29q : Env := (167,S_w29q) :: G_w28q
def G_w30q : Env := (76,S_w30q) :: G_w29q
def G_w31q : Env := (275,S_w31q) :: G_w30q
def G_w32q : Env := (422,S_w32q) :: G_w31q
def G_w33q : Env := (363,S_w33q) :: G_w32q
def G_w34q : Env := (272,S_w34q) :: G_w33q
def G_w35q : Env := (168,S_w35q) :: G_w34q
def G_w36q : Env := (77,S_w36q) :: G_w35q
def G_w37q : Env := (364,S_w37q) :: G_w36q
def G_w38q : Env := (273,S_w38q) :: G_w37q
def G_w39q : Env := (365,S_w39q) :: G_w38q
def G_w40q : Env := (274,S_w40q) :: G_w39q
def G_w41q : Env := (169,S_w41q) :: G_w40q
def G_w42q : Env := (78,S_w42q) :: G_w41q
def G_w43q : Env := (170,S_w43q) :: G_w42q
def G_w44q : Env := (79,S_w44q) :: G_w43q
def G_w45q : Env := (20,S_w45q) :: G_w44q
def G_w46q : Env := (98,S_w46q) :: G_w45q
def G_w47q : Env := (136,S_w47q) :: G_w46q
def G_w48q : Env := (221,S_w48q) :: G_w47q
def G_w49q : Env := (116,S_w49q) :: G_w48q
def G_w50q : Env := (46,S_w50q) :: G_w49q
def G_w51q : Env := (117,S_w51q) :: G_w50q
def G_w52q : Env := (70,S_w52q) :: G_w51q
def G_w53q : Env := (420,S_w53q) :: G_w52q
def G_w54q : Env := (352,S_w54q) :: G_w53q
def G_w55q : Env := (263,S_w55q) :: G_w54q
def G_w56q : Env := (264,S_w56q) :: G_w55q
def G_w57q : Env := (353,S_w57q) :: G_w56q
def G_w58q : Env := (354,S_w58q) :: G_w57q
def G_w59q : Env := (355,S_w59q) :: G_w58q
def G_w60q : Env := (43,S_w60q) :: G_w59q
def G_w61q : Env := (356,S_w61q) :: G_w60q
def G_w62q : Env := (357,S_w62q) :: G_w61q
def G_w63q : Env := (421,S_w63q) :: G_w62q
def G_w64q : Env := (358,S_w64q) :: G_w63q
def G_w65q : Env := (265,S_w65q) :: G_w64q
def G_w66q : Env := (155,S_w66q) :: G_w65q
def G_w67q : Env := (118,S_w67q) :: G_w66q
def G_w68q : Env := (156,S_w68q) :: G_w67q
def G_w69q : Env := (119,S_w69q) :: G_w68q
def G_w70q : Env := (71,S_w70q) :: G_w69q
def G_w71q : Env := (159,S_w71q) :: G_w70q
def G_w72q : Env := (160,S_w72q) :: G_w71q
def G_w73q : Env := (163,S_w73q) :: G_w72q
def G_w74q : Env := (359,S_w74q) :: G_w73q
def G_w75q : Env := (266,S_w75q) :: G_w74q
def G_w76q : Env := (267,S_w76q) :: G_w75q
def G_w77q : Env := (157,S_w77q) :: G_w76q
def G_w78q : Env := (72,S_w78q) :: G_w77q
def G_w79q : Env := (164,S_w79q) :: G_w78q
def G_w80q : Env := (158,S_w80q) :: G_w79q
def G_w81q : Env := (161,S_w81q) :: G_w80q
def G_w82q : Env := (73,S_w82q) :: G_w81q
def G_w83q : Env := (162,S_w83q) :: G_w82q
def G_w84q : Env := (165,S_w84q) :: G_w83q
def G_w85q : Env := (74,S_w85q) :: G_w84q
def G_w86q : Env := (19,S_w86q) :: G_w85q
def G_w87q : Env := (97,S_w87q) :: G_w86q
def G_w88q : Env := (388,S_w88q) :: G_w87q
def G_w89q : Env := (310,S_w89q) :: G_w88q
def G_w90q : Env := (192,S_w90q) :: G_w89q
def G_w91q : Env := (112,S_w91q) :: G_w90q
def G_w92q : Env := (193,S_w92q) :: G_w91q
def G_w93q : Env := (194,S_w93q) :: G_w92q
def G_w94q : Env := (99,S_w94q) :: G_w93q
def G_w95q : Env := (23,S_w95q) :: G_w94q
def G_w96q : Env := (81,S_w96q) :: G_w95q
def G_w97q : Env := (80,S_w97q) :: G_w96q
def G_w98q : Env := (82,S_w98q) :: G_w97q
def G_w99q : Env := (63,S_w99q) :: G_w98q
def G_w100q : Env := (222,S_w100q) :: G_w99q
def G_w101q : Env := (278,S_w101q) :: G_w100q
def G_w102q : Env := (414,S_w102q) :: G_w101q
def G_w103q : Env := (336,S_w103q) :: G_w102q
def G_w104q : Env := (223,S_w104q) :: G_w103q
def G_w105q : Env := (226,S_w105q) :: G_w104q
def G_w106q : Env := (122,S_w106q) :: G_w105q
def G_w107q : Env := (277,S_w107q) :: G_w106q
def G_w108q : Env := (171,S_w108q) :: G_w107q
def G_w109q : Env := (83,S_w109q) :: G_w108q
def G_w110q : Env := (335,S_w110q) :: G_w109q
def G_w111q : Env := (218,S_w111q) :: G_w110q
def G_w112q : Env := (251,S_w112q) :: G_w111q
def G_w113q : Env := (366,S_w113q) :: G_w112q
def G_w114q : Env := (279,S_w114q) :: G_w113q
def G_w115q : Env := (281,S_w115q) :: G_w114q
def G_w116q : Env := (282,S_w116q) :: G_w115q
def G_w117q : Env := (287,S_w117q) :: G_w116q
def G_w118q : Env := (459,S_w118q) :: G_w117q
def G_w119q : Env := (423,S_w119q) :: G_w118q
def G_w120q : Env := (367,S_w120q) :: G_w119q
def G_w121q : Env := (283,S_w121q) :: G_w120q
def G_w122q : Env := (57,S_w122q) :: G_w121q
def G_w123q : Env := (425,S_w123q) :: G_w122q
def G_w124q : Env := (368,S_w124q) :: G_w123q
def G_w125q : Env := (284,S_w125q) :: G_w124q
def G_w126q : Env := (370,S_w126q) :: G_w125q
def G_w127q : Env := (369,S_w127q) :: G_w126q
def G_w128q : Env := (285,S_w128q) :: G_w127q
def G_w129q : Env := (374,S_w129q) :: G_w128q
def G_w130q : Env := (461,S_w130q) :: G_w129q
def G_w131q : Env := (430,S_w131q) :: G_w130q
def G_w132q : Env := (375,S_w132q) :: G_w131q
def G_w133q : Env := (286,S_w133q) :: G_w132q
def G_w134q : Env := (172,S_w134q) :: G_w133q
def G_w135q : Env := (176,S_w135q) :: G_w134q
def G_w136q : Env := (174,S_w136q) :: G_w135q
def G_w137q : Env := (291,S_w137q) :: G_w136q
def G_w138q : Env := (177,S_w138q) :: G_w137q
def G_w139q : Env := (84,S_w139q) :: G_w138q
def G_w140q : Env := (297,S_w140q) :: G_w139q
def G_w141q : Env := (301,S_w141q) :: G_w140q
def G_w142q : Env := (376,S_w142q) :: G_w141q
def G_w143q : Env := (300,S_w143q) :: G_w142q
def G_w144q : Env := (377,S_w144q) :: G_w143q
def G_w145q : Env := (292,S_w145q) :: G_w144q
def G_w146q : Env := (293,S_w146q) :: G_w145q
def G_w147q : Env := (178,S_w147q) :: G_w146q
def G_w148q : Env := (86,S_w148q) :: G_w147q
def G_w149q : Env := (295,S_w149q) :: G_w148q
def G_w150q : Env := (298,S_w150q) :: G_w149q
def G_w151q : Env := (379,S_w151q) :: G_w150q
def G_w152q : Env := (338,S_w152q) :: G_w151q
def G_w153q : Env := (228,S_w153q) :: G_w152q
def G_w154q : Env := (296,S_w154q) :: G_w153q
def G_w155q : Env := (181,S_w155q) :: G_w154q
def G_w156q : Env := (299,S_w156q) :: G_w155q
def G_w157q : Env := (182,S_w157q) :: G_w156q
def G_w158q : Env := (88,S_w158q) :: G_w157q
def G_w159q : Env := (312,S_w159q) :: G_w158q
def G_w160q : Env := (196,S_w160q) :: G_w159q
def G_w161q : Env := (183,S_w161q) :: G_w160q
def G_w162q : Env := (184,S_w162q) :: G_w161q
def G_w163q : Env := (185,S_w163q) :: G_w162q
def G_w164q : Env := (186,S_w164q) :: G_w163q
def G_w165q : Env := (91,S_w165q) :: G_w164q
def G_w166q : Env := (21,S_w166q) :: G_w165q
def G_w167q : Env := (333,S_w167q) :: G_w166q
def G_w168q : Env := (215,S_w168q) :: G_w167q
def G_w169q : Env := (389,S_w169q) :: G_w168q
def G_w170q : Env := (393,S_w170q) :: G_w169q
def G_w171q : Env := (462,S_w171q) :: G_w170q
def G_w172q : Env := (433,S_w172q) :: G_w171q
def G_w173q : Env := (390,S_w173q) :: G_w172q
def G_w174q : Env := (391,S_w174q) :: G_w173q
def G_w175q : Env := (434,S_w175q) :: G_w174q
def G_w176q : Env := (435,S_w176q) :: G_w175q
def G_w177q : Env := (231,S_w177q) :: G_w176q
def G_w178q : Env := (392,S_w178q) :: G_w177q
def G_w179q : Env := (394,S_w179q) :: G_w178q
def G_w180q : Env := (311,S_w180q) :: G_w179q
def G_w181q : Env := (24,S_w181q) :: G_w180q
def G_w182q : Env := (382,S_w182q) :: G_w181q
def G_w183q : Env := (302,S_w183q) :: G_w182q
def G_w184q : Env := (187,S_w184q) :: G_w183q
def G_w185q : Env := (92,S_w185q) :: G_w184q
def G_w186q : Env := (383,S_w186q) :: G_w185q
def G_w187q : Env := (303,S_w187q) :: G_w186q
def G_w188q : Env := (384,S_w188q) :: G_w187q
def G_w189q : Env := (304,S_w189q) :: G_w188q
def G_w190q : Env := (305,S_w190q) :: G_w189q
def G_w191q : Env := (188,S_w191q) :: G_w190q
def G_w192q : Env := (93,S_w192q) :: G_w191q
def G_w193q : Env := (309,S_w193q) :: G_w192q
def G_w194q : Env := (432,S_w194q) :: G_w193q
def G_w195q : Env := (385,S_w195q) :: G_w194q
def G_w196q : Env := (306,S_w196q) :: G_w195q
def G_w197q : Env := (189,S_w197q) :: G_w196q
def G_w198q : Env := (94,S_w198q) :: G_w197q
def G_w199q : Env := (386,S_w199q) :: G_w198q
def G_w200q : Env := (307,S_w200q) :: G_w199q
def G_w201q : Env := (387,S_w201q) :: G_w200q
def G_w202q : Env := (308,S_w202q) :: G_w201q
def G_w203q : Env := (190,S_w203q) :: G_w202q
def G_w204q : Env := (95,S_w204q) :: G_w203q
def G_w205q : Env := (191,S_w205q) :: G_w204q
def G_w206q : Env := (96,S_w206q) :: G_w205q
def G_w207q : Env := (22,S_w207q) :: G_w206q
def G_w208q : Env := (25,S_w208q) :: G_w207q
def G_w209q : Env := (197,S_w209q) :: G_w208q
def G_w210q : Env := (103,S_w210q) :: G_w209q
def G_w211q : Env := (198,S_w211q) :: G_w210q
def G_w212q : Env := (199,S_w212q) :: G_w211q
def G_w213q : Env := (200,S_w213q) :: G_w212q
def G_w214q : Env := (104,S_w214q) :: G_w213q
def G_w215q : Env := (313,S_w215q) :: G_w214q
def G_w216q : Env := (201,S_w216q) :: G_w215q
def G_w217q : Env := (105,S_w217q) :: G_w216q
def G_w218q : Env := (202,S_w218q) :: G_w217q
def G_w219q : Env := (203,S_w219q) :: G_w218q
def G_w220q : Env := (106,S_w220q) :: G_w219q
def G_w221q : Env := (107,S_w221q) :: G_w220q
def G_w222q : Env := (314,S_w222q) :: G_w221q
def G_w223q : Env := (204,S_w223q) :: G_w222q
def G_w224q : Env := (315,S_w224q) :: G_w223q
def G_w225q : Env := (316,S_w225q) :: G_w224q
def G_w226q : Env := (317,S_w226q) :: G_w225q
def G_w227q : Env := (205,S_w227q) :: G_w226q
def G_w228q : Env := (395,S_w228q) :: G_w227q
def G_w229q : Env := (318,S_w229q) :: G_w228q
def G_w230q : Env := (206,S_w230q) :: G_w229q
def G_w231q : Env := (319,S_w231q) :: G_w230q
def G_w232q : Env := (320,S_w232q) :: G_w231q
def G_w233q : Env := (207,S_w233q) :: G_w232q
def G_w234q : Env := (208,S_w234q) :: G_w233q
def G_w235q : Env := (108,S_w235q) :: G_w234q
def G_w236q : Env := (28,S_w236q) :: G_w235q
def G_w237q : Env := (6,S_w237q) :: G_w236q
end
end Go.RvP
