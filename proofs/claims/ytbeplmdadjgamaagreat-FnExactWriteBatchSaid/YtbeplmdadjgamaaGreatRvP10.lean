/- The plain functions that the evaluator comes to, for FnExactWriteBatch. No condition. -/
import Derived.Test.YtbeplmdadjgamaaGreatRvL
import Derived.Test.YtbeplmdadjgamaaGreatRvS7
namespace Go.RvP
open Go Go.Rv
noncomputable section
abbrev Kd20 : Kd := (.sl (some 5) (.int .u8))
abbrev Kd19 : Kd := (.pair .str (.pair .str .bool))
abbrev Kd18 : Kd := (.sl none Kd19)
abbrev Kd17 : Kd := (.pair (.int .i64) Kd20)
abbrev Kd16 : Kd := (.sl (some 99) Kd19)
abbrev Kd15 : Kd := (.pair .str (.pair (.int .i64) (.pair .str .bool)))
abbrev Kd14 : Kd := (.pair (.sl none (.int .u8)) (.sl none (.int .u8)))
abbrev Kd13 : Kd := (.pair Kd20 Kd20)
abbrev Kd12 : Kd := (.sl none Kd15)
abbrev Kd11 : Kd := (.sl (some 78) Kd15)
abbrev Kd10 : Kd := (.sl none Kd12)
abbrev Kd9 : Kd := (.pair (.int .i64) Kd13)
abbrev Kd8 : Kd := (.pair (.int .i64) (.pair (.int .i64) (.sl (some 43) Kd20)))
abbrev Kd7 : Kd := (.sl (some 53) Kd11)
abbrev Kd6 : Kd := (.pair Kd14 (.pair Kd12 (.pair Kd10 (.int .i64))))
abbrev Kd5 : Kd := (.pair Kd13 (.pair Kd12 (.pair (.sl (some 53) Kd12) (.int .i64))))
abbrev Kd4 : Kd := (.pair Kd13 (.pair Kd11 (.pair (.sl (some 53) Kd12) (.int .i64))))
abbrev Kd3 : Kd := (.pair Kd13 (.pair Kd11 (.pair Kd7 (.int .i64))))
abbrev Kd2 : Kd := (.pair (.int .i64) (.pair (.int .i64) Kd6))
abbrev Kd1 : Kd := (.pair (.int .i64) (.pair (.int .i64) Kd3))
/-! laws.szByteS -/
def p_laws_szByteS (n : Nat) (x : ((List Int) × Int)) : Option Int :=
(cond (decide ((IntKind.wrap .i64 (x.2 - (lenI x.1))) < (0 : Int)))
 (some (-1 : Int))
 (some (IntKind.wrap .i64 (x.2 - (lenI x.1)))))
def m_laws_szByteS (x : ((List Int) × Int)) : Option Int := p_laws_szByteS FU x
def a_laws_szByteS : Ann := .leaf
def S_laws_szByteS : FSpec := ⟨[.val (.sl none (.int .u8)), .val (.int .i64)], [(.int .i64)], m_laws_szByteS⟩

/-! laws.szLog -/
def p_laws_szLog (n : Nat) (x : (((List Int) × (List Int)) × Int)) : Option Int :=
((m_laws_szByteS (x.1.1, x.2)).bind fun r1 =>
(cond (decide (r1 < (0 : Int)))
 (some (-1 : Int))
 ((m_laws_szByteS (x.1.2, r1)).bind fun r2 =>
 (cond (decide (r2 < (0 : Int)))
  (some (-1 : Int))
  (some r2)))))
def m_laws_szLog (x : (((List Int) × (List Int)) × Int)) : Option Int := p_laws_szLog FU x
def a_laws_szLog : Ann := .leaf
def S_laws_szLog : FSpec := ⟨[.val Kd14, .val (.int .i64)], [(.int .i64)], m_laws_szLog⟩

/-! laws.szRow -/
def p_laws_szRow (n : Nat) (x : ((ByteArray × (Int × (ByteArray × Bool))) × Int)) : Option Int :=
(cond (decide ((IntKind.wrap .i64 (x.2 - ((x.1.1.size : Nat) : Int))) < (0 : Int)))
 (some (-1 : Int))
 (cond (decide ((IntKind.wrap .i64 ((IntKind.wrap .i64 (x.2 - ((x.1.1.size : Nat) : Int))) - ((x.1.2.2.1.size : Nat) : Int))) < (0 : Int)))
  (some (-1 : Int))
  (some (IntKind.wrap .i64 ((IntKind.wrap .i64 (x.2 - ((x.1.1.size : Nat) : Int))) - ((x.1.2.2.1.size : Nat) : Int))))))
def m_laws_szRow (x : ((ByteArray × (Int × (ByteArray × Bool))) × Int)) : Option Int := p_laws_szRow FU x
def a_laws_szRow : Ann := .leaf
def S_laws_szRow : FSpec := ⟨[.val Kd15, .val (.int .i64)], [(.int .i64)], m_laws_szRow⟩

/-! laws.szRowS -/
def l_laws_szRowS_1 (n : Nat) (x_1 : (List (ByteArray × (Int × (ByteArray × Bool))))) (z0 : (Int × Int)) : Option Int :=
(lp (fun rec5 (z4 : (Int × Int)) =>
 (cond (decide (z4.2 < (lenI x_1)))
  ((geti x_1 z4.2).bind fun y6 =>
  ((m_laws_szRow (y6, z4.1)).bind fun r7 =>
  (cond (decide (r7 < (0 : Int)))
   (some (-1 : Int))
   (rec5 (r7, IntKind.wrap .i64 (z4.2 + (1 : Int)))))))
  (some z4.1))) n z0)
def p_laws_szRowS (n : Nat) (x : ((List (ByteArray × (Int × (ByteArray × Bool)))) × Int)) : Option Int :=
(cond (decide ((IntKind.wrap .i64 (x.2 - (lenI x.1))) < (0 : Int)))
 (some (-1 : Int))
 (l_laws_szRowS_1 n x.1 (IntKind.wrap .i64 (x.2 - (lenI x.1)), (0 : Int))))
def m_laws_szRowS (x : ((List (ByteArray × (Int × (ByteArray × Bool)))) × Int)) : Option Int := p_laws_szRowS FU x
def a_laws_szRowS : Ann := (.node .leaf (.node .leaf (.node .leaf (.node (.node .leaf (.loop [.slot 1 (.int .i64), .slot 5 (.int .i64)] [4, 12, 13, 14, 15, 16, 17, 18, 19, 20, 21, 22, 23, 24, 25] .leaf)) .leaf))))
def S_laws_szRowS : FSpec := ⟨[.val Kd12, .val (.int .i64)], [(.int .i64)], m_laws_szRowS⟩

/-! laws.szRowSS -/
def l_laws_szRowSS_1 (n : Nat) (x_1 : (List (List (ByteArray × (Int × (ByteArray × Bool)))))) (z0 : (Int × Int)) : Option Int :=
(lp (fun rec5 (z4 : (Int × Int)) =>
 (cond (decide (z4.2 < (lenI x_1)))
  ((geti x_1 z4.2).bind fun y6 =>
  ((m_laws_szRowS (y6, z4.1)).bind fun r7 =>
  (cond (decide (r7 < (0 : Int)))
   (some (-1 : Int))
   (rec5 (r7, IntKind.wrap .i64 (z4.2 + (1 : Int)))))))
  (some z4.1))) n z0)
def p_laws_szRowSS (n : Nat) (x : ((List (List (ByteArray × (Int × (ByteArray × Bool))))) × Int)) : Option Int :=
(cond (decide ((IntKind.wrap .i64 (x.2 - (lenI x.1))) < (0 : Int)))
 (some (-1 : Int))
 (l_laws_szRowSS_1 n x.1 (IntKind.wrap .i64 (x.2 - (lenI x.1)), (0 : Int))))
def m_laws_szRowSS (x : ((List (List (ByteArray × (Int × (ByteArray × Bool))))) × Int)) : Option Int := p_laws_szRowSS FU x
def a_laws_szRowSS : Ann := (.node .leaf (.node .leaf (.node .leaf (.node (.node .leaf (.loop [.slot 1 (.int .i64), .slot 5 (.int .i64)] [4, 12, 13, 14, 15, 16, 17, 18, 19, 20, 21, 22, 23, 24, 25] .leaf)) .leaf))))
def S_laws_szRowSS : FSpec := ⟨[.val Kd10, .val (.int .i64)], [(.int .i64)], m_laws_szRowSS⟩

/-! laws.szEngine -/
def p_laws_szEngine (n : Nat) (x : ((((List Int) × (List Int)) × ((List (ByteArray × (Int × (ByteArray × Bool)))) × ((List (List (ByteArray × (Int × (ByteArray × Bool))))) × Int))) × Int)) : Option Int :=
((m_laws_szLog (x.1.1, x.2)).bind fun r1 =>
(cond (decide (r1 < (0 : Int)))
 (some (-1 : Int))
 ((m_laws_szRowS (x.1.2.1, r1)).bind fun r2 =>
 (cond (decide (r2 < (0 : Int)))
  (some (-1 : Int))
  ((m_laws_szRowSS (x.1.2.2.1, r2)).bind fun r3 =>
  (cond (decide (r3 < (0 : Int)))
   (some (-1 : Int))
   (some r3)))))))
def m_laws_szEngine (x : ((((List Int) × (List Int)) × ((List (ByteArray × (Int × (ByteArray × Bool)))) × ((List (List (ByteArray × (Int × (ByteArray × Bool))))) × Int))) × Int)) : Option Int := p_laws_szEngine FU x
def a_laws_szEngine : Ann := .leaf
def S_laws_szEngine : FSpec := ⟨[.val Kd6, .val (.int .i64)], [(.int .i64)], m_laws_szEngine⟩

/-! laws.szWrite -/
def p_laws_szWrite (n : Nat) (x : ((ByteArray × (ByteArray × Bool)) × Int)) : Option Int :=
(cond (decide ((IntKind.wrap .i64 (x.2 - ((x.1.1.size : Nat) : Int))) < (0 : Int)))
 (some (-1 : Int))
 (cond (decide ((IntKind.wrap .i64 ((IntKind.wrap .i64 (x.2 - ((x.1.1.size : Nat) : Int))) - ((x.1.2.1.size : Nat) : Int))) < (0 : Int)))
  (some (-1 : Int))
  (some (IntKind.wrap .i64 ((IntKind.wrap .i64 (x.2 - ((x.1.1.size : Nat) : Int))) - ((x.1.2.1.size : Nat) : Int))))))
def m_laws_szWrite (x : ((ByteArray × (ByteArray × Bool)) × Int)) : Option Int := p_laws_szWrite FU x
def a_laws_szWrite : Ann := .leaf
def S_laws_szWrite : FSpec := ⟨[.val Kd19, .val (.int .i64)], [(.int .i64)], m_laws_szWrite⟩

/-! laws.szWriteS -/
def l_laws_szWriteS_1 (n : Nat) (x_1 : (List (ByteArray × (ByteArray × Bool)))) (z0 : (Int × Int)) : Option Int :=
(lp (fun rec5 (z4 : (Int × Int)) =>
 (cond (decide (z4.2 < (lenI x_1)))
  ((geti x_1 z4.2).bind fun y6 =>
  ((m_laws_szWrite (y6, z4.1)).bind fun r7 =>
  (cond (decide (r7 < (0 : Int)))
   (some (-1 : Int))
   (rec5 (r7, IntKind.wrap .i64 (z4.2 + (1 : Int)))))))
  (some z4.1))) n z0)
def p_laws_szWriteS (n : Nat) (x : ((List (ByteArray × (ByteArray × Bool))) × Int)) : Option Int :=
(cond (decide ((IntKind.wrap .i64 (x.2 - (lenI x.1))) < (0 : Int)))
 (some (-1 : Int))
 (l_laws_szWriteS_1 n x.1 (IntKind.wrap .i64 (x.2 - (lenI x.1)), (0 : Int))))
def m_laws_szWriteS (x : ((List (ByteArray × (ByteArray × Bool))) × Int)) : Option Int := p_laws_szWriteS FU x
def a_laws_szWriteS : Ann := (.node .leaf (.node .leaf (.node .leaf (.node (.node .leaf (.loop [.slot 1 (.int .i64), .slot 5 (.int .i64)] [4, 12, 13, 14, 15, 16, 17, 18, 19, 20, 21, 22, 23, 24, 25] .leaf)) .leaf))))
def S_laws_szWriteS : FSpec := ⟨[.val Kd18, .val (.int .i64)], [(.int .i64)], m_laws_szWriteS⟩

/-! laws.toByteS -/
def l_laws_toByteS_1 (n : Nat) (x : (List Int)) (z0 : (Int × (List Int))) : Option (List Int) :=
(lp (fun rec8 (z7 : (Int × (List Int))) =>
 (cond (decide (z7.1 < (lenI x)))
  ((geti x z7.1).bind fun y9 =>
  ((geti z7.2 z7.1).bind fun _ =>
  ((z7.2[z7.1.toNat]?).bind fun y10 =>
  rec8 (IntKind.wrap .i64 (z7.1 + (1 : Int)), (z7.2.set z7.1.toNat y9)))))
  (some z7.2))) n z0)
def p_laws_toByteS (n : Nat) (x : (List Int)) : Option (List Int) :=
(if (lenI x) = (lenI x) then (if 0 ≤ (lenI x) then chk (Nat.ble (1 * (lenI x).toNat) maxBytes)
(l_laws_toByteS_1 n x ((0 : Int), (List.replicate (lenI x).toNat (0 : Int)))) else none) else none)
def m_laws_toByteS (x : (List Int)) : Option (List Int) := p_laws_toByteS FU x
def a_laws_toByteS : Ann := (.node .leaf (.node .leaf (.node (.node .leaf (.loop [.slot 4 (.int .i64), .row 0 5 (.int .u8)] [8, 9, 10, 11, 12, 13, 14, 15, 16, 17, 18, 19, 20] .leaf)) .leaf)))
def S_laws_toByteS : FSpec := ⟨[.val (.sl none (.int .u8))], [Kd20], m_laws_toByteS⟩

/-! laws.toLog -/
def p_laws_toLog (n : Nat) (x : ((List Int) × (List Int))) : Option ((List Int) × (List Int)) :=
((m_laws_toByteS x.1).bind fun r1 =>
((m_laws_toByteS x.2).bind fun r2 =>
some (r1, r2)))
def m_laws_toLog (x : ((List Int) × (List Int))) : Option ((List Int) × (List Int)) := p_laws_toLog FU x
def a_laws_toLog : Ann := .leaf
def S_laws_toLog : FSpec := ⟨[.val Kd14], [Kd13], m_laws_toLog⟩

/-! laws.toRow -/
def p_laws_toRow (n : Nat) (x : (ByteArray × (Int × (ByteArray × Bool)))) : Option (ByteArray × (Int × (ByteArray × Bool))) :=
some x
def m_laws_toRow (x : (ByteArray × (Int × (ByteArray × Bool)))) : Option (ByteArray × (Int × (ByteArray × Bool))) := p_laws_toRow FU x
def a_laws_toRow : Ann := .leaf
def S_laws_toRow : FSpec := ⟨[.val Kd15], [Kd15], m_laws_toRow⟩

/-! laws.toRowS -/
def l_laws_toRowS_1 (n : Nat) (x : (List (ByteArray × (Int × (ByteArray × Bool))))) (z0 : (Int × (List (ByteArray × (Int × (ByteArray × Bool)))))) : Option (List (ByteArray × (Int × (ByteArray × Bool)))) :=
(lp (fun rec10 (z9 : (Int × (List (ByteArray × (Int × (ByteArray × Bool)))))) =>
 (cond (decide (z9.1 < (lenI x)))
  ((geti x z9.1).bind fun y11 =>
  ((m_laws_toRow y11).bind fun r12 =>
  ((geti z9.2 z9.1).bind fun _ =>
  ((z9.2[z9.1.toNat]?).bind fun y13 =>
  rec10 (IntKind.wrap .i64 (z9.1 + (1 : Int)), (z9.2.set z9.1.toNat r12))))))
  (some z9.2))) n z0)
def p_laws_toRowS (n : Nat) (x : (List (ByteArray × (Int × (ByteArray × Bool))))) : Option (List (ByteArray × (Int × (ByteArray × Bool)))) :=
(if (lenI x) = (lenI x) then (if 0 ≤ (lenI x) then chk (Nat.ble (48 * (lenI x).toNat) maxBytes)
(l_laws_toRowS_1 n x ((0 : Int), (List.replicate (lenI x).toNat ((⟨#[]⟩ : ByteArray), ((0 : Int), ((⟨#[]⟩ : ByteArray), false)))))) else none) else none)
def m_laws_toRowS (x : (List (ByteArray × (Int × (ByteArray × Bool))))) : Option (List (ByteArray × (Int × (ByteArray × Bool)))) := p_laws_toRowS FU x
def a_laws_toRowS : Ann := (.node .leaf (.node .leaf (.node (.node .leaf (.loop [.slot 4 (.int .i64), .row 0 78 Kd15] [8, 9, 10, 11, 12, 13, 14, 15, 16, 17, 18, 19, 20, 21] .leaf)) .leaf)))
def S_laws_toRowS : FSpec := ⟨[.val Kd12], [Kd11], m_laws_toRowS⟩

/-! laws.toRowSS -/
def l_laws_toRowSS_1 (n : Nat) (x : (List (List (ByteArray × (Int × (ByteArray × Bool)))))) (z0 : (Int × (List (List (ByteArray × (Int × (ByteArray × Bool))))))) : Option (List (List (ByteArray × (Int × (ByteArray × Bool))))) :=
(lp (fun rec8 (z7 : (Int × (List (List (ByteArray × (Int × (ByteArray × Bool))))))) =>
 (cond (decide (z7.1 < (lenI x)))
  ((geti x z7.1).bind fun y9 =>
  ((m_laws_toRowS y9).bind fun r10 =>
  ((geti z7.2 z7.1).bind fun _ =>
  ((z7.2[z7.1.toNat]?).bind fun _ =>
  rec8 (IntKind.wrap .i64 (z7.1 + (1 : Int)), (z7.2.set z7.1.toNat r10))))))
  (some z7.2))) n z0)
def p_laws_toRowSS (n : Nat) (x : (List (List (ByteArray × (Int × (ByteArray × Bool)))))) : Option (List (List (ByteArray × (Int × (ByteArray × Bool))))) :=
(if (lenI x) = (lenI x) then (if 0 ≤ (lenI x) then chk (Nat.ble (24 * (lenI x).toNat) maxBytes)
(l_laws_toRowSS_1 n x ((0 : Int), (List.replicate (lenI x).toNat []))) else none) else none)
def m_laws_toRowSS (x : (List (List (ByteArray × (Int × (ByteArray × Bool)))))) : Option (List (List (ByteArray × (Int × (ByteArray × Bool))))) := p_laws_toRowSS FU x
def a_laws_toRowSS : Ann := (.node .leaf (.node (.own 7 Kd11 .leaf) (.node (.node .leaf (.loop [.slot 4 (.int .i64), .row 0 53 Kd11] [8, 9, 10, 11, 12, 13, 14, 15, 16, 17, 18, 19, 20, 21] .leaf)) .leaf)))
def S_laws_toRowSS : FSpec := ⟨[.val Kd10], [Kd7], m_laws_toRowSS⟩

/-! laws.toEngine -/
def p_laws_toEngine (n : Nat) (x : (((List Int) × (List Int)) × ((List (ByteArray × (Int × (ByteArray × Bool)))) × ((List (List (ByteArray × (Int × (ByteArray × Bool))))) × Int)))) : Option (((List Int) × (List Int)) × ((List (ByteArray × (Int × (ByteArray × Bool)))) × ((List (List (ByteArray × (Int × (ByteArray × Bool))))) × Int))) :=
((m_laws_toLog x.1).bind fun r1 =>
((m_laws_toRowS x.2.1).bind fun r2 =>
((m_laws_toRowSS x.2.2.1).bind fun r3 =>
some (r1, (r2, (r3, x.2.2.2))))))
def m_laws_toEngine (x : (((List Int) × (List Int)) × ((List (ByteArray × (Int × (ByteArray × Bool)))) × ((List (List (ByteArray × (Int × (ByteArray × Bool))))) × Int)))) : Option (((List Int) × (List Int)) × ((List (ByteArray × (Int × (ByteArray × Bool)))) × ((List (List (ByteArray × (Int × (ByteArray × Bool))))) × Int))) := p_laws_toEngine FU x
def a_laws_toEngine : Ann := .leaf
def S_laws_toEngine : FSpec := ⟨[.val Kd6], [Kd3], m_laws_toEngine⟩

/-! laws.toWrite -/
def p_laws_toWrite (n : Nat) (x : (ByteArray × (ByteArray × Bool))) : Option (ByteArray × (ByteArray × Bool)) :=
some x
def m_laws_toWrite (x : (ByteArray × (ByteArray × Bool))) : Option (ByteArray × (ByteArray × Bool)) := p_laws_toWrite FU x
def a_laws_toWrite : Ann := .leaf
def S_laws_toWrite : FSpec := ⟨[.val Kd19], [Kd19], m_laws_toWrite⟩

/-! laws.toWriteS -/
def l_laws_toWriteS_1 (n : Nat) (x : (List (ByteArray × (ByteArray × Bool)))) (z0 : (Int × (List (ByteArray × (ByteArray × Bool))))) : Option (List (ByteArray × (ByteArray × Bool))) :=
(lp (fun rec10 (z9 : (Int × (List (ByteArray × (ByteArray × Bool))))) =>
 (cond (decide (z9.1 < (lenI x)))
  ((geti x z9.1).bind fun y11 =>
  ((m_laws_toWrite y11).bind fun r12 =>
  ((geti z9.2 z9.1).bind fun _ =>
  ((z9.2[z9.1.toNat]?).bind fun y13 =>
  rec10 (IntKind.wrap .i64 (z9.1 + (1 : Int)), (z9.2.set z9.1.toNat r12))))))
  (some z9.2))) n z0)
def p_laws_toWriteS (n : Nat) (x : (List (ByteArray × (ByteArray × Bool)))) : Option (List (ByteArray × (ByteArray × Bool))) :=
(if (lenI x) = (lenI x) then (if 0 ≤ (lenI x) then chk (Nat.ble (40 * (lenI x).toNat) maxBytes)
(l_laws_toWriteS_1 n x ((0 : Int), (List.replicate (lenI x).toNat ((⟨#[]⟩ : ByteArray), ((⟨#[]⟩ : ByteArray), false))))) else none) else none)
def m_laws_toWriteS (x : (List (ByteArray × (ByteArray × Bool)))) : Option (List (ByteArray × (ByteArray × Bool))) := p_laws_toWriteS FU x
def a_laws_toWriteS : Ann := (.node .leaf (.node .leaf (.node (.node .leaf (.loop [.slot 4 (.int .i64), .row 0 99 Kd19] [8, 9, 10, 11, 12, 13, 14, 15, 16, 17, 18, 19, 20, 21] .leaf)) .leaf)))
def S_laws_toWriteS : FSpec := ⟨[.val Kd18], [Kd16], m_laws_toWriteS⟩

/-! spec.LogFault -/
def p_spec_LogFault (n : Nat) (x : ((List Int) × (List Int))) : Option Int :=
(cond (decide ((IntKind.wrap .i64 ((lenI x.1) + (lenI x.2))) > (6000 : Int)))
 (some (2 : Int))
 (some (0 : Int)))
def m_spec_LogFault (x : ((List Int) × (List Int))) : Option Int := p_spec_LogFault FU x
def a_spec_LogFault : Ann := .leaf
def S_spec_LogFault : FSpec := ⟨[.val Kd14], [(.int .i64)], m_spec_LogFault⟩

/-! spec.l1In -/
def p_spec_l1In (n : Nat) (x : (Int × (Int × Int))) : Option Bool :=
(cond (decide (x.1 ≥ x.2.1))
 (some (decide (x.1 ≤ x.2.2)))
 (some false))
def m_spec_l1In (x : (Int × (Int × Int))) : Option Bool := p_spec_l1In FU x
def a_spec_l1In : Ann := .leaf
def S_spec_l1In : FSpec := ⟨[.val (.int .i64), .val (.int .i64), .val (.int .i64)], [.bool], m_spec_l1In⟩

/-! spec.RowFault -/
def p_spec_RowFault (n : Nat) (x : (ByteArray × (Int × (ByteArray × Bool)))) : Option Int :=
(Option.bind (α := Bool)
 (cond (decide (((x.1.size : Nat) : Int) < (1 : Int)))
  (some true)
  (cond (decide (((x.1.size : Nat) : Int) > (20 : Int)))
   (some true)
   (cond x.2.2.2
    (some (!(x.2.2.1.toList == (⟨#[]⟩ : ByteArray).toList)))
    (some false)))) fun j1 =>
(cond j1
 (some (1 : Int))
 (cond (decide (((x.2.2.1.size : Nat) : Int) > (100 : Int)))
  (some (2 : Int))
  ((m_spec_l1In (x.2.1, (1 : Int), (1000000 : Int))).bind fun r2 =>
  (cond (!r2)
   (some (3 : Int))
   (some (0 : Int)))))))
def m_spec_RowFault (x : (ByteArray × (Int × (ByteArray × Bool)))) : Option Int := p_spec_RowFault FU x
def a_spec_RowFault : Ann := (.node .leaf (.node (.join [.slot 21 .bool] [3, 4, 5, 6, 7, 8, 9, 10, 11, 12, 13, 14, 15, 16, 17, 18, 19, 20] .leaf .leaf) .leaf))
def S_spec_RowFault : FSpec := ⟨[.val Kd15], [(.int .i64)], m_spec_RowFault⟩

/-! spec.l5Ahead -/
def p_spec_l5Ahead (n : Nat) (x : ((ByteArray × (Int × (ByteArray × Bool))) × (ByteArray × (Int × (ByteArray × Bool))))) : Option Bool :=
(cond (!(x.1.1.toList == x.2.1.toList))
 (some (Op.bytesLess x.1.1.toList x.2.1.toList))
 (some (decide (x.1.2.1 > x.2.2.1))))
def m_spec_l5Ahead (x : ((ByteArray × (Int × (ByteArray × Bool))) × (ByteArray × (Int × (ByteArray × Bool))))) : Option Bool := p_spec_l5Ahead FU x
def a_spec_l5Ahead : Ann := .leaf
def S_spec_l5Ahead : FSpec := ⟨[.val Kd15, .val Kd15], [.bool], m_spec_l5Ahead⟩

/-! spec.TableFault -/
def l_spec_TableFault_1 (n : Nat) (x : (List (ByteArray × (Int × (ByteArray × Bool))))) (z0 : Int) : Option Int :=
(lp (fun rec12 (z11 : Int) =>
 (cond (decide (z11 < (lenI x)))
  ((geti x z11).bind fun y13 =>
  ((m_spec_RowFault y13).bind fun r14 =>
  (cond (!(r14 == (0 : Int)))
   (some r14)
   (Option.bind (α := Bool)
    (cond (decide (z11 > (0 : Int)))
     ((geti x (IntKind.wrap .i64 (z11 - (1 : Int)))).bind fun y18 =>
     ((geti x z11).bind fun y19 =>
     ((m_spec_l5Ahead (y18, y19)).bind fun r20 =>
     some (!r20))))
     (some false)) fun j21 =>
   (cond j21
    (some (1 : Int))
    (rec12 (IntKind.wrap .i64 (z11 + (1 : Int)))))))))
  (some (0 : Int)))) n z0)
def p_spec_TableFault (n : Nat) (x : (List (ByteArray × (Int × (ByteArray × Bool))))) : Option Int :=
(cond (decide ((lenI x) > (200 : Int)))
 (some (2 : Int))
 (l_spec_TableFault_1 n x (0 : Int)))
def m_spec_TableFault (x : (List (ByteArray × (Int × (ByteArray × Bool))))) : Option Int := p_spec_TableFault FU x
def a_spec_TableFault : Ann := (.node .leaf (.node .leaf (.node (.node .leaf (.loop [.slot 3 (.int .i64)] [2, 4, 8, 9, 10, 11, 12, 13, 14, 15, 16, 17, 18, 19, 20, 21, 22, 23, 24, 25, 26, 27, 28, 29, 30, 31, 32, 33, 34, 35, 36] (.node .leaf (.node (.node .leaf (.join [.slot 36 .bool] [22, 23, 24, 25, 26, 27, 28, 29, 30, 31, 32, 33, 34, 35] .leaf .leaf)) .leaf)))) .leaf)))
def S_spec_TableFault : FSpec := ⟨[.val Kd12], [(.int .i64)], m_spec_TableFault⟩

/-! spec.l6Below -/
def l_spec_l6Below_1 (n : Nat) (x_1 : (List (ByteArray × (Int × (ByteArray × Bool))))) (x_2 : Int) (z0 : Int) : Option Bool :=
(lp (fun rec4 (z3 : Int) =>
 (cond (decide (z3 < (lenI x_1)))
  ((geti x_1 z3).bind fun y5 =>
  (cond (decide (y5.2.1 ≥ x_2))
   (some false)
   (rec4 (IntKind.wrap .i64 (z3 + (1 : Int))))))
  (some true))) n z0)
def p_spec_l6Below (n : Nat) (x : ((List (ByteArray × (Int × (ByteArray × Bool)))) × Int)) : Option Bool :=
(l_spec_l6Below_1 n x.1 x.2 (0 : Int))
def m_spec_l6Below (x : ((List (ByteArray × (Int × (ByteArray × Bool)))) × Int)) : Option Bool := p_spec_l6Below FU x
def a_spec_l6Below : Ann := (.node .leaf (.node (.node .leaf (.loop [.slot 5 (.int .i64)] [4, 6, 7, 8, 9, 10, 11, 12, 13, 14, 15, 16, 17, 18] .leaf)) .leaf))
def S_spec_l6Below : FSpec := ⟨[.val Kd12, .val (.int .i64)], [.bool], m_spec_l6Below⟩

/-! spec.l4Sync -/
def p_spec_l4Sync (n : Nat) (x : ((List Int) × (List Int))) : Option ((List Int) × (List Int)) :=
(chk (Nat.ble (x.1.length * 1) maxBytes)
(chk (Nat.ble ((x.1.length + x.2.length) * 1) maxBytes)
(some ((x.1 ++ x.2), []))))
def m_spec_l4Sync (x : ((List Int) × (List Int))) : Option ((List Int) × (List Int)) := p_spec_l4Sync FU x
def a_spec_l4Sync : Ann := (.node .leaf (.node (.lazy 3 .leaf) .leaf))
def S_spec_l4Sync : FSpec := ⟨[.val Kd14], [Kd13], m_spec_l4Sync⟩

/-! spec.CheckOf -/
def l_spec_CheckOf_1 (n : Nat) (x : (List Int)) (z0 : (Int × Int)) : Option Int :=
(lp (fun rec4 (z3 : (Int × Int)) =>
 (cond (decide (z3.2 < (lenI x)))
  ((geti x z3.2).bind fun y5 =>
  (cond ((65521 : Int) == 0) none
   (rec4 (Int.tmod (IntKind.wrap .i64 ((IntKind.wrap .i64 ((IntKind.wrap .i64 (z3.1 * (257 : Int))) + (IntKind.wrap .i64 y5))) + (1 : Int))) (65521 : Int), IntKind.wrap .i64 (z3.2 + (1 : Int))))))
  (some z3.1))) n z0)
def p_spec_CheckOf (n : Nat) (x : (List Int)) : Option Int :=
(l_spec_CheckOf_1 n x ((1 : Int), (0 : Int)))
def m_spec_CheckOf (x : (List Int)) : Option Int := p_spec_CheckOf FU x
def a_spec_CheckOf : Ann := (.node .leaf (.node .leaf (.node (.node .leaf (.loop [.slot 3 (.int .i64), .slot 4 (.int .i64)] [5, 6, 7, 8, 9, 10, 11, 12, 13, 14, 15, 16, 17, 18, 19, 20] .leaf)) .leaf)))
def S_spec_CheckOf : FSpec := ⟨[.val (.sl none (.int .u8))], [(.int .i64)], m_spec_CheckOf⟩

/-! spec.l3Records -/
def l_spec_l3Records_1 (n : Nat) (x : (List Int)) (z0 : ((List (List Int)) × Int)) : Option ((List (List Int)) × Int) :=
(lp (fun rec9 (z8 : ((List (List Int)) × Int)) =>
 (cond (decide ((IntKind.wrap .i64 (z8.2 + (4 : Int))) < (lenI x)))
  ((geti x z8.2).bind fun y10 =>
  ((geti x (IntKind.wrap .i64 (z8.2 + (1 : Int)))).bind fun y11 =>
  (Option.bind (α := Bool)
   (cond (decide ((IntKind.wrap .i64 ((IntKind.wrap .i64 ((IntKind.wrap .i64 y10) * (256 : Int))) + (IntKind.wrap .i64 y11))) < (1 : Int)))
    (some true)
    (cond (decide ((IntKind.wrap .i64 ((IntKind.wrap .i64 ((IntKind.wrap .i64 y10) * (256 : Int))) + (IntKind.wrap .i64 y11))) > (500 : Int)))
     (some true)
     (some (decide ((IntKind.wrap .i64 ((IntKind.wrap .i64 (z8.2 + (4 : Int))) + (IntKind.wrap .i64 ((IntKind.wrap .i64 ((IntKind.wrap .i64 y10) * (256 : Int))) + (IntKind.wrap .i64 y11))))) > (lenI x)))))) fun j12 =>
  (cond j12
   (some (z8.1, z8.2))
   (chk (bndB (some (IntKind.wrap .i64 (z8.2 + (4 : Int)))) (some (IntKind.wrap .i64 ((IntKind.wrap .i64 (z8.2 + (4 : Int))) + (IntKind.wrap .i64 ((IntKind.wrap .i64 ((IntKind.wrap .i64 y10) * (256 : Int))) + (IntKind.wrap .i64 y11)))))) none x.length)
    ((geti x (IntKind.wrap .i64 (z8.2 + (2 : Int)))).bind fun y13 =>
    ((geti x (IntKind.wrap .i64 (z8.2 + (3 : Int)))).bind fun y14 =>
    ((m_spec_CheckOf (cutL (some (IntKind.wrap .i64 (z8.2 + (4 : Int)))) (some (IntKind.wrap .i64 ((IntKind.wrap .i64 (z8.2 + (4 : Int))) + (IntKind.wrap .i64 ((IntKind.wrap .i64 ((IntKind.wrap .i64 y10) * (256 : Int))) + (IntKind.wrap .i64 y11)))))) x)).bind fun r15 =>
    (cond (!(r15 == (IntKind.wrap .i64 ((IntKind.wrap .i64 ((IntKind.wrap .i64 y13) * (256 : Int))) + (IntKind.wrap .i64 y14)))))
     (some (z8.1, z8.2))
     (chk (Nat.ble ((([] : List Int).length + (cutL (some (IntKind.wrap .i64 (z8.2 + (4 : Int)))) (some (IntKind.wrap .i64 ((IntKind.wrap .i64 (z8.2 + (4 : Int))) + (IntKind.wrap .i64 ((IntKind.wrap .i64 ((IntKind.wrap .i64 y10) * (256 : Int))) + (IntKind.wrap .i64 y11)))))) x).length) * 1) maxBytes)
     (chk (Nat.ble ((z8.1.length + ([(([] : List Int) ++ (cutL (some (IntKind.wrap .i64 (z8.2 + (4 : Int)))) (some (IntKind.wrap .i64 ((IntKind.wrap .i64 (z8.2 + (4 : Int))) + (IntKind.wrap .i64 ((IntKind.wrap .i64 ((IntKind.wrap .i64 y10) * (256 : Int))) + (IntKind.wrap .i64 y11)))))) x))] : List (List Int)).length) * 24) maxBytes)
     (rec9 ((z8.1 ++ [(([] : List Int) ++ (cutL (some (IntKind.wrap .i64 (z8.2 + (4 : Int)))) (some (IntKind.wrap .i64 ((IntKind.wrap .i64 (z8.2 + (4 : Int))) + (IntKind.wrap .i64 ((IntKind.wrap .i64 ((IntKind.wrap .i64 y10) * (256 : Int))) + (IntKind.wrap .i64 y11)))))) x))]), IntKind.wrap .i64 ((IntKind.wrap .i64 (z8.2 + (4 : Int))) + (IntKind.wrap .i64 ((IntKind.wrap .i64 ((IntKind.wrap .i64 y10) * (256 : Int))) + (IntKind.wrap .i64 y11)))))))))))))))))
  (some (z8.1, z8.2)))) n z0)
def p_spec_l3Records (n : Nat) (x : (List Int)) : Option ((List (List Int)) × Int) :=
(l_spec_l3Records_1 n x (([] : List (List Int)), (0 : Int)))
def m_spec_l3Records (x : (List Int)) : Option ((List (List Int)) × Int) := p_spec_l3Records FU x
def a_spec_l3Records : Ann := (.node .leaf (.node .leaf (.node .leaf (.node (.loop [.slot 4 (.sl (some 43) (.sl none (.int .u8))), .slot 5 (.int .i64)] [6, 7, 9, 10, 11, 12, 13, 14, 15, 16, 17, 18, 19, 20, 21, 22, 23, 24, 25, 26, 27, 28, 29, 30, 31, 32, 33, 34, 35, 36, 37, 38, 39, 40, 41, 42, 43, 44, 45, 46, 47, 48, 49, 50, 51, 52, 53, 54, 55, 56, 57, 58, 59, 60, 61, 62, 63, 64, 65, 66, 67, 68, 69, 70, 71, 72, 73, 74, 75, 76] (.node .leaf (.node .leaf (.node (.join [.slot 41 .bool] [27, 28, 29, 30, 31, 32, 33, 34, 35, 36, 37, 38, 39, 40] .leaf .leaf) .leaf)))) .leaf))))
def S_spec_l3Records : FSpec := ⟨[.val (.sl none (.int .u8))], [(.sl (some 43) (.sl none (.int .u8))), (.int .i64)], m_spec_l3Records⟩

/-! spec.l3Number -/
def l_spec_l3Number_1 (n : Nat) (x : (List Int)) (z0 : (Int × Int)) : Option Int :=
(lp (fun rec4 (z3 : (Int × Int)) =>
 (cond (decide (z3.2 < (8 : Int)))
  ((geti x z3.2).bind fun y5 =>
  rec4 (IntKind.wrap .u64 ((IntKind.wrap .u64 (z3.1 * (256 : Int))) + (IntKind.wrap .u64 y5)), IntKind.wrap .i64 (z3.2 + (1 : Int))))
  (some (IntKind.wrap .i64 z3.1)))) n z0)
def p_spec_l3Number (n : Nat) (x : (List Int)) : Option Int :=
(l_spec_l3Number_1 n x ((0 : Int), (0 : Int)))
def m_spec_l3Number (x : (List Int)) : Option Int := p_spec_l3Number FU x
def a_spec_l3Number : Ann := (.node .leaf (.node .leaf (.node (.node .leaf (.loop [.slot 3 (.int .u64), .slot 4 (.int .i64)] [5, 6, 7, 8, 9, 10, 11, 12, 13, 14, 15, 16] .leaf)) .leaf)))
def S_spec_l3Number : FSpec := ⟨[.val (.sl none (.int .u8))], [(.int .i64)], m_spec_l3Number⟩

/-! spec.l6Text -/
def p_spec_l6Text (n : Nat) (x : ((List Int) × Int)) : Option (ByteArray × Int) :=
(Option.bind (α := Bool)
 (cond (decide (x.2 ≥ (lenI x.1)))
  (some true)
  ((geti x.1 x.2).bind fun y2 =>
  some (decide ((IntKind.wrap .i64 ((IntKind.wrap .i64 (x.2 + (1 : Int))) + (IntKind.wrap .i64 y2))) > (lenI x.1))))) fun j3 =>
(cond j3
 (some ((⟨#[]⟩ : ByteArray), (-1 : Int)))
 ((geti x.1 x.2).bind fun y4 =>
 (chk (bndB (some (IntKind.wrap .i64 (x.2 + (1 : Int)))) (some (IntKind.wrap .i64 ((IntKind.wrap .i64 (x.2 + (1 : Int))) + (IntKind.wrap .i64 y4)))) none x.1.length)
  (some ((strOfNums (cutL (some (IntKind.wrap .i64 (x.2 + (1 : Int)))) (some (IntKind.wrap .i64 ((IntKind.wrap .i64 (x.2 + (1 : Int))) + (IntKind.wrap .i64 y4)))) x.1)), IntKind.wrap .i64 ((IntKind.wrap .i64 (x.2 + (1 : Int))) + (IntKind.wrap .i64 y4))))))))
def m_spec_l6Text (x : ((List Int) × Int)) : Option (ByteArray × Int) := p_spec_l6Text FU x
def a_spec_l6Text : Ann := (.node .leaf (.node (.join [.slot 23 .bool] [7, 8, 9, 10, 11, 12, 13, 14, 15, 16, 17, 18, 19, 20, 21, 22] .leaf .leaf) .leaf))
def S_spec_l6Text : FSpec := ⟨[.val (.sl none (.int .u8)), .val (.int .i64)], [.str, (.int .i64)], m_spec_l6Text⟩

/-! spec.PackNumber -/
def l_spec_PackNumber_1 (n : Nat) (x : Int) (z0 : ((List Int) × Int)) : Option (List Int) :=
(lp (fun rec3 (z2 : ((List Int) × Int)) =>
 (cond (decide (z2.2 ≥ (0 : Int)))
  (chk (decide (0 ≤ (IntKind.wrap .u64 (IntKind.wrap .i64 ((8 : Int) * z2.2)))))
   (chk (Nat.ble ((z2.1.length + [IntKind.wrap .u8 (Int.fdiv (IntKind.wrap .u64 x) (2 ^ (min (IntKind.wrap .u64 (IntKind.wrap .i64 ((8 : Int) * z2.2))).toNat 64)))].length) * 1) maxBytes)
   (rec3 ((z2.1 ++ [IntKind.wrap .u8 (Int.fdiv (IntKind.wrap .u64 x) (2 ^ (min (IntKind.wrap .u64 (IntKind.wrap .i64 ((8 : Int) * z2.2))).toNat 64)))]), IntKind.wrap .i64 (z2.2 - (1 : Int))))))
  (some z2.1))) n z0)
def p_spec_PackNumber (n : Nat) (x : Int) : Option (List Int) :=
(l_spec_PackNumber_1 n x (([] : List Int), (7 : Int)))
def m_spec_PackNumber (x : Int) : Option (List Int) := p_spec_PackNumber FU x
def a_spec_PackNumber : Ann := (.node .leaf (.node .leaf (.node (.node .leaf (.loop [.slot 3 Kd20, .slot 4 (.int .i64)] [6, 7, 8, 9, 10, 11, 12, 13, 14, 15, 16, 17, 18, 19] .leaf)) .leaf)))
def S_spec_PackNumber : FSpec := ⟨[.val (.int .i64)], [Kd20], m_spec_PackNumber⟩

/-! spec.PackText -/
def p_spec_PackText (n : Nat) (x : ByteArray) : Option (Int × (List Int)) :=
(cond (decide (((x.size : Nat) : Int) > (200 : Int)))
 (some ((2 : Int), []))
 (chk (Nat.ble (([IntKind.wrap .u8 ((x.size : Nat) : Int)].length + (bytesNums x).length) * 1) maxBytes)
 (some ((0 : Int), ([IntKind.wrap .u8 ((x.size : Nat) : Int)] ++ (bytesNums x))))))
def m_spec_PackText (x : ByteArray) : Option (Int × (List Int)) := p_spec_PackText FU x
def a_spec_PackText : Ann := (.node .leaf (.node .leaf (.node (.own 12 (.int .u8) .leaf) .leaf)))
def S_spec_PackText : FSpec := ⟨[.val .str], [Kd17], m_spec_PackText⟩

/-! spec.l6Pack -/
def l_spec_l6Pack_1 (n : Nat) (x_2 : (List (ByteArray × (ByteArray × Bool)))) (z0 : ((List Int) × Int)) : Option (List Int) :=
(lp (fun rec8 (z7 : ((List Int) × Int)) =>
 (cond (decide (z7.2 < (lenI x_2)))
  ((geti x_2 z7.2).bind fun y9 =>
  (Option.bind (α := (List Int))
   (cond y9.2.2
    (chk (Nat.ble ((z7.1.length + [(1 : Int)].length) * 1) maxBytes)
    (some (z7.1 ++ [(1 : Int)])))
    (chk (Nat.ble ((z7.1.length + [(0 : Int)].length) * 1) maxBytes)
    (some (z7.1 ++ [(0 : Int)])))) fun j10 =>
  ((m_spec_PackText y9.1).bind fun r11 =>
  (chk (Nat.ble ((j10.length + r11.2.length) * 1) maxBytes)
  (cond (!y9.2.2)
   ((m_spec_PackText y9.2.1).bind fun r12 =>
   (chk (Nat.ble (((j10 ++ r11.2).length + r12.2.length) * 1) maxBytes)
   (rec8 (((j10 ++ r11.2) ++ r12.2), IntKind.wrap .i64 (z7.2 + (1 : Int))))))
   (rec8 ((j10 ++ r11.2), IntKind.wrap .i64 (z7.2 + (1 : Int)))))))))
  (some z7.1))) n z0)
def p_spec_l6Pack (n : Nat) (x : (Int × (List (ByteArray × (ByteArray × Bool))))) : Option (List Int) :=
((m_spec_PackNumber x.1).bind fun r1 =>
(l_spec_l6Pack_1 n x.2 (r1, (0 : Int))))
def m_spec_l6Pack (x : (Int × (List (ByteArray × (ByteArray × Bool))))) : Option (List Int) := p_spec_l6Pack FU x
def a_spec_l6Pack : Ann := (.node .leaf (.node .leaf (.node (.node .leaf (.loop [.slot 5 Kd20, .slot 6 (.int .i64)] [7, 10, 11, 12, 13, 14, 15, 16, 17, 18, 19, 20, 21, 22, 23, 24, 25, 26, 27, 28, 29, 30, 31, 32, 33, 34, 35, 36, 37, 38, 39, 40, 41, 42] (.node .leaf (.node (.node .leaf (.join [.slot 5 Kd20] [20, 21, 22, 23, 24, 25, 26, 27] .leaf .leaf)) .leaf)))) .leaf)))
def S_spec_l6Pack : FSpec := ⟨[.val (.int .i64), .val Kd18], [Kd20], m_spec_l6Pack⟩

/-! spec.WritesFault -/
def l_spec_WritesFault_1 (n : Nat) (z58 : Int) (x : (List (ByteArray × (ByteArray × Bool)))) (y68_1 : ByteArray) (z0 : Int) : Option (Unit ⊕ (Unit ⊕ Int)) :=
(lp (fun rec73 (z72 : Int) =>
 (cond (decide (z72 < z58))
  ((geti x z72).bind fun y74 =>
  (cond (y74.1.toList == y68_1.toList)
   (some (Sum.inr (Sum.inr (7 : Int))))
   (rec73 (IntKind.wrap .i64 (z72 + (1 : Int))))))
  (some (Sum.inl ())))) n z0)
def l_spec_WritesFault_2 (n : Nat) (x : (List (ByteArray × (ByteArray × Bool)))) (z0 : Int) : Option (Unit ⊕ Int) :=
(lp (fun rec59 (z58 : Int) =>
 (cond (decide (z58 < (lenI x)))
  (Option.bind (α := (Unit ⊕ (Unit ⊕ Int)))
   ((geti x z58).bind fun y68 =>
   ((m_spec_RowFault (y68.1, ((1 : Int), y68.2))).bind fun r69 =>
   (cond (!(r69 == (0 : Int)))
    (some (Sum.inr (Sum.inr r69)))
    (l_spec_WritesFault_1 n z58 x y68.1 (0 : Int)))))
   (Sum.elim (fun j76 =>
  rec59 (IntKind.wrap .i64 (z58 + (1 : Int)))) some))
  (some (Sum.inl ())))) n z0)
def p_spec_WritesFault (n : Nat) (x : (List (ByteArray × (ByteArray × Bool)))) : Option Int :=
(Option.bind (α := Bool)
 (cond (decide ((lenI x) < (1 : Int)))
  (some true)
  (some (decide ((lenI x) > (8 : Int))))) fun j1 =>
(cond j1
 (some (2 : Int))
 (Option.bind (α := (Unit ⊕ Int))
  (l_spec_WritesFault_2 n x (0 : Int))
  (Sum.elim (fun j78 =>
 ((m_spec_l6Pack ((1 : Int), x)).bind fun r79 =>
 (cond (decide ((lenI r79) > (500 : Int)))
  (some (2 : Int))
  (some (0 : Int))))) some))))
def m_spec_WritesFault (x : (List (ByteArray × (ByteArray × Bool)))) : Option Int := p_spec_WritesFault FU x
def a_spec_WritesFault : Ann := (.node .leaf (.node (.join [.slot 14 .bool] [7, 8, 9, 10, 11, 12, 13] .leaf .leaf) (.joinx [] [2, 3, 4, 5, 6, 15, 16, 17, 18, 19, 20, 21, 22, 23, 24, 25, 26, 27, 28, 29, 30, 31, 32, 33, 34, 35, 36, 37, 38, 39, 40, 41, 42, 43, 44, 45, 46, 47, 48] (.node .leaf (.loop [.slot 3 (.int .i64)] [2, 4, 5, 6, 15, 16, 17, 18, 19, 20, 21, 22, 23, 24, 25, 26, 27, 28, 29, 30, 31, 32, 33, 34, 35, 36, 37, 38, 39, 40, 41, 42, 43, 44, 45, 46, 47, 48] (.node .leaf (.joinx [] [2, 4, 5, 6, 21, 22, 23, 24, 25, 26, 27, 28, 29, 30, 31, 32, 33, 34, 36, 37, 38, 39, 40, 41, 42, 43, 44, 45, 46, 47, 48] (.node .leaf (.node .leaf (.node .leaf (.loop [.slot 6 (.int .i64)] [2, 36, 37, 38, 39, 40, 41, 42, 43, 44, 45, 46, 47, 48] .leaf)))) .leaf)))) .leaf)))
def S_spec_WritesFault : FSpec := ⟨[.val Kd18], [(.int .i64)], m_spec_WritesFault⟩

/-! spec.PackWrites -/
def p_spec_PackWrites (n : Nat) (x : (Int × (List (ByteArray × (ByteArray × Bool))))) : Option (Int × (List Int)) :=
((m_spec_l1In (x.1, (1 : Int), (1000000 : Int))).bind fun r1 =>
(cond (!r1)
 (some ((3 : Int), []))
 ((m_spec_WritesFault x.2).bind fun r2 =>
 (cond (!(r2 == (0 : Int)))
  (some (r2, []))
  ((m_spec_l6Pack (x.1, x.2)).bind fun r3 =>
  some ((0 : Int), r3))))))
def m_spec_PackWrites (x : (Int × (List (ByteArray × (ByteArray × Bool))))) : Option (Int × (List Int)) := p_spec_PackWrites FU x
def a_spec_PackWrites : Ann := .leaf
def S_spec_PackWrites : FSpec := ⟨[.val (.int .i64), .val Kd18], [Kd17], m_spec_PackWrites⟩

/-! spec.l6Unpack -/
def l_spec_l6Unpack_1 (n : Nat) (x : (List Int)) (z0 : ((List (ByteArray × (ByteArray × Bool))) × Int)) : Option ((List (ByteArray × (ByteArray × Bool))) ⊕ (Int × ((List (ByteArray × (ByteArray × Bool))) × Bool))) :=
(lp (fun rec26 (z25 : ((List (ByteArray × (ByteArray × Bool))) × Int)) =>
 (cond (decide (z25.2 < (lenI x)))
  ((geti x z25.2).bind fun y27 =>
  ((geti x z25.2).bind fun y28 =>
  (cond (decide (y28 > (1 : Int)))
   (some (Sum.inr ((0 : Int), [], false)))
   ((m_spec_l6Text (x, IntKind.wrap .i64 (z25.2 + (1 : Int)))).bind fun r29 =>
   (cond (decide (r29.2 < (0 : Int)))
    (some (Sum.inr ((0 : Int), [], false)))
    (Option.bind (α := ((Int × (ByteArray × (ByteArray × Bool))) ⊕ ((List (ByteArray × (ByteArray × Bool))) ⊕ (Int × ((List (ByteArray × (ByteArray × Bool))) × Bool)))))
     (cond (!(y27 == (1 : Int)))
      ((m_spec_l6Text (x, r29.2)).bind fun r31 =>
      (cond (decide (r31.2 < (0 : Int)))
       (some (Sum.inr (Sum.inr ((0 : Int), [], false))))
       (some (Sum.inl (r31.2, (r29.1, (r31.1, (y27 == (1 : Int)))))))))
      (some (Sum.inl (r29.2, (r29.1, ((⟨#[]⟩ : ByteArray), (y27 == (1 : Int))))))))
     (Sum.elim (fun j32 =>
    (chk (Nat.ble ((z25.1.length + [j32.2].length) * 40) maxBytes)
    (rec26 ((z25.1 ++ [j32.2]), j32.1)))) some)))))))
  (some (Sum.inl z25.1)))) n z0)
def p_spec_l6Unpack (n : Nat) (x : (List Int)) : Option (Int × ((List (ByteArray × (ByteArray × Bool))) × Bool)) :=
(cond (decide ((lenI x) < (8 : Int)))
 (some ((0 : Int), [], false))
 (chk (bndB none (some (8 : Int)) none x.length)
  ((m_spec_l3Number (cutL none (some (8 : Int)) x)).bind fun r1 =>
  (Option.bind (α := ((List (ByteArray × (ByteArray × Bool))) ⊕ (Int × ((List (ByteArray × (ByteArray × Bool))) × Bool))))
   (l_spec_l6Unpack_1 n x (([] : List (ByteArray × (ByteArray × Bool))), (8 : Int)))
   (Sum.elim (fun j34 =>
  ((m_spec_PackWrites (r1, j34)).bind fun r35 =>
  some (r1, j34, (r35.1 == (0 : Int))))) some)))))
def m_spec_l6Unpack (x : (List Int)) : Option (Int × ((List (ByteArray × (ByteArray × Bool))) × Bool)) := p_spec_l6Unpack FU x
def a_spec_l6Unpack : Ann := (.node .leaf (.node .leaf (.node .leaf (.node .leaf (.node .leaf (.joinx [.slot 6 Kd16] [2, 3, 4, 7, 8, 9, 10, 11, 12, 20, 21, 22, 23, 24, 25, 26, 27, 28, 29, 30, 31, 32, 33, 34, 35, 36, 37, 38, 39, 40, 41, 42, 43, 44, 45, 46, 47, 48, 49, 50, 51, 52, 53, 54, 55, 56, 57, 58, 59, 60, 61, 62, 63, 64] (.loop [.slot 6 Kd16, .slot 7 (.int .i64)] [2, 3, 4, 8, 9, 10, 11, 12, 20, 21, 22, 23, 24, 25, 26, 27, 28, 29, 30, 31, 32, 33, 34, 35, 36, 37, 38, 39, 40, 41, 42, 43, 44, 45, 46, 47, 48, 49, 50, 51, 52, 53, 54, 55, 56, 57, 58, 59, 60, 61, 62, 63, 64] (.node .leaf (.node .leaf (.node .leaf (.node .leaf (.node .leaf (.node .leaf (.node .leaf (.joinx [.slot 7 (.int .i64), .box 2 Kd19] [11, 12, 47, 48, 49, 50, 51, 52, 53, 54, 55, 56, 57, 58, 59, 60] .leaf .leaf))))))))) .leaf))))))
def S_spec_l6Unpack : FSpec := ⟨[.val (.sl none (.int .u8))], [(.int .i64), Kd16, .bool], m_spec_l6Unpack⟩

/-! spec.l6Rows -/
def l_spec_l6Rows_1 (n : Nat) (x_1 : Int) (x_2 : (List (ByteArray × (ByteArray × Bool)))) (z0 : ((List (ByteArray × (Int × (ByteArray × Bool)))) × Int)) : Option (List (ByteArray × (Int × (ByteArray × Bool)))) :=
(lp (fun rec6 (z5 : ((List (ByteArray × (Int × (ByteArray × Bool)))) × Int)) =>
 (cond (decide (z5.2 < (lenI x_2)))
  ((geti x_2 z5.2).bind fun y7 =>
  ((geti x_2 z5.2).bind fun y8 =>
  ((geti x_2 z5.2).bind fun y9 =>
  (chk (Nat.ble ((z5.1.length + [(y7.1, (x_1, (y8.2.1, y9.2.2)))].length) * 48) maxBytes)
  (rec6 ((z5.1 ++ [(y7.1, (x_1, (y8.2.1, y9.2.2)))]), IntKind.wrap .i64 (z5.2 + (1 : Int))))))))
  (some z5.1))) n z0)
def p_spec_l6Rows (n : Nat) (x : (Int × (List (ByteArray × (ByteArray × Bool))))) : Option (List (ByteArray × (Int × (ByteArray × Bool)))) :=
(l_spec_l6Rows_1 n x.1 x.2 (([] : List (ByteArray × (Int × (ByteArray × Bool)))), (0 : Int)))
def m_spec_l6Rows (x : (Int × (List (ByteArray × (ByteArray × Bool))))) : Option (List (ByteArray × (Int × (ByteArray × Bool)))) := p_spec_l6Rows FU x
def a_spec_l6Rows : Ann := (.node .leaf (.node .leaf (.node (.node .leaf (.loop [.slot 5 Kd11, .slot 6 (.int .i64)] [8, 9, 10, 11, 12, 13, 14, 15, 16, 17, 18, 19, 20, 21, 22, 23, 24, 25, 26, 27, 28, 29, 30, 31, 32, 33] (.node .leaf (.node (.lazy 32 .leaf) .leaf)))) .leaf)))
def S_spec_l6Rows : FSpec := ⟨[.val (.int .i64), .val Kd18], [Kd11], m_spec_l6Rows⟩

/-! spec.l5Put -/
def l_spec_l5Put_1 (n : Nat) (x_1 : (List (ByteArray × (Int × (ByteArray × Bool))))) (x_2 : (ByteArray × (Int × (ByteArray × Bool)))) (z0 : Int) : Option Int :=
(lp (fun rec22 (z21 : Int) =>
 (Option.bind (α := Bool)
  (cond (decide (z21 < (lenI x_1)))
   ((geti x_1 z21).bind fun y25 =>
   ((m_spec_l5Ahead (y25, x_2)).bind fun r26 =>
   some r26))
   (some false)) fun j27 =>
 (cond j27
  (rec22 (IntKind.wrap .i64 (z21 + (1 : Int))))
  (some z21)))) n z0)
def p_spec_l5Put (n : Nat) (x : ((List (ByteArray × (Int × (ByteArray × Bool)))) × (ByteArray × (Int × (ByteArray × Bool))))) : Option (List (ByteArray × (Int × (ByteArray × Bool)))) :=
(Option.bind (α := Int)
 (l_spec_l5Put_1 n x.1 x.2 (0 : Int)) fun j29 =>
(Option.bind (α := Bool)
 (cond (decide (j29 < (lenI x.1)))
  ((geti x.1 j29).bind fun y32 =>
  ((m_spec_l5Ahead (x.2, y32)).bind fun r33 =>
  some (!r33)))
  (some false)) fun j34 =>
(cond j34
 (some x.1)
 (chk (bndB none (some j29) none x.1.length)
  (chk (bndB (some j29) none none x.1.length)
   (chk (Nat.ble ((cutL none (some j29) x.1).length * 48) maxBytes)
   (chk (Nat.ble (((cutL none (some j29) x.1).length + [x.2].length) * 48) maxBytes)
   (chk (Nat.ble ((((cutL none (some j29) x.1) ++ [x.2]).length + (cutL (some j29) none x.1).length) * 48) maxBytes)
   (some (((cutL none (some j29) x.1) ++ [x.2]) ++ (cutL (some j29) none x.1)))))))))))
def m_spec_l5Put (x : ((List (ByteArray × (Int × (ByteArray × Bool)))) × (ByteArray × (Int × (ByteArray × Bool))))) : Option (List (ByteArray × (Int × (ByteArray × Bool)))) := p_spec_l5Put FU x
def a_spec_l5Put : Ann := (.node .leaf (.node .leaf (.join [.slot 5 (.int .i64)] [6, 7, 8, 9, 10, 11, 12, 13, 14, 15, 16, 17, 18, 19] (.loop [.slot 5 (.int .i64)] [6, 7, 8, 9, 10, 11, 12, 13, 14, 15, 16, 17, 18, 19] (.node (.join [.slot 17 .bool] [6, 7, 8, 9, 10, 11, 12, 13, 14, 15, 16] .leaf .leaf) .leaf)) (.node (.join [.slot 32 .bool] [20, 21, 22, 23, 24, 25, 26, 27, 28, 29, 30, 31] .leaf .leaf) (.node (.lazy 40 (.lazy 34 .leaf)) .leaf)))))
def S_spec_l5Put : FSpec := ⟨[.val Kd12, .val Kd15], [Kd12], m_spec_l5Put⟩

/-! spec.l6Replay -/
def l_spec_l6Replay_1 (n : Nat) (r78 : (List (ByteArray × (Int × (ByteArray × Bool))))) (r76_1 : Int) (z0 : ((List (ByteArray × (Int × (ByteArray × Bool)))) × Int)) : Option (((List (ByteArray × (Int × (ByteArray × Bool)))) × Int) ⊕ ((List (ByteArray × (Int × (ByteArray × Bool)))) × Bool)) :=
(lp (fun rec83 (z82 : ((List (ByteArray × (Int × (ByteArray × Bool)))) × Int)) =>
 (cond (decide (z82.2 < (lenI r78)))
  ((geti r78 z82.2).bind fun _ =>
  ((r78[z82.2.toNat]?).bind fun y84 =>
  ((m_spec_l5Put (z82.1, y84)).bind fun r85 =>
  rec83 (r85, IntKind.wrap .i64 (z82.2 + (1 : Int))))))
  (some (Sum.inl (z82.1, r76_1))))) n z0)
def l_spec_l6Replay_2 (n : Nat) (r2_1 : (List (List Int))) (x_2 : Int) (z0 : ((List (ByteArray × (Int × (ByteArray × Bool)))) × (Int × Int))) : Option ((List (ByteArray × (Int × (ByteArray × Bool)))) × Bool) :=
(lp (fun rec62 (z61 : ((List (ByteArray × (Int × (ByteArray × Bool)))) × (Int × Int))) =>
 (cond (decide (z61.2.2 < (lenI r2_1)))
  (Option.bind (α := (((List (ByteArray × (Int × (ByteArray × Bool)))) × Int) ⊕ ((List (ByteArray × (Int × (ByteArray × Bool)))) × Bool)))
   ((geti r2_1 z61.2.2).bind fun _ =>
   ((r2_1[z61.2.2.toNat]?).bind fun y75 =>
   ((m_spec_l6Unpack y75).bind fun r76 =>
   (Option.bind (α := Bool)
    (cond (!r76.2.2)
     (some true)
     (cond (decide (r76.1 ≤ z61.2.1))
      (some true)
      (some (decide (r76.1 ≥ x_2))))) fun j77 =>
   (cond j77
    (some (Sum.inr ([], false)))
    ((m_spec_l6Rows (r76.1, r76.2.1)).bind fun r78 =>
    (l_spec_l6Replay_1 n r78 r76.1 (z61.1, (0 : Int)))))))))
   (Sum.elim (fun j87 =>
  rec62 (j87.1, j87.2, IntKind.wrap .i64 (z61.2.2 + (1 : Int)))) some))
  (some (z61.1, true)))) n z0)
def p_spec_l6Replay (n : Nat) (x : (((List Int) × (List Int)) × Int)) : Option ((List (ByteArray × (Int × (ByteArray × Bool)))) × Bool) :=
((m_spec_l4Sync x.1).bind fun r1 =>
((m_spec_l3Records r1.1).bind fun r2 =>
(cond (decide (r2.2 < (IntKind.wrap .i64 ((lenI x.1.1) + (lenI x.1.2)))))
 (some ([], false))
 (l_spec_l6Replay_2 n r2.1 x.2 (([] : List (ByteArray × (Int × (ByteArray × Bool)))), (0 : Int), (0 : Int))))))
def m_spec_l6Replay (x : (((List Int) × (List Int)) × Int)) : Option ((List (ByteArray × (Int × (ByteArray × Bool)))) × Bool) := p_spec_l6Replay FU x
def a_spec_l6Replay : Ann := (.node .leaf (.node .leaf (.node .leaf (.node .leaf (.node .leaf (.node (.node .leaf (.loop [.slot 8 Kd12, .slot 9 (.int .i64), .slot 10 (.int .i64)] [4, 5, 11, 12, 13, 14, 15, 33, 34, 35, 36, 37, 38, 39, 40, 41, 42, 43, 44, 45, 46, 47, 48, 49, 50, 51, 52, 53, 54, 55, 56, 57, 58, 59, 60, 61, 62, 63, 64, 65, 66, 67, 68, 69, 70, 71, 72, 73, 74, 75] (.node .leaf (.joinx [.slot 8 Kd12, .slot 9 (.int .i64)] [11, 12, 13, 14, 15, 39, 40, 41, 42, 43, 44, 45, 46, 47, 48, 49, 50, 51, 52, 53, 54, 55, 56, 57, 58, 59, 60, 61, 62, 63, 64, 65, 66, 67, 68, 69, 70, 71, 72, 73, 74, 75] (.node .leaf (.node (.join [.slot 59 .bool] [48, 49, 50, 51, 52, 53, 54, 55, 56, 57, 58] .leaf .leaf) (.node .leaf (.node .leaf (.node .leaf (.loop [.slot 8 Kd12, .slot 15 (.int .i64)] [64, 65, 66, 67, 68, 69, 70, 71, 72, 73, 74, 75] .leaf)))))) .leaf)))) .leaf))))))
def S_spec_l6Replay : FSpec := ⟨[.val Kd14, .val (.int .i64)], [Kd12, .bool], m_spec_l6Replay⟩

/-! spec.l6Same -/
def l_spec_l6Same_1 (n : Nat) (x_1 : (List (ByteArray × (Int × (ByteArray × Bool))))) (x_2 : (List (ByteArray × (Int × (ByteArray × Bool))))) (z0 : Int) : Option Bool :=
(lp (fun rec5 (z4 : Int) =>
 (cond (decide (z4 < (lenI x_1)))
  ((geti x_1 z4).bind fun y6 =>
  ((geti x_2 z4).bind fun y7 =>
  (cond (!((y6.1.toList == y7.1.toList) && ((y6.2.1 == y7.2.1) && ((y6.2.2.1.toList == y7.2.2.1.toList) && ((y6.2.2.2 == y7.2.2.2) && true)))))
   (some false)
   (rec5 (IntKind.wrap .i64 (z4 + (1 : Int)))))))
  (some true))) n z0)
def p_spec_l6Same (n : Nat) (x : ((List (ByteArray × (Int × (ByteArray × Bool)))) × (List (ByteArray × (Int × (ByteArray × Bool)))))) : Option Bool :=
(cond (!((lenI x.1) == (lenI x.2)))
 (some false)
 (l_spec_l6Same_1 n x.1 x.2 (0 : Int)))
def m_spec_l6Same (x : ((List (ByteArray × (Int × (ByteArray × Bool)))) × (List (ByteArray × (Int × (ByteArray × Bool)))))) : Option Bool := p_spec_l6Same FU x
def a_spec_l6Same : Ann := (.node .leaf (.node .leaf (.node (.node .leaf (.loop [.slot 5 (.int .i64)] [4, 11, 12, 13, 14, 15, 16, 17, 18, 19, 20, 21, 22, 23, 24, 25] .leaf)) .leaf)))
def S_spec_l6Same : FSpec := ⟨[.val Kd12, .val Kd12], [.bool], m_spec_l6Same⟩

/-! spec.EngineFault -/
def l_spec_EngineFault_1 (n : Nat) (x_2_2_1 : (List (List (ByteArray × (Int × (ByteArray × Bool)))))) (z0 : Int) : Option (Unit ⊕ Int) :=
(lp (fun rec15 (z14 : Int) =>
 (cond (decide (z14 < (lenI x_2_2_1)))
  ((geti x_2_2_1 z14).bind fun y16 =>
  ((m_spec_TableFault y16).bind fun r17 =>
  (cond (!(r17 == (0 : Int)))
   (some (Sum.inr r17))
   (rec15 (IntKind.wrap .i64 (z14 + (1 : Int)))))))
  (some (Sum.inl ())))) n z0)
def l_spec_EngineFault_2 (n : Nat) (x_2_2_1 : (List (List (ByteArray × (Int × (ByteArray × Bool)))))) (x_2_2_2 : Int) (z0 : Int) : Option (Unit ⊕ Int) :=
(lp (fun rec37 (z36 : Int) =>
 (cond (decide (z36 < (lenI x_2_2_1)))
  ((geti x_2_2_1 z36).bind fun y38 =>
  ((m_spec_l6Below (y38, x_2_2_2)).bind fun r39 =>
  (cond (!r39)
   (some (Sum.inr (3 : Int)))
   (rec37 (IntKind.wrap .i64 (z36 + (1 : Int)))))))
  (some (Sum.inl ())))) n z0)
def l_spec_EngineFault_3 (n : Nat) (x_2_1 : (List (ByteArray × (Int × (ByteArray × Bool))))) (x_2_2_1 : (List (List (ByteArray × (Int × (ByteArray × Bool)))))) (z68 : Int) (z0 : Int) : Option (Unit ⊕ Int) :=
(lp (fun rec85 (z84 : Int) =>
 (cond (decide (z84 < (lenI x_2_2_1)))
  ((geti x_2_2_1 z84).bind fun y86 =>
  ((geti x_2_1 z68).bind fun y87 =>
  ((m_spec_l6Below (y86, y87.2.1)).bind fun r88 =>
  (cond (!r88)
   (some (Sum.inr (1 : Int)))
   (rec85 (IntKind.wrap .i64 (z84 + (1 : Int))))))))
  (some (Sum.inl ())))) n z0)
def l_spec_EngineFault_4 (n : Nat) (x_2_1 : (List (ByteArray × (Int × (ByteArray × Bool))))) (x_2_2_1 : (List (List (ByteArray × (Int × (ByteArray × Bool)))))) (z0 : Int) : Option Int :=
(lp (fun rec69 (z68 : Int) =>
 (cond (decide (z68 < (lenI x_2_1)))
  (Option.bind (α := (Unit ⊕ Int))
   (l_spec_EngineFault_3 n x_2_1 x_2_2_1 z68 (0 : Int))
   (Sum.elim (fun j90 =>
  rec69 (IntKind.wrap .i64 (z68 + (1 : Int)))) some))
  (some (0 : Int)))) n z0)
def p_spec_EngineFault (n : Nat) (x : (((List Int) × (List Int)) × ((List (ByteArray × (Int × (ByteArray × Bool)))) × ((List (List (ByteArray × (Int × (ByteArray × Bool))))) × Int)))) : Option Int :=
((m_spec_LogFault x.1).bind fun r1 =>
(cond (!(r1 == (0 : Int)))
 (some r1)
 ((m_spec_TableFault x.2.1).bind fun r2 =>
 (cond (!(r2 == (0 : Int)))
  (some r2)
  (cond (decide ((lenI x.2.2.1) > (6 : Int)))
   (some (2 : Int))
   (Option.bind (α := (Unit ⊕ Int))
    (l_spec_EngineFault_1 n x.2.2.1 (0 : Int))
    (Sum.elim (fun j19 =>
   (Option.bind (α := Bool)
    ((m_spec_l1In (x.2.2.2, (1 : Int), (1000000 : Int))).bind fun r22 =>
    (cond (!r22)
     (some true)
     ((m_spec_l6Below (x.2.1, x.2.2.2)).bind fun r23 =>
     some (!r23)))) fun j24 =>
   (cond j24
    (some (3 : Int))
    (Option.bind (α := (Unit ⊕ Int))
     (l_spec_EngineFault_2 n x.2.2.1 x.2.2.2 (0 : Int))
     (Sum.elim (fun j41 =>
    ((m_spec_l6Replay (x.1, x.2.2.2)).bind fun r42 =>
    (Option.bind (α := Bool)
     (cond (!r42.2)
      (some true)
      ((m_spec_l6Same (r42.1, x.2.1)).bind fun r44 =>
      some (!r44))) fun j45 =>
    (cond j45
     (some (1 : Int))
     (l_spec_EngineFault_4 n x.2.1 x.2.2.1 (0 : Int)))))) some))))) some)))))))
def m_spec_EngineFault (x : (((List Int) × (List Int)) × ((List (ByteArray × (Int × (ByteArray × Bool)))) × ((List (List (ByteArray × (Int × (ByteArray × Bool))))) × Int)))) : Option Int := p_spec_EngineFault FU x
def a_spec_EngineFault : Ann := (.node .leaf (.node .leaf (.node .leaf (.node .leaf (.joinx [] [2, 5, 6, 28, 29, 30, 31, 32, 33, 34, 35, 36, 37, 38, 39, 40, 41, 42, 43] (.node .leaf (.loop [.slot 5 (.int .i64)] [2, 6, 28, 29, 30, 31, 32, 33, 34, 35, 36, 37, 38, 39, 40, 41, 42, 43] .leaf)) (.node (.join [.slot 55 .bool] [44, 45, 46, 47, 48, 49, 50, 51, 52, 53, 54] .leaf .leaf) (.joinx [] [2, 7, 56, 57, 58, 59, 60, 61, 62, 63, 64, 65, 66, 67, 68, 69, 70, 71] (.node .leaf (.loop [.slot 7 (.int .i64)] [2, 56, 57, 58, 59, 60, 61, 62, 63, 64, 65, 66, 67, 68, 69, 70, 71] .leaf)) (.node .leaf (.node (.join [.slot 88 .bool] [80, 81, 82, 83, 84, 85, 86, 87] .leaf .leaf) (.node (.node .leaf (.loop [.slot 10 (.int .i64)] [2, 11, 89, 90, 91, 92, 93, 94, 95, 96, 97, 98, 99, 100, 101, 102, 103, 104, 105, 106, 107, 108, 109, 110, 111, 112, 113, 114, 115] (.node .leaf (.joinx [] [2, 11, 96, 97, 98, 99, 100, 101, 102, 103, 104, 105, 106, 107, 108, 109, 110, 111, 112, 113, 114, 115] (.node .leaf (.loop [.slot 11 (.int .i64)] [2, 96, 97, 98, 99, 100, 101, 102, 103, 104, 105, 106, 107, 108, 109, 110, 111, 112, 113, 114, 115] .leaf)) .leaf)))) .leaf))))))))))
def S_spec_EngineFault : FSpec := ⟨[.val Kd6], [(.int .i64)], m_spec_EngineFault⟩

/-! spec.l4Copy -/
def p_spec_l4Copy (n : Nat) (x : ((List Int) × (List Int))) : Option ((List Int) × (List Int)) :=
(chk (Nat.ble (x.1.length * 1) maxBytes)
(chk (Nat.ble (x.2.length * 1) maxBytes)
(some x)))
def m_spec_l4Copy (x : ((List Int) × (List Int))) : Option ((List Int) × (List Int)) := p_spec_l4Copy FU x
def a_spec_l4Copy : Ann := (.node .leaf (.node (.lazy 7 (.lazy 3 .leaf)) .leaf))
def S_spec_l4Copy : FSpec := ⟨[.val Kd14], [Kd13], m_spec_l4Copy⟩

/-! spec.l6Copy -/
def l_spec_l6Copy_1 (n : Nat) (x_2_2_1 : (List (List (ByteArray × (Int × (ByteArray × Bool)))))) (z0 : (Int × (((List Int) × (List Int)) × ((List (ByteArray × (Int × (ByteArray × Bool)))) × ((List (List (ByteArray × (Int × (ByteArray × Bool))))) × Int))))) : Option (((List Int) × (List Int)) × ((List (ByteArray × (Int × (ByteArray × Bool)))) × ((List (List (ByteArray × (Int × (ByteArray × Bool))))) × Int))) :=
(lp (fun rec7 (z6 : (Int × (((List Int) × (List Int)) × ((List (ByteArray × (Int × (ByteArray × Bool)))) × ((List (List (ByteArray × (Int × (ByteArray × Bool))))) × Int))))) =>
 (cond (decide (z6.1 < (lenI x_2_2_1)))
  ((geti x_2_2_1 z6.1).bind fun y8 =>
  (chk (Nat.ble (y8.length * 48) maxBytes)
  (chk (Nat.ble ((z6.2.2.2.1.length + [y8].length) * 24) maxBytes)
  (rec7 (IntKind.wrap .i64 (z6.1 + (1 : Int)), (z6.2.1, (z6.2.2.1, ((z6.2.2.2.1 ++ [y8]), z6.2.2.2.2))))))))
  (some z6.2))) n z0)
def p_spec_l6Copy (n : Nat) (x : (((List Int) × (List Int)) × ((List (ByteArray × (Int × (ByteArray × Bool)))) × ((List (List (ByteArray × (Int × (ByteArray × Bool))))) × Int)))) : Option (((List Int) × (List Int)) × ((List (ByteArray × (Int × (ByteArray × Bool)))) × ((List (List (ByteArray × (Int × (ByteArray × Bool))))) × Int))) :=
(same
 ((m_spec_l4Copy x.1).bind fun r1 =>
 (dup 1
  (chk (Nat.ble (x.2.1.length * 48) maxBytes)
  (l_spec_l6Copy_1 n x.2.2.1 ((0 : Int), (r1, (x.2.1, ([], x.2.2.2))))))))
 ((m_spec_l4Copy x.1).bind fun r1 =>
 (chk (Nat.ble (x.2.1.length * 48) maxBytes)
 (l_spec_l6Copy_1 n x.2.2.1 ((0 : Int), (r1, (x.2.1, ([], x.2.2.2))))))))
def m_spec_l6Copy (x : (((List Int) × (List Int)) × ((List (ByteArray × (Int × (ByteArray × Bool)))) × ((List (List (ByteArray × (Int × (ByteArray × Bool))))) × Int)))) : Option (((List Int) × (List Int)) × ((List (ByteArray × (Int × (ByteArray × Bool)))) × ((List (List (ByteArray × (Int × (ByteArray × Bool))))) × Int))) := p_spec_l6Copy FU x
def a_spec_l6Copy : Ann := (.node .leaf (.node (.lazy 8 .leaf) (.node (.node .leaf (.loop [.slot 4 (.int .i64), .box 1000003 Kd4] [15, 16, 17, 18, 19, 20, 21, 22, 23, 24, 25, 26, 27, 28, 29, 30, 31, 32, 33] (.node .leaf (.node (.lazy 24 .leaf) .leaf)))) .leaf)))
def S_spec_l6Copy : FSpec := ⟨[.val Kd6], [Kd4], m_spec_l6Copy⟩

/-! spec.l3Short -/
def p_spec_l3Short (n : Nat) (x : Int) : Option (List Int) :=
(cond ((256 : Int) == 0) none
 (cond ((256 : Int) == 0) none
  (some [IntKind.wrap .u8 (IntKind.wrap .i64 (Int.tdiv x (256 : Int))), IntKind.wrap .u8 (Int.tmod x (256 : Int))])))
def m_spec_l3Short (x : Int) : Option (List Int) := p_spec_l3Short FU x
def a_spec_l3Short : Ann := .leaf
def S_spec_l3Short : FSpec := ⟨[.val (.int .i64)], [Kd20], m_spec_l3Short⟩

/-! spec.l3Frame -/
def p_spec_l3Frame (n : Nat) (x : (List Int)) : Option (List Int) :=
((m_spec_l3Short (lenI x)).bind fun r1 =>
((m_spec_CheckOf x).bind fun r2 =>
((m_spec_l3Short r2).bind fun r3 =>
(chk (Nat.ble ((r1.length + r3.length) * 1) maxBytes)
(chk (Nat.ble (((r1 ++ r3).length + x.length) * 1) maxBytes)
(some ((r1 ++ r3) ++ x)))))))
def m_spec_l3Frame (x : (List Int)) : Option (List Int) := p_spec_l3Frame FU x
def a_spec_l3Frame : Ann := .leaf
def S_spec_l3Frame : FSpec := ⟨[.val (.sl none (.int .u8))], [Kd20], m_spec_l3Frame⟩

/-! spec.l4Append -/
def p_spec_l4Append (n : Nat) (x : (((List Int) × (List Int)) × (List Int))) : Option (((List Int) × (List Int)) × Int) :=
((m_spec_l4Copy x.1).bind fun r1 =>
((m_spec_l3Frame x.2).bind fun r2 =>
(chk (Nat.ble ((r1.2.length + r2.length) * 1) maxBytes)
((m_spec_LogFault (r1.1, (r1.2 ++ r2))).bind fun r3 =>
some ((r1.1, (r1.2 ++ r2)), r3)))))
def m_spec_l4Append (x : (((List Int) × (List Int)) × (List Int))) : Option (((List Int) × (List Int)) × Int) := p_spec_l4Append FU x
def a_spec_l4Append : Ann := .leaf
def S_spec_l4Append : FSpec := ⟨[.val Kd14, .val (.sl none (.int .u8))], [Kd13, (.int .i64)], m_spec_l4Append⟩

/-! spec.WriteBatch -/
def l_spec_WriteBatch_1 (n : Nat) (r9 : (List (ByteArray × (Int × (ByteArray × Bool))))) (z0 : (Int × (((List Int) × (List Int)) × ((List (ByteArray × (Int × (ByteArray × Bool)))) × ((List (List (ByteArray × (Int × (ByteArray × Bool))))) × Int))))) : Option (((List Int) × (List Int)) × ((List (ByteArray × (Int × (ByteArray × Bool)))) × ((List (List (ByteArray × (Int × (ByteArray × Bool))))) × Int))) :=
(lp (fun rec28 (z27 : (Int × (((List Int) × (List Int)) × ((List (ByteArray × (Int × (ByteArray × Bool)))) × ((List (List (ByteArray × (Int × (ByteArray × Bool))))) × Int))))) =>
 (cond (decide (z27.1 < (lenI r9)))
  ((geti r9 z27.1).bind fun _ =>
  ((r9[z27.1.toNat]?).bind fun y29 =>
  ((m_spec_l5Put (z27.2.2.1, y29)).bind fun r30 =>
  rec28 (IntKind.wrap .i64 (z27.1 + (1 : Int)), (z27.2.1, (r30, z27.2.2.2))))))
  (some z27.2))) n z0)
def p_spec_WriteBatch (n : Nat) (x : ((((List Int) × (List Int)) × ((List (ByteArray × (Int × (ByteArray × Bool)))) × ((List (List (ByteArray × (Int × (ByteArray × Bool))))) × Int))) × ((List (ByteArray × (ByteArray × Bool))) × Bool))) : Option (Int × (Int × (((List Int) × (List Int)) × ((List (ByteArray × (Int × (ByteArray × Bool)))) × ((List (List (ByteArray × (Int × (ByteArray × Bool))))) × Int))))) :=
((m_spec_EngineFault x.1).bind fun r1 =>
(cond (!(r1 == (0 : Int)))
 (some (r1, ((0 : Int), (([], []), ([], ([], (0 : Int)))))))
 ((m_spec_WritesFault x.2.1).bind fun r2 =>
 (cond (!(r2 == (0 : Int)))
  (some (r2, ((0 : Int), (([], []), ([], ([], (0 : Int)))))))
  (cond (x.1.2.2.2 == (1000000 : Int))
   (some ((3 : Int), ((0 : Int), (([], []), ([], ([], (0 : Int)))))))
   ((m_spec_l6Copy x.1).bind fun r3 =>
   (same
    ((m_spec_l6Pack (x.1.2.2.2, x.2.1)).bind fun r4 =>
    (dup 1
     ((m_spec_l4Append (x.1.1, r4)).bind fun r5 =>
     (cond (!(r5.2 == (0 : Int)))
      (some (r5.2, ((0 : Int), (([], []), ([], ([], (0 : Int)))))))
      (Option.bind (α := ((List Int) × (List Int)))
       (cond x.2.2
        ((m_spec_l4Sync r5.1).bind fun r7 =>
        some r7)
        (some r5.1)) fun j8 =>
      ((m_spec_l6Rows (x.1.2.2.2, x.2.1)).bind fun r9 =>
      (Option.bind (α := (((List Int) × (List Int)) × ((List (ByteArray × (Int × (ByteArray × Bool)))) × ((List (List (ByteArray × (Int × (ByteArray × Bool))))) × Int))))
       (l_spec_WriteBatch_1 n r9 ((0 : Int), (j8, r3.2))) fun j32 =>
      (cond (decide ((lenI j32.2.1) > (200 : Int)))
       (some ((2 : Int), ((0 : Int), (([], []), ([], ([], (0 : Int)))))))
       (some ((0 : Int), (x.1.2.2.2, (j32.1, (j32.2.1, (j32.2.2.1, IntKind.wrap .i64 (x.1.2.2.2 + (1 : Int))))))))))))))))
    ((m_spec_l6Pack (x.1.2.2.2, x.2.1)).bind fun r4 =>
    ((m_spec_l4Append (x.1.1, r4)).bind fun r5 =>
    (cond (!(r5.2 == (0 : Int)))
     (some (r5.2, ((0 : Int), (([], []), ([], ([], (0 : Int)))))))
     (Option.bind (α := ((List Int) × (List Int)))
      (cond x.2.2
       ((m_spec_l4Sync r5.1).bind fun r7 =>
       some r7)
       (some r5.1)) fun j8 =>
     ((m_spec_l6Rows (x.1.2.2.2, x.2.1)).bind fun r9 =>
     (Option.bind (α := (((List Int) × (List Int)) × ((List (ByteArray × (Int × (ByteArray × Bool)))) × ((List (List (ByteArray × (Int × (ByteArray × Bool))))) × Int))))
      (l_spec_WriteBatch_1 n r9 ((0 : Int), (j8, r3.2))) fun j32 =>
     (cond (decide ((lenI j32.2.1) > (200 : Int)))
      (some ((2 : Int), ((0 : Int), (([], []), ([], ([], (0 : Int)))))))
      (some ((0 : Int), (x.1.2.2.2, (j32.1, (j32.2.1, (j32.2.2.1, IntKind.wrap .i64 (x.1.2.2.2 + (1 : Int))))))))))))))))))))))
def m_spec_WriteBatch (x : ((((List Int) × (List Int)) × ((List (ByteArray × (Int × (ByteArray × Bool)))) × ((List (List (ByteArray × (Int × (ByteArray × Bool))))) × Int))) × ((List (ByteArray × (ByteArray × Bool))) × Bool))) : Option (Int × (Int × (((List Int) × (List Int)) × ((List (ByteArray × (Int × (ByteArray × Bool)))) × ((List (List (ByteArray × (Int × (ByteArray × Bool))))) × Int))))) := p_spec_WriteBatch FU x
def a_spec_WriteBatch : Ann := (.node .leaf (.node .leaf (.node .leaf (.node .leaf (.node .leaf (.node .leaf (.node .leaf (.join [.box 1000010 Kd13] [46, 47, 48] .leaf (.node .leaf (.node .leaf (.join [.box 1000009 Kd5] [13, 55, 56, 57, 58, 59, 60, 61, 62, 63, 64, 65, 66, 67, 68] (.node .leaf (.loop [.slot 13 (.int .i64), .box 1000009 Kd5] [55, 56, 57, 58, 59, 60, 61, 62, 63, 64, 65, 66, 67, 68] .leaf)) .leaf)))))))))))
def S_spec_WriteBatch : FSpec := ⟨[.val Kd6, .val Kd18, .val .bool], [(.pair (.int .i64) (.pair (.int .i64) Kd5))], m_spec_WriteBatch⟩

/-! impl.LogFault -/
def p_impl_LogFault (n : Nat) (x : ((List Int) × (List Int))) : Option Int :=
(cond (decide ((IntKind.wrap .i64 ((lenI x.1) + (lenI x.2))) > (6000 : Int)))
 (some (2 : Int))
 (some (0 : Int)))
def m_impl_LogFault (x : ((List Int) × (List Int))) : Option Int := p_impl_LogFault FU x
def a_impl_LogFault : Ann := .leaf
def S_impl_LogFault : FSpec := ⟨[.val Kd14], [(.int .i64)], m_impl_LogFault⟩

/-! impl.within -/
def p_impl_within (n : Nat) (x : (Int × (Int × Int))) : Option Bool :=
(cond (decide (x.1 ≥ x.2.1))
 (some (decide (x.1 ≤ x.2.2)))
 (some false))
def m_impl_within (x : (Int × (Int × Int))) : Option Bool := p_impl_within FU x
def a_impl_within : Ann := .leaf
def S_impl_within : FSpec := ⟨[.val (.int .i64), .val (.int .i64), .val (.int .i64)], [.bool], m_impl_within⟩

/-! impl.isKey -/
def p_impl_isKey (n : Nat) (x : ByteArray) : Option Bool :=
((m_impl_within (((x.size : Nat) : Int), (1 : Int), (20 : Int))).bind fun r1 =>
some r1)
def m_impl_isKey (x : ByteArray) : Option Bool := p_impl_isKey FU x
def a_impl_isKey : Ann := .leaf
def S_impl_isKey : FSpec := ⟨[.val .str], [.bool], m_impl_isKey⟩

/-! impl.isVersion -/
def p_impl_isVersion (n : Nat) (x : Int) : Option Bool :=
((m_impl_within (x, (1 : Int), (1000000 : Int))).bind fun r1 =>
some r1)
def m_impl_isVersion (x : Int) : Option Bool := p_impl_isVersion FU x
def a_impl_isVersion : Ann := .leaf
def S_impl_isVersion : FSpec := ⟨[.val (.int .i64)], [.bool], m_impl_isVersion⟩

/-! impl.RowFault -/
def p_impl_RowFault (n : Nat) (x : (ByteArray × (Int × (ByteArray × Bool)))) : Option Int :=
(Option.bind (α := Bool)
 ((m_impl_isKey x.1).bind fun r2 =>
 (cond (!r2)
  (some true)
  (cond x.2.2.2
   (some (!(x.2.2.1.toList == (⟨#[]⟩ : ByteArray).toList)))
   (some false)))) fun j3 =>
(cond j3
 (some (1 : Int))
 (cond (decide (((x.2.2.1.size : Nat) : Int) > (100 : Int)))
  (some (2 : Int))
  ((m_impl_isVersion x.2.1).bind fun r4 =>
  (cond (!r4)
   (some (3 : Int))
   (some (0 : Int)))))))
def m_impl_RowFault (x : (ByteArray × (Int × (ByteArray × Bool)))) : Option Int := p_impl_RowFault FU x
def a_impl_RowFault : Ann := (.node .leaf (.node (.join [.slot 3 .bool] [4, 5, 6, 7, 8, 9, 10, 11, 12, 13, 14, 15, 16] .leaf .leaf) .leaf))
def S_impl_RowFault : FSpec := ⟨[.val Kd15], [(.int .i64)], m_impl_RowFault⟩

/-! bytealg.CompareString -/
def p_internal_bytealg_CompareString (n : Nat) (x : (ByteArray × ByteArray)) : Option Int :=
some (cmpB x.1 x.2)
def m_internal_bytealg_CompareString (x : (ByteArray × ByteArray)) : Option Int := p_internal_bytealg_CompareString FU x
def a_internal_bytealg_CompareString : Ann := .leaf
def S_internal_bytealg_CompareString : FSpec := ⟨[.val .str, .val .str], [(.int .i64)], m_internal_bytealg_CompareString⟩

/-! strings.Compare -/
def p_strings_Compare (n : Nat) (x : (ByteArray × ByteArray)) : Option Int :=
((m_internal_bytealg_CompareString (x.1, x.2)).bind fun r1 =>
some r1)
def m_strings_Compare (x : (ByteArray × ByteArray)) : Option Int := p_strings_Compare FU x
def a_strings_Compare : Ann := .leaf
def S_strings_Compare : FSpec := ⟨[.val .str, .val .str], [(.int .i64)], m_strings_Compare⟩

/-! cmp.isNaN[int64] -/
def p_cmp_isNaN_int64 (n : Nat) (x : Int) : Option Bool :=
some (!(x == x))
def m_cmp_isNaN_int64 (x : Int) : Option Bool := p_cmp_isNaN_int64 FU x
def a_cmp_isNaN_int64 : Ann := .leaf
def S_cmp_isNaN_int64 : FSpec := ⟨[.val (.int .i64)], [.bool], m_cmp_isNaN_int64⟩

/-! cmp.Compare[int64] -/
def p_cmp_Compare_int64 (n : Nat) (x : (Int × Int)) : Option Int :=
((m_cmp_isNaN_int64 x.1).bind fun r1 =>
((m_cmp_isNaN_int64 x.2).bind fun r2 =>
(cond r1
 (cond r2
  (some (0 : Int))
  (some (-1 : Int)))
 (cond r2
  (some (1 : Int))
  (cond (decide (x.1 < x.2))
   (some (-1 : Int))
   (cond (decide (x.1 > x.2))
    (some (1 : Int))
    (some (0 : Int))))))))
def m_cmp_Compare_int64 (x : (Int × Int)) : Option Int := p_cmp_Compare_int64 FU x
def a_cmp_Compare_int64 : Ann := .leaf
def S_cmp_Compare_int64 : FSpec := ⟨[.val (.int .i64), .val (.int .i64)], [(.int .i64)], m_cmp_Compare_int64⟩

/-! cmp.Or[int] -/
def l_cmp_Or_int_1 (n : Nat) (x : (List Int)) (z0 : Int) : Option Int :=
(lp (fun rec4 (z3 : Int) =>
 (cond (decide (z3 < (lenI x)))
  ((geti x z3).bind fun y5 =>
  (cond (!(y5 == (0 : Int)))
   (some y5)
   (rec4 (IntKind.wrap .i64 (z3 + (1 : Int))))))
  (some (0 : Int)))) n z0)
def p_cmp_Or_int (n : Nat) (x : (List Int)) : Option Int :=
(l_cmp_Or_int_1 n x (0 : Int))
def m_cmp_Or_int (x : (List Int)) : Option Int := p_cmp_Or_int FU x
def a_cmp_Or_int : Ann := (.node .leaf (.node .leaf (.node (.node .leaf (.loop [.slot 8 (.int .i64)] [2, 5, 9, 10, 11, 12, 13, 14, 15, 16] .leaf)) .leaf)))
def S_cmp_Or_int : FSpec := ⟨[.val (.sl none (.int .i64))], [(.int .i64)], m_cmp_Or_int⟩

/-! impl.compareRows -/
def p_impl_compareRows (n : Nat) (x : ((ByteArray × (Int × (ByteArray × Bool))) × (ByteArray × (Int × (ByteArray × Bool))))) : Option Int :=
((m_strings_Compare (x.1.1, x.2.1)).bind fun r1 =>
((m_cmp_Compare_int64 (x.2.2.1, x.1.2.1)).bind fun r2 =>
((m_cmp_Or_int [r1, r2]).bind fun r3 =>
some r3)))
def m_impl_compareRows (x : ((ByteArray × (Int × (ByteArray × Bool))) × (ByteArray × (Int × (ByteArray × Bool))))) : Option Int := p_impl_compareRows FU x
def a_impl_compareRows : Ann := (.node .leaf (.node (.lazy 15 .leaf) .leaf))
def S_impl_compareRows : FSpec := ⟨[.val Kd15, .val Kd15], [(.int .i64)], m_impl_compareRows⟩

/-! impl.TableFault -/
def l_impl_TableFault_1 (n : Nat) (x : (List (ByteArray × (Int × (ByteArray × Bool))))) (z0 : Int) : Option Int :=
(lp (fun rec10 (z9 : Int) =>
 (cond (decide (z9 < (lenI x)))
  ((geti x z9).bind fun y11 =>
  ((m_impl_RowFault y11).bind fun r12 =>
  (cond (!(r12 == (0 : Int)))
   (some r12)
   (Option.bind (α := Bool)
    (cond (decide (z9 > (0 : Int)))
     ((geti x (IntKind.wrap .i64 (z9 - (1 : Int)))).bind fun y15 =>
     ((m_impl_compareRows (y15, y11)).bind fun r16 =>
     some (decide (r16 ≥ (0 : Int)))))
     (some false)) fun j17 =>
   (cond j17
    (some (1 : Int))
    (rec10 (IntKind.wrap .i64 (z9 + (1 : Int)))))))))
  (some (0 : Int)))) n z0)
def p_impl_TableFault (n : Nat) (x : (List (ByteArray × (Int × (ByteArray × Bool))))) : Option Int :=
(cond (decide ((lenI x) > (200 : Int)))
 (some (2 : Int))
 (l_impl_TableFault_1 n x (0 : Int)))
def m_impl_TableFault (x : (List (ByteArray × (Int × (ByteArray × Bool))))) : Option Int := p_impl_TableFault FU x
def a_impl_TableFault : Ann := (.node .leaf (.node .leaf (.node (.node .leaf (.loop [.slot 11 (.int .i64)] [2, 3, 4, 5, 12, 13, 14, 15, 16, 17, 18, 19, 20, 21, 22, 23, 24, 25, 26, 27, 28, 29, 30, 31, 32, 33] (.node .leaf (.node .leaf (.node (.node .leaf (.node .leaf (.join [.slot 32 .bool] [21, 22, 23, 24, 25, 26, 27, 28, 29, 30, 31] .leaf .leaf))) .leaf))))) .leaf)))
def S_impl_TableFault : FSpec := ⟨[.val Kd12], [(.int .i64)], m_impl_TableFault⟩

/-! impl.firstOf -/
def l_impl_firstOf_1 (n : Nat) (x : (List Int)) (z0 : Int) : Option Int :=
(lp (fun rec4 (z3 : Int) =>
 (cond (decide (z3 < (lenI x)))
  ((geti x z3).bind fun y5 =>
  (cond (!(y5 == (0 : Int)))
   (some y5)
   (rec4 (IntKind.wrap .i64 (z3 + (1 : Int))))))
  (some (0 : Int)))) n z0)
def p_impl_firstOf (n : Nat) (x : (List Int)) : Option Int :=
(l_impl_firstOf_1 n x (0 : Int))
def m_impl_firstOf (x : (List Int)) : Option Int := p_impl_firstOf FU x
def a_impl_firstOf : Ann := (.node .leaf (.node (.node .leaf (.loop [.slot 7 (.int .i64)] [2, 4, 8, 9, 10, 11, 12, 13, 14] .leaf)) .leaf))
def S_impl_firstOf : FSpec := ⟨[.val (.sl none (.int .i64))], [(.int .i64)], m_impl_firstOf⟩

/-! impl.Row] -/
def l_slices_Concat_impl_Row_impl_Row_1 (n : Nat) (x : (List (List (ByteArray × (Int × (ByteArray × Bool)))))) (z0 : (Int × Int)) : Option Int :=
(lp (fun rec10 (z9 : (Int × Int)) =>
 (cond (decide (z9.2 < (lenI x)))
  ((geti x z9.2).bind fun y11 =>
  (cond (decide ((IntKind.wrap .i64 (z9.1 + (lenI y11))) < (0 : Int)))
   none
   (rec10 (IntKind.wrap .i64 (z9.1 + (lenI y11)), IntKind.wrap .i64 (z9.2 + (1 : Int))))))
  (some z9.1))) n z0)
def l_slices_Concat_impl_Row_impl_Row_2 (n : Nat) (x : (List (List (ByteArray × (Int × (ByteArray × Bool)))))) (z0 : ((List (ByteArray × (Int × (ByteArray × Bool)))) × Int)) : Option (List (ByteArray × (Int × (ByteArray × Bool)))) :=
(lp (fun rec18 (z17 : ((List (ByteArray × (Int × (ByteArray × Bool)))) × Int)) =>
 (cond (decide (z17.2 < (lenI x)))
  ((geti x z17.2).bind fun y19 =>
  (chk (Nat.ble ((z17.1.length + y19.length) * 48) maxBytes)
  (rec18 ((z17.1 ++ y19), IntKind.wrap .i64 (z17.2 + (1 : Int))))))
  (some z17.1))) n z0)
def p_slices_Concat_impl_Row_impl_Row (n : Nat) (x : (List (List (ByteArray × (Int × (ByteArray × Bool)))))) : Option (List (ByteArray × (Int × (ByteArray × Bool)))) :=
(Option.bind (α := Int)
 (l_slices_Concat_impl_Row_impl_Row_1 n x ((0 : Int), (0 : Int))) fun j13 =>
(Option.bind (α := (List (ByteArray × (Int × (ByteArray × Bool)))))
 (cond (decide (j13 < (0 : Int)))
  none
  (cond (decide ((IntKind.wrap .i64 (j13 - (IntKind.wrap .i64 ((0 : Int) - (0 : Int))))) > (0 : Int)))
   (chk (bndB none (some (0 : Int)) none 0)
    (chk (decide (0 < (IntKind.wrap .i64 (j13 - (IntKind.wrap .i64 ((0 : Int) - (0 : Int)))))) && Nat.ble (48 * (IntKind.wrap .i64 (j13 - (IntKind.wrap .i64 ((0 : Int) - (0 : Int))))).toNat) maxBytes)
    (chk (bndB none (some (0 : Int)) none (List.replicate (IntKind.wrap .i64 (j13 - (IntKind.wrap .i64 ((0 : Int) - (0 : Int))))).toNat ((⟨#[]⟩ : ByteArray), ((0 : Int), ((⟨#[]⟩ : ByteArray), false)))).length)
     (some ((List.replicate (IntKind.wrap .i64 (j13 - (IntKind.wrap .i64 ((0 : Int) - (0 : Int))))).toNat ((⟨#[]⟩ : ByteArray), ((0 : Int), ((⟨#[]⟩ : ByteArray), false)))).take (0 : Int).toNat)))))
   (some []))) fun j14 =>
(l_slices_Concat_impl_Row_impl_Row_2 n x (j14, (0 : Int)))))
def m_slices_Concat_impl_Row_impl_Row (x : (List (List (ByteArray × (Int × (ByteArray × Bool)))))) : Option (List (ByteArray × (Int × (ByteArray × Bool)))) := p_slices_Concat_impl_Row_impl_Row FU x
def a_slices_Concat_impl_Row_impl_Row : Ann := (.node .leaf (.node .leaf (.join [.slot 3 (.int .i64)] [5, 9, 10, 11, 12, 13, 14, 15, 16, 17, 18, 19, 20, 21, 22] (.node .leaf (.loop [.slot 3 (.int .i64), .slot 11 (.int .i64)] [5, 12, 13, 14, 15, 16, 17, 18, 19, 20, 21, 22] .leaf)) (.node (.regj 24 [.slot 24 Kd11] [] (.node .leaf (.node .leaf (.node (.node .leaf (.node .leaf (.node (.own 25 Kd15 .leaf) .leaf))) .leaf))) .leaf) (.node (.node .leaf (.loop [.slot 6 Kd11, .slot 27 (.int .i64)] [8, 28, 29, 30, 31, 32, 33, 34] .leaf)) .leaf)))))
def S_slices_Concat_impl_Row_impl_Row : FSpec := ⟨[.val Kd10], [Kd11], m_slices_Concat_impl_Row_impl_Row⟩

/-! impl.greatest -/
def l_impl_greatest_1 (n : Nat) (x : (List (ByteArray × (Int × (ByteArray × Bool))))) (z0 : (Int × Int)) : Option Int :=
(lp (fun rec4 (z3 : (Int × Int)) =>
 (cond (decide (z3.2 < (lenI x)))
  ((geti x z3.2).bind fun y5 =>
  rec4 ((if y5.2.1 > z3.1 then y5.2.1 else z3.1), IntKind.wrap .i64 (z3.2 + (1 : Int))))
  (some z3.1))) n z0)
def p_impl_greatest (n : Nat) (x : (List (ByteArray × (Int × (ByteArray × Bool))))) : Option Int :=
(l_impl_greatest_1 n x ((0 : Int), (0 : Int)))
def m_impl_greatest (x : (List (ByteArray × (Int × (ByteArray × Bool))))) : Option Int := p_impl_greatest FU x
def a_impl_greatest : Ann := (.node .leaf (.node .leaf (.node (.node .leaf (.loop [.slot 3 (.int .i64), .slot 8 (.int .i64)] [5, 9, 10, 11, 12, 13, 14, 15, 16] .leaf)) .leaf)))
def S_impl_greatest : FSpec := ⟨[.val Kd12], [(.int .i64)], m_impl_greatest⟩

/-! slices.Concat[[]byte,byte] -/
def l_slices_Concat_byte_byte_1 (n : Nat) (x : (List (List Int))) (z0 : (Int × Int)) : Option Int :=
(lp (fun rec10 (z9 : (Int × Int)) =>
 (cond (decide (z9.2 < (lenI x)))
  ((geti x z9.2).bind fun y11 =>
  (cond (decide ((IntKind.wrap .i64 (z9.1 + (lenI y11))) < (0 : Int)))
   none
   (rec10 (IntKind.wrap .i64 (z9.1 + (lenI y11)), IntKind.wrap .i64 (z9.2 + (1 : Int))))))
  (some z9.1))) n z0)
def l_slices_Concat_byte_byte_2 (n : Nat) (x : (List (List Int))) (z0 : ((List Int) × Int)) : Option (List Int) :=
(lp (fun rec18 (z17 : ((List Int) × Int)) =>
 (cond (decide (z17.2 < (lenI x)))
  ((geti x z17.2).bind fun y19 =>
  (chk (Nat.ble ((z17.1.length + y19.length) * 1) maxBytes)
  (rec18 ((z17.1 ++ y19), IntKind.wrap .i64 (z17.2 + (1 : Int))))))
  (some z17.1))) n z0)
def p_slices_Concat_byte_byte (n : Nat) (x : (List (List Int))) : Option (List Int) :=
(Option.bind (α := Int)
 (l_slices_Concat_byte_byte_1 n x ((0 : Int), (0 : Int))) fun j13 =>
(Option.bind (α := (List Int))
 (cond (decide (j13 < (0 : Int)))
  none
  (cond (decide ((IntKind.wrap .i64 (j13 - (IntKind.wrap .i64 ((0 : Int) - (0 : Int))))) > (0 : Int)))
   (chk (bndB none (some (0 : Int)) none 0)
    (chk (decide (0 < (IntKind.wrap .i64 (j13 - (IntKind.wrap .i64 ((0 : Int) - (0 : Int)))))) && Nat.ble (1 * (IntKind.wrap .i64 (j13 - (IntKind.wrap .i64 ((0 : Int) - (0 : Int))))).toNat) maxBytes)
    (chk (bndB none (some (0 : Int)) none (List.replicate (IntKind.wrap .i64 (j13 - (IntKind.wrap .i64 ((0 : Int) - (0 : Int))))).toNat (0 : Int)).length)
     (some ((List.replicate (IntKind.wrap .i64 (j13 - (IntKind.wrap .i64 ((0 : Int) - (0 : Int))))).toNat (0 : Int)).take (0 : Int).toNat)))))
   (some []))) fun j14 =>
(l_slices_Concat_byte_byte_2 n x (j14, (0 : Int)))))
def m_slices_Concat_byte_byte (x : (List (List Int))) : Option (List Int) := p_slices_Concat_byte_byte FU x
def a_slices_Concat_byte_byte : Ann := (.node .leaf (.node .leaf (.join [.slot 3 (.int .i64)] [5, 9, 10, 11, 12, 13, 14, 15, 16, 17, 18, 19, 20, 21, 22] (.node .leaf (.loop [.slot 3 (.int .i64), .slot 11 (.int .i64)] [5, 12, 13, 14, 15, 16, 17, 18, 19, 20, 21, 22] .leaf)) (.node (.regj 24 [.slot 24 Kd20] [] (.node .leaf (.node .leaf (.node (.node .leaf (.node .leaf (.node (.own 25 (.int .u8) .leaf) .leaf))) .leaf))) .leaf) (.node (.node .leaf (.loop [.slot 6 Kd20, .slot 27 (.int .i64)] [8, 28, 29, 30, 31, 32, 33, 34] .leaf)) .leaf)))))
def S_slices_Concat_byte_byte : FSpec := ⟨[.val (.sl none (.sl none (.int .u8)))], [Kd20], m_slices_Concat_byte_byte⟩

/-! impl.CheckOf -/
def l_impl_CheckOf_1 (n : Nat) (x : (List Int)) (z0 : (Int × Int)) : Option Int :=
(lp (fun rec4 (z3 : (Int × Int)) =>
 (cond (decide (z3.2 < (lenI x)))
  ((geti x z3.2).bind fun y5 =>
  (cond ((65521 : Int) == 0) none
   (rec4 (Int.tmod (IntKind.wrap .i64 ((IntKind.wrap .i64 ((IntKind.wrap .i64 (z3.1 * (257 : Int))) + (IntKind.wrap .i64 y5))) + (1 : Int))) (65521 : Int), IntKind.wrap .i64 (z3.2 + (1 : Int))))))
  (some z3.1))) n z0)
def p_impl_CheckOf (n : Nat) (x : (List Int)) : Option Int :=
(l_impl_CheckOf_1 n x ((1 : Int), (0 : Int)))
def m_impl_CheckOf (x : (List Int)) : Option Int := p_impl_CheckOf FU x
def a_impl_CheckOf : Ann := (.node .leaf (.node .leaf (.node (.node .leaf (.loop [.slot 3 (.int .i64), .slot 8 (.int .i64)] [5, 9, 10, 11, 12, 13, 14, 15, 16, 17, 18, 19] .leaf)) .leaf)))
def S_impl_CheckOf : FSpec := ⟨[.val (.sl none (.int .u8))], [(.int .i64)], m_impl_CheckOf⟩

/-! impl.pair -/
def p_impl_pair (n : Nat) (x : Int) : Option (List Int) :=
(chk (decide (0 ≤ (8 : Int)))
 (some [IntKind.wrap .u8 (Int.fdiv x (2 ^ (min (8 : Int).toNat 64))), IntKind.wrap .u8 x]))
def m_impl_pair (x : Int) : Option (List Int) := p_impl_pair FU x
def a_impl_pair : Ann := .leaf
def S_impl_pair : FSpec := ⟨[.val (.int .i64)], [Kd20], m_impl_pair⟩

/-! bytes.Equal -/
def p_bytes_Equal (n : Nat) (x : ((List Int) × (List Int))) : Option Bool :=
some ((strOfNums x.1).toList == (strOfNums x.2).toList)
def m_bytes_Equal (x : ((List Int) × (List Int))) : Option Bool := p_bytes_Equal FU x
def a_bytes_Equal : Ann := .leaf
def S_bytes_Equal : FSpec := ⟨[.val (.sl none (.int .u8)), .val (.sl none (.int .u8))], [.bool], m_bytes_Equal⟩

/-! impl.unframe -/
def p_impl_unframe (n : Nat) (x : (List Int)) : Option ((List Int) × Bool) :=
(cond (decide ((lenI x) < (4 : Int)))
 (some ([], false))
 ((geti x (0 : Int)).bind fun y1 =>
 (chk (decide (0 ≤ (8 : Int)))
  ((geti x (1 : Int)).bind fun y2 =>
  (Option.bind (α := Bool)
   ((m_impl_within (IntKind.wrap .i64 ((IntKind.wrap .i64 ((IntKind.wrap .i64 y1) * 2 ^ (min (8 : Int).toNat 64))) + (IntKind.wrap .i64 y2)), (1 : Int), (500 : Int))).bind fun r4 =>
   (cond (!r4)
    (some true)
    (some (decide ((lenI x) < (IntKind.wrap .i64 ((4 : Int) + (IntKind.wrap .i64 ((IntKind.wrap .i64 ((IntKind.wrap .i64 y1) * 2 ^ (min (8 : Int).toNat 64))) + (IntKind.wrap .i64 y2)))))))))) fun j5 =>
  (cond j5
   (some ([], false))
   (chk (bndB (some (4 : Int)) (some (IntKind.wrap .i64 ((4 : Int) + (IntKind.wrap .i64 ((IntKind.wrap .i64 ((IntKind.wrap .i64 y1) * 2 ^ (min (8 : Int).toNat 64))) + (IntKind.wrap .i64 y2)))))) none x.length)
    (chk (bndB (some (2 : Int)) (some (4 : Int)) none x.length)
     ((m_impl_CheckOf (cutL (some (4 : Int)) (some (IntKind.wrap .i64 ((4 : Int) + (IntKind.wrap .i64 ((IntKind.wrap .i64 ((IntKind.wrap .i64 y1) * 2 ^ (min (8 : Int).toNat 64))) + (IntKind.wrap .i64 y2)))))) x)).bind fun r6 =>
     ((m_impl_pair r6).bind fun r7 =>
     ((m_bytes_Equal ((cutL (some (2 : Int)) (some (4 : Int)) x), r7)).bind fun r8 =>
     some ((cutL (some (4 : Int)) (some (IntKind.wrap .i64 ((4 : Int) + (IntKind.wrap .i64 ((IntKind.wrap .i64 ((IntKind.wrap .i64 y1) * 2 ^ (min (8 : Int).toNat 64))) + (IntKind.wrap .i64 y2)))))) x), r8))))))))))))
def m_impl_unframe (x : (List Int)) : Option ((List Int) × Bool) := p_impl_unframe FU x
def a_impl_unframe : Ann := (.node .leaf (.node .leaf (.node .leaf (.node (.join [.slot 28 .bool] [19, 20, 21, 22, 23, 24, 25, 26, 27] .leaf .leaf) .leaf))))
def S_impl_unframe : FSpec := ⟨[.val (.sl none (.int .u8))], [(.sl none (.int .u8)), .bool], m_impl_unframe⟩

/-! bytes.Clone -/
def p_bytes_Clone (n : Nat) (x : (List Int)) : Option (List Int) :=
(cond (List.isEmpty x)
 (same
  (some [])
  (chk (Nat.ble ((([] : List Int).length + x.length) * 1) maxBytes)
  (some (([] : List Int) ++ x))))
 (chk (Nat.ble ((([] : List Int).length + x.length) * 1) maxBytes)
 (some (([] : List Int) ++ x))))
def m_bytes_Clone (x : (List Int)) : Option (List Int) := p_bytes_Clone FU x
def a_bytes_Clone : Ann := .leaf
def S_bytes_Clone : FSpec := ⟨[.val (.sl none (.int .u8))], [Kd20], m_bytes_Clone⟩

/-! impl.size[byte] -/
def p_impl_size_byte (n : Nat) (x : (List Int)) : Option Int :=
some (lenI x)
def m_impl_size_byte (x : (List Int)) : Option Int := p_impl_size_byte FU x
def a_impl_size_byte : Ann := .leaf
def S_impl_size_byte : FSpec := ⟨[.val (.sl none (.int .u8))], [(.int .i64)], m_impl_size_byte⟩

/-! impl.UnframeAll -/
def l_impl_UnframeAll_1 (n : Nat) (x : (List Int)) (z0 : (Int × (Int × (List (List Int))))) : Option (Int × (Int × (List (List Int)))) :=
(lp (fun rec10 (z9 : (Int × (Int × (List (List Int))))) =>
 (chk (bndB (some z9.2.1) none none x.length)
  ((m_impl_unframe (cutL (some z9.2.1) none x)).bind fun r11 =>
  (cond (!r11.2)
   (some z9)
   ((m_bytes_Clone r11.1).bind fun r12 =>
   (chk (Nat.ble ((z9.2.2.length + [r12].length) * 24) maxBytes)
   ((m_impl_size_byte r11.1).bind fun r13 =>
   rec10 (z9.1, (IntKind.wrap .i64 (z9.2.1 + (IntKind.wrap .i64 ((4 : Int) + r13))), (z9.2.2 ++ [r12])))))))))) n z0)
def p_impl_UnframeAll (n : Nat) (x : (List Int)) : Option (Int × (Int × (List (List Int)))) :=
(cond (decide ((lenI x) > (6000 : Int)))
 (some ((2 : Int), ((0 : Int), [])))
 (l_impl_UnframeAll_1 n x ((0 : Int), ((0 : Int), []))))
def m_impl_UnframeAll (x : (List Int)) : Option (Int × (Int × (List (List Int)))) := p_impl_UnframeAll FU x
def a_impl_UnframeAll : Ann := (.node .leaf (.node .leaf (.node .leaf (.loop [.box 1 Kd8] [4, 5, 11, 12, 13, 14, 15, 16, 17, 18, 19, 20, 21, 22, 23, 24, 25, 26, 27, 28, 29, 30, 31, 32, 33, 34, 35] (.node .leaf (.node .leaf (.node (.own 26 Kd20 .leaf) .leaf)))))))
def S_impl_UnframeAll : FSpec := ⟨[.val (.sl none (.int .u8))], [Kd8], m_impl_UnframeAll⟩

/-! impl.ReadLog -/
def p_impl_ReadLog (n : Nat) (x : ((List Int) × (List Int))) : Option (Int × (Int × (List (List Int)))) :=
((m_impl_LogFault x).bind fun r1 =>
(cond (!(r1 == (0 : Int)))
 (some (r1, ((0 : Int), [])))
 ((m_slices_Concat_byte_byte [x.1, x.2]).bind fun r2 =>
 ((m_impl_UnframeAll r2).bind fun r3 =>
 some r3))))
def m_impl_ReadLog (x : ((List Int) × (List Int))) : Option (Int × (Int × (List (List Int)))) := p_impl_ReadLog FU x
def a_impl_ReadLog : Ann := .leaf
def S_impl_ReadLog : FSpec := ⟨[.val Kd14], [Kd8], m_impl_ReadLog⟩

/-! impl.UnpackNumber -/
def l_impl_UnpackNumber_1 (n : Nat) (x : (List Int)) (z0 : (Int × Int)) : Option (Int × Int) :=
(lp (fun rec4 (z3 : (Int × Int)) =>
 (cond (decide (z3.2 < (lenI x)))
  ((geti x z3.2).bind fun y5 =>
  (chk (decide (0 ≤ (8 : Int)))
   (rec4 (IntKind.wrap .u64 ((IntKind.wrap .u64 (z3.1 * 2 ^ (min (8 : Int).toNat 64))) + (IntKind.wrap .u64 y5)), IntKind.wrap .i64 (z3.2 + (1 : Int))))))
  (some ((0 : Int), IntKind.wrap .i64 z3.1)))) n z0)
def p_impl_UnpackNumber (n : Nat) (x : (List Int)) : Option (Int × Int) :=
(cond (!((lenI x) == (8 : Int)))
 (some ((1 : Int), (0 : Int)))
 (l_impl_UnpackNumber_1 n x ((0 : Int), (0 : Int))))
def m_impl_UnpackNumber (x : (List Int)) : Option (Int × Int) := p_impl_UnpackNumber FU x
def a_impl_UnpackNumber : Ann := (.node .leaf (.node .leaf (.node .leaf (.node (.node .leaf (.loop [.slot 3 (.int .u64), .slot 12 (.int .i64)] [5, 13, 14, 15, 16, 17, 18, 19, 20, 21] .leaf)) .leaf))))
def S_impl_UnpackNumber : FSpec := ⟨[.val (.sl none (.int .u8))], [(.pair (.int .i64) (.int .i64))], m_impl_UnpackNumber⟩

/-! impl.takeText -/
def p_impl_takeText (n : Nat) (x : (List Int)) : Option (ByteArray × ((List Int) × Bool)) :=
(Option.bind (α := Bool)
 (cond ((lenI x) == (0 : Int))
  (some true)
  ((geti x (0 : Int)).bind fun y2 =>
  some (decide ((lenI x) < (IntKind.wrap .i64 ((1 : Int) + (IntKind.wrap .i64 y2))))))) fun j3 =>
(cond j3
 (some ((⟨#[]⟩ : ByteArray), [], false))
 ((geti x (0 : Int)).bind fun y4 =>
 (chk (bndB (some (1 : Int)) (some (IntKind.wrap .i64 ((1 : Int) + (IntKind.wrap .i64 y4)))) none x.length)
  (chk (bndB (some (IntKind.wrap .i64 ((1 : Int) + (IntKind.wrap .i64 y4)))) none none x.length)
   (some ((strOfNums (cutL (some (1 : Int)) (some (IntKind.wrap .i64 ((1 : Int) + (IntKind.wrap .i64 y4)))) x)), (cutL (some (IntKind.wrap .i64 ((1 : Int) + (IntKind.wrap .i64 y4)))) none x), true)))))))
def m_impl_takeText (x : (List Int)) : Option (ByteArray × ((List Int) × Bool)) := p_impl_takeText FU x
def a_impl_takeText : Ann := (.node .leaf (.node (.join [.slot 18 .bool] [6, 7, 8, 9, 10, 11, 12, 13, 14, 15, 16, 17] .leaf .leaf) .leaf))
def S_impl_takeText : FSpec := ⟨[.val (.sl none (.int .u8))], [.str, (.sl none (.int .u8)), .bool], m_impl_takeText⟩

/-! impl.takeWrite -/
def p_impl_takeWrite (n : Nat) (x : (List Int)) : Option ((ByteArray × (ByteArray × Bool)) × ((List Int) × Bool)) :=
((geti x (0 : Int)).bind fun y1 =>
(cond (decide (y1 > (1 : Int)))
 (some (((⟨#[]⟩ : ByteArray), ((⟨#[]⟩ : ByteArray), false)), [], false))
 ((geti x (0 : Int)).bind fun y2 =>
 (Option.bind (α := ((List Int) × (Bool × (ByteArray × (ByteArray × Bool)))))
  (chk (bndB (some (1 : Int)) none none x.length)
   ((m_impl_takeText (cutL (some (1 : Int)) none x)).bind fun r6 =>
   (Option.bind (α := Bool)
    (cond r6.2.2
     (some (!(y2 == (1 : Int))))
     (some false)) fun j7 =>
   (cond j7
    ((m_impl_takeText r6.2.1).bind fun r8 =>
    some (r8.2.1, r8.2.2, (r6.1, (r8.1, (y2 == (1 : Int))))))
    (some (r6.2.1, r6.2.2, (r6.1, ((⟨#[]⟩ : ByteArray), (y2 == (1 : Int)))))))))) fun j9 =>
 some (j9.2.2, j9.1, j9.2.1)))))
def m_impl_takeWrite (x : (List Int)) : Option ((ByteArray × (ByteArray × Bool)) × ((List Int) × Bool)) := p_impl_takeWrite FU x
def a_impl_takeWrite : Ann := (.node .leaf (.node .leaf (.node .leaf (.join [.slot 0 (.sl none (.int .u8)), .slot 6 .bool, .box 1 Kd19] [17, 18, 19, 20, 21, 22, 23, 24, 25, 26, 27, 28, 29, 30, 31, 32, 33, 34, 35, 36, 37] (.node .leaf (.join [.slot 30 .bool] [25, 26, 27, 28, 29] .leaf .leaf)) .leaf))))
def S_impl_takeWrite : FSpec := ⟨[.val (.sl none (.int .u8))], [Kd19, (.sl none (.int .u8)), .bool], m_impl_takeWrite⟩

/-! impl.Write] -/
def p_impl_size_impl_Write (n : Nat) (x : (List (ByteArray × (ByteArray × Bool)))) : Option Int :=
some (lenI x)
def m_impl_size_impl_Write (x : (List (ByteArray × (ByteArray × Bool)))) : Option Int := p_impl_size_impl_Write FU x
def a_impl_size_impl_Write : Ann := .leaf
def S_impl_size_impl_Write : FSpec := ⟨[.val Kd18], [(.int .i64)], m_impl_size_impl_Write⟩

/-! impl.Write).row -/
def p_impl_Write_row (n : Nat) (x : ((ByteArray × (ByteArray × Bool)) × Int)) : Option (ByteArray × (Int × (ByteArray × Bool))) :=
some (x.1.1, (x.2, x.1.2))
def m_impl_Write_row (x : ((ByteArray × (ByteArray × Bool)) × Int)) : Option (ByteArray × (Int × (ByteArray × Bool))) := p_impl_Write_row FU x
def a_impl_Write_row : Ann := .leaf
def S_impl_Write_row : FSpec := ⟨[.val Kd19, .val (.int .i64)], [Kd15], m_impl_Write_row⟩

/-! impl.PackNumber -/
def l_impl_PackNumber_1 (n : Nat) (x : Int) (z0 : (Int × (List Int))) : Option (List Int) :=
(lp (fun rec6 (z5 : (Int × (List Int))) =>
 (cond (decide (z5.1 < (lenI (List.replicate (8 : Int).toNat (0 : Int)))))
  (chk (decide (0 ≤ (IntKind.wrap .i64 ((56 : Int) - (IntKind.wrap .i64 ((8 : Int) * z5.1))))))
   ((geti z5.2 z5.1).bind fun _ =>
   ((z5.2[z5.1.toNat]?).bind fun y7 =>
   rec6 (IntKind.wrap .i64 (z5.1 + (1 : Int)), (z5.2.set z5.1.toNat (IntKind.wrap .u8 (Int.fdiv x (2 ^ (min (IntKind.wrap .i64 ((56 : Int) - (IntKind.wrap .i64 ((8 : Int) * z5.1)))).toNat 64)))))))))
  (some z5.2))) n z0)
def p_impl_PackNumber (n : Nat) (x : Int) : Option (List Int) :=
(if (8 : Int) = (8 : Int) then (if 0 ≤ (8 : Int) then chk (Nat.ble (1 * (8 : Int).toNat) maxBytes)
(l_impl_PackNumber_1 n x ((0 : Int), (List.replicate (8 : Int).toNat (0 : Int)))) else none) else none)
def m_impl_PackNumber (x : Int) : Option (List Int) := p_impl_PackNumber FU x
def a_impl_PackNumber : Ann := (.node .leaf (.node .leaf (.node (.node .leaf (.loop [.slot 8 (.int .i64), .row 0 5 (.int .u8)] [4, 9, 10, 11, 12, 13, 14, 15, 16, 17, 18, 19, 20] .leaf)) .leaf)))
def S_impl_PackNumber : FSpec := ⟨[.val (.int .i64)], [Kd20], m_impl_PackNumber⟩

/-! impl.PackText -/
def p_impl_PackText (n : Nat) (x : ByteArray) : Option (Int × (List Int)) :=
(cond (decide (((x.size : Nat) : Int) > (200 : Int)))
 (some ((2 : Int), []))
 (chk (Nat.ble ([IntKind.wrap .u8 ((x.size : Nat) : Int)].length + x.size) maxBytes)
 (some ((0 : Int), ([IntKind.wrap .u8 ((x.size : Nat) : Int)] ++ (bytesNums x))))))
def m_impl_PackText (x : ByteArray) : Option (Int × (List Int)) := p_impl_PackText FU x
def a_impl_PackText : Ann := .leaf
def S_impl_PackText : FSpec := ⟨[.val .str], [Kd17], m_impl_PackText⟩

/-! impl.packWrites -/
def l_impl_packWrites_1 (n : Nat) (x_2 : (List (ByteArray × (ByteArray × Bool)))) (z0 : ((List Int) × Int)) : Option (List Int) :=
(lp (fun rec8 (z7 : ((List Int) × Int)) =>
 (cond (decide (z7.2 < (lenI x_2)))
  ((geti x_2 z7.2).bind fun y9 =>
  (Option.bind (α := Int)
   (cond y9.2.2
    (some (1 : Int))
    (some (0 : Int))) fun j10 =>
  (chk (Nat.ble ((z7.1.length + [j10].length) * 1) maxBytes)
  ((m_impl_PackText y9.1).bind fun r11 =>
  (chk (Nat.ble (((z7.1 ++ [j10]).length + r11.2.length) * 1) maxBytes)
  (cond (!y9.2.2)
   ((m_impl_PackText y9.2.1).bind fun r12 =>
   (chk (Nat.ble ((((z7.1 ++ [j10]) ++ r11.2).length + r12.2.length) * 1) maxBytes)
   (rec8 ((((z7.1 ++ [j10]) ++ r11.2) ++ r12.2), IntKind.wrap .i64 (z7.2 + (1 : Int))))))
   (rec8 (((z7.1 ++ [j10]) ++ r11.2), IntKind.wrap .i64 (z7.2 + (1 : Int))))))))))
  (some z7.1))) n z0)
def p_impl_packWrites (n : Nat) (x : (Int × (List (ByteArray × (ByteArray × Bool))))) : Option (List Int) :=
((m_impl_PackNumber x.1).bind fun r1 =>
(l_impl_packWrites_1 n x.2 (r1, (0 : Int))))
def m_impl_packWrites (x : (Int × (List (ByteArray × (ByteArray × Bool))))) : Option (List Int) := p_impl_packWrites FU x
def a_impl_packWrites : Ann := (.node .leaf (.node .leaf (.node (.node .leaf (.loop [.slot 5 Kd20, .slot 13 (.int .i64)] [7, 8, 14, 15, 16, 17, 18, 19, 20, 21, 22, 23, 24, 25, 26, 27, 28, 29, 30, 31, 32, 33, 34, 35, 36, 37] (.node .leaf (.node .leaf (.node (.node .leaf (.node .leaf (.join [.slot 8 (.int .u8)] [17, 18] .leaf (.node (.lazy 21 .leaf) .leaf)))) .leaf))))) .leaf)))
def S_impl_packWrites : FSpec := ⟨[.val (.int .i64), .val Kd18], [Kd20], m_impl_packWrites⟩

/-! impl.WritesFault -/
def l_impl_WritesFault_1 (n : Nat) (z56 : Int) (x : (List (ByteArray × (ByteArray × Bool)))) (y58_1 : ByteArray) (z0 : Int) : Option Int :=
(lp (fun rec70 (z69 : Int) =>
 (cond (decide (z69 < (lenI (cutL none (some z56) x))))
  ((geti (cutL none (some z56) x) z69).bind fun y71 =>
  (cond (y71.1.toList == y58_1.toList)
   (some z69)
   (rec70 (IntKind.wrap .i64 (z69 + (1 : Int))))))
  (some (-1 : Int)))) n z0)
def l_impl_WritesFault_2 (n : Nat) (x : (List (ByteArray × (ByteArray × Bool)))) (z0 : Int) : Option (Unit ⊕ Int) :=
(lp (fun rec57 (z56 : Int) =>
 (cond (decide (z56 < (lenI x)))
  ((geti x z56).bind fun y58 =>
  ((m_impl_Write_row (y58, (1 : Int))).bind fun r59 =>
  ((m_impl_RowFault r59).bind fun r60 =>
  (cond (!(r60 == (0 : Int)))
   (some (Sum.inr r60))
   (chk (bndB none (some z56) none x.length)
    (Option.bind (α := Int)
     (l_impl_WritesFault_1 n z56 x y58.1 (0 : Int)) fun j73 =>
    (cond (decide (j73 ≥ (0 : Int)))
     (some (Sum.inr (7 : Int)))
     (rec57 (IntKind.wrap .i64 (z56 + (1 : Int)))))))))))
  (some (Sum.inl ())))) n z0)
def p_impl_WritesFault (n : Nat) (x : (List (ByteArray × (ByteArray × Bool)))) : Option Int :=
((m_impl_size_impl_Write x).bind fun r1 =>
((m_impl_within (r1, (1 : Int), (8 : Int))).bind fun r2 =>
(cond (!r2)
 (some (2 : Int))
 (Option.bind (α := (Unit ⊕ Int))
  (l_impl_WritesFault_2 n x (0 : Int))
  (Sum.elim (fun j75 =>
 ((m_impl_packWrites ((1 : Int), x)).bind fun r76 =>
 (cond (decide ((lenI r76) > (500 : Int)))
  (some (2 : Int))
  (some (0 : Int))))) some)))))
def m_impl_WritesFault (x : (List (ByteArray × (ByteArray × Bool)))) : Option Int := p_impl_WritesFault FU x
def a_impl_WritesFault : Ann := (.node .leaf (.node .leaf (.joinx [] [2, 3, 4, 5, 10, 11, 12, 13, 14, 15, 16, 17, 18, 19, 20, 21, 22, 23, 24, 25, 26, 27, 28] (.node .leaf (.loop [.slot 12 (.int .i64)] [2, 3, 4, 5, 13, 14, 15, 16, 17, 18, 19, 20, 21, 22, 23, 24, 25, 26, 27, 28] (.node .leaf (.node .leaf (.node (.node .leaf (.node .leaf (.node (.reg 27 (.node .leaf (.node (.regj 7 [.slot 7 (.int .i64)] [] (.node .leaf (.node (.node .leaf (.loop [.slot 8 (.int .i64)] [4, 5, 9, 10, 11, 12, 13, 14, 15, 16, 17, 18] .leaf)) .leaf)) .leaf) .leaf)) .leaf) .leaf))) .leaf))))) .leaf)))
def S_impl_WritesFault : FSpec := ⟨[.val Kd18], [(.int .i64)], m_impl_WritesFault⟩

/-! impl.PackWrites -/
def p_impl_PackWrites (n : Nat) (x : (Int × (List (ByteArray × (ByteArray × Bool))))) : Option (Int × (List Int)) :=
((m_impl_isVersion x.1).bind fun r1 =>
(cond (!r1)
 (some ((3 : Int), []))
 ((m_impl_WritesFault x.2).bind fun r2 =>
 (cond (!(r2 == (0 : Int)))
  (some (r2, []))
  ((m_impl_packWrites (x.1, x.2)).bind fun r3 =>
  some ((0 : Int), r3))))))
def m_impl_PackWrites (x : (Int × (List (ByteArray × (ByteArray × Bool))))) : Option (Int × (List Int)) := p_impl_PackWrites FU x
def a_impl_PackWrites : Ann := .leaf
def S_impl_PackWrites : FSpec := ⟨[.val (.int .i64), .val Kd18], [Kd17], m_impl_PackWrites⟩

/-! impl.unpackWrites -/
def l_impl_unpackWrites_1 (n : Nat)  (z0 : ((List (ByteArray × (ByteArray × Bool))) × (List Int))) : Option ((List (ByteArray × (ByteArray × Bool))) ⊕ (Int × ((List (ByteArray × (ByteArray × Bool))) × Bool))) :=
(lp (fun rec11 (z10 : ((List (ByteArray × (ByteArray × Bool))) × (List Int))) =>
 (cond (decide ((lenI z10.2) > (0 : Int)))
  ((m_impl_takeWrite z10.2).bind fun r12 =>
  (cond (!r12.2.2)
   (some (Sum.inr ((0 : Int), [], false)))
   (chk (Nat.ble ((z10.1.length + [r12.1].length) * 40) maxBytes)
   (rec11 ((z10.1 ++ [r12.1]), r12.2.1)))))
  (some (Sum.inl z10.1)))) n z0)
def p_impl_unpackWrites (n : Nat) (x : (List Int)) : Option (Int × ((List (ByteArray × (ByteArray × Bool))) × Bool)) :=
(cond (decide ((lenI x) < (8 : Int)))
 (some ((0 : Int), [], false))
 (chk (bndB none (some (8 : Int)) none x.length)
  ((m_impl_UnpackNumber (cutL none (some (8 : Int)) x)).bind fun r1 =>
  (Option.bind (α := ((List (ByteArray × (ByteArray × Bool))) ⊕ (Int × ((List (ByteArray × (ByteArray × Bool))) × Bool))))
   (chk (bndB (some (8 : Int)) none none x.length)
    (l_impl_unpackWrites_1 n  (([] : List (ByteArray × (ByteArray × Bool))), (cutL (some (8 : Int)) none x))))
   (Sum.elim (fun j14 =>
  ((m_impl_PackWrites (r1.2, j14)).bind fun r15 =>
  (cond (r15.1 == (0 : Int))
   ((m_bytes_Equal (r15.2, x)).bind fun r16 =>
   some (r1.2, j14, r16))
   (some (r1.2, j14, false))))) some)))))
def m_impl_unpackWrites (x : (List Int)) : Option (Int × ((List (ByteArray × (ByteArray × Bool))) × Bool)) := p_impl_unpackWrites FU x
def a_impl_unpackWrites : Ann := (.node .leaf (.node .leaf (.node .leaf (.joinx [.slot 6 Kd16] [2, 3, 4, 7, 8, 9, 10, 20, 21, 22, 23, 24, 25, 26, 27, 28, 29, 30, 31, 32, 33, 34, 35, 36, 37] (.node .leaf (.loop [.slot 6 Kd16, .slot 7 (.sl none (.int .u8))] [2, 3, 4, 8, 9, 10, 22, 23, 24, 25, 26, 27, 28, 29, 30, 31, 32, 33, 34, 35, 36, 37] .leaf)) .leaf))))
def S_impl_unpackWrites : FSpec := ⟨[.val (.sl none (.int .u8))], [(.int .i64), Kd16, .bool], m_impl_unpackWrites⟩

/-! impl.rowsOf -/
def l_impl_rowsOf_1 (n : Nat) (x_1 : Int) (x_2 : (List (ByteArray × (ByteArray × Bool)))) (z0 : ((List (ByteArray × (Int × (ByteArray × Bool)))) × Int)) : Option (List (ByteArray × (Int × (ByteArray × Bool)))) :=
(lp (fun rec5 (z4 : ((List (ByteArray × (Int × (ByteArray × Bool)))) × Int)) =>
 (cond (decide (z4.2 < (lenI x_2)))
  ((geti x_2 z4.2).bind fun y6 =>
  ((m_impl_Write_row (y6, x_1)).bind fun r7 =>
  (chk (Nat.ble ((z4.1.length + [r7].length) * 48) maxBytes)
  (rec5 ((z4.1 ++ [r7]), IntKind.wrap .i64 (z4.2 + (1 : Int)))))))
  (some z4.1))) n z0)
def p_impl_rowsOf (n : Nat) (x : (Int × (List (ByteArray × (ByteArray × Bool))))) : Option (List (ByteArray × (Int × (ByteArray × Bool)))) :=
(l_impl_rowsOf_1 n x.1 x.2 (([] : List (ByteArray × (Int × (ByteArray × Bool)))), (0 : Int)))
def m_impl_rowsOf (x : (Int × (List (ByteArray × (ByteArray × Bool))))) : Option (List (ByteArray × (Int × (ByteArray × Bool)))) := p_impl_rowsOf FU x
def a_impl_rowsOf : Ann := (.node .leaf (.node .leaf (.node (.node .leaf (.loop [.slot 5 Kd11, .slot 11 (.int .i64)] [7, 12, 13, 14, 15, 16, 17, 18, 19, 20, 21] .leaf)) .leaf)))
def S_impl_rowsOf : FSpec := ⟨[.val (.int .i64), .val Kd18], [Kd11], m_impl_rowsOf⟩

/-! impl.Row] -/
def p_slices_SortFunc_impl_Row_impl_Row (n : Nat) (x : ((List (ByteArray × (Int × (ByteArray × Bool)))) × Bool)) : Option (List (ByteArray × (Int × (ByteArray × Bool)))) :=
sortRun okRow ((⟨#[]⟩ : ByteArray), ((0 : Int), ((⟨#[]⟩ : ByteArray), false))) rfl cfRow x.1
def m_slices_SortFunc_impl_Row_impl_Row (x : ((List (ByteArray × (Int × (ByteArray × Bool)))) × Bool)) : Option (List (ByteArray × (Int × (ByteArray × Bool)))) := p_slices_SortFunc_impl_Row_impl_Row FU x
def a_slices_SortFunc_impl_Row_impl_Row : Ann := .leaf
def S_slices_SortFunc_impl_Row_impl_Row : FSpec := ⟨[.row 78 Kd15, .fn 193], [], m_slices_SortFunc_impl_Row_impl_Row⟩

/-! impl.logRows -/
def l_impl_logRows_1 (n : Nat) (r1_2_2 : (List (List Int))) (x_2 : Int) (z0 : ((List (ByteArray × (Int × (ByteArray × Bool)))) × (Int × Int))) : Option ((List (ByteArray × (Int × (ByteArray × Bool)))) ⊕ ((List (ByteArray × (Int × (ByteArray × Bool)))) × Bool)) :=
(lp (fun rec25 (z24 : ((List (ByteArray × (Int × (ByteArray × Bool)))) × (Int × Int))) =>
 (cond (decide (z24.2.2 < (lenI r1_2_2)))
  ((geti r1_2_2 z24.2.2).bind fun _ =>
  ((r1_2_2[z24.2.2.toNat]?).bind fun y26 =>
  ((r1_2_2[z24.2.2.toNat]?).bind fun y27 =>
  ((m_impl_unpackWrites y27).bind fun r28 =>
  (Option.bind (α := Bool)
   (cond (!r28.2.2)
    (some true)
    (cond (decide (r28.1 ≥ x_2))
     (some true)
     (some (decide (r28.1 ≤ z24.2.1))))) fun j29 =>
  (cond j29
   (some (Sum.inr ([], false)))
   ((m_impl_rowsOf (r28.1, r28.2.1)).bind fun r30 =>
   (chk (Nat.ble ((z24.1.length + r30.length) * 48) maxBytes)
   (rec25 ((z24.1 ++ r30), r28.1, IntKind.wrap .i64 (z24.2.2 + (1 : Int))))))))))))
  (some (Sum.inl z24.1)))) n z0)
def p_impl_logRows (n : Nat) (x : (((List Int) × (List Int)) × Int)) : Option ((List (ByteArray × (Int × (ByteArray × Bool)))) × Bool) :=
((m_impl_ReadLog x.1).bind fun r1 =>
((m_impl_size_byte x.1.1).bind fun r2 =>
((m_impl_size_byte x.1.2).bind fun r3 =>
(cond (!(r1.2.1 == (IntKind.wrap .i64 (r2 + r3))))
 (some ([], false))
 (Option.bind (α := ((List (ByteArray × (Int × (ByteArray × Bool)))) ⊕ ((List (ByteArray × (Int × (ByteArray × Bool)))) × Bool)))
  (l_impl_logRows_1 n r1.2.2 x.2 (([] : List (ByteArray × (Int × (ByteArray × Bool)))), (0 : Int), (0 : Int)))
  (Sum.elim (fun j32 =>
 ((m_slices_SortFunc_impl_Row_impl_Row (j32, true)).bind fun r33 =>
 some (r33, true))) some))))))
def m_impl_logRows (x : (((List Int) × (List Int)) × Int)) : Option ((List (ByteArray × (Int × (ByteArray × Bool)))) × Bool) := p_impl_logRows FU x
def a_impl_logRows : Ann := (.node .leaf (.node .leaf (.node .leaf (.node .leaf (.joinx [.slot 7 Kd11] [4, 5, 8, 10, 11, 12, 13, 27, 28, 29, 30, 31, 32, 33, 34, 35, 36, 37, 38, 39, 40, 41, 42, 43, 44, 45, 46, 47, 48, 49, 50, 51, 52, 53, 54, 55, 56, 57, 58] (.node .leaf (.loop [.slot 7 Kd11, .slot 8 (.int .i64), .slot 30 (.int .i64)] [4, 5, 10, 11, 12, 13, 31, 32, 33, 34, 35, 36, 37, 38, 39, 40, 41, 42, 43, 44, 45, 46, 47, 48, 49, 50, 51, 52, 53, 54, 55, 56, 57, 58] (.node .leaf (.node .leaf (.node (.node .leaf (.node .leaf (.node (.join [.slot 51 .bool] [40, 41, 42, 43, 44, 45, 46, 47, 48, 49, 50] .leaf .leaf) .leaf))) .leaf))))) .leaf)))))
def S_impl_logRows : FSpec := ⟨[.val Kd14, .val (.int .i64)], [Kd11, .bool], m_impl_logRows⟩

/-! impl.Row] -/
def l_slices_Equal_impl_Row_impl_Row_1 (n : Nat) (x_1 : (List (ByteArray × (Int × (ByteArray × Bool))))) (x_2 : (List (ByteArray × (Int × (ByteArray × Bool))))) (z0 : Int) : Option Bool :=
(lp (fun rec5 (z4 : Int) =>
 (cond (decide (z4 < (lenI x_1)))
  ((geti x_1 z4).bind fun y6 =>
  ((geti x_2 z4).bind fun y7 =>
  (cond (!((y6.1.toList == y7.1.toList) && ((y6.2.1 == y7.2.1) && ((y6.2.2.1.toList == y7.2.2.1.toList) && ((y6.2.2.2 == y7.2.2.2) && true)))))
   (some false)
   (rec5 (IntKind.wrap .i64 (z4 + (1 : Int)))))))
  (some true))) n z0)
def p_slices_Equal_impl_Row_impl_Row (n : Nat) (x : ((List (ByteArray × (Int × (ByteArray × Bool)))) × (List (ByteArray × (Int × (ByteArray × Bool)))))) : Option Bool :=
(cond (!((lenI x.1) == (lenI x.2)))
 (some false)
 (l_slices_Equal_impl_Row_impl_Row_1 n x.1 x.2 (0 : Int)))
def m_slices_Equal_impl_Row_impl_Row (x : ((List (ByteArray × (Int × (ByteArray × Bool)))) × (List (ByteArray × (Int × (ByteArray × Bool)))))) : Option Bool := p_slices_Equal_impl_Row_impl_Row FU x
def a_slices_Equal_impl_Row_impl_Row : Ann := (.node .leaf (.node .leaf (.node (.node .leaf (.loop [.slot 13 (.int .i64)] [4, 5, 14, 15, 16, 17, 18, 19, 20, 21, 22, 23, 24, 25] .leaf)) .leaf)))
def S_slices_Equal_impl_Row_impl_Row : FSpec := ⟨[.val Kd12, .val Kd12], [.bool], m_slices_Equal_impl_Row_impl_Row⟩

/-! impl.EngineFault -/
def l_impl_EngineFault_1 (n : Nat) (x_2_2_1 : (List (List (ByteArray × (Int × (ByteArray × Bool)))))) (z0 : Int) : Option (Unit ⊕ Int) :=
(lp (fun rec16 (z15 : Int) =>
 (cond (decide (z15 < (lenI x_2_2_1)))
  ((geti x_2_2_1 z15).bind fun y17 =>
  ((m_impl_TableFault y17).bind fun r18 =>
  (cond (!(r18 == (0 : Int)))
   (some (Sum.inr r18))
   (rec16 (IntKind.wrap .i64 (z15 + (1 : Int)))))))
  (some (Sum.inl ())))) n z0)
def l_impl_EngineFault_2 (n : Nat) (x_2_1 : (List (ByteArray × (Int × (ByteArray × Bool))))) (r22 : Int) (z0 : Int) : Option Int :=
(lp (fun rec53 (z52 : Int) =>
 (cond (decide (z52 < (lenI x_2_1)))
  ((geti x_2_1 z52).bind fun y54 =>
  (cond (decide (y54.2.1 ≤ r22))
   (some z52)
   (rec53 (IntKind.wrap .i64 (z52 + (1 : Int))))))
  (some (-1 : Int)))) n z0)
def p_impl_EngineFault (n : Nat) (x : (((List Int) × (List Int)) × ((List (ByteArray × (Int × (ByteArray × Bool)))) × ((List (List (ByteArray × (Int × (ByteArray × Bool))))) × Int)))) : Option Int :=
((m_impl_LogFault x.1).bind fun r1 =>
((m_impl_TableFault x.2.1).bind fun r2 =>
((m_impl_firstOf [r1, r2]).bind fun r3 =>
(cond (!(r3 == (0 : Int)))
 (some r3)
 (cond (decide ((lenI x.2.2.1) > (6 : Int)))
  (some (2 : Int))
  (Option.bind (α := (Unit ⊕ Int))
   (l_impl_EngineFault_1 n x.2.2.1 (0 : Int))
   (Sum.elim (fun j20 =>
  ((m_slices_Concat_impl_Row_impl_Row x.2.2.1).bind fun r21 =>
  ((m_impl_greatest r21).bind fun r22 =>
  (Option.bind (α := Bool)
   ((m_impl_isVersion x.2.2.2).bind fun r25 =>
   (cond (!r25)
    (some true)
    ((m_impl_greatest x.2.1).bind fun r26 =>
    some (decide ((if r26 > r22 then r26 else r22) ≥ x.2.2.2))))) fun j27 =>
  (cond j27
   (some (3 : Int))
   ((m_impl_logRows (x.1, x.2.2.2)).bind fun r28 =>
   (Option.bind (α := Bool)
    (cond (!r28.2)
     (some true)
     ((m_slices_Equal_impl_Row_impl_Row (r28.1, x.2.1)).bind fun r43 =>
     (cond (!r43)
      (some true)
      (Option.bind (α := Int)
       (l_impl_EngineFault_2 n x.2.1 r22 (0 : Int)) fun j56 =>
      some (decide (j56 ≥ (0 : Int))))))) fun j57 =>
   (cond j57
    (some (1 : Int))
    (some (0 : Int)))))))))) some)))))))
def m_impl_EngineFault (x : (((List Int) × (List Int)) × ((List (ByteArray × (Int × (ByteArray × Bool)))) × ((List (List (ByteArray × (Int × (ByteArray × Bool))))) × Int)))) : Option Int := p_impl_EngineFault FU x
def a_impl_EngineFault : Ann := (.node .leaf (.node (.node (.lazy 16 .leaf) .leaf) (.node .leaf (.joinx [] [2, 5, 6, 25, 26, 27, 28, 29, 30, 31, 32, 33, 34, 35, 36, 37] (.node .leaf (.loop [.slot 28 (.int .i64)] [2, 5, 6, 29, 30, 31, 32, 33, 34, 35, 36, 37] .leaf)) (.node .leaf (.node (.join [.slot 55 .bool] [42, 43, 44, 45, 46, 47, 48, 49, 50, 51, 52, 53, 54] .leaf .leaf) (.node .leaf (.node (.join [.slot 78 .bool] [64, 65, 66, 67, 68, 69, 70, 71, 72, 73, 74, 75, 76, 77] (.reg 77 (.node .leaf (.node (.regj 7 [.slot 7 (.int .i64)] [] (.node .leaf (.node (.node .leaf (.loop [.slot 8 (.int .i64)] [4, 5, 9, 10, 11, 12, 13, 14, 15, 16, 17, 18] .leaf)) .leaf)) .leaf) .leaf)) .leaf) .leaf) .leaf))))))))
def S_impl_EngineFault : FSpec := ⟨[.val Kd6], [(.int .i64)], m_impl_EngineFault⟩

/-! impl.frame -/
def p_impl_frame (n : Nat) (x : (List Int)) : Option (List Int) :=
((m_impl_size_byte x).bind fun r1 =>
((m_impl_pair r1).bind fun r2 =>
((m_impl_CheckOf x).bind fun r3 =>
((m_impl_pair r3).bind fun r4 =>
(chk (Nat.ble ((r2.length + r4.length) * 1) maxBytes)
(chk (Nat.ble (((r2 ++ r4).length + x.length) * 1) maxBytes)
(some ((r2 ++ r4) ++ x))))))))
def m_impl_frame (x : (List Int)) : Option (List Int) := p_impl_frame FU x
def a_impl_frame : Ann := .leaf
def S_impl_frame : FSpec := ⟨[.val (.sl none (.int .u8))], [Kd20], m_impl_frame⟩

/-! impl.FrameRecord -/
def p_impl_FrameRecord (n : Nat) (x : (List Int)) : Option (Int × (List Int)) :=
((m_impl_size_byte x).bind fun r1 =>
((m_impl_within (r1, (1 : Int), (500 : Int))).bind fun r2 =>
(cond (!r2)
 (some ((2 : Int), []))
 ((m_impl_frame x).bind fun r3 =>
 some ((0 : Int), r3)))))
def m_impl_FrameRecord (x : (List Int)) : Option (Int × (List Int)) := p_impl_FrameRecord FU x
def a_impl_FrameRecord : Ann := .leaf
def S_impl_FrameRecord : FSpec := ⟨[.val (.sl none (.int .u8))], [Kd17], m_impl_FrameRecord⟩

/-! impl.copyLog -/
def p_impl_copyLog (n : Nat) (x : ((List Int) × (List Int))) : Option ((List Int) × (List Int)) :=
((m_bytes_Clone x.1).bind fun r1 =>
((m_bytes_Clone x.2).bind fun r2 =>
some (r1, r2)))
def m_impl_copyLog (x : ((List Int) × (List Int))) : Option ((List Int) × (List Int)) := p_impl_copyLog FU x
def a_impl_copyLog : Ann := .leaf
def S_impl_copyLog : FSpec := ⟨[.val Kd14], [Kd13], m_impl_copyLog⟩

/-! impl.AppendLog -/
def p_impl_AppendLog (n : Nat) (x : (((List Int) × (List Int)) × (List Int))) : Option (Int × ((List Int) × (List Int))) :=
((m_impl_FrameRecord x.2).bind fun r1 =>
((m_impl_LogFault x.1).bind fun r2 =>
((m_impl_firstOf [r2, r1.1]).bind fun r3 =>
(cond (!(r3 == (0 : Int)))
 (some (r3, ([], [])))
 ((m_impl_copyLog x.1).bind fun r4 =>
 (chk (Nat.ble ((r4.2.length + r1.2.length) * 1) maxBytes)
 ((m_impl_LogFault (r4.1, (r4.2 ++ r1.2))).bind fun r5 =>
 (cond (!(r5 == (0 : Int)))
  (some ((2 : Int), ([], [])))
  (some ((0 : Int), (r4.1, (r4.2 ++ r1.2))))))))))))
def m_impl_AppendLog (x : (((List Int) × (List Int)) × (List Int))) : Option (Int × ((List Int) × (List Int))) := p_impl_AppendLog FU x
def a_impl_AppendLog : Ann := (.node .leaf (.node .leaf (.node (.node (.lazy 14 .leaf) .leaf) .leaf)))
def S_impl_AppendLog : FSpec := ⟨[.val Kd14, .val (.sl none (.int .u8))], [Kd9], m_impl_AppendLog⟩

/-! impl.SyncLog -/
def p_impl_SyncLog (n : Nat) (x : ((List Int) × (List Int))) : Option (Int × ((List Int) × (List Int))) :=
((m_impl_LogFault x).bind fun r1 =>
(cond (!(r1 == (0 : Int)))
 (some (r1, ([], [])))
 ((m_slices_Concat_byte_byte [x.1, x.2]).bind fun r2 =>
 some ((0 : Int), (r2, [])))))
def m_impl_SyncLog (x : ((List Int) × (List Int))) : Option (Int × ((List Int) × (List Int))) := p_impl_SyncLog FU x
def a_impl_SyncLog : Ann := .leaf
def S_impl_SyncLog : FSpec := ⟨[.val Kd14], [Kd9], m_impl_SyncLog⟩

/-! impl.Row] -/
def p_slices_Clone_impl_Row_impl_Row (n : Nat) (x : (List (ByteArray × (Int × (ByteArray × Bool))))) : Option (List (ByteArray × (Int × (ByteArray × Bool)))) :=
(cond (List.isEmpty x)
 (same
  (some [])
  (chk (Nat.ble ((([] : List (ByteArray × (Int × (ByteArray × Bool)))).length + x.length) * 48) maxBytes)
  (some (([] : List (ByteArray × (Int × (ByteArray × Bool)))) ++ x))))
 (chk (Nat.ble ((([] : List (ByteArray × (Int × (ByteArray × Bool)))).length + x.length) * 48) maxBytes)
 (some (([] : List (ByteArray × (Int × (ByteArray × Bool)))) ++ x))))
def m_slices_Clone_impl_Row_impl_Row (x : (List (ByteArray × (Int × (ByteArray × Bool))))) : Option (List (ByteArray × (Int × (ByteArray × Bool)))) := p_slices_Clone_impl_Row_impl_Row FU x
def a_slices_Clone_impl_Row_impl_Row : Ann := .leaf
def S_slices_Clone_impl_Row_impl_Row : FSpec := ⟨[.val Kd12], [Kd11], m_slices_Clone_impl_Row_impl_Row⟩

/-! impl.copyTables -/
def l_impl_copyTables_1 (n : Nat) (x : (List (List (ByteArray × (Int × (ByteArray × Bool)))))) (z0 : ((List (List (ByteArray × (Int × (ByteArray × Bool))))) × Int)) : Option (List (List (ByteArray × (Int × (ByteArray × Bool))))) :=
(lp (fun rec5 (z4 : ((List (List (ByteArray × (Int × (ByteArray × Bool))))) × Int)) =>
 (cond (decide (z4.2 < (lenI x)))
  ((geti x z4.2).bind fun y6 =>
  ((m_slices_Clone_impl_Row_impl_Row y6).bind fun r7 =>
  (chk (Nat.ble ((z4.1.length + [r7].length) * 24) maxBytes)
  (rec5 ((z4.1 ++ [r7]), IntKind.wrap .i64 (z4.2 + (1 : Int)))))))
  (some z4.1))) n z0)
def p_impl_copyTables (n : Nat) (x : (List (List (ByteArray × (Int × (ByteArray × Bool)))))) : Option (List (List (ByteArray × (Int × (ByteArray × Bool))))) :=
(l_impl_copyTables_1 n x (([] : List (List (ByteArray × (Int × (ByteArray × Bool))))), (0 : Int)))
def m_impl_copyTables (x : (List (List (ByteArray × (Int × (ByteArray × Bool)))))) : Option (List (List (ByteArray × (Int × (ByteArray × Bool))))) := p_impl_copyTables FU x
def a_impl_copyTables : Ann := (.node .leaf (.node (.own 6 Kd11 .leaf) (.node (.node .leaf (.loop [.slot 3 Kd7, .slot 9 (.int .i64)] [5, 10, 11, 12, 13, 14, 15, 16, 17, 18] (.node .leaf (.node .leaf (.node (.node .leaf (.own 16 Kd11 .leaf)) .leaf))))) .leaf)))
def S_impl_copyTables : FSpec := ⟨[.val Kd10], [Kd7], m_impl_copyTables⟩

/-! impl.copyEngine -/
def p_impl_copyEngine (n : Nat) (x : (((List Int) × (List Int)) × ((List (ByteArray × (Int × (ByteArray × Bool)))) × ((List (List (ByteArray × (Int × (ByteArray × Bool))))) × Int)))) : Option (((List Int) × (List Int)) × ((List (ByteArray × (Int × (ByteArray × Bool)))) × ((List (List (ByteArray × (Int × (ByteArray × Bool))))) × Int))) :=
((m_impl_copyLog x.1).bind fun r1 =>
((m_slices_Clone_impl_Row_impl_Row x.2.1).bind fun r2 =>
((m_impl_copyTables x.2.2.1).bind fun r3 =>
some (r1, (r2, (r3, x.2.2.2))))))
def m_impl_copyEngine (x : (((List Int) × (List Int)) × ((List (ByteArray × (Int × (ByteArray × Bool)))) × ((List (List (ByteArray × (Int × (ByteArray × Bool))))) × Int)))) : Option (((List Int) × (List Int)) × ((List (ByteArray × (Int × (ByteArray × Bool)))) × ((List (List (ByteArray × (Int × (ByteArray × Bool))))) × Int))) := p_impl_copyEngine FU x
def a_impl_copyEngine : Ann := .leaf
def S_impl_copyEngine : FSpec := ⟨[.val Kd6], [Kd3], m_impl_copyEngine⟩

/-! impl.writeBatch -/
def p_impl_writeBatch (n : Nat) (x : ((((List Int) × (List Int)) × ((List (ByteArray × (Int × (ByteArray × Bool)))) × ((List (List (ByteArray × (Int × (ByteArray × Bool))))) × Int))) × ((List (ByteArray × (ByteArray × Bool))) × Bool))) : Option (Int × (Int × (((List Int) × (List Int)) × ((List (ByteArray × (Int × (ByteArray × Bool)))) × ((List (List (ByteArray × (Int × (ByteArray × Bool))))) × Int))))) :=
((m_impl_WritesFault x.2.1).bind fun r1 =>
(cond (!(r1 == (0 : Int)))
 (some (r1, ((0 : Int), (([], []), ([], ([], (0 : Int)))))))
 (cond (x.1.2.2.2 == (1000000 : Int))
  (some ((3 : Int), ((0 : Int), (([], []), ([], ([], (0 : Int)))))))
  (same
   ((m_impl_packWrites (x.1.2.2.2, x.2.1)).bind fun r2 =>
   (dup 1
    ((m_impl_AppendLog (x.1.1, r2)).bind fun r3 =>
    (cond (!(r3.1 == (0 : Int)))
     (some (r3.1, ((0 : Int), (([], []), ([], ([], (0 : Int)))))))
     (Option.bind (α := (Int × ((List Int) × (List Int))))
      (cond x.2.2
       ((m_impl_SyncLog r3.2).bind fun r5 =>
       some r5)
       (some r3)) fun j6 =>
     ((m_impl_copyEngine x.1).bind fun r7 =>
     ((m_impl_rowsOf (x.1.2.2.2, x.2.1)).bind fun r8 =>
     (chk (Nat.ble ((r7.2.1.length + r8.length) * 48) maxBytes)
     ((m_slices_SortFunc_impl_Row_impl_Row ((r7.2.1 ++ r8), true)).bind fun r9 =>
     (cond (decide ((lenI r9) > (200 : Int)))
      (some ((2 : Int), ((0 : Int), (([], []), ([], ([], (0 : Int)))))))
      (some ((0 : Int), (x.1.2.2.2, (j6.2, (r9, (r7.2.2.1, IntKind.wrap .i64 (x.1.2.2.2 + (1 : Int))))))))))))))))))
   ((m_impl_packWrites (x.1.2.2.2, x.2.1)).bind fun r2 =>
   ((m_impl_AppendLog (x.1.1, r2)).bind fun r3 =>
   (cond (!(r3.1 == (0 : Int)))
    (some (r3.1, ((0 : Int), (([], []), ([], ([], (0 : Int)))))))
    (Option.bind (α := (Int × ((List Int) × (List Int))))
     (cond x.2.2
      ((m_impl_SyncLog r3.2).bind fun r5 =>
      some r5)
      (some r3)) fun j6 =>
    ((m_impl_copyEngine x.1).bind fun r7 =>
    ((m_impl_rowsOf (x.1.2.2.2, x.2.1)).bind fun r8 =>
    (chk (Nat.ble ((r7.2.1.length + r8.length) * 48) maxBytes)
    ((m_slices_SortFunc_impl_Row_impl_Row ((r7.2.1 ++ r8), true)).bind fun r9 =>
    (cond (decide ((lenI r9) > (200 : Int)))
     (some ((2 : Int), ((0 : Int), (([], []), ([], ([], (0 : Int)))))))
     (some ((0 : Int), (x.1.2.2.2, (j6.2, (r9, (r7.2.2.1, IntKind.wrap .i64 (x.1.2.2.2 + (1 : Int)))))))))))))))))))))
def m_impl_writeBatch (x : ((((List Int) × (List Int)) × ((List (ByteArray × (Int × (ByteArray × Bool)))) × ((List (List (ByteArray × (Int × (ByteArray × Bool))))) × Int))) × ((List (ByteArray × (ByteArray × Bool))) × Bool))) : Option (Int × (Int × (((List Int) × (List Int)) × ((List (ByteArray × (Int × (ByteArray × Bool)))) × ((List (List (ByteArray × (Int × (ByteArray × Bool))))) × Int))))) := p_impl_writeBatch FU x
def a_impl_writeBatch : Ann := (.node .leaf (.node .leaf (.node .leaf (.node .leaf (.node .leaf (.join [.box 1000008 Kd9] [33, 34, 35, 36] .leaf .leaf))))))
def S_impl_writeBatch : FSpec := ⟨[.val Kd6, .val Kd18, .val .bool], [Kd1], m_impl_writeBatch⟩

/-! impl.WriteBatch -/
def p_impl_WriteBatch (n : Nat) (x : ((((List Int) × (List Int)) × ((List (ByteArray × (Int × (ByteArray × Bool)))) × ((List (List (ByteArray × (Int × (ByteArray × Bool))))) × Int))) × ((List (ByteArray × (ByteArray × Bool))) × Bool))) : Option (Int × (Int × (((List Int) × (List Int)) × ((List (ByteArray × (Int × (ByteArray × Bool)))) × ((List (List (ByteArray × (Int × (ByteArray × Bool))))) × Int))))) :=
((m_impl_EngineFault x.1).bind fun r1 =>
(cond (!(r1 == (0 : Int)))
 (some (r1, ((0 : Int), (([], []), ([], ([], (0 : Int)))))))
 ((m_impl_writeBatch (x.1, x.2.1, x.2.2)).bind fun r2 =>
 some r2)))
def m_impl_WriteBatch (x : ((((List Int) × (List Int)) × ((List (ByteArray × (Int × (ByteArray × Bool)))) × ((List (List (ByteArray × (Int × (ByteArray × Bool))))) × Int))) × ((List (ByteArray × (ByteArray × Bool))) × Bool))) : Option (Int × (Int × (((List Int) × (List Int)) × ((List (ByteArray × (Int × (ByteArray × Bool)))) × ((List (List (ByteArray × (Int × (ByteArray × Bool))))) × Int))))) := p_impl_WriteBatch FU x
def a_impl_WriteBatch : Ann := .leaf
def S_impl_WriteBatch : FSpec := ⟨[.val Kd6, .val Kd18, .val .bool], [Kd1], m_impl_WriteBatch⟩

/-! laws.eqByteS -/
def l_laws_eqByteS_1 (n : Nat) (x_1 : (List Int)) (x_2 : (List Int)) (z0 : Int) : Option Bool :=
(lp (fun rec5 (z4 : Int) =>
 (cond (decide (z4 < (lenI x_1)))
  ((geti x_1 z4).bind fun y6 =>
  ((geti x_2 z4).bind fun y7 =>
  (cond (!(y6 == y7))
   (some false)
   (rec5 (IntKind.wrap .i64 (z4 + (1 : Int)))))))
  (some true))) n z0)
def p_laws_eqByteS (n : Nat) (x : ((List Int) × (List Int))) : Option Bool :=
(cond (!((lenI x.1) == (lenI x.2)))
 (some false)
 (l_laws_eqByteS_1 n x.1 x.2 (0 : Int)))
def m_laws_eqByteS (x : ((List Int) × (List Int))) : Option Bool := p_laws_eqByteS FU x
def a_laws_eqByteS : Ann := (.node .leaf (.node .leaf (.node (.node .leaf (.loop [.slot 5 (.int .i64)] [4, 11, 12, 13, 14, 15, 16, 17, 18, 19, 20, 21, 22, 23, 24, 25] .leaf)) .leaf)))
def S_laws_eqByteS : FSpec := ⟨[.val (.sl none (.int .u8)), .val (.sl none (.int .u8))], [.bool], m_laws_eqByteS⟩

/-! laws.eqLog -/
def p_laws_eqLog (n : Nat) (x : (((List Int) × (List Int)) × ((List Int) × (List Int)))) : Option Bool :=
((m_laws_eqByteS (x.1.1, x.2.1)).bind fun r1 =>
(cond (!r1)
 (some false)
 ((m_laws_eqByteS (x.1.2, x.2.2)).bind fun r2 =>
 (cond (!r2)
  (some false)
  (some true)))))
def m_laws_eqLog (x : (((List Int) × (List Int)) × ((List Int) × (List Int)))) : Option Bool := p_laws_eqLog FU x
def a_laws_eqLog : Ann := .leaf
def S_laws_eqLog : FSpec := ⟨[.val Kd14, .val Kd14], [.bool], m_laws_eqLog⟩

/-! laws.eqRow -/
def p_laws_eqRow (n : Nat) (x : ((ByteArray × (Int × (ByteArray × Bool))) × (ByteArray × (Int × (ByteArray × Bool))))) : Option Bool :=
(cond (!(x.1.1.toList == x.2.1.toList))
 (some false)
 (cond (!(x.1.2.1 == x.2.2.1))
  (some false)
  (cond (!(x.1.2.2.1.toList == x.2.2.2.1.toList))
   (some false)
   (cond (!(x.1.2.2.2 == x.2.2.2.2))
    (some false)
    (some true)))))
def m_laws_eqRow (x : ((ByteArray × (Int × (ByteArray × Bool))) × (ByteArray × (Int × (ByteArray × Bool))))) : Option Bool := p_laws_eqRow FU x
def a_laws_eqRow : Ann := .leaf
def S_laws_eqRow : FSpec := ⟨[.val Kd15, .val Kd15], [.bool], m_laws_eqRow⟩

/-! laws.eqRowS -/
def l_laws_eqRowS_1 (n : Nat) (x_1 : (List (ByteArray × (Int × (ByteArray × Bool))))) (x_2 : (List (ByteArray × (Int × (ByteArray × Bool))))) (z0 : Int) : Option Bool :=
(lp (fun rec6 (z5 : Int) =>
 (cond (decide (z5 < (lenI x_1)))
  ((geti x_1 z5).bind fun y7 =>
  ((geti x_2 z5).bind fun y8 =>
  ((m_laws_eqRow (y7, y8)).bind fun r9 =>
  (cond (!r9)
   (some false)
   (rec6 (IntKind.wrap .i64 (z5 + (1 : Int))))))))
  (some true))) n z0)
def p_laws_eqRowS (n : Nat) (x : ((List (ByteArray × (Int × (ByteArray × Bool)))) × (List (ByteArray × (Int × (ByteArray × Bool)))))) : Option Bool :=
(cond (!((lenI x.1) == (lenI x.2)))
 (some false)
 (l_laws_eqRowS_1 n x.1 x.2 (0 : Int)))
def m_laws_eqRowS (x : ((List (ByteArray × (Int × (ByteArray × Bool)))) × (List (ByteArray × (Int × (ByteArray × Bool)))))) : Option Bool := p_laws_eqRowS FU x
def a_laws_eqRowS : Ann := (.node .leaf (.node .leaf (.node (.node .leaf (.loop [.slot 5 (.int .i64)] [4, 11, 12, 13, 14, 15, 16, 17, 18, 19, 20, 21, 22, 23, 24, 25, 26] .leaf)) .leaf)))
def S_laws_eqRowS : FSpec := ⟨[.val Kd12, .val Kd12], [.bool], m_laws_eqRowS⟩

/-! laws.eqRowSS -/
def l_laws_eqRowSS_1 (n : Nat) (x_1 : (List (List (ByteArray × (Int × (ByteArray × Bool)))))) (x_2 : (List (List (ByteArray × (Int × (ByteArray × Bool)))))) (z0 : Int) : Option Bool :=
(lp (fun rec6 (z5 : Int) =>
 (cond (decide (z5 < (lenI x_1)))
  ((geti x_1 z5).bind fun y7 =>
  ((geti x_2 z5).bind fun y8 =>
  ((m_laws_eqRowS (y7, y8)).bind fun r9 =>
  (cond (!r9)
   (some false)
   (rec6 (IntKind.wrap .i64 (z5 + (1 : Int))))))))
  (some true))) n z0)
def p_laws_eqRowSS (n : Nat) (x : ((List (List (ByteArray × (Int × (ByteArray × Bool))))) × (List (List (ByteArray × (Int × (ByteArray × Bool))))))) : Option Bool :=
(cond (!((lenI x.1) == (lenI x.2)))
 (some false)
 (l_laws_eqRowSS_1 n x.1 x.2 (0 : Int)))
def m_laws_eqRowSS (x : ((List (List (ByteArray × (Int × (ByteArray × Bool))))) × (List (List (ByteArray × (Int × (ByteArray × Bool))))))) : Option Bool := p_laws_eqRowSS FU x
def a_laws_eqRowSS : Ann := (.node .leaf (.node .leaf (.node (.node .leaf (.loop [.slot 5 (.int .i64)] [4, 11, 12, 13, 14, 15, 16, 17, 18, 19, 20, 21, 22, 23, 24, 25, 26] .leaf)) .leaf)))
def S_laws_eqRowSS : FSpec := ⟨[.val Kd10, .val Kd10], [.bool], m_laws_eqRowSS⟩

/-! laws.eqEngine -/
def p_laws_eqEngine (n : Nat) (x : ((((List Int) × (List Int)) × ((List (ByteArray × (Int × (ByteArray × Bool)))) × ((List (List (ByteArray × (Int × (ByteArray × Bool))))) × Int))) × (((List Int) × (List Int)) × ((List (ByteArray × (Int × (ByteArray × Bool)))) × ((List (List (ByteArray × (Int × (ByteArray × Bool))))) × Int))))) : Option Bool :=
((m_laws_eqLog (x.1.1, x.2.1)).bind fun r1 =>
(cond (!r1)
 (some false)
 ((m_laws_eqRowS (x.1.2.1, x.2.2.1)).bind fun r2 =>
 (cond (!r2)
  (some false)
  ((m_laws_eqRowSS (x.1.2.2.1, x.2.2.2.1)).bind fun r3 =>
  (cond (!r3)
   (some false)
   (cond (!(x.1.2.2.2 == x.2.2.2.2))
    (some false)
    (some true))))))))
def m_laws_eqEngine (x : ((((List Int) × (List Int)) × ((List (ByteArray × (Int × (ByteArray × Bool)))) × ((List (List (ByteArray × (Int × (ByteArray × Bool))))) × Int))) × (((List Int) × (List Int)) × ((List (ByteArray × (Int × (ByteArray × Bool)))) × ((List (List (ByteArray × (Int × (ByteArray × Bool))))) × Int))))) : Option Bool := p_laws_eqEngine FU x
def a_laws_eqEngine : Ann := .leaf
def S_laws_eqEngine : FSpec := ⟨[.val Kd6, .val Kd6], [.bool], m_laws_eqEngine⟩

/-! laws.eqEngineResult -/
def p_laws_eqEngineResult (n : Nat) (x : ((Int × (Int × (((List Int) × (List Int)) × ((List (ByteArray × (Int × (ByteArray × Bool)))) × ((List (List (ByteArray × (Int × (ByteArray × Bool))))) × Int))))) × (Int × (Int × (((List Int) × (List Int)) × ((List (ByteArray × (Int × (ByteArray × Bool)))) × ((List (List (ByteArray × (Int × (ByteArray × Bool))))) × Int))))))) : Option Bool :=
(cond (!(x.1.1 == x.2.1))
 (some false)
 (cond (!(x.1.2.1 == x.2.2.1))
  (some false)
  ((m_laws_eqEngine (x.1.2.2, x.2.2.2)).bind fun r1 =>
  (cond (!r1)
   (some false)
   (some true)))))
def m_laws_eqEngineResult (x : ((Int × (Int × (((List Int) × (List Int)) × ((List (ByteArray × (Int × (ByteArray × Bool)))) × ((List (List (ByteArray × (Int × (ByteArray × Bool))))) × Int))))) × (Int × (Int × (((List Int) × (List Int)) × ((List (ByteArray × (Int × (ByteArray × Bool)))) × ((List (List (ByteArray × (Int × (ByteArray × Bool))))) × Int))))))) : Option Bool := p_laws_eqEngineResult FU x
def a_laws_eqEngineResult : Ann := .leaf
def S_laws_eqEngineResult : FSpec := ⟨[.val Kd2, .val Kd2], [.bool], m_laws_eqEngineResult⟩

/-! laws.eqWrite -/
def p_laws_eqWrite (n : Nat) (x : ((ByteArray × (ByteArray × Bool)) × (ByteArray × (ByteArray × Bool)))) : Option Bool :=
(cond (!(x.1.1.toList == x.2.1.toList))
 (some false)
 (cond (!(x.1.2.1.toList == x.2.2.1.toList))
  (some false)
  (cond (!(x.1.2.2 == x.2.2.2))
   (some false)
   (some true))))
def m_laws_eqWrite (x : ((ByteArray × (ByteArray × Bool)) × (ByteArray × (ByteArray × Bool)))) : Option Bool := p_laws_eqWrite FU x
def a_laws_eqWrite : Ann := .leaf
def S_laws_eqWrite : FSpec := ⟨[.val Kd19, .val Kd19], [.bool], m_laws_eqWrite⟩

/-! laws.eqWriteS -/
def l_laws_eqWriteS_1 (n : Nat) (x_1 : (List (ByteArray × (ByteArray × Bool)))) (x_2 : (List (ByteArray × (ByteArray × Bool)))) (z0 : Int) : Option Bool :=
(lp (fun rec6 (z5 : Int) =>
 (cond (decide (z5 < (lenI x_1)))
  ((geti x_1 z5).bind fun y7 =>
  ((geti x_2 z5).bind fun y8 =>
  ((m_laws_eqWrite (y7, y8)).bind fun r9 =>
  (cond (!r9)
   (some false)
   (rec6 (IntKind.wrap .i64 (z5 + (1 : Int))))))))
  (some true))) n z0)
def p_laws_eqWriteS (n : Nat) (x : ((List (ByteArray × (ByteArray × Bool))) × (List (ByteArray × (ByteArray × Bool))))) : Option Bool :=
(cond (!((lenI x.1) == (lenI x.2)))
 (some false)
 (l_laws_eqWriteS_1 n x.1 x.2 (0 : Int)))
def m_laws_eqWriteS (x : ((List (ByteArray × (ByteArray × Bool))) × (List (ByteArray × (ByteArray × Bool))))) : Option Bool := p_laws_eqWriteS FU x
def a_laws_eqWriteS : Ann := (.node .leaf (.node .leaf (.node (.node .leaf (.loop [.slot 5 (.int .i64)] [4, 11, 12, 13, 14, 15, 16, 17, 18, 19, 20, 21, 22, 23, 24, 25, 26] .leaf)) .leaf)))
def S_laws_eqWriteS : FSpec := ⟨[.val Kd18, .val Kd18], [.bool], m_laws_eqWriteS⟩

/-! laws.markByteS -/
def l_laws_markByteS_1 (n : Nat)  (z0 : (Int × (Int × (List Int)))) : Option (Int × (List Int)) :=
(lp (fun rec6 (z5 : (Int × (Int × (List Int)))) =>
 (cond (decide (z5.2.1 < (lenI z5.2.2)))
  ((geti z5.2.2 z5.2.1).bind fun _ =>
  ((z5.2.2[z5.2.1.toNat]?).bind fun y7 =>
  rec6 (IntKind.wrap .i64 (z5.1 + (1 : Int)), IntKind.wrap .i64 (z5.2.1 + (1 : Int)), (z5.2.2.set z5.2.1.toNat (IntKind.wrap .u8 z5.1)))))
  (some (z5.1, z5.2.2)))) n z0)
def p_laws_markByteS (n : Nat) (x : ((List Int) × Int)) : Option (Int × (List Int)) :=
(l_laws_markByteS_1 n  (x.2, (0 : Int), x.1))
def m_laws_markByteS (x : ((List Int) × Int)) : Option (Int × (List Int)) := p_laws_markByteS FU x
def a_laws_markByteS : Ann := (.node .leaf (.node (.node .leaf (.loop [.slot 1 (.int .i64), .slot 5 (.int .i64), .row 0 5 (.int .u8)] [6, 7, 8, 9, 10, 11, 12, 13, 14, 15, 16, 17, 18] .leaf)) .leaf))
def S_laws_markByteS : FSpec := ⟨[.row 5 (.int .u8), .val (.int .i64)], [(.int .i64)], m_laws_markByteS⟩

/-! laws.markText -/
def l_laws_markText_1 (n : Nat)  (z0 : (Int × ByteArray)) : Option ByteArray :=
(lp (fun rec3 (z2 : (Int × ByteArray)) =>
 (cond (decide (z2.1 > (0 : Int)))
  (cond ((10 : Int) == 0) none
   (chk (decide ((((strOfNums [IntKind.wrap .u8 (IntKind.wrap .i64 ((48 : Int) + (Int.tmod z2.1 (10 : Int))))]).size + z2.2.size : Nat) : Int) ≤ 9223372036854775807))
    (cond ((10 : Int) == 0) none
     (rec3 (IntKind.wrap .i64 (Int.tdiv z2.1 (10 : Int)), ((strOfNums [IntKind.wrap .u8 (IntKind.wrap .i64 ((48 : Int) + (Int.tmod z2.1 (10 : Int))))]) ++ z2.2))))))
  (chk (decide ((((⟨#[109]⟩ : ByteArray).size + z2.2.size : Nat) : Int) ≤ 9223372036854775807))
   (some ((⟨#[109]⟩ : ByteArray) ++ z2.2))))) n z0)
def p_laws_markText (n : Nat) (x : Int) : Option ByteArray :=
(cond (decide (x ≤ (0 : Int)))
 (some (⟨#[109, 48]⟩ : ByteArray))
 (l_laws_markText_1 n  (x, (⟨#[]⟩ : ByteArray))))
def m_laws_markText (x : Int) : Option ByteArray := p_laws_markText FU x
def a_laws_markText : Ann := (.node .leaf (.node .leaf (.node .leaf (.node (.loop [.slot 0 (.int .i64), .slot 3 .str] [6, 7, 8, 9, 10, 11, 12, 13, 14, 15, 16, 17] .leaf) .leaf))))
def S_laws_markText : FSpec := ⟨[.val (.int .i64)], [.str], m_laws_markText⟩

/-! laws.markRowS -/
def l_laws_markRowS_1 (n : Nat)  (z0 : (Int × (Int × (List (ByteArray × (Int × (ByteArray × Bool))))))) : Option (Int × (List (ByteArray × (Int × (ByteArray × Bool))))) :=
(lp (fun rec16 (z15 : (Int × (Int × (List (ByteArray × (Int × (ByteArray × Bool))))))) =>
 (cond (decide (z15.2.1 < (lenI z15.2.2)))
  ((m_laws_markText z15.1).bind fun r17 =>
  ((geti z15.2.2 z15.2.1).bind fun _ =>
  ((z15.2.2[z15.2.1.toNat]?).bind fun y18 =>
  ((geti (z15.2.2.set z15.2.1.toNat (r17, y18.2)) z15.2.1).bind fun _ =>
  (((z15.2.2.set z15.2.1.toNat (r17, y18.2))[z15.2.1.toNat]?).bind fun y19 =>
  ((m_laws_markText (IntKind.wrap .i64 ((IntKind.wrap .i64 (z15.1 + (1 : Int))) + (1 : Int)))).bind fun r20 =>
  ((geti ((z15.2.2.set z15.2.1.toNat (r17, y18.2)).set z15.2.1.toNat (y19.1, (IntKind.wrap .i64 (z15.1 + (1 : Int)), y19.2.2))) z15.2.1).bind fun _ =>
  ((((z15.2.2.set z15.2.1.toNat (r17, y18.2)).set z15.2.1.toNat (y19.1, (IntKind.wrap .i64 (z15.1 + (1 : Int)), y19.2.2)))[z15.2.1.toNat]?).bind fun y21 =>
  (cond ((3 : Int) == 0) none
   ((geti (((z15.2.2.set z15.2.1.toNat (r17, y18.2)).set z15.2.1.toNat (y19.1, (IntKind.wrap .i64 (z15.1 + (1 : Int)), y19.2.2))).set z15.2.1.toNat (y21.1, (y21.2.1, (r20, y21.2.2.2)))) z15.2.1).bind fun _ =>
   (((((z15.2.2.set z15.2.1.toNat (r17, y18.2)).set z15.2.1.toNat (y19.1, (IntKind.wrap .i64 (z15.1 + (1 : Int)), y19.2.2))).set z15.2.1.toNat (y21.1, (y21.2.1, (r20, y21.2.2.2))))[z15.2.1.toNat]?).bind fun y22 =>
   rec16 (IntKind.wrap .i64 ((IntKind.wrap .i64 ((IntKind.wrap .i64 ((IntKind.wrap .i64 (z15.1 + (1 : Int))) + (1 : Int))) + (1 : Int))) + (1 : Int)), IntKind.wrap .i64 (z15.2.1 + (1 : Int)), ((((z15.2.2.set z15.2.1.toNat (r17, y18.2)).set z15.2.1.toNat (y19.1, (IntKind.wrap .i64 (z15.1 + (1 : Int)), y19.2.2))).set z15.2.1.toNat (y21.1, (y21.2.1, (r20, y21.2.2.2)))).set z15.2.1.toNat (y22.1, (y22.2.1, (y22.2.2.1, ((Int.tmod (IntKind.wrap .i64 ((IntKind.wrap .i64 ((IntKind.wrap .i64 (z15.1 + (1 : Int))) + (1 : Int))) + (1 : Int))) (3 : Int)) == (0 : Int))))))))))))))))))
  (some (z15.1, z15.2.2)))) n z0)
def p_laws_markRowS (n : Nat) (x : ((List (ByteArray × (Int × (ByteArray × Bool)))) × Int)) : Option (Int × (List (ByteArray × (Int × (ByteArray × Bool))))) :=
(l_laws_markRowS_1 n  (x.2, (0 : Int), x.1))
def m_laws_markRowS (x : ((List (ByteArray × (Int × (ByteArray × Bool)))) × Int)) : Option (Int × (List (ByteArray × (Int × (ByteArray × Bool))))) := p_laws_markRowS FU x
def a_laws_markRowS : Ann := (.node .leaf (.node (.node .leaf (.loop [.slot 1 (.int .i64), .slot 5 (.int .i64), .row 0 78 Kd15] [6, 7, 8, 9, 10, 11, 12, 13, 14, 15, 16, 17, 18, 19, 20, 21, 22, 23, 24, 25, 26, 27, 28, 29, 30, 31, 32, 33, 34, 35, 36, 37, 38, 39, 40, 41, 42, 43] .leaf)) .leaf))
def S_laws_markRowS : FSpec := ⟨[.row 78 Kd15, .val (.int .i64)], [(.int .i64)], m_laws_markRowS⟩

/-! laws.markRowSS -/
def l_laws_markRowSS_1 (n : Nat)  (z0 : (Int × (Int × (List (List (ByteArray × (Int × (ByteArray × Bool)))))))) : Option (Int × (List (List (ByteArray × (Int × (ByteArray × Bool)))))) :=
(lp (fun rec10 (z9 : (Int × (Int × (List (List (ByteArray × (Int × (ByteArray × Bool)))))))) =>
 (cond (decide (z9.2.1 < (lenI z9.2.2)))
  ((geti z9.2.2 z9.2.1).bind fun _ =>
  ((z9.2.2[z9.2.1.toNat]?).bind fun y11 =>
  ((z9.2.2[z9.2.1.toNat]?).bind fun y12 =>
  ((m_laws_markRowS (y12, z9.1)).bind fun r13 =>
  rec10 (r13.1, IntKind.wrap .i64 (z9.2.1 + (1 : Int)), (z9.2.2.set z9.2.1.toNat r13.2))))))
  (some (z9.1, z9.2.2)))) n z0)
def p_laws_markRowSS (n : Nat) (x : ((List (List (ByteArray × (Int × (ByteArray × Bool))))) × Int)) : Option (Int × (List (List (ByteArray × (Int × (ByteArray × Bool)))))) :=
(l_laws_markRowSS_1 n  (x.2, (0 : Int), x.1))
def m_laws_markRowSS (x : ((List (List (ByteArray × (Int × (ByteArray × Bool))))) × Int)) : Option (Int × (List (List (ByteArray × (Int × (ByteArray × Bool)))))) := p_laws_markRowSS FU x
def a_laws_markRowSS : Ann := (.node .leaf (.node (.node .leaf (.loop [.slot 1 (.int .i64), .slot 5 (.int .i64), .row 0 53 Kd11] [6, 7, 8, 9, 10, 11, 12, 13, 14, 15, 16, 17] .leaf)) .leaf))
def S_laws_markRowSS : FSpec := ⟨[.row 53 Kd11, .val (.int .i64)], [(.int .i64)], m_laws_markRowSS⟩

/-! laws.markWriteS -/
def l_laws_markWriteS_1 (n : Nat)  (z0 : (Int × (Int × (List (ByteArray × (ByteArray × Bool)))))) : Option (Int × (List (ByteArray × (ByteArray × Bool)))) :=
(lp (fun rec14 (z13 : (Int × (Int × (List (ByteArray × (ByteArray × Bool)))))) =>
 (cond (decide (z13.2.1 < (lenI z13.2.2)))
  ((m_laws_markText z13.1).bind fun r15 =>
  ((geti z13.2.2 z13.2.1).bind fun _ =>
  ((z13.2.2[z13.2.1.toNat]?).bind fun y16 =>
  ((m_laws_markText (IntKind.wrap .i64 (z13.1 + (1 : Int)))).bind fun r17 =>
  ((geti (z13.2.2.set z13.2.1.toNat (r15, y16.2)) z13.2.1).bind fun _ =>
  (((z13.2.2.set z13.2.1.toNat (r15, y16.2))[z13.2.1.toNat]?).bind fun y18 =>
  (cond ((3 : Int) == 0) none
   ((geti ((z13.2.2.set z13.2.1.toNat (r15, y16.2)).set z13.2.1.toNat (y18.1, (r17, y18.2.2))) z13.2.1).bind fun _ =>
   ((((z13.2.2.set z13.2.1.toNat (r15, y16.2)).set z13.2.1.toNat (y18.1, (r17, y18.2.2)))[z13.2.1.toNat]?).bind fun y19 =>
   rec14 (IntKind.wrap .i64 ((IntKind.wrap .i64 ((IntKind.wrap .i64 (z13.1 + (1 : Int))) + (1 : Int))) + (1 : Int)), IntKind.wrap .i64 (z13.2.1 + (1 : Int)), (((z13.2.2.set z13.2.1.toNat (r15, y16.2)).set z13.2.1.toNat (y18.1, (r17, y18.2.2))).set z13.2.1.toNat (y19.1, (y19.2.1, ((Int.tmod (IntKind.wrap .i64 ((IntKind.wrap .i64 (z13.1 + (1 : Int))) + (1 : Int))) (3 : Int)) == (0 : Int)))))))))))))))
  (some (z13.1, z13.2.2)))) n z0)
def p_laws_markWriteS (n : Nat) (x : ((List (ByteArray × (ByteArray × Bool))) × Int)) : Option (Int × (List (ByteArray × (ByteArray × Bool)))) :=
(l_laws_markWriteS_1 n  (x.2, (0 : Int), x.1))
def m_laws_markWriteS (x : ((List (ByteArray × (ByteArray × Bool))) × Int)) : Option (Int × (List (ByteArray × (ByteArray × Bool)))) := p_laws_markWriteS FU x
def a_laws_markWriteS : Ann := (.node .leaf (.node (.node .leaf (.loop [.slot 1 (.int .i64), .slot 5 (.int .i64), .row 0 99 Kd19] [6, 7, 8, 9, 10, 11, 12, 13, 14, 15, 16, 17, 18, 19, 20, 21, 22, 23, 24, 25, 26, 27, 28, 29, 30, 31, 32, 33, 34, 35, 36] .leaf)) .leaf))
def S_laws_markWriteS : FSpec := ⟨[.row 99 Kd19, .val (.int .i64)], [(.int .i64)], m_laws_markWriteS⟩

/-! laws.heldByteS -/
def l_laws_heldByteS_1 (n : Nat) (x_1 : (List Int)) (z0 : (Int × Int)) : Option Int :=
(lp (fun rec4 (z3 : (Int × Int)) =>
 (cond (decide (z3.2 < (lenI x_1)))
  ((geti x_1 z3.2).bind fun y5 =>
  (cond (!(y5 == (IntKind.wrap .u8 z3.1)))
   (some (-1 : Int))
   (rec4 (IntKind.wrap .i64 (z3.1 + (1 : Int)), IntKind.wrap .i64 (z3.2 + (1 : Int))))))
  (some z3.1))) n z0)
def p_laws_heldByteS (n : Nat) (x : ((List Int) × Int)) : Option Int :=
(l_laws_heldByteS_1 n x.1 (x.2, (0 : Int)))
def m_laws_heldByteS (x : ((List Int) × Int)) : Option Int := p_laws_heldByteS FU x
def a_laws_heldByteS : Ann := (.node .leaf (.node (.node .leaf (.loop [.slot 1 (.int .i64), .slot 5 (.int .i64)] [4, 6, 7, 8, 9, 10, 11, 12, 13, 14, 15, 16, 17, 18, 19, 20] .leaf)) .leaf))
def S_laws_heldByteS : FSpec := ⟨[.val (.sl none (.int .u8)), .val (.int .i64)], [(.int .i64)], m_laws_heldByteS⟩

/-! laws.heldLog -/
def p_laws_heldLog (n : Nat) (x : (((List Int) × (List Int)) × Int)) : Option Int :=
((m_laws_heldByteS (x.1.1, x.2)).bind fun r1 =>
(cond (decide (r1 < (0 : Int)))
 (some (-1 : Int))
 ((m_laws_heldByteS (x.1.2, r1)).bind fun r2 =>
 (cond (decide (r2 < (0 : Int)))
  (some (-1 : Int))
  (some r2)))))
def m_laws_heldLog (x : (((List Int) × (List Int)) × Int)) : Option Int := p_laws_heldLog FU x
def a_laws_heldLog : Ann := .leaf
def S_laws_heldLog : FSpec := ⟨[.val Kd14, .val (.int .i64)], [(.int .i64)], m_laws_heldLog⟩

/-! laws.heldRowS -/
def l_laws_heldRowS_1 (n : Nat) (x_1 : (List (ByteArray × (Int × (ByteArray × Bool))))) (z0 : (Int × Int)) : Option Int :=
(lp (fun rec9 (z8 : (Int × Int)) =>
 (cond (decide (z8.2 < (lenI x_1)))
  ((geti x_1 z8.2).bind fun y10 =>
  ((m_laws_markText z8.1).bind fun r11 =>
  (cond (!(y10.1.toList == r11.toList))
   (some (-1 : Int))
   ((geti x_1 z8.2).bind fun y12 =>
   (cond (!(y12.2.1 == (IntKind.wrap .i64 (z8.1 + (1 : Int)))))
    (some (-1 : Int))
    ((geti x_1 z8.2).bind fun y13 =>
    ((m_laws_markText (IntKind.wrap .i64 ((IntKind.wrap .i64 (z8.1 + (1 : Int))) + (1 : Int)))).bind fun r14 =>
    (cond (!(y13.2.2.1.toList == r14.toList))
     (some (-1 : Int))
     ((geti x_1 z8.2).bind fun y15 =>
     (cond ((3 : Int) == 0) none
      (cond (!(y15.2.2.2 == ((Int.tmod (IntKind.wrap .i64 ((IntKind.wrap .i64 ((IntKind.wrap .i64 (z8.1 + (1 : Int))) + (1 : Int))) + (1 : Int))) (3 : Int)) == (0 : Int))))
       (some (-1 : Int))
       (rec9 (IntKind.wrap .i64 ((IntKind.wrap .i64 ((IntKind.wrap .i64 ((IntKind.wrap .i64 (z8.1 + (1 : Int))) + (1 : Int))) + (1 : Int))) + (1 : Int)), IntKind.wrap .i64 (z8.2 + (1 : Int)))))))))))))))
  (some z8.1))) n z0)
def p_laws_heldRowS (n : Nat) (x : ((List (ByteArray × (Int × (ByteArray × Bool)))) × Int)) : Option Int :=
(l_laws_heldRowS_1 n x.1 (x.2, (0 : Int)))
def m_laws_heldRowS (x : ((List (ByteArray × (Int × (ByteArray × Bool)))) × Int)) : Option Int := p_laws_heldRowS FU x
def a_laws_heldRowS : Ann := (.node .leaf (.node (.node .leaf (.loop [.slot 1 (.int .i64), .slot 5 (.int .i64)] [4, 6, 7, 8, 9, 10, 11, 12, 13, 14, 15, 16, 17, 18, 19, 20, 21, 22, 23, 24, 25, 26, 27, 28, 29, 30, 31, 32, 33, 34, 35, 36, 37, 38, 39, 40, 41, 42, 43, 44, 45, 46, 47, 48, 49, 50, 51] .leaf)) .leaf))
def S_laws_heldRowS : FSpec := ⟨[.val Kd12, .val (.int .i64)], [(.int .i64)], m_laws_heldRowS⟩

/-! laws.heldRowSS -/
def l_laws_heldRowSS_1 (n : Nat) (x_1 : (List (List (ByteArray × (Int × (ByteArray × Bool)))))) (z0 : (Int × Int)) : Option Int :=
(lp (fun rec5 (z4 : (Int × Int)) =>
 (cond (decide (z4.2 < (lenI x_1)))
  ((geti x_1 z4.2).bind fun y6 =>
  ((m_laws_heldRowS (y6, z4.1)).bind fun r7 =>
  (cond (decide (r7 < (0 : Int)))
   (some (-1 : Int))
   (rec5 (r7, IntKind.wrap .i64 (z4.2 + (1 : Int)))))))
  (some z4.1))) n z0)
def p_laws_heldRowSS (n : Nat) (x : ((List (List (ByteArray × (Int × (ByteArray × Bool))))) × Int)) : Option Int :=
(l_laws_heldRowSS_1 n x.1 (x.2, (0 : Int)))
def m_laws_heldRowSS (x : ((List (List (ByteArray × (Int × (ByteArray × Bool))))) × Int)) : Option Int := p_laws_heldRowSS FU x
def a_laws_heldRowSS : Ann := (.node .leaf (.node (.node .leaf (.loop [.slot 1 (.int .i64), .slot 5 (.int .i64)] [4, 6, 7, 8, 9, 10, 11, 12, 13, 14, 15, 16, 17, 18, 19] .leaf)) .leaf))
def S_laws_heldRowSS : FSpec := ⟨[.val Kd10, .val (.int .i64)], [(.int .i64)], m_laws_heldRowSS⟩

/-! laws.heldEngine -/
def p_laws_heldEngine (n : Nat) (x : ((((List Int) × (List Int)) × ((List (ByteArray × (Int × (ByteArray × Bool)))) × ((List (List (ByteArray × (Int × (ByteArray × Bool))))) × Int))) × Int)) : Option Int :=
((m_laws_heldLog (x.1.1, x.2)).bind fun r1 =>
(cond (decide (r1 < (0 : Int)))
 (some (-1 : Int))
 ((m_laws_heldRowS (x.1.2.1, r1)).bind fun r2 =>
 (cond (decide (r2 < (0 : Int)))
  (some (-1 : Int))
  ((m_laws_heldRowSS (x.1.2.2.1, r2)).bind fun r3 =>
  (cond (decide (r3 < (0 : Int)))
   (some (-1 : Int))
   (some r3)))))))
def m_laws_heldEngine (x : ((((List Int) × (List Int)) × ((List (ByteArray × (Int × (ByteArray × Bool)))) × ((List (List (ByteArray × (Int × (ByteArray × Bool))))) × Int))) × Int)) : Option Int := p_laws_heldEngine FU x
def a_laws_heldEngine : Ann := .leaf
def S_laws_heldEngine : FSpec := ⟨[.val Kd6, .val (.int .i64)], [(.int .i64)], m_laws_heldEngine⟩

/-! laws.heldEngineResult -/
def p_laws_heldEngineResult (n : Nat) (x : ((Int × (Int × (((List Int) × (List Int)) × ((List (ByteArray × (Int × (ByteArray × Bool)))) × ((List (List (ByteArray × (Int × (ByteArray × Bool))))) × Int))))) × Int)) : Option Int :=
((m_laws_heldEngine (x.1.2.2, x.2)).bind fun r1 =>
(cond (decide (r1 < (0 : Int)))
 (some (-1 : Int))
 (some r1)))
def m_laws_heldEngineResult (x : ((Int × (Int × (((List Int) × (List Int)) × ((List (ByteArray × (Int × (ByteArray × Bool)))) × ((List (List (ByteArray × (Int × (ByteArray × Bool))))) × Int))))) × Int)) : Option Int := p_laws_heldEngineResult FU x
def a_laws_heldEngineResult : Ann := .leaf
def S_laws_heldEngineResult : FSpec := ⟨[.val Kd2, .val (.int .i64)], [(.int .i64)], m_laws_heldEngineResult⟩

/-! laws.FnExactWriteBatch -/
def p_laws_FnExactWriteBatch (n : Nat) (x : ((((List Int) × (List Int)) × ((List (ByteArray × (Int × (ByteArray × Bool)))) × ((List (List (ByteArray × (Int × (ByteArray × Bool))))) × Int))) × ((List (ByteArray × (ByteArray × Bool))) × Bool))) : Option Bool :=
((m_laws_szEngine (x.1, (1048576 : Int))).bind fun r1 =>
(cond (decide (r1 < (0 : Int)))
 (some true)
 ((m_laws_szWriteS (x.2.1, r1)).bind fun r2 =>
 (cond (decide (r2 < (0 : Int)))
  (some true)
  ((m_laws_toEngine x.1).bind fun r3 =>
  ((m_laws_toWriteS x.2.1).bind fun r4 =>
  ((m_spec_WriteBatch (r3, r4, x.2.2)).bind fun r5 =>
  ((m_laws_toEngine x.1).bind fun r6 =>
  ((m_laws_toWriteS x.2.1).bind fun r7 =>
  ((m_impl_WriteBatch (r6, r7, x.2.2)).bind fun r8 =>
  ((m_laws_eqEngineResult (r8, r5)).bind fun r9 =>
  (cond (!r9)
   (some false)
   ((m_laws_toEngine x.1).bind fun r10 =>
   ((m_laws_eqEngine (r6, r10)).bind fun r11 =>
   (cond (!r11)
    (some false)
    ((m_laws_toWriteS x.2.1).bind fun r12 =>
    ((m_laws_eqWriteS (r7, r12)).bind fun r13 =>
    (cond (!r13)
     (some false)
     ((m_laws_markByteS (r6.1.1, (1 : Int))).bind fun r14 =>
     ((m_laws_markByteS (r6.1.2, r14.1)).bind fun r15 =>
     ((m_laws_markRowS (r6.2.1, r15.1)).bind fun r16 =>
     ((m_laws_markRowSS (r6.2.2.1, r16.1)).bind fun r17 =>
     ((m_laws_markWriteS (r7, r17.1)).bind fun r18 =>
     (Option.bind (α := Bool)
      (cond (decide (r18.1 < (0 : Int)))
       (some true)
       ((m_laws_eqEngineResult (r8, r5)).bind fun r20 =>
       some (!r20))) fun j21 =>
     (cond j21
      (some false)
      ((m_laws_markByteS (r8.2.2.1.1, (1 : Int))).bind fun r22 =>
      ((m_laws_markByteS (r8.2.2.1.2, r22.1)).bind fun r23 =>
      ((m_laws_markRowS (r8.2.2.2.1, r23.1)).bind fun r24 =>
      ((m_laws_markRowSS (r8.2.2.2.2.1, r24.1)).bind fun r25 =>
      ((m_laws_heldEngineResult ((r8.1, (r8.2.1, ((r22.2, r23.2), (r24.2, (r25.2, r8.2.2.2.2.2))))), (1 : Int))).bind fun r26 =>
      (cond (decide (r26 < (0 : Int)))
       (some false)
       (cond (!(r26 == r25.1))
        (some false)
        ((m_laws_toEngine x.1).bind fun r27 =>
        ((m_laws_toWriteS x.2.1).bind fun r28 =>
        ((m_impl_WriteBatch (r27, r28, x.2.2)).bind fun r29 =>
        ((m_laws_eqEngineResult (r29, r5)).bind fun r30 =>
        (cond (!r30)
         (some false)
         ((m_laws_heldEngineResult ((r8.1, (r8.2.1, ((r22.2, r23.2), (r24.2, (r25.2, r8.2.2.2.2.2))))), (1 : Int))).bind fun r31 =>
         (cond (decide (r31 < (0 : Int)))
          (some false)
          (cond (!(r31 == r25.1))
           (some false)
           (some true)))))))))))))))))))))))))))))))))))))))))
def m_laws_FnExactWriteBatch (x : ((((List Int) × (List Int)) × ((List (ByteArray × (Int × (ByteArray × Bool)))) × ((List (List (ByteArray × (Int × (ByteArray × Bool))))) × Int))) × ((List (ByteArray × (ByteArray × Bool))) × Bool))) : Option Bool := p_laws_FnExactWriteBatch FU x
def a_laws_FnExactWriteBatch : Ann := (.node .leaf (.node .leaf (.node .leaf (.node .leaf (.node .leaf (.node .leaf (.node .leaf (.node .leaf (.node .leaf (.node .leaf (.node .leaf (.node .leaf (.node .leaf (.node .leaf (.node .leaf (.node .leaf (.node (.join [.slot 67 .bool] [60, 61, 62, 63, 64, 65, 66] .leaf .leaf) .leaf)))))))))))))))))
def S_laws_FnExactWriteBatch : FSpec := ⟨[.val Kd6, .val Kd18, .val .bool], [.bool], m_laws_FnExactWriteBatch⟩

def T : Tab := [
  (2, ⟨false, 1, 8, [], 0, [.int .i64 0], some (.int .i64), [0]⟩),
  (3, ⟨false, 1, 8, [], 0, [.int .i64 0], some (.int .i64), [0]⟩),
  (4, ⟨false, 1, 1, [], 0, [.bool false], some .bool, [1]⟩),
  (5, ⟨false, 1, 1, [], 0, [.int .u8 0], some (.int .u8), [0]⟩),
  (9, ⟨false, 1, 16, [], 0, [.str ⟨#[]⟩], some .str, [2]⟩),
  (25, ⟨false, 1, 24, [], 2, [.nil], some (.sl none (.int .i64)), []⟩),
  (43, ⟨false, 1, 24, [], 5, [.nil], some (.sl none (.int .u8)), []⟩),
  (45, ⟨true, 2, 48, [(0, 1, 43), (1, 1, 43)], 0, [.nil, .nil], some Kd14, []⟩),
  (46, ⟨false, 1, 24, [], 217, [.nil], some Kd12, []⟩),
  (47, ⟨false, 1, 24, [], 46, [.nil], some Kd10, []⟩),
  (49, ⟨true, 5, 104, [(0, 2, 45), (2, 1, 46), (3, 1, 47), (4, 1, 2)], 0, [.nil, .nil, .nil, .nil, .int .i64 0], some Kd6, []⟩),
  (52, ⟨true, 2, 48, [(0, 1, 43), (1, 1, 43)], 0, [.nil, .nil], some Kd14, []⟩),
  (53, ⟨false, 1, 24, [], 78, [.nil], some Kd12, []⟩),
  (54, ⟨false, 1, 24, [], 53, [.nil], some Kd10, []⟩),
  (56, ⟨true, 5, 104, [(0, 2, 52), (2, 1, 53), (3, 1, 54), (4, 1, 2)], 0, [.nil, .nil, .nil, .nil, .int .i64 0], some Kd6, []⟩),
  (61, ⟨true, 7, 120, [(0, 1, 2), (1, 1, 2), (2, 5, 56)], 0, [.int .i64 0, .int .i64 0, .nil, .nil, .nil, .nil, .int .i64 0], some Kd2, []⟩),
  (70, ⟨false, 1, 24, [], 43, [.nil], some (.sl none (.sl none (.int .u8))), []⟩),
  (72, ⟨true, 3, 40, [(0, 1, 2), (1, 1, 2), (2, 1, 70)], 0, [.int .i64 0, .int .i64 0, .nil], some (.pair (.int .i64) (.pair (.int .i64) (.sl none (.sl none (.int .u8))))), []⟩),
  (78, ⟨true, 4, 48, [(0, 1, 9), (1, 1, 2), (2, 1, 9), (3, 1, 4)], 0, [.str ⟨#[]⟩, .int .i64 0, .str ⟨#[]⟩, .bool false], some Kd15, [2, 0, 2, 1]⟩),
  (88, ⟨false, 1, 24, [], 161, [.nil], some Kd18, []⟩),
  (91, ⟨false, 1, 24, [], 99, [.nil], some Kd18, []⟩),
  (99, ⟨true, 3, 40, [(0, 1, 9), (1, 1, 9), (2, 1, 4)], 0, [.str ⟨#[]⟩, .str ⟨#[]⟩, .bool false], some Kd19, [2, 2, 1]⟩),
  (148, ⟨true, 3, 56, [(0, 1, 2), (1, 2, 52)], 0, [.int .i64 0, .nil, .nil], some (.pair (.int .i64) Kd14), []⟩),
  (161, ⟨true, 3, 40, [(0, 1, 9), (1, 1, 9), (2, 1, 4)], 0, [.str ⟨#[]⟩, .str ⟨#[]⟩, .bool false], some Kd19, [2, 2, 1]⟩),
  (217, ⟨true, 4, 48, [(0, 1, 9), (1, 1, 2), (2, 1, 9), (3, 1, 4)], 0, [.str ⟨#[]⟩, .int .i64 0, .str ⟨#[]⟩, .bool false], some Kd15, [2, 0, 2, 1]⟩),
  (243, ⟨true, 2, 16, [(0, 1, 2), (1, 1, 2)], 0, [.int .i64 0, .int .i64 0], some (.pair (.int .i64) (.int .i64)), [0, 0]⟩),
  (248, ⟨true, 2, 32, [(0, 1, 2), (1, 1, 43)], 0, [.int .i64 0, .nil], some (.pair (.int .i64) (.sl none (.int .u8))), []⟩),
  (294, ⟨false, 1, 8, [], 0, [.int .u64 0], some (.int .u64), [0]⟩),
  (297, ⟨false, 1, 8, [], 0, [.int .u64 0], some (.int .u64), [0]⟩),
  (321, ⟨false, 1, 24, [], 3, [.nil], some (.sl none (.int .i64)), []⟩)]
def G_laws_szByteS : Env := (184, S_laws_szByteS) :: []
def G_laws_szLog : Env := (80, S_laws_szLog) :: G_laws_szByteS
def G_laws_szRow : Env := (185, S_laws_szRow) :: G_laws_szLog
def G_laws_szRowS : Env := (81, S_laws_szRowS) :: G_laws_szRow
def G_laws_szRowSS : Env := (82, S_laws_szRowSS) :: G_laws_szRowS
def G_laws_szEngine : Env := (22, S_laws_szEngine) :: G_laws_szRowSS
def G_laws_szWrite : Env := (128, S_laws_szWrite) :: G_laws_szEngine
def G_laws_szWriteS : Env := (47, S_laws_szWriteS) :: G_laws_szWrite
def G_laws_toByteS : Env := (190, S_laws_toByteS) :: G_laws_szWriteS
def G_laws_toLog : Env := (88, S_laws_toLog) :: G_laws_toByteS
def G_laws_toRow : Env := (191, S_laws_toRow) :: G_laws_toLog
def G_laws_toRowS : Env := (89, S_laws_toRowS) :: G_laws_toRow
def G_laws_toRowSS : Env := (90, S_laws_toRowSS) :: G_laws_toRowS
def G_laws_toEngine : Env := (24, S_laws_toEngine) :: G_laws_toRowSS
def G_laws_toWrite : Env := (135, S_laws_toWrite) :: G_laws_toEngine
def G_laws_toWriteS : Env := (49, S_laws_toWriteS) :: G_laws_toWrite
def G_spec_LogFault : Env := (83, S_spec_LogFault) :: G_laws_toWriteS
def G_spec_l1In : Env := (63, S_spec_l1In) :: G_spec_LogFault
def G_spec_RowFault : Env := (186, S_spec_RowFault) :: G_spec_l1In
def G_spec_l5Ahead : Env := (187, S_spec_l5Ahead) :: G_spec_RowFault
def G_spec_TableFault : Env := (84, S_spec_TableFault) :: G_spec_l5Ahead
def G_spec_l6Below : Env := (85, S_spec_l6Below) :: G_spec_TableFault
def G_spec_l4Sync : Env := (132, S_spec_l4Sync) :: G_spec_l6Below
def G_spec_CheckOf : Env := (268, S_spec_CheckOf) :: G_spec_l4Sync
def G_spec_l3Records : Env := (188, S_spec_l3Records) :: G_spec_CheckOf
def G_spec_l3Number : Env := (269, S_spec_l3Number) :: G_spec_l3Records
def G_spec_l6Text : Env := (270, S_spec_l6Text) :: G_spec_l3Number
def G_spec_PackNumber : Env := (226, S_spec_PackNumber) :: G_spec_l6Text
def G_spec_PackText : Env := (227, S_spec_PackText) :: G_spec_PackNumber
def G_spec_l6Pack : Env := (131, S_spec_l6Pack) :: G_spec_PackText
def G_spec_WritesFault : Env := (129, S_spec_WritesFault) :: G_spec_l6Pack
def G_spec_PackWrites : Env := (271, S_spec_PackWrites) :: G_spec_WritesFault
def G_spec_l6Unpack : Env := (189, S_spec_l6Unpack) :: G_spec_PackWrites
def G_spec_l6Rows : Env := (133, S_spec_l6Rows) :: G_spec_l6Unpack
def G_spec_l5Put : Env := (134, S_spec_l5Put) :: G_spec_l6Rows
def G_spec_l6Replay : Env := (86, S_spec_l6Replay) :: G_spec_l5Put
def G_spec_l6Same : Env := (87, S_spec_l6Same) :: G_spec_l6Replay
def G_spec_EngineFault : Env := (23, S_spec_EngineFault) :: G_spec_l6Same
def G_spec_l4Copy : Env := (201, S_spec_l4Copy) :: G_spec_EngineFault
def G_spec_l6Copy : Env := (104, S_spec_l6Copy) :: G_spec_l4Copy
def G_spec_l3Short : Env := (285, S_spec_l3Short) :: G_spec_l6Copy
def G_spec_l3Frame : Env := (225, S_spec_l3Frame) :: G_spec_l3Short
def G_spec_l4Append : Env := (130, S_spec_l4Append) :: G_spec_l3Frame
def G_spec_WriteBatch : Env := (48, S_spec_WriteBatch) :: G_spec_l4Append
def G_impl_LogFault : Env := (92, S_impl_LogFault) :: G_spec_WriteBatch
def G_impl_within : Env := (195, S_impl_within) :: G_impl_LogFault
def G_impl_isKey : Env := (272, S_impl_isKey) :: G_impl_within
def G_impl_isVersion : Env := (96, S_impl_isVersion) :: G_impl_isKey
def G_impl_RowFault : Env := (192, S_impl_RowFault) :: G_impl_isVersion
def G_internal_bytealg_CompareString : Env := (322, S_internal_bytealg_CompareString) :: G_impl_RowFault
def G_strings_Compare : Env := (274, S_strings_Compare) :: G_internal_bytealg_CompareString
def G_cmp_isNaN_int64 : Env := (316, S_cmp_isNaN_int64) :: G_strings_Compare
def G_cmp_Compare_int64 : Env := (261, S_cmp_Compare_int64) :: G_cmp_isNaN_int64
def G_cmp_Or_int : Env := (273, S_cmp_Or_int) :: G_cmp_Compare_int64
def G_impl_compareRows : Env := (193, S_impl_compareRows) :: G_cmp_Or_int
def G_impl_TableFault : Env := (93, S_impl_TableFault) :: G_impl_compareRows
def G_impl_firstOf : Env := (91, S_impl_firstOf) :: G_impl_TableFault
def G_slices_Concat_impl_Row_impl_Row : Env := (95, S_slices_Concat_impl_Row_impl_Row) :: G_impl_firstOf
def G_impl_greatest : Env := (94, S_impl_greatest) :: G_slices_Concat_impl_Row_impl_Row
def G_slices_Concat_byte_byte : Env := (120, S_slices_Concat_byte_byte) :: G_impl_greatest
def G_impl_CheckOf : Env := (282, S_impl_CheckOf) :: G_slices_Concat_byte_byte
def G_impl_pair : Env := (281, S_impl_pair) :: G_impl_CheckOf
def G_bytes_Equal : Env := (220, S_bytes_Equal) :: G_impl_pair
def G_impl_unframe : Env := (214, S_impl_unframe) :: G_bytes_Equal
def G_bytes_Clone : Env := (215, S_bytes_Clone) :: G_impl_unframe
def G_impl_size_byte : Env := (196, S_impl_size_byte) :: G_bytes_Clone
def G_impl_UnframeAll : Env := (119, S_impl_UnframeAll) :: G_impl_size_byte
def G_impl_ReadLog : Env := (37, S_impl_ReadLog) :: G_impl_UnframeAll
def G_impl_UnpackNumber : Env := (217, S_impl_UnpackNumber) :: G_impl_ReadLog
def G_impl_takeText : Env := (283, S_impl_takeText) :: G_impl_UnpackNumber
def G_impl_takeWrite : Env := (218, S_impl_takeWrite) :: G_impl_takeText
def G_impl_size_impl_Write : Env := (286, S_impl_size_impl_Write) :: G_impl_takeWrite
def G_impl_Write_row : Env := (221, S_impl_Write_row) :: G_impl_size_impl_Write
def G_impl_PackNumber : Env := (290, S_impl_PackNumber) :: G_impl_Write_row
def G_impl_PackText : Env := (291, S_impl_PackText) :: G_impl_PackNumber
def G_impl_packWrites : Env := (230, S_impl_packWrites) :: G_impl_PackText
def G_impl_WritesFault : Env := (228, S_impl_WritesFault) :: G_impl_packWrites
def G_impl_PackWrites : Env := (219, S_impl_PackWrites) :: G_impl_WritesFault
def G_impl_unpackWrites : Env := (121, S_impl_unpackWrites) :: G_impl_PackWrites
def G_impl_rowsOf : Env := (122, S_impl_rowsOf) :: G_impl_unpackWrites
def G_slices_SortFunc_impl_Row_impl_Row : Env := (197, S_slices_SortFunc_impl_Row_impl_Row) :: G_impl_rowsOf
def G_impl_logRows : Env := (97, S_impl_logRows) :: G_slices_SortFunc_impl_Row_impl_Row
def G_slices_Equal_impl_Row_impl_Row : Env := (98, S_slices_Equal_impl_Row_impl_Row) :: G_impl_logRows
def G_impl_EngineFault : Env := (25, S_impl_EngineFault) :: G_slices_Equal_impl_Row_impl_Row
def G_impl_frame : Env := (334, S_impl_frame) :: G_impl_EngineFault
def G_impl_FrameRecord : Env := (289, S_impl_FrameRecord) :: G_impl_frame
def G_impl_copyLog : Env := (202, S_impl_copyLog) :: G_impl_FrameRecord
def G_impl_AppendLog : Env := (229, S_impl_AppendLog) :: G_impl_copyLog
def G_impl_SyncLog : Env := (231, S_impl_SyncLog) :: G_impl_AppendLog
def G_slices_Clone_impl_Row_impl_Row : Env := (203, S_slices_Clone_impl_Row_impl_Row) :: G_impl_SyncLog
def G_impl_copyTables : Env := (204, S_impl_copyTables) :: G_slices_Clone_impl_Row_impl_Row
def G_impl_copyEngine : Env := (105, S_impl_copyEngine) :: G_impl_copyTables
def G_impl_writeBatch : Env := (136, S_impl_writeBatch) :: G_impl_copyEngine
def G_impl_WriteBatch : Env := (50, S_impl_WriteBatch) :: G_impl_writeBatch
def G_laws_eqByteS : Env := (199, S_laws_eqByteS) :: G_impl_WriteBatch
def G_laws_eqLog : Env := (101, S_laws_eqLog) :: G_laws_eqByteS
def G_laws_eqRow : Env := (200, S_laws_eqRow) :: G_laws_eqLog
def G_laws_eqRowS : Env := (102, S_laws_eqRowS) :: G_laws_eqRow
def G_laws_eqRowSS : Env := (103, S_laws_eqRowSS) :: G_laws_eqRowS
def G_laws_eqEngine : Env := (26, S_laws_eqEngine) :: G_laws_eqRowSS
def G_laws_eqEngineResult : Env := (29, S_laws_eqEngineResult) :: G_laws_eqEngine
def G_laws_eqWrite : Env := (137, S_laws_eqWrite) :: G_laws_eqEngineResult
def G_laws_eqWriteS : Env := (51, S_laws_eqWriteS) :: G_laws_eqWrite
def G_laws_markByteS : Env := (205, S_laws_markByteS) :: G_laws_eqWriteS
def G_laws_markText : Env := (138, S_laws_markText) :: G_laws_markByteS
def G_laws_markRowS : Env := (107, S_laws_markRowS) :: G_laws_markText
def G_laws_markRowSS : Env := (108, S_laws_markRowSS) :: G_laws_markRowS
def G_laws_markWriteS : Env := (52, S_laws_markWriteS) :: G_laws_markRowSS
def G_laws_heldByteS : Env := (277, S_laws_heldByteS) :: G_laws_markWriteS
def G_laws_heldLog : Env := (206, S_laws_heldLog) :: G_laws_heldByteS
def G_laws_heldRowS : Env := (127, S_laws_heldRowS) :: G_laws_heldLog
def G_laws_heldRowSS : Env := (207, S_laws_heldRowSS) :: G_laws_heldRowS
def G_laws_heldEngine : Env := (109, S_laws_heldEngine) :: G_laws_heldRowSS
def G_laws_heldEngineResult : Env := (32, S_laws_heldEngineResult) :: G_laws_heldEngine
def G_laws_FnExactWriteBatch : Env := (10, S_laws_FnExactWriteBatch) :: G_laws_heldEngineResult
end
end Go.RvP
