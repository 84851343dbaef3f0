/- The plain functions that the evaluator comes to, for FnExactVoteShard. No condition. -/
import Derived.Test.YtccghpomkikjoaaGreatRvL
import Derived.Test.YtccghpomkikjoaaGreatRvY
import Derived.Test.YtccghpomkikjoaaGreatRvT
namespace Go.RvP
open Go Go.Rv
noncomputable section
abbrev Kd21 : Kd := (.sl none (.int .i64))
abbrev Kd20 : Kd := (.sl (some 2) (.int .i64))
abbrev Kd19 : Kd := (.pair (.int .i64) (.int .i64))
abbrev Kd18 : Kd := (.sl none Kd19)
abbrev Kd17 : Kd := (.sl (some 185) Kd19)
abbrev Kd16 : Kd := (.pair (.int .i64) Kd19)
abbrev Kd15 : Kd := (.sl none Kd16)
abbrev Kd14 : Kd := (.sl (some 263) Kd16)
abbrev Kd13 : Kd := (.pair (.int .i64) Kd16)
abbrev Kd12 : Kd := (.sl none Kd13)
abbrev Kd11 : Kd := (.sl (some 194) Kd13)
abbrev Kd10 : Kd := (.pair (.int .i64) Kd12)
abbrev Kd9 : Kd := (.pair (.int .i64) Kd11)
abbrev Kd8 : Kd := (.sl none Kd10)
abbrev Kd7 : Kd := (.sl (some 47) Kd9)
abbrev Kd6 : Kd := (.pair (.int .i64) (.pair Kd15 (.pair Kd18 (.pair Kd8 (.pair Kd18 Kd21)))))
abbrev Kd5 : Kd := (.pair (.int .i64) (.pair Kd14 (.pair Kd17 (.pair (.sl (some 47) Kd10) (.pair Kd17 Kd20)))))
abbrev Kd4 : Kd := (.pair (.int .i64) (.pair Kd14 (.pair Kd17 (.pair Kd7 (.pair Kd17 Kd20)))))
abbrev Kd3 : Kd := (.pair (.int .i64) (.pair (.int .i64) Kd6))
abbrev Kd2 : Kd := (.pair (.int .i64) (.pair (.int .i64) Kd5))
abbrev Kd1 : Kd := (.pair (.int .i64) (.pair (.int .i64) Kd4))
/-! laws.szBalanceS -/
def p_laws_szBalanceS (n : Nat) (x : ((List (Int × (Int × Int))) × Int)) : Option Int :=
(cond (decide ((IntKind.wrap .i64 (x.2 - (lenI x.1))) < (0 : Int)))
 (some (-1 : Int))
 (some (IntKind.wrap .i64 (x.2 - (lenI x.1)))))
def m_laws_szBalanceS (x : ((List (Int × (Int × Int))) × Int)) : Option Int := p_laws_szBalanceS FU x
def a_laws_szBalanceS : Ann := .leaf
def S_laws_szBalanceS : FSpec := ⟨[.val Kd15, .val (.int .i64)], [(.int .i64)], m_laws_szBalanceS⟩

/-! laws.szMarkS -/
def p_laws_szMarkS (n : Nat) (x : ((List (Int × Int)) × Int)) : Option Int :=
(cond (decide ((IntKind.wrap .i64 (x.2 - (lenI x.1))) < (0 : Int)))
 (some (-1 : Int))
 (some (IntKind.wrap .i64 (x.2 - (lenI x.1)))))
def m_laws_szMarkS (x : ((List (Int × Int)) × Int)) : Option Int := p_laws_szMarkS FU x
def a_laws_szMarkS : Ann := .leaf
def S_laws_szMarkS : FSpec := ⟨[.val Kd18, .val (.int .i64)], [(.int .i64)], m_laws_szMarkS⟩

/-! laws.szLegS -/
def p_laws_szLegS (n : Nat) (x : ((List (Int × (Int × (Int × Int)))) × Int)) : Option Int :=
(cond (decide ((IntKind.wrap .i64 (x.2 - (lenI x.1))) < (0 : Int)))
 (some (-1 : Int))
 (some (IntKind.wrap .i64 (x.2 - (lenI x.1)))))
def m_laws_szLegS (x : ((List (Int × (Int × (Int × Int)))) × Int)) : Option Int := p_laws_szLegS FU x
def a_laws_szLegS : Ann := .leaf
def S_laws_szLegS : FSpec := ⟨[.val Kd12, .val (.int .i64)], [(.int .i64)], m_laws_szLegS⟩

/-! laws.szContract -/
def p_laws_szContract (n : Nat) (x : ((Int × (List (Int × (Int × (Int × Int))))) × Int)) : Option Int :=
((m_laws_szLegS (x.1.2, x.2)).bind fun r1 =>
(cond (decide (r1 < (0 : Int)))
 (some (-1 : Int))
 (some r1)))
def m_laws_szContract (x : ((Int × (List (Int × (Int × (Int × Int))))) × Int)) : Option Int := p_laws_szContract FU x
def a_laws_szContract : Ann := .leaf
def S_laws_szContract : FSpec := ⟨[.val Kd10, .val (.int .i64)], [(.int .i64)], m_laws_szContract⟩

/-! laws.szContractS -/
def l_laws_szContractS_1 (n : Nat) (x_1 : (List (Int × (List (Int × (Int × (Int × Int))))))) (z0 : (Int × Int)) : Option Int :=
(lp (fun rec5 (z4 : (Int × Int)) =>
 (cond (decide (z4.2 < (lenI x_1)))
  ((geti x_1 z4.2).bind fun y6 =>
  ((m_laws_szContract (y6, z4.1)).bind fun r7 =>
  (cond (decide (r7 < (0 : Int)))
   (some (-1 : Int))
   (rec5 (r7, IntKind.wrap .i64 (z4.2 + (1 : Int)))))))
  (some z4.1))) n z0)
def p_laws_szContractS (n : Nat) (x : ((List (Int × (List (Int × (Int × (Int × Int)))))) × Int)) : Option Int :=
(cond (decide ((IntKind.wrap .i64 (x.2 - (lenI x.1))) < (0 : Int)))
 (some (-1 : Int))
 (l_laws_szContractS_1 n x.1 (IntKind.wrap .i64 (x.2 - (lenI x.1)), (0 : Int))))
def m_laws_szContractS (x : ((List (Int × (List (Int × (Int × (Int × Int)))))) × Int)) : Option Int := p_laws_szContractS FU x
def a_laws_szContractS : Ann := (.node .leaf (.node .leaf (.node .leaf (.node (.node .leaf (.loop [.slot 1 (.int .i64), .slot 5 (.int .i64)] [4, 12, 13, 14, 15, 16, 17, 18, 19, 20, 21, 22, 23, 24, 25] .leaf)) .leaf))))
def S_laws_szContractS : FSpec := ⟨[.val Kd8, .val (.int .i64)], [(.int .i64)], m_laws_szContractS⟩

/-! laws.szInt64S -/
def p_laws_szInt64S (n : Nat) (x : ((List Int) × Int)) : Option Int :=
(cond (decide ((IntKind.wrap .i64 (x.2 - (lenI x.1))) < (0 : Int)))
 (some (-1 : Int))
 (some (IntKind.wrap .i64 (x.2 - (lenI x.1)))))
def m_laws_szInt64S (x : ((List Int) × Int)) : Option Int := p_laws_szInt64S FU x
def a_laws_szInt64S : Ann := .leaf
def S_laws_szInt64S : FSpec := ⟨[.val Kd21, .val (.int .i64)], [(.int .i64)], m_laws_szInt64S⟩

/-! laws.szShard -/
def p_laws_szShard (n : Nat) (x : ((Int × ((List (Int × (Int × Int))) × ((List (Int × Int)) × ((List (Int × (List (Int × (Int × (Int × Int)))))) × ((List (Int × Int)) × (List Int)))))) × Int)) : Option Int :=
((m_laws_szBalanceS (x.1.2.1, x.2)).bind fun r1 =>
(cond (decide (r1 < (0 : Int)))
 (some (-1 : Int))
 ((m_laws_szMarkS (x.1.2.2.1, r1)).bind fun r2 =>
 (cond (decide (r2 < (0 : Int)))
  (some (-1 : Int))
  ((m_laws_szContractS (x.1.2.2.2.1, r2)).bind fun r3 =>
  (cond (decide (r3 < (0 : Int)))
   (some (-1 : Int))
   ((m_laws_szMarkS (x.1.2.2.2.2.1, r3)).bind fun r4 =>
   (cond (decide (r4 < (0 : Int)))
    (some (-1 : Int))
    ((m_laws_szInt64S (x.1.2.2.2.2.2, r4)).bind fun r5 =>
    (cond (decide (r5 < (0 : Int)))
     (some (-1 : Int))
     (some r5)))))))))))
def m_laws_szShard (x : ((Int × ((List (Int × (Int × Int))) × ((List (Int × Int)) × ((List (Int × (List (Int × (Int × (Int × Int)))))) × ((List (Int × Int)) × (List Int)))))) × Int)) : Option Int := p_laws_szShard FU x
def a_laws_szShard : Ann := .leaf
def S_laws_szShard : FSpec := ⟨[.val Kd6, .val (.int .i64)], [(.int .i64)], m_laws_szShard⟩

/-! laws.toBalance -/
def p_laws_toBalance (n : Nat) (x : (Int × (Int × Int))) : Option (Int × (Int × Int)) :=
some x
def m_laws_toBalance (x : (Int × (Int × Int))) : Option (Int × (Int × Int)) := p_laws_toBalance FU x
def a_laws_toBalance : Ann := .leaf
def S_laws_toBalance : FSpec := ⟨[.val Kd16], [Kd16], m_laws_toBalance⟩

/-! laws.toBalanceS -/
def l_laws_toBalanceS_1 (n : Nat) (x : (List (Int × (Int × Int)))) (z0 : (Int × (List (Int × (Int × Int))))) : Option (List (Int × (Int × Int))) :=
(lp (fun rec10 (z9 : (Int × (List (Int × (Int × Int))))) =>
 (cond (decide (z9.1 < (lenI x)))
  ((geti x z9.1).bind fun y11 =>
  ((m_laws_toBalance y11).bind fun r12 =>
  ((geti z9.2 z9.1).bind fun _ =>
  ((z9.2[z9.1.toNat]?).bind fun y13 =>
  rec10 (IntKind.wrap .i64 (z9.1 + (1 : Int)), (z9.2.set z9.1.toNat r12))))))
  (some z9.2))) n z0)
def p_laws_toBalanceS (n : Nat) (x : (List (Int × (Int × Int)))) : Option (List (Int × (Int × Int))) :=
(if (lenI x) = (lenI x) then (if 0 ≤ (lenI x) then chk (Nat.ble (24 * (lenI x).toNat) maxBytes)
(l_laws_toBalanceS_1 n x ((0 : Int), (List.replicate (lenI x).toNat ((0 : Int), ((0 : Int), (0 : Int)))))) else none) else none)
def m_laws_toBalanceS (x : (List (Int × (Int × Int)))) : Option (List (Int × (Int × Int))) := p_laws_toBalanceS FU x
def a_laws_toBalanceS : Ann := (.node .leaf (.node .leaf (.node (.node .leaf (.loop [.slot 4 (.int .i64), .row 0 263 Kd16] [8, 9, 10, 11, 12, 13, 14, 15, 16, 17, 18, 19, 20, 21] .leaf)) .leaf)))
def S_laws_toBalanceS : FSpec := ⟨[.val Kd15], [Kd14], m_laws_toBalanceS⟩

/-! laws.toMark -/
def p_laws_toMark (n : Nat) (x : (Int × Int)) : Option (Int × Int) :=
some x
def m_laws_toMark (x : (Int × Int)) : Option (Int × Int) := p_laws_toMark FU x
def a_laws_toMark : Ann := .leaf
def S_laws_toMark : FSpec := ⟨[.val Kd19], [Kd19], m_laws_toMark⟩

/-! laws.toMarkS -/
def l_laws_toMarkS_1 (n : Nat) (x : (List (Int × Int))) (z0 : (Int × (List (Int × Int)))) : Option (List (Int × Int)) :=
(lp (fun rec10 (z9 : (Int × (List (Int × Int)))) =>
 (cond (decide (z9.1 < (lenI x)))
  ((geti x z9.1).bind fun y11 =>
  ((m_laws_toMark y11).bind fun r12 =>
  ((geti z9.2 z9.1).bind fun _ =>
  ((z9.2[z9.1.toNat]?).bind fun y13 =>
  rec10 (IntKind.wrap .i64 (z9.1 + (1 : Int)), (z9.2.set z9.1.toNat r12))))))
  (some z9.2))) n z0)
def p_laws_toMarkS (n : Nat) (x : (List (Int × Int))) : Option (List (Int × Int)) :=
(if (lenI x) = (lenI x) then (if 0 ≤ (lenI x) then chk (Nat.ble (16 * (lenI x).toNat) maxBytes)
(l_laws_toMarkS_1 n x ((0 : Int), (List.replicate (lenI x).toNat ((0 : Int), (0 : Int))))) else none) else none)
def m_laws_toMarkS (x : (List (Int × Int))) : Option (List (Int × Int)) := p_laws_toMarkS FU x
def a_laws_toMarkS : Ann := (.node .leaf (.node .leaf (.node (.node .leaf (.loop [.slot 4 (.int .i64), .row 0 185 Kd19] [8, 9, 10, 11, 12, 13, 14, 15, 16, 17, 18, 19, 20, 21] .leaf)) .leaf)))
def S_laws_toMarkS : FSpec := ⟨[.val Kd18], [Kd17], m_laws_toMarkS⟩

/-! laws.toLeg -/
def p_laws_toLeg (n : Nat) (x : (Int × (Int × (Int × Int)))) : Option (Int × (Int × (Int × Int))) :=
some x
def m_laws_toLeg (x : (Int × (Int × (Int × Int)))) : Option (Int × (Int × (Int × Int))) := p_laws_toLeg FU x
def a_laws_toLeg : Ann := .leaf
def S_laws_toLeg : FSpec := ⟨[.val Kd13], [Kd13], m_laws_toLeg⟩

/-! laws.toLegS -/
def l_laws_toLegS_1 (n : Nat) (x : (List (Int × (Int × (Int × Int))))) (z0 : (Int × (List (Int × (Int × (Int × Int)))))) : Option (List (Int × (Int × (Int × Int)))) :=
(lp (fun rec10 (z9 : (Int × (List (Int × (Int × (Int × Int)))))) =>
 (cond (decide (z9.1 < (lenI x)))
  ((geti x z9.1).bind fun y11 =>
  ((m_laws_toLeg y11).bind fun r12 =>
  ((geti z9.2 z9.1).bind fun _ =>
  ((z9.2[z9.1.toNat]?).bind fun y13 =>
  rec10 (IntKind.wrap .i64 (z9.1 + (1 : Int)), (z9.2.set z9.1.toNat r12))))))
  (some z9.2))) n z0)
def p_laws_toLegS (n : Nat) (x : (List (Int × (Int × (Int × Int))))) : Option (List (Int × (Int × (Int × Int)))) :=
(if (lenI x) = (lenI x) then (if 0 ≤ (lenI x) then chk (Nat.ble (32 * (lenI x).toNat) maxBytes)
(l_laws_toLegS_1 n x ((0 : Int), (List.replicate (lenI x).toNat ((0 : Int), ((0 : Int), ((0 : Int), (0 : Int))))))) else none) else none)
def m_laws_toLegS (x : (List (Int × (Int × (Int × Int))))) : Option (List (Int × (Int × (Int × Int)))) := p_laws_toLegS FU x
def a_laws_toLegS : Ann := (.node .leaf (.node .leaf (.node (.node .leaf (.loop [.slot 4 (.int .i64), .row 0 194 Kd13] [8, 9, 10, 11, 12, 13, 14, 15, 16, 17, 18, 19, 20, 21] .leaf)) .leaf)))
def S_laws_toLegS : FSpec := ⟨[.val Kd12], [Kd11], m_laws_toLegS⟩

/-! laws.toContract -/
def p_laws_toContract (n : Nat) (x : (Int × (List (Int × (Int × (Int × Int)))))) : Option (Int × (List (Int × (Int × (Int × Int))))) :=
((m_laws_toLegS x.2).bind fun r1 =>
some (x.1, r1))
def m_laws_toContract (x : (Int × (List (Int × (Int × (Int × Int)))))) : Option (Int × (List (Int × (Int × (Int × Int))))) := p_laws_toContract FU x
def a_laws_toContract : Ann := .leaf
def S_laws_toContract : FSpec := ⟨[.val Kd10], [Kd9], m_laws_toContract⟩

/-! laws.toContractS -/
def l_laws_toContractS_1 (n : Nat) (x : (List (Int × (List (Int × (Int × (Int × Int))))))) (z0 : (Int × (List (Int × (List (Int × (Int × (Int × Int)))))))) : Option (List (Int × (List (Int × (Int × (Int × Int)))))) :=
(lp (fun rec8 (z7 : (Int × (List (Int × (List (Int × (Int × (Int × Int)))))))) =>
 (cond (decide (z7.1 < (lenI x)))
  ((geti x z7.1).bind fun y9 =>
  ((m_laws_toContract y9).bind fun r10 =>
  ((geti z7.2 z7.1).bind fun _ =>
  ((z7.2[z7.1.toNat]?).bind fun _ =>
  rec8 (IntKind.wrap .i64 (z7.1 + (1 : Int)), (z7.2.set z7.1.toNat r10))))))
  (some z7.2))) n z0)
def p_laws_toContractS (n : Nat) (x : (List (Int × (List (Int × (Int × (Int × Int))))))) : Option (List (Int × (List (Int × (Int × (Int × Int)))))) :=
(if (lenI x) = (lenI x) then (if 0 ≤ (lenI x) then chk (Nat.ble (32 * (lenI x).toNat) maxBytes)
(l_laws_toContractS_1 n x ((0 : Int), (List.replicate (lenI x).toNat ((0 : Int), [])))) else none) else none)
def m_laws_toContractS (x : (List (Int × (List (Int × (Int × (Int × Int))))))) : Option (List (Int × (List (Int × (Int × (Int × Int)))))) := p_laws_toContractS FU x
def a_laws_toContractS : Ann := (.node .leaf (.node (.own 7 Kd9 .leaf) (.node (.node .leaf (.loop [.slot 4 (.int .i64), .row 0 47 Kd9] [8, 9, 10, 11, 12, 13, 14, 15, 16, 17, 18, 19, 20, 21] .leaf)) .leaf)))
def S_laws_toContractS : FSpec := ⟨[.val Kd8], [Kd7], m_laws_toContractS⟩

/-! laws.toInt64S -/
def l_laws_toInt64S_1 (n : Nat) (x : (List Int)) (z0 : (Int × (List Int))) : Option (List Int) :=
(lp (fun rec8 (z7 : (Int × (List Int))) =>
 (cond (decide (z7.1 < (lenI x)))
  ((geti x z7.1).bind fun y9 =>
  ((geti z7.2 z7.1).bind fun _ =>
  ((z7.2[z7.1.toNat]?).bind fun y10 =>
  rec8 (IntKind.wrap .i64 (z7.1 + (1 : Int)), (z7.2.set z7.1.toNat y9)))))
  (some z7.2))) n z0)
def p_laws_toInt64S (n : Nat) (x : (List Int)) : Option (List Int) :=
(if (lenI x) = (lenI x) then (if 0 ≤ (lenI x) then chk (Nat.ble (8 * (lenI x).toNat) maxBytes)
(l_laws_toInt64S_1 n x ((0 : Int), (List.replicate (lenI x).toNat (0 : Int)))) else none) else none)
def m_laws_toInt64S (x : (List Int)) : Option (List Int) := p_laws_toInt64S FU x
def a_laws_toInt64S : Ann := (.node .leaf (.node .leaf (.node (.node .leaf (.loop [.slot 4 (.int .i64), .row 0 2 (.int .i64)] [8, 9, 10, 11, 12, 13, 14, 15, 16, 17, 18, 19, 20] .leaf)) .leaf)))
def S_laws_toInt64S : FSpec := ⟨[.val Kd21], [Kd20], m_laws_toInt64S⟩

/-! laws.toShard -/
def p_laws_toShard (n : Nat) (x : (Int × ((List (Int × (Int × Int))) × ((List (Int × Int)) × ((List (Int × (List (Int × (Int × (Int × Int)))))) × ((List (Int × Int)) × (List Int))))))) : Option (Int × ((List (Int × (Int × Int))) × ((List (Int × Int)) × ((List (Int × (List (Int × (Int × (Int × Int)))))) × ((List (Int × Int)) × (List Int)))))) :=
((m_laws_toBalanceS x.2.1).bind fun r1 =>
((m_laws_toMarkS x.2.2.1).bind fun r2 =>
((m_laws_toContractS x.2.2.2.1).bind fun r3 =>
((m_laws_toMarkS x.2.2.2.2.1).bind fun r4 =>
((m_laws_toInt64S x.2.2.2.2.2).bind fun r5 =>
some (x.1, (r1, (r2, (r3, (r4, r5))))))))))
def m_laws_toShard (x : (Int × ((List (Int × (Int × Int))) × ((List (Int × Int)) × ((List (Int × (List (Int × (Int × (Int × Int)))))) × ((List (Int × Int)) × (List Int))))))) : Option (Int × ((List (Int × (Int × Int))) × ((List (Int × Int)) × ((List (Int × (List (Int × (Int × (Int × Int)))))) × ((List (Int × Int)) × (List Int)))))) := p_laws_toShard FU x
def a_laws_toShard : Ann := .leaf
def S_laws_toShard : FSpec := ⟨[.val Kd6], [Kd4], m_laws_toShard⟩

/-! spec.l1In -/
def p_spec_l1In (n : Nat) (x : (Int × (Int × Int))) : Option Bool :=
(cond (decide (x.1 ≥ x.2.1))
 (some (decide (x.1 ≤ x.2.2)))
 (some false))
def m_spec_l1In (x : (Int × (Int × Int))) : Option Bool := p_spec_l1In FU x
def a_spec_l1In : Ann := .leaf
def S_spec_l1In : FSpec := ⟨[.val (.int .i64), .val (.int .i64), .val (.int .i64)], [.bool], m_spec_l1In⟩

/-! spec.l2Key -/
def p_spec_l2Key (n : Nat) (x : (Int × Int)) : Option Bool :=
((m_spec_l1In (x.1, (0 : Int), (5 : Int))).bind fun r1 =>
(cond r1
 ((m_spec_l1In (x.2, (0 : Int), (2 : Int))).bind fun r2 =>
 some r2)
 (some false)))
def m_spec_l2Key (x : (Int × Int)) : Option Bool := p_spec_l2Key FU x
def a_spec_l2Key : Ann := .leaf
def S_spec_l2Key : FSpec := ⟨[.val (.int .i64), .val (.int .i64)], [.bool], m_spec_l2Key⟩

/-! spec.BalancesFault -/
def l_spec_BalancesFault_1 (n : Nat) (x : (List (Int × (Int × Int)))) (z0 : Int) : Option Int :=
(lp (fun rec14 (z13 : Int) =>
 (cond (decide (z13 < (lenI x)))
  ((geti x z13).bind fun y15 =>
  (Option.bind (α := Bool)
   ((m_spec_l2Key (y15.1, y15.2.1)).bind fun r18 =>
   (cond (!r18)
    (some true)
    ((m_spec_l1In (y15.2.2, (1 : Int), (1000000000000 : Int))).bind fun r19 =>
    some (!r19)))) fun j20 =>
  (cond j20
   (some (3 : Int))
   (Option.bind (α := Bool)
    (cond (decide (z13 > (0 : Int)))
     ((geti x (IntKind.wrap .i64 (z13 - (1 : Int)))).bind fun y23 =>
     ((geti x (IntKind.wrap .i64 (z13 - (1 : Int)))).bind fun y24 =>
     some (decide ((IntKind.wrap .i64 ((IntKind.wrap .i64 (y15.1 * (3 : Int))) + y15.2.1)) ≤ (IntKind.wrap .i64 ((IntKind.wrap .i64 (y23.1 * (3 : Int))) + y24.2.1))))))
     (some false)) fun j25 =>
   (cond j25
    (some (1 : Int))
    (rec14 (IntKind.wrap .i64 (z13 + (1 : Int)))))))))
  (some (0 : Int)))) n z0)
def p_spec_BalancesFault (n : Nat) (x : (List (Int × (Int × Int)))) : Option Int :=
(cond (decide ((lenI x) > (18 : Int)))
 (some (2 : Int))
 (l_spec_BalancesFault_1 n x (0 : Int)))
def m_spec_BalancesFault (x : (List (Int × (Int × Int)))) : Option Int := p_spec_BalancesFault FU x
def a_spec_BalancesFault : Ann := (.node .leaf (.node .leaf (.node (.node .leaf (.loop [.slot 3 (.int .i64)] [2, 4, 8, 9, 10, 11, 12, 13, 14, 15, 16, 17, 18, 19, 20, 21, 22, 23, 24, 25, 26, 27, 28, 29, 30, 31, 32, 33, 34, 35, 36, 37, 38, 39, 40, 41, 42, 43, 44, 45, 46, 47, 48, 49, 50, 51, 52, 53, 54] (.node .leaf (.node (.node .leaf (.node (.join [.slot 29 .bool] [18, 19, 20, 21, 22, 23, 24, 25, 26, 27, 28] .leaf .leaf) (.join [.slot 54 .bool] [30, 31, 32, 33, 34, 35, 36, 37, 38, 39, 40, 41, 42, 43, 44, 45, 46, 47, 48, 49, 50, 51, 52, 53] .leaf .leaf))) .leaf)))) .leaf)))
def S_spec_BalancesFault : FSpec := ⟨[.val Kd15], [(.int .i64)], m_spec_BalancesFault⟩

/-! spec.l10Base -/
def p_spec_l10Base (n : Nat) (x : (Int × (List (Int × (Int × Int))))) : Option Int :=
((m_spec_l1In (x.1, (0 : Int), (2 : Int))).bind fun r1 =>
(cond (!r1)
 (some (3 : Int))
 ((m_spec_BalancesFault x.2).bind fun r2 =>
 some r2)))
def m_spec_l10Base (x : (Int × (List (Int × (Int × Int))))) : Option Int := p_spec_l10Base FU x
def a_spec_l10Base : Ann := .leaf
def S_spec_l10Base : FSpec := ⟨[.val (.int .i64), .val Kd15], [(.int .i64)], m_spec_l10Base⟩

/-! spec.l1Id -/
def p_spec_l1Id (n : Nat) (x : Int) : Option Bool :=
((m_spec_l1In (x, (1 : Int), (1000000000 : Int))).bind fun r1 =>
some r1)
def m_spec_l1Id (x : Int) : Option Bool := p_spec_l1Id FU x
def a_spec_l1Id : Ann := .leaf
def S_spec_l1Id : FSpec := ⟨[.val (.int .i64)], [.bool], m_spec_l1Id⟩

/-! spec.l10Marks -/
def l_spec_l10Marks_1 (n : Nat) (x : (List (Int × Int))) (z0 : Int) : Option Int :=
(lp (fun rec17 (z16 : Int) =>
 (cond (decide (z16 < (lenI x)))
  (Option.bind (α := Bool)
   ((geti x z16).bind fun y22 =>
   ((m_spec_l1Id y22.1).bind fun r23 =>
   (cond (!r23)
    (some true)
    ((geti x z16).bind fun y24 =>
    ((m_spec_l1In (y24.2, (1 : Int), (2 : Int))).bind fun r25 =>
    some (!r25)))))) fun j26 =>
  (cond j26
   (some (3 : Int))
   (Option.bind (α := Bool)
    (cond (decide (z16 > (0 : Int)))
     ((geti x z16).bind fun y29 =>
     ((geti x (IntKind.wrap .i64 (z16 - (1 : Int)))).bind fun y30 =>
     some (decide (y29.1 ≤ y30.1))))
     (some false)) fun j31 =>
   (cond j31
    (some (1 : Int))
    (rec17 (IntKind.wrap .i64 (z16 + (1 : Int))))))))
  (some (0 : Int)))) n z0)
def p_spec_l10Marks (n : Nat) (x : (List (Int × Int))) : Option Int :=
(l_spec_l10Marks_1 n x (0 : Int))
def m_spec_l10Marks (x : (List (Int × Int))) : Option Int := p_spec_l10Marks FU x
def a_spec_l10Marks : Ann := (.node .leaf (.node (.node .leaf (.loop [.slot 3 (.int .i64)] [2, 4, 5, 6, 7, 8, 9, 10, 11, 12, 13, 14, 15, 16, 17, 18, 19, 20, 21, 22, 23, 24, 25, 26, 27, 28, 29, 30, 31, 32, 33, 34, 35, 36, 37, 38, 39, 40, 41] (.node .leaf (.node (.node (.join [.slot 25 .bool] [10, 11, 12, 13, 14, 15, 16, 17, 18, 19, 20, 21, 22, 23, 24] .leaf .leaf) (.join [.slot 41 .bool] [26, 27, 28, 29, 30, 31, 32, 33, 34, 35, 36, 37, 38, 39, 40] .leaf .leaf)) .leaf)))) .leaf))
def S_spec_l10Marks : FSpec := ⟨[.val Kd18], [(.int .i64)], m_spec_l10Marks⟩

/-! spec.LegFault -/
def p_spec_LegFault (n : Nat) (x : (Int × (Int × (Int × Int)))) : Option Int :=
(Option.bind (α := Bool)
 ((m_spec_l1In (x.1, (0 : Int), (2 : Int))).bind fun r5 =>
 (cond (!r5)
  (some true)
  ((m_spec_l1In (x.2.1, (0 : Int), (5 : Int))).bind fun r6 =>
  (cond (!r6)
   (some true)
   ((m_spec_l1In (x.2.2.1, (0 : Int), (2 : Int))).bind fun r7 =>
   (cond (!r7)
    (some true)
    ((m_spec_l1In (x.2.2.2, (-1000000000000 : Int), (1000000000000 : Int))).bind fun r8 =>
    some (!r8)))))))) fun j9 =>
(cond j9
 (some (3 : Int))
 (cond (x.2.2.2 == (0 : Int))
  (some (1 : Int))
  (some (0 : Int)))))
def m_spec_LegFault (x : (Int × (Int × (Int × Int)))) : Option Int := p_spec_LegFault FU x
def a_spec_LegFault : Ann := (.node .leaf (.node (.join [.slot 24 .bool] [3, 4, 5, 6, 7, 8, 9, 10, 11, 12, 13, 14, 15, 16, 17, 18, 19, 20, 21, 22, 23] .leaf .leaf) .leaf))
def S_spec_LegFault : FSpec := ⟨[.val Kd13], [(.int .i64)], m_spec_LegFault⟩

/-! spec.ContractFault -/
def l_spec_ContractFault_1 (n : Nat) (z225_1 : Int) (x_2 : (List (Int × (Int × (Int × Int))))) (y248_1 : Int) (y248_2_1 : Int) (y248_2_2_1 : Int) (z0 : Int) : Option (Unit ⊕ ((List Int) ⊕ ((List Int) ⊕ Int))) :=
(lp (fun rec262 (z261 : Int) =>
 (cond (decide (z261 < z225_1))
  ((geti x_2 z261).bind fun y263 =>
  (Option.bind (α := Bool)
   (cond (y263.1 == y248_1)
    (cond (y263.2.1 == y248_2_1)
     (some (y263.2.2.1 == y248_2_2_1))
     (some false))
    (some false)) fun j264 =>
  (cond j264
   (some (Sum.inr (Sum.inr (Sum.inr (7 : Int)))))
   (rec262 (IntKind.wrap .i64 (z261 + (1 : Int)))))))
  (some (Sum.inl ())))) n z0)
def l_spec_ContractFault_2 (n : Nat) (x_2 : (List (Int × (Int × (Int × Int))))) (z0 : (Int × (List Int))) : Option ((List Int) ⊕ Int) :=
(lp (fun rec226 (z225 : (Int × (List Int))) =>
 (cond (decide (z225.1 < (lenI x_2)))
  (Option.bind (α := ((List Int) ⊕ ((List Int) ⊕ Int)))
   ((geti x_2 z225.1).bind fun y248 =>
   ((m_spec_LegFault y248).bind fun r249 =>
   (cond (!(r249 == (0 : Int)))
    (some (Sum.inr (Sum.inr r249)))
    (Option.bind (α := (Unit ⊕ ((List Int) ⊕ ((List Int) ⊕ Int))))
     (l_spec_ContractFault_1 n z225.1 x_2 y248.1 y248.2.1 y248.2.2.1 (0 : Int))
     (Sum.elim (fun j266 =>
    ((geti z225.2 y248.2.2.1).bind fun _ =>
    ((z225.2[y248.2.2.1.toNat]?).bind fun y267 =>
    ((geti z225.2 y248.2.2.1).bind fun _ =>
    ((z225.2[y248.2.2.1.toNat]?).bind fun y268 =>
    some (Sum.inl (z225.2.set y248.2.2.1.toNat (IntKind.wrap .i64 (y267 + y248.2.2.2))))))))) some)))))
   (Sum.elim (fun j269 =>
  rec226 (IntKind.wrap .i64 (z225.1 + (1 : Int)), j269)) some))
  (some (Sum.inl z225.2)))) n z0)
def l_spec_ContractFault_3 (n : Nat) (j271 : (List Int)) (z0 : Int) : Option Int :=
(lp (fun rec275 (z274 : Int) =>
 (cond (decide (z274 < (lenI j271)))
  ((geti j271 z274).bind fun _ =>
  ((j271[z274.toNat]?).bind fun y276 =>
  (cond (!(y276 == (0 : Int)))
   (some (1 : Int))
   (rec275 (IntKind.wrap .i64 (z274 + (1 : Int)))))))
  (some (0 : Int)))) n z0)
def p_spec_ContractFault (n : Nat) (x : (Int × (List (Int × (Int × (Int × Int)))))) : Option Int :=
((m_spec_l1Id x.1).bind fun r1 =>
(cond (!r1)
 (some (3 : Int))
 (Option.bind (α := Bool)
  (cond (decide ((lenI x.2) < (2 : Int)))
   (some true)
   (some (decide ((lenI x.2) > (8 : Int))))) fun j2 =>
 (cond j2
  (some (2 : Int))
  (if (3 : Int) = (3 : Int) then (if 0 ≤ (3 : Int) then chk (Nat.ble (8 * (3 : Int).toNat) maxBytes)
  (Option.bind (α := ((List Int) ⊕ Int))
   (l_spec_ContractFault_2 n x.2 ((0 : Int), (List.replicate (3 : Int).toNat (0 : Int))))
   (Sum.elim (fun j271 =>
  (l_spec_ContractFault_3 n j271 (0 : Int))) some)) else none) else none)))))
def m_spec_ContractFault (x : (Int × (List (Int × (Int × (Int × Int)))))) : Option Int := p_spec_ContractFault FU x
def a_spec_ContractFault : Ann := (.node .leaf (.node .leaf (.node (.join [.slot 23 .bool] [14, 15, 16, 17, 18, 19, 20, 21, 22] .leaf .leaf) (.node .leaf (.joinx [.row 1 2 (.int .i64)] [2, 4, 5, 6, 7, 8, 25, 26, 27, 28, 29, 30, 31, 32, 33, 34, 35, 36, 37, 38, 39, 40, 41, 42, 43, 44, 45, 46, 47, 48, 49, 50, 51, 52, 53, 54, 55, 56, 57, 58, 59, 60, 61, 62, 63, 64, 65, 66, 67, 68, 69, 70, 71, 72, 73, 74, 75, 76, 77, 78, 79, 80, 81, 82] (.node .leaf (.loop [.slot 4 (.int .i64), .row 1 2 (.int .i64)] [2, 5, 6, 7, 8, 25, 26, 27, 28, 29, 30, 31, 32, 33, 34, 35, 36, 37, 38, 39, 40, 41, 42, 43, 44, 45, 46, 47, 48, 49, 50, 51, 52, 53, 54, 55, 56, 57, 58, 59, 60, 61, 62, 63, 64, 65, 66, 67, 68, 69, 70, 71, 72, 73, 74, 75, 76, 77, 78, 79, 80, 81, 82] (.node .leaf (.joinx [.row 1 2 (.int .i64)] [2, 5, 6, 7, 8, 32, 33, 34, 35, 36, 37, 38, 39, 40, 42, 43, 44, 45, 46, 47, 48, 49, 50, 51, 52, 53, 54, 55, 56, 57, 58, 59, 60, 61, 62, 63, 64, 65, 66, 67, 68, 69, 70, 71, 72, 73, 74, 75, 76, 77, 78, 79, 80, 81, 82] (.node .leaf (.node .leaf (.joinx [] [2, 7, 8, 42, 43, 44, 45, 46, 47, 48, 49, 50, 51, 52, 53, 54, 55, 56, 57, 58, 59, 60, 61, 62, 63, 64, 65, 66, 67, 68, 69, 70] (.node .leaf (.loop [.slot 7 (.int .i64)] [2, 8, 42, 43, 44, 45, 46, 47, 48, 49, 50, 51, 52, 53, 54, 55, 56, 57, 58, 59, 60, 61, 62, 63, 64, 65, 66, 67, 68, 69, 70] (.node .leaf (.node (.node .leaf (.join [.slot 70 .bool] [52, 53, 54, 55, 56, 57, 58, 59, 60, 61, 62, 63, 64, 65, 66, 67, 68, 69] .leaf .leaf)) .leaf)))) .leaf))) .leaf)))) (.node (.node .leaf (.loop [.slot 9 (.int .i64)] [2, 83, 84, 85, 86, 87, 88, 89, 90, 91, 92, 93] .leaf)) .leaf))))))
def S_spec_ContractFault : FSpec := ⟨[.val Kd10], [(.int .i64)], m_spec_ContractFault⟩

/-! spec.l1Legs -/
def l_spec_l1Legs_1 (n : Nat) (x_2 : Int) (x_1_2 : (List (Int × (Int × (Int × Int))))) (z0 : ((List (Int × (Int × (Int × Int)))) × Int)) : Option (List (Int × (Int × (Int × Int)))) :=
(lp (fun rec5 (z4 : ((List (Int × (Int × (Int × Int)))) × Int)) =>
 (cond (decide (z4.2 < (lenI x_1_2)))
  ((geti x_1_2 z4.2).bind fun y6 =>
  (cond (y6.1 == x_2)
   ((geti x_1_2 z4.2).bind fun y7 =>
   (chk (Nat.ble ((z4.1.length + [y7].length) * 32) maxBytes)
   (rec5 ((z4.1 ++ [y7]), IntKind.wrap .i64 (z4.2 + (1 : Int))))))
   (rec5 (z4.1, IntKind.wrap .i64 (z4.2 + (1 : Int))))))
  (some z4.1))) n z0)
def p_spec_l1Legs (n : Nat) (x : ((Int × (List (Int × (Int × (Int × Int))))) × Int)) : Option (List (Int × (Int × (Int × Int)))) :=
(l_spec_l1Legs_1 n x.2 x.1.2 (([] : List (Int × (Int × (Int × Int)))), (0 : Int)))
def m_spec_l1Legs (x : ((Int × (List (Int × (Int × (Int × Int))))) × Int)) : Option (List (Int × (Int × (Int × Int)))) := p_spec_l1Legs FU x
def a_spec_l1Legs : Ann := (.node .leaf (.node .leaf (.node (.node .leaf (.loop [.slot 5 Kd11, .slot 6 (.int .i64)] [8, 9, 10, 11, 12, 13, 14, 15, 16, 17, 18, 19, 20, 21, 22, 23, 24, 25, 26, 27, 28, 29, 30] .leaf)) .leaf)))
def S_spec_l1Legs : FSpec := ⟨[.val Kd10, .val (.int .i64)], [Kd11], m_spec_l1Legs⟩

/-! spec.l10Find -/
def l_spec_l10Find_1 (n : Nat) (x_1 : (List (Int × Int))) (x_2 : Int) (z0 : Int) : Option Int :=
(lp (fun rec5 (z4 : Int) =>
 (cond (decide (z4 < (lenI x_1)))
  ((geti x_1 z4).bind fun y6 =>
  (cond (y6.1 == x_2)
   ((geti x_1 z4).bind fun y7 =>
   some y7.2)
   (rec5 (IntKind.wrap .i64 (z4 + (1 : Int))))))
  (some (0 : Int)))) n z0)
def p_spec_l10Find (n : Nat) (x : ((List (Int × Int)) × Int)) : Option Int :=
(l_spec_l10Find_1 n x.1 x.2 (0 : Int))
def m_spec_l10Find (x : ((List (Int × Int)) × Int)) : Option Int := p_spec_l10Find FU x
def a_spec_l10Find : Ann := (.node .leaf (.node (.node .leaf (.loop [.slot 5 (.int .i64)] [4, 6, 7, 8, 9, 10, 11, 12, 13, 14, 15, 16, 17, 18, 19, 20, 21, 22, 23] .leaf)) .leaf))
def S_spec_l10Find : FSpec := ⟨[.val Kd18, .val (.int .i64)], [(.int .i64)], m_spec_l10Find⟩

/-! spec.l10IsHeld -/
def l_spec_l10IsHeld_1 (n : Nat) (x_2 : Int) (x_1_2_2_2_1 : (List (Int × (List (Int × (Int × (Int × Int))))))) (z0 : Int) : Option Bool :=
(lp (fun rec4 (z3 : Int) =>
 (cond (decide (z3 < (lenI x_1_2_2_2_1)))
  ((geti x_1_2_2_2_1 z3).bind fun y5 =>
  (cond (y5.1 == x_2)
   (some true)
   (rec4 (IntKind.wrap .i64 (z3 + (1 : Int))))))
  (some false))) n z0)
def p_spec_l10IsHeld (n : Nat) (x : ((Int × ((List (Int × (Int × Int))) × ((List (Int × Int)) × ((List (Int × (List (Int × (Int × (Int × Int)))))) × ((List (Int × Int)) × (List Int)))))) × Int)) : Option Bool :=
(l_spec_l10IsHeld_1 n x.2 x.1.2.2.2.1 (0 : Int))
def m_spec_l10IsHeld (x : ((Int × ((List (Int × (Int × Int))) × ((List (Int × Int)) × ((List (Int × (List (Int × (Int × (Int × Int)))))) × ((List (Int × Int)) × (List Int)))))) × Int)) : Option Bool := p_spec_l10IsHeld FU x
def a_spec_l10IsHeld : Ann := (.node .leaf (.node (.node .leaf (.loop [.slot 5 (.int .i64)] [4, 6, 7, 8, 9, 10, 11, 12, 13, 14, 15, 16, 17, 18, 19, 20] .leaf)) .leaf))
def S_spec_l10IsHeld : FSpec := ⟨[.val Kd6, .val (.int .i64)], [.bool], m_spec_l10IsHeld⟩

/-! spec.l1Has -/
def l_spec_l1Has_1 (n : Nat) (x_1 : (List Int)) (x_2 : Int) (z0 : Int) : Option Bool :=
(lp (fun rec4 (z3 : Int) =>
 (cond (decide (z3 < (lenI x_1)))
  ((geti x_1 z3).bind fun y5 =>
  (cond (y5 == x_2)
   (some true)
   (rec4 (IntKind.wrap .i64 (z3 + (1 : Int))))))
  (some false))) n z0)
def p_spec_l1Has (n : Nat) (x : ((List Int) × Int)) : Option Bool :=
(l_spec_l1Has_1 n x.1 x.2 (0 : Int))
def m_spec_l1Has (x : ((List Int) × Int)) : Option Bool := p_spec_l1Has FU x
def a_spec_l1Has : Ann := (.node .leaf (.node (.node .leaf (.loop [.slot 5 (.int .i64)] [4, 6, 7, 8, 9, 10, 11, 12, 13, 14, 15, 16, 17] .leaf)) .leaf))
def S_spec_l1Has : FSpec := ⟨[.val Kd21, .val (.int .i64)], [.bool], m_spec_l1Has⟩

/-! spec.l10Applied -/
def l_spec_l10Applied_1 (n : Nat) (x_2_2_2_2_1 : (List (Int × Int))) (z0 : (Int × Int)) : Option Int :=
(lp (fun rec10 (z9 : (Int × Int)) =>
 (cond (decide (z9.2 < (lenI x_2_2_2_2_1)))
  ((geti x_2_2_2_2_1 z9.2).bind fun y11 =>
  (cond (y11.2 == (1 : Int))
   (rec10 (IntKind.wrap .i64 (z9.1 + (1 : Int)), IntKind.wrap .i64 (z9.2 + (1 : Int))))
   (rec10 (z9.1, IntKind.wrap .i64 (z9.2 + (1 : Int))))))
  (some z9.1))) n z0)
def l_spec_l10Applied_2 (n : Nat) (x_2_2_2_2_1 : (List (Int × Int))) (x_2_2_2_2_2 : (List Int)) (z0 : Int) : Option (Unit ⊕ Bool) :=
(lp (fun rec47 (z46 : Int) =>
 (cond (decide (z46 < (lenI x_2_2_2_2_2)))
  (Option.bind (α := Bool)
   ((geti x_2_2_2_2_2 z46).bind fun y52 =>
   ((m_spec_l10Find (x_2_2_2_2_1, y52)).bind fun r53 =>
   (cond (!(r53 == (1 : Int)))
    (some true)
    (chk (bndB none (some z46) none x_2_2_2_2_2.length)
     ((geti x_2_2_2_2_2 z46).bind fun y54 =>
     ((m_spec_l1Has ((cutL none (some z46) x_2_2_2_2_2), y54)).bind fun r55 =>
     some r55)))))) fun j56 =>
  (cond j56
   (some (Sum.inr false))
   (rec47 (IntKind.wrap .i64 (z46 + (1 : Int))))))
  (some (Sum.inl ())))) n z0)
def p_spec_l10Applied (n : Nat) (x : (Int × ((List (Int × (Int × Int))) × ((List (Int × Int)) × ((List (Int × (List (Int × (Int × (Int × Int)))))) × ((List (Int × Int)) × (List Int))))))) : Option Bool :=
(Option.bind (α := Int)
 (l_spec_l10Applied_1 n x.2.2.2.2.1 ((0 : Int), (0 : Int))) fun j13 =>
(Option.bind (α := (Unit ⊕ Bool))
 (l_spec_l10Applied_2 n x.2.2.2.2.1 x.2.2.2.2.2 (0 : Int))
 (Sum.elim (fun j58 =>
some (j13 == (lenI x.2.2.2.2.2))) some)))
def m_spec_l10Applied (x : (Int × ((List (Int × (Int × Int))) × ((List (Int × Int)) × ((List (Int × (List (Int × (Int × (Int × Int)))))) × ((List (Int × Int)) × (List Int))))))) : Option Bool := p_spec_l10Applied FU x
def a_spec_l10Applied : Ann := (.node .leaf (.node .leaf (.join [.slot 3 (.int .i64)] [4, 6, 7, 8, 9, 10, 11, 12, 13, 14, 15, 16, 17, 18, 19, 20, 21] (.node .leaf (.loop [.slot 3 (.int .i64), .slot 4 (.int .i64)] [6, 7, 8, 9, 10, 11, 12, 13, 14, 15, 16, 17, 18, 19, 20, 21] .leaf)) (.joinx [] [2, 5, 22, 23, 24, 25, 26, 27, 28, 29, 30, 31, 32, 33, 34, 35, 36, 37, 38, 39, 40, 41, 42, 43, 44, 45, 46, 47, 48, 49] (.node .leaf (.loop [.slot 5 (.int .i64)] [2, 22, 23, 24, 25, 26, 27, 28, 29, 30, 31, 32, 33, 34, 35, 36, 37, 38, 39, 40, 41, 42, 43, 44, 45, 46, 47, 48, 49] (.node .leaf (.node (.join [.slot 49 .bool] [29, 30, 31, 32, 33, 34, 35, 36, 37, 38, 39, 40, 41, 42, 43, 44, 45, 46, 47, 48] .leaf .leaf) .leaf)))) .leaf))))
def S_spec_l10Applied : FSpec := ⟨[.val Kd6], [.bool], m_spec_l10Applied⟩

/-! spec.l10Touch -/
def l_spec_l10Touch_1 (n : Nat) (x_1 : (List (Int × (Int × (Int × Int))))) (x_2 : (List (Int × (Int × (Int × Int))))) (z47 : Int) (z0 : Int) : Option (Unit ⊕ Bool) :=
(lp (fun rec82 (z81 : Int) =>
 (cond (decide (z81 < (lenI x_2)))
  (Option.bind (α := Bool)
   ((geti x_1 z47).bind fun y87 =>
   ((geti x_2 z81).bind fun y88 =>
   (cond (y87.2.1 == y88.2.1)
    ((geti x_1 z47).bind fun y89 =>
    ((geti x_2 z81).bind fun y90 =>
    some (y89.2.2.1 == y90.2.2.1)))
    (some false)))) fun j91 =>
  (cond j91
   (some (Sum.inr true))
   (rec82 (IntKind.wrap .i64 (z81 + (1 : Int))))))
  (some (Sum.inl ())))) n z0)
def l_spec_l10Touch_2 (n : Nat) (x_1 : (List (Int × (Int × (Int × Int))))) (x_2 : (List (Int × (Int × (Int × Int))))) (z0 : Int) : Option Bool :=
(lp (fun rec48 (z47 : Int) =>
 (cond (decide (z47 < (lenI x_1)))
  (Option.bind (α := (Unit ⊕ Bool))
   (l_spec_l10Touch_1 n x_1 x_2 z47 (0 : Int))
   (Sum.elim (fun j93 =>
  rec48 (IntKind.wrap .i64 (z47 + (1 : Int)))) some))
  (some false))) n z0)
def p_spec_l10Touch (n : Nat) (x : ((List (Int × (Int × (Int × Int)))) × (List (Int × (Int × (Int × Int)))))) : Option Bool :=
(l_spec_l10Touch_2 n x.1 x.2 (0 : Int))
def m_spec_l10Touch (x : ((List (Int × (Int × (Int × Int)))) × (List (Int × (Int × (Int × Int)))))) : Option Bool := p_spec_l10Touch FU x
def a_spec_l10Touch : Ann := (.node .leaf (.node (.node .leaf (.loop [.slot 5 (.int .i64)] [4, 6, 7, 8, 9, 10, 11, 12, 13, 14, 15, 16, 17, 18, 19, 20, 21, 22, 23, 24, 25, 26, 27, 28, 29, 30, 31, 32, 33, 34, 35, 36, 37, 38, 39, 40, 41, 42] (.node .leaf (.joinx [] [4, 6, 13, 14, 15, 16, 17, 18, 19, 20, 21, 22, 23, 24, 25, 26, 27, 28, 29, 30, 31, 32, 33, 34, 35, 36, 37, 38, 39, 40, 41, 42] (.node .leaf (.loop [.slot 6 (.int .i64)] [4, 13, 14, 15, 16, 17, 18, 19, 20, 21, 22, 23, 24, 25, 26, 27, 28, 29, 30, 31, 32, 33, 34, 35, 36, 37, 38, 39, 40, 41, 42] (.node .leaf (.node (.join [.slot 42 .bool] [19, 20, 21, 22, 23, 24, 25, 26, 27, 28, 29, 30, 31, 32, 33, 34, 35, 36, 37, 38, 39, 40, 41] .leaf .leaf) .leaf)))) .leaf)))) .leaf))
def S_spec_l10Touch : FSpec := ⟨[.val Kd12, .val Kd12], [.bool], m_spec_l10Touch⟩

/-! spec.l2Has -/
def l_spec_l2Has_1 (n : Nat) (x_1 : (List (Int × (Int × Int)))) (x_2_1 : Int) (x_2_2 : Int) (z0 : Int) : Option Int :=
(lp (fun rec9 (z8 : Int) =>
 (cond (decide (z8 < (lenI x_1)))
  (Option.bind (α := Bool)
   ((geti x_1 z8).bind fun y12 =>
   (cond (y12.1 == x_2_1)
    ((geti x_1 z8).bind fun y13 =>
    some (y13.2.1 == x_2_2))
    (some false))) fun j14 =>
  (cond j14
   ((geti x_1 z8).bind fun y15 =>
   some y15.2.2)
   (rec9 (IntKind.wrap .i64 (z8 + (1 : Int))))))
  (some (0 : Int)))) n z0)
def p_spec_l2Has (n : Nat) (x : ((List (Int × (Int × Int))) × (Int × Int))) : Option Int :=
(l_spec_l2Has_1 n x.1 x.2.1 x.2.2 (0 : Int))
def m_spec_l2Has (x : ((List (Int × (Int × Int))) × (Int × Int))) : Option Int := p_spec_l2Has FU x
def a_spec_l2Has : Ann := (.node .leaf (.node (.node .leaf (.loop [.slot 7 (.int .i64)] [6, 8, 9, 10, 11, 12, 13, 14, 15, 16, 17, 18, 19, 20, 21, 22, 23, 24, 25, 26, 27, 28, 29, 30, 31, 32, 33, 34] (.node .leaf (.node (.join [.slot 29 .bool] [14, 15, 16, 17, 18, 19, 20, 21, 22, 23, 24, 25, 26, 27, 28] .leaf .leaf) .leaf)))) .leaf))
def S_spec_l2Has : FSpec := ⟨[.val Kd15, .val (.int .i64), .val (.int .i64)], [(.int .i64)], m_spec_l2Has⟩

/-! spec.l2Legs -/
def l_spec_l2Legs_1 (n : Nat) (x_1 : (List (Int × (Int × Int)))) (x_2 : (List (Int × (Int × (Int × Int))))) (z0 : Int) : Option Int :=
(lp (fun rec7 (z6 : Int) =>
 (cond (decide (z6 < (lenI x_2)))
  ((geti x_2 z6).bind fun y8 =>
  ((geti x_2 z6).bind fun y9 =>
  ((geti x_2 z6).bind fun y10 =>
  ((m_spec_l2Has (x_1, y8.2.1, y9.2.2.1)).bind fun r11 =>
  (cond (decide ((IntKind.wrap .i64 (r11 + y10.2.2.2)) < (0 : Int)))
   (some (6 : Int))
   (cond (decide ((IntKind.wrap .i64 (r11 + y10.2.2.2)) > (1000000000000 : Int)))
    (some (3 : Int))
    (rec7 (IntKind.wrap .i64 (z6 + (1 : Int))))))))))
  (some (0 : Int)))) n z0)
def p_spec_l2Legs (n : Nat) (x : ((List (Int × (Int × Int))) × (List (Int × (Int × (Int × Int)))))) : Option Int :=
(l_spec_l2Legs_1 n x.1 x.2 (0 : Int))
def m_spec_l2Legs (x : ((List (Int × (Int × Int))) × (List (Int × (Int × (Int × Int)))))) : Option Int := p_spec_l2Legs FU x
def a_spec_l2Legs : Ann := (.node .leaf (.node (.node .leaf (.loop [.slot 5 (.int .i64)] [4, 6, 7, 8, 9, 10, 11, 12, 13, 14, 15, 16, 17, 18, 19, 20, 21, 22, 23, 24, 25, 26, 27, 28, 29, 30, 31, 32, 33, 34] .leaf)) .leaf))
def S_spec_l2Legs : FSpec := ⟨[.val Kd15, .val Kd12], [(.int .i64)], m_spec_l2Legs⟩

/-! spec.l10Held -/
def l_spec_l10Held_1 (n : Nat) (x_1 : Int) (x_2_2_1 : (List (Int × Int))) (x_2_2_2_1 : (List (Int × (List (Int × (Int × (Int × Int))))))) (x_2_2_2_2_1 : (List (Int × Int))) (z0 : Int) : Option (Unit ⊕ Int) :=
(lp (fun rec58 (z57 : Int) =>
 (cond (decide (z57 < (lenI x_2_2_2_1)))
  ((geti x_2_2_2_1 z57).bind fun y59 =>
  ((m_spec_ContractFault y59).bind fun r60 =>
  (cond (!(r60 == (0 : Int)))
   (some (Sum.inr r60))
   (Option.bind (α := Bool)
    (cond (decide (z57 > (0 : Int)))
     ((geti x_2_2_2_1 (IntKind.wrap .i64 (z57 - (1 : Int)))).bind fun y68 =>
     (cond (decide (y59.1 ≤ y68.1))
      (some true)
      ((m_spec_l1Legs (y59, x_1)).bind fun r69 =>
      (cond ((lenI r69) == (0 : Int))
       (some true)
       ((m_spec_l10Find (x_2_2_1, y59.1)).bind fun r70 =>
       (cond (!(r70 == (1 : Int)))
        (some true)
        ((m_spec_l10Find (x_2_2_2_2_1, y59.1)).bind fun r71 =>
        some (!(r71 == (0 : Int))))))))))
     ((m_spec_l1Legs (y59, x_1)).bind fun r72 =>
     (cond ((lenI r72) == (0 : Int))
      (some true)
      ((m_spec_l10Find (x_2_2_1, y59.1)).bind fun r73 =>
      (cond (!(r73 == (1 : Int)))
       (some true)
       ((m_spec_l10Find (x_2_2_2_2_1, y59.1)).bind fun r74 =>
       some (!(r74 == (0 : Int))))))))) fun j75 =>
   (cond j75
    (some (Sum.inr (1 : Int)))
    (rec58 (IntKind.wrap .i64 (z57 + (1 : Int)))))))))
  (some (Sum.inl ())))) n z0)
def l_spec_l10Held_2 (n : Nat) (x : (Int × ((List (Int × (Int × Int))) × ((List (Int × Int)) × ((List (Int × (List (Int × (Int × (Int × Int)))))) × ((List (Int × Int)) × (List Int))))))) (z0 : Int) : Option (Unit ⊕ Int) :=
(lp (fun rec102 (z101 : Int) =>
 (cond (decide (z101 < (lenI x.2.2.1)))
  ((geti x.2.2.1 z101).bind fun y103 =>
  (Option.bind (α := Bool)
   (cond (y103.2 == (1 : Int))
    ((m_spec_l10IsHeld (x, y103.1)).bind fun r106 =>
    (cond (!r106)
     ((m_spec_l10Find (x.2.2.2.2.1, y103.1)).bind fun r107 =>
     some (r107 == (0 : Int)))
     (some false)))
    (some false)) fun j108 =>
  (cond j108
   (some (Sum.inr (1 : Int)))
   (rec102 (IntKind.wrap .i64 (z101 + (1 : Int)))))))
  (some (Sum.inl ())))) n z0)
def l_spec_l10Held_3 (n : Nat) (z204 : Int) (x_1 : Int) (x_2_2_2_1 : (List (Int × (List (Int × (Int × (Int × Int))))))) (z0 : Int) : Option (Unit ⊕ (Unit ⊕ Int)) :=
(lp (fun rec227 (z226 : Int) =>
 (cond (decide (z226 < z204))
  ((geti x_2_2_2_1 z204).bind fun y228 =>
  ((geti x_2_2_2_1 z226).bind fun y229 =>
  ((m_spec_l1Legs (y228, x_1)).bind fun r230 =>
  ((m_spec_l1Legs (y229, x_1)).bind fun r231 =>
  ((m_spec_l10Touch (r230, r231)).bind fun r232 =>
  (cond r232
   (some (Sum.inr (Sum.inr (7 : Int))))
   (rec227 (IntKind.wrap .i64 (z226 + (1 : Int))))))))))
  (some (Sum.inl ())))) n z0)
def l_spec_l10Held_4 (n : Nat) (x_1 : Int) (x_2_2_2_1 : (List (Int × (List (Int × (Int × (Int × Int))))))) (z0 : Int) : Option (Unit ⊕ Int) :=
(lp (fun rec205 (z204 : Int) =>
 (cond (decide (z204 < (lenI x_2_2_2_1)))
  (Option.bind (α := (Unit ⊕ (Unit ⊕ Int)))
   (l_spec_l10Held_3 n z204 x_1 x_2_2_2_1 (0 : Int))
   (Sum.elim (fun j234 =>
  rec205 (IntKind.wrap .i64 (z204 + (1 : Int)))) some))
  (some (Sum.inl ())))) n z0)
def l_spec_l10Held_5 (n : Nat) (x_1 : Int) (x_2_1 : (List (Int × (Int × Int)))) (x_2_2_2_1 : (List (Int × (List (Int × (Int × (Int × Int))))))) (z0 : Int) : Option Int :=
(lp (fun rec242 (z241 : Int) =>
 (cond (decide (z241 < (lenI x_2_2_2_1)))
  ((geti x_2_2_2_1 z241).bind fun y243 =>
  ((m_spec_l1Legs (y243, x_1)).bind fun r244 =>
  ((m_spec_l2Legs (x_2_1, r244)).bind fun r245 =>
  (cond (!(r245 == (0 : Int)))
   (some r245)
   (rec242 (IntKind.wrap .i64 (z241 + (1 : Int))))))))
  (some (0 : Int)))) n z0)
def p_spec_l10Held (n : Nat) (x : (Int × ((List (Int × (Int × Int))) × ((List (Int × Int)) × ((List (Int × (List (Int × (Int × (Int × Int)))))) × ((List (Int × Int)) × (List Int))))))) : Option Int :=
(Option.bind (α := (Unit ⊕ Int))
 (l_spec_l10Held_1 n x.1 x.2.2.1 x.2.2.2.1 x.2.2.2.2.1 (0 : Int))
 (Sum.elim (fun j77 =>
(Option.bind (α := (Unit ⊕ Int))
 (l_spec_l10Held_2 n x (0 : Int))
 (Sum.elim (fun j110 =>
((m_spec_l10Applied x).bind fun r111 =>
(cond (!r111)
 (some (1 : Int))
 (Option.bind (α := (Unit ⊕ Int))
  (l_spec_l10Held_4 n x.1 x.2.2.2.1 (0 : Int))
  (Sum.elim (fun j236 =>
 (l_spec_l10Held_5 n x.1 x.2.1 x.2.2.2.1 (0 : Int))) some))))) some))) some))
def m_spec_l10Held (x : (Int × ((List (Int × (Int × Int))) × ((List (Int × Int)) × ((List (Int × (List (Int × (Int × (Int × Int)))))) × ((List (Int × Int)) × (List Int))))))) : Option Int := p_spec_l10Held FU x
def a_spec_l10Held : Ann := (.node .leaf (.joinx [] [2, 3, 4, 5, 12, 13, 14, 15, 16, 17, 18, 19, 20, 21, 22, 23, 24, 25, 26, 27, 28, 29, 30, 31, 32, 33, 34, 35, 36, 37, 38, 39, 40, 41, 42, 43, 44, 45, 46, 47, 48, 49, 50, 51, 52, 53, 54, 55, 56, 57, 58, 59, 60, 61, 62, 63, 64, 65, 66] (.node .leaf (.loop [.slot 3 (.int .i64)] [2, 4, 5, 12, 13, 14, 15, 16, 17, 18, 19, 20, 21, 22, 23, 24, 25, 26, 27, 28, 29, 30, 31, 32, 33, 34, 35, 36, 37, 38, 39, 40, 41, 42, 43, 44, 45, 46, 47, 48, 49, 50, 51, 52, 53, 54, 55, 56, 57, 58, 59, 60, 61, 62, 63, 64, 65, 66] (.node .leaf (.node (.node .leaf (.node .leaf (.join [.slot 66 .bool] [29, 30, 31, 32, 33, 34, 35, 36, 37, 38, 39, 40, 41, 42, 43, 44, 45, 46, 47, 48, 49, 50, 51, 52, 53, 54, 55, 56, 57, 58, 59, 60, 61, 62, 63, 64, 65] .leaf .leaf))) .leaf)))) (.joinx [] [2, 6, 7, 67, 68, 69, 70, 71, 72, 73, 74, 75, 76, 77, 78, 79, 80, 81, 82, 83, 84, 85, 86, 87, 88, 89, 90, 91, 92, 93, 94, 95, 96] (.node .leaf (.loop [.slot 6 (.int .i64)] [2, 7, 67, 68, 69, 70, 71, 72, 73, 74, 75, 76, 77, 78, 79, 80, 81, 82, 83, 84, 85, 86, 87, 88, 89, 90, 91, 92, 93, 94, 95, 96] (.node .leaf (.node (.node .leaf (.join [.slot 96 .bool] [79, 80, 81, 82, 83, 84, 85, 86, 87, 88, 89, 90, 91, 92, 93, 94, 95] .leaf .leaf)) .leaf)))) (.node .leaf (.joinx [] [2, 8, 9, 100, 101, 102, 103, 104, 105, 106, 107, 108, 109, 110, 111, 112, 113, 114, 115, 116, 117, 118, 119, 120, 121, 122, 123, 124, 125, 126, 127, 128] (.node .leaf (.loop [.slot 8 (.int .i64)] [2, 9, 100, 101, 102, 103, 104, 105, 106, 107, 108, 109, 110, 111, 112, 113, 114, 115, 116, 117, 118, 119, 120, 121, 122, 123, 124, 125, 126, 127, 128] (.node .leaf (.joinx [] [2, 9, 107, 108, 109, 110, 111, 112, 113, 114, 115, 116, 117, 118, 119, 120, 121, 122, 123, 124, 125, 126, 127, 128] (.node .leaf (.loop [.slot 9 (.int .i64)] [2, 107, 108, 109, 110, 111, 112, 113, 114, 115, 116, 117, 118, 119, 120, 121, 122, 123, 124, 125, 126, 127, 128] .leaf)) .leaf)))) (.node (.node .leaf (.loop [.slot 10 (.int .i64)] [2, 11, 129, 130, 131, 132, 133, 134, 135, 136, 137, 138, 139, 140, 141, 142, 143, 144, 145, 146, 147, 148, 149] .leaf)) .leaf))))))
def S_spec_l10Held : FSpec := ⟨[.val Kd6], [(.int .i64)], m_spec_l10Held⟩

/-! spec.ShardFault -/
def p_spec_ShardFault (n : Nat) (x : (Int × ((List (Int × (Int × Int))) × ((List (Int × Int)) × ((List (Int × (List (Int × (Int × (Int × Int)))))) × ((List (Int × Int)) × (List Int))))))) : Option Int :=
((m_spec_l10Base (x.1, x.2.1)).bind fun r1 =>
(cond (!(r1 == (0 : Int)))
 (some r1)
 (Option.bind (α := Bool)
  (cond (decide ((lenI x.2.2.1) > (100 : Int)))
   (some true)
   (cond (decide ((lenI x.2.2.2.1) > (100 : Int)))
    (some true)
    (cond (decide ((lenI x.2.2.2.2.1) > (100 : Int)))
     (some true)
     (some (decide ((lenI x.2.2.2.2.2) > (100 : Int))))))) fun j2 =>
 (cond j2
  (some (2 : Int))
  ((m_spec_l10Marks x.2.2.1).bind fun r3 =>
  (cond (!(r3 == (0 : Int)))
   (some r3)
   ((m_spec_l10Marks x.2.2.2.2.1).bind fun r4 =>
   (cond (!(r4 == (0 : Int)))
    (some r4)
    ((m_spec_l10Held x).bind fun r5 =>
    some r5)))))))))
def m_spec_ShardFault (x : (Int × ((List (Int × (Int × Int))) × ((List (Int × Int)) × ((List (Int × (List (Int × (Int × (Int × Int)))))) × ((List (Int × Int)) × (List Int))))))) : Option Int := p_spec_ShardFault FU x
def a_spec_ShardFault : Ann := (.node .leaf (.node .leaf (.node (.join [.slot 35 .bool] [14, 15, 16, 17, 18, 19, 20, 21, 22, 23, 24, 25, 26, 27, 28, 29, 30, 31, 32, 33, 34] .leaf .leaf) .leaf)))
def S_spec_ShardFault : FSpec := ⟨[.val Kd6], [(.int .i64)], m_spec_ShardFault⟩

/-! spec.l10Contract -/
def p_spec_l10Contract (n : Nat) (x : (Int × (List (Int × (Int × (Int × Int)))))) : Option (Int × (List (Int × (Int × (Int × Int))))) :=
(chk (Nat.ble (x.2.length * 32) maxBytes)
(some x))
def m_spec_l10Contract (x : (Int × (List (Int × (Int × (Int × Int)))))) : Option (Int × (List (Int × (Int × (Int × Int))))) := p_spec_l10Contract FU x
def a_spec_l10Contract : Ann := (.node .leaf (.node (.lazy 5 .leaf) .leaf))
def S_spec_l10Contract : FSpec := ⟨[.val Kd10], [Kd9], m_spec_l10Contract⟩

/-! spec.l10Copy -/
def l_spec_l10Copy_1 (n : Nat) (x_2_2_2_1 : (List (Int × (List (Int × (Int × (Int × Int))))))) (z0 : (Int × (Int × ((List (Int × (Int × Int))) × ((List (Int × Int)) × ((List (Int × (List (Int × (Int × (Int × Int)))))) × ((List (Int × Int)) × (List Int)))))))) : Option (Int × ((List (Int × (Int × Int))) × ((List (Int × Int)) × ((List (Int × (List (Int × (Int × (Int × Int)))))) × ((List (Int × Int)) × (List Int)))))) :=
(lp (fun rec8 (z7 : (Int × (Int × ((List (Int × (Int × Int))) × ((List (Int × Int)) × ((List (Int × (List (Int × (Int × (Int × Int)))))) × ((List (Int × Int)) × (List Int)))))))) =>
 (cond (decide (z7.1 < (lenI x_2_2_2_1)))
  ((geti x_2_2_2_1 z7.1).bind fun y9 =>
  ((m_spec_l10Contract y9).bind fun r10 =>
  (chk (Nat.ble ((z7.2.2.2.2.1.length + [r10].length) * 32) maxBytes)
  (rec8 (IntKind.wrap .i64 (z7.1 + (1 : Int)), (z7.2.1, (z7.2.2.1, (z7.2.2.2.1, ((z7.2.2.2.2.1 ++ [r10]), z7.2.2.2.2.2)))))))))
  (some z7.2))) n z0)
def p_spec_l10Copy (n : Nat) (x : (Int × ((List (Int × (Int × Int))) × ((List (Int × Int)) × ((List (Int × (List (Int × (Int × (Int × Int)))))) × ((List (Int × Int)) × (List Int))))))) : Option (Int × ((List (Int × (Int × Int))) × ((List (Int × Int)) × ((List (Int × (List (Int × (Int × (Int × Int)))))) × ((List (Int × Int)) × (List Int)))))) :=
(same
 (chk (Nat.ble (x.2.1.length * 24) maxBytes)
 (same
  (chk (Nat.ble (x.2.2.1.length * 16) maxBytes)
  (same
   (chk (Nat.ble (x.2.2.2.2.1.length * 16) maxBytes)
   (dup 1
    (chk (Nat.ble (x.2.2.2.2.2.length * 8) maxBytes)
    (l_spec_l10Copy_1 n x.2.2.2.1 ((0 : Int), (x.1, (x.2.1, (x.2.2.1, ([], x.2.2.2.2)))))))))
   (chk (Nat.ble (x.2.2.2.2.1.length * 16) maxBytes)
   (chk (Nat.ble (x.2.2.2.2.2.length * 8) maxBytes)
   (l_spec_l10Copy_1 n x.2.2.2.1 ((0 : Int), (x.1, (x.2.1, (x.2.2.1, ([], x.2.2.2.2))))))))))
  (chk (Nat.ble (x.2.2.1.length * 16) maxBytes)
  (chk (Nat.ble (x.2.2.2.2.1.length * 16) maxBytes)
  (chk (Nat.ble (x.2.2.2.2.2.length * 8) maxBytes)
  (l_spec_l10Copy_1 n x.2.2.2.1 ((0 : Int), (x.1, (x.2.1, (x.2.2.1, ([], x.2.2.2.2)))))))))))
 (chk (Nat.ble (x.2.1.length * 24) maxBytes)
 (chk (Nat.ble (x.2.2.1.length * 16) maxBytes)
 (chk (Nat.ble (x.2.2.2.2.1.length * 16) maxBytes)
 (chk (Nat.ble (x.2.2.2.2.2.length * 8) maxBytes)
 (l_spec_l10Copy_1 n x.2.2.2.1 ((0 : Int), (x.1, (x.2.1, (x.2.2.1, ([], x.2.2.2.2)))))))))))
def m_spec_l10Copy (x : (Int × ((List (Int × (Int × Int))) × ((List (Int × Int)) × ((List (Int × (List (Int × (Int × (Int × Int)))))) × ((List (Int × Int)) × (List Int))))))) : Option (Int × ((List (Int × (Int × Int))) × ((List (Int × Int)) × ((List (Int × (List (Int × (Int × (Int × Int)))))) × ((List (Int × Int)) × (List Int)))))) := p_spec_l10Copy FU x
def a_spec_l10Copy : Ann := (.node .leaf (.node (.lazy 19 (.lazy 15 (.lazy 11 (.lazy 7 .leaf)))) (.node (.node .leaf (.loop [.slot 4 (.int .i64), .box 1000003 Kd5] [24, 25, 26, 27, 28, 29, 30, 31, 32, 33, 34, 35, 36, 37, 38, 39, 40, 41] .leaf)) .leaf)))
def S_spec_l10Copy : FSpec := ⟨[.val Kd6], [Kd5], m_spec_l10Copy⟩

/-! spec.l10Ready -/
def l_spec_l10Ready_1 (n : Nat) (x_1_1 : Int) (x_1_2_2_2_1 : (List (Int × (List (Int × (Int × (Int × Int))))))) (r1 : (List (Int × (Int × (Int × Int))))) (z0 : Int) : Option Bool :=
(lp (fun rec12 (z11 : Int) =>
 (cond (decide (z11 < (lenI x_1_2_2_2_1)))
  ((geti x_1_2_2_2_1 z11).bind fun y13 =>
  ((m_spec_l1Legs (y13, x_1_1)).bind fun r14 =>
  ((m_spec_l10Touch (r1, r14)).bind fun r15 =>
  (cond r15
   (some false)
   (rec12 (IntKind.wrap .i64 (z11 + (1 : Int))))))))
  (some true))) n z0)
def p_spec_l10Ready (n : Nat) (x : ((Int × ((List (Int × (Int × Int))) × ((List (Int × Int)) × ((List (Int × (List (Int × (Int × (Int × Int)))))) × ((List (Int × Int)) × (List Int)))))) × (Int × (List (Int × (Int × (Int × Int))))))) : Option Bool :=
((m_spec_l1Legs (x.2, x.1.1)).bind fun r1 =>
(Option.bind (α := Bool)
 ((m_spec_l10Find (x.1.2.2.2.2.1, x.2.1)).bind fun r4 =>
 (cond (!(r4 == (0 : Int)))
  (some true)
  ((m_spec_l2Legs (x.1.2.1, r1)).bind fun r5 =>
  some (!(r5 == (0 : Int)))))) fun j6 =>
(cond j6
 (some false)
 (l_spec_l10Ready_1 n x.1.1 x.1.2.2.2.1 r1 (0 : Int)))))
def m_spec_l10Ready (x : ((Int × ((List (Int × (Int × Int))) × ((List (Int × Int)) × ((List (Int × (List (Int × (Int × (Int × Int)))))) × ((List (Int × Int)) × (List Int)))))) × (Int × (List (Int × (Int × (Int × Int))))))) : Option Bool := p_spec_l10Ready FU x
def a_spec_l10Ready : Ann := (.node .leaf (.node .leaf (.node (.join [.slot 23 .bool] [11, 12, 13, 14, 15, 16, 17, 18, 19, 20, 21, 22] .leaf .leaf) (.node (.node .leaf (.loop [.slot 6 (.int .i64)] [4, 24, 25, 26, 27, 28, 29, 30, 31, 32, 33, 34, 35, 36, 37, 38, 39, 40] .leaf)) .leaf))))
def S_spec_l10Ready : FSpec := ⟨[.val Kd6, .val Kd10], [.bool], m_spec_l10Ready⟩

/-! spec.l10Mark -/
def l_spec_l10Mark_1 (n : Nat) (x_1 : (List (Int × Int))) (x_2_1 : Int) (z0 : Int) : Option Int :=
(lp (fun rec16 (z15 : Int) =>
 (Option.bind (α := Bool)
  (cond (decide (z15 < (lenI x_1)))
   ((geti x_1 z15).bind fun y18 =>
   some (decide (y18.1 < x_2_1)))
   (some false)) fun j19 =>
 (cond j19
  (rec16 (IntKind.wrap .i64 (z15 + (1 : Int))))
  (some z15)))) n z0)
def p_spec_l10Mark (n : Nat) (x : ((List (Int × Int)) × (Int × Int))) : Option (List (Int × Int)) :=
(Option.bind (α := Int)
 (l_spec_l10Mark_1 n x.1 x.2.1 (0 : Int)) fun j21 =>
(chk (bndB none (some j21) none x.1.length)
 (chk (bndB (some j21) none none x.1.length)
  (chk (Nat.ble ((cutL none (some j21) x.1).length * 16) maxBytes)
  (chk (Nat.ble (((cutL none (some j21) x.1).length + [x.2].length) * 16) maxBytes)
  (chk (Nat.ble ((((cutL none (some j21) x.1) ++ [x.2]).length + (cutL (some j21) none x.1).length) * 16) maxBytes)
  (some (((cutL none (some j21) x.1) ++ [x.2]) ++ (cutL (some j21) none x.1)))))))))
def m_spec_l10Mark (x : ((List (Int × Int)) × (Int × Int))) : Option (List (Int × Int)) := p_spec_l10Mark FU x
def a_spec_l10Mark : Ann := (.node .leaf (.node .leaf (.join [.slot 7 (.int .i64)] [8, 9, 10, 11, 12, 13, 14, 15, 16, 17, 18, 19, 20, 21, 22] (.loop [.slot 7 (.int .i64)] [8, 9, 10, 11, 12, 13, 14, 15, 16, 17, 18, 19, 20, 21, 22] (.node (.join [.slot 20 .bool] [8, 9, 10, 11, 12, 13, 14, 15, 16, 17, 18, 19] .leaf .leaf) .leaf)) (.node (.lazy 31 (.lazy 23 .leaf)) .leaf))))
def S_spec_l10Mark : FSpec := ⟨[.val Kd18, .val (.int .i64), .val (.int .i64)], [Kd17], m_spec_l10Mark⟩

/-! spec.l10Vote -/
def l_spec_l10Vote_1 (n : Nat) (x_2_1 : Int) (x_1_2_2_2_1 : (List (Int × (List (Int × (Int × (Int × Int))))))) (z0 : Int) : Option Int :=
(lp (fun rec42 (z41 : Int) =>
 (Option.bind (α := Bool)
  (cond (decide (z41 < (lenI x_1_2_2_2_1)))
   ((geti x_1_2_2_2_1 z41).bind fun y44 =>
   some (decide (y44.1 < x_2_1)))
   (some false)) fun j45 =>
 (cond j45
  (rec42 (IntKind.wrap .i64 (z41 + (1 : Int))))
  (some z41)))) n z0)
def p_spec_l10Vote (n : Nat) (x : ((Int × ((List (Int × (Int × Int))) × ((List (Int × Int)) × ((List (Int × (List (Int × (Int × (Int × Int)))))) × ((List (Int × Int)) × (List Int)))))) × (Int × (List (Int × (Int × (Int × Int))))))) : Option (Int × (Int × (Int × ((List (Int × (Int × Int))) × ((List (Int × Int)) × ((List (Int × (List (Int × (Int × (Int × Int)))))) × ((List (Int × Int)) × (List Int)))))))) :=
(same
 ((m_spec_l10Copy x.1).bind fun r1 =>
 (dup 1
  ((m_spec_l10Find (x.1.2.2.1, x.2.1)).bind fun r2 =>
  (cond (!(r2 == (0 : Int)))
   (some ((0 : Int), (r2, r1)))
   (cond (decide ((lenI x.1.2.2.1) ≥ (100 : Int)))
    (some ((2 : Int), ((0 : Int), ((0 : Int), ([], ([], ([], ([], []))))))))
    (Option.bind (α := (Int × (Int × (Int × ((List (Int × (Int × Int))) × ((List (Int × Int)) × ((List (Int × (List (Int × (Int × (Int × Int)))))) × ((List (Int × Int)) × (List Int)))))))))
     ((m_spec_l10Ready (x.1, x.2)).bind fun r26 =>
     (cond r26
      (Option.bind (α := Int)
       (l_spec_l10Vote_1 n x.2.1 x.1.2.2.2.1 (0 : Int)) fun j47 =>
      (chk (bndB none (some j47) none r1.2.2.2.1.length)
       (chk (bndB (some j47) none none r1.2.2.2.1.length)
        (chk (Nat.ble (((r1.2.2.2.1.drop 0).take j47.toNat).length * 32) maxBytes)
        ((m_spec_l10Contract x.2).bind fun r48 =>
        (chk (Nat.ble ((((r1.2.2.2.1.drop 0).take j47.toNat).length + [r48].length) * 32) maxBytes)
        (chk (Nat.ble (((((r1.2.2.2.1.drop 0).take j47.toNat) ++ [r48]).length + ((r1.2.2.2.1.drop j47.toNat).take (r1.2.2.2.1.length - j47.toNat)).length) * 32) maxBytes)
        (some ((0 : Int), ((1 : Int), (r1.1, (r1.2.1, (r1.2.2.1, (((((r1.2.2.2.1.drop 0).take j47.toNat) ++ [r48]) ++ ((r1.2.2.2.1.drop j47.toNat).take (r1.2.2.2.1.length - j47.toNat))), r1.2.2.2.2))))))))))))))
      (some ((0 : Int), ((2 : Int), r1))))) fun j49 =>
    ((m_spec_l10Mark (j49.2.2.2.2.1, x.2.1, j49.2.1)).bind fun r50 =>
    some (j49.1, (j49.2.1, (j49.2.2.1, (j49.2.2.2.1, (r50, j49.2.2.2.2.2))))))))))))
 ((m_spec_l10Copy x.1).bind fun r1 =>
 ((m_spec_l10Find (x.1.2.2.1, x.2.1)).bind fun r2 =>
 (cond (!(r2 == (0 : Int)))
  (some ((0 : Int), (r2, r1)))
  (cond (decide ((lenI x.1.2.2.1) ≥ (100 : Int)))
   (some ((2 : Int), ((0 : Int), ((0 : Int), ([], ([], ([], ([], []))))))))
   (Option.bind (α := (Int × (Int × (Int × ((List (Int × (Int × Int))) × ((List (Int × Int)) × ((List (Int × (List (Int × (Int × (Int × Int)))))) × ((List (Int × Int)) × (List Int)))))))))
    ((m_spec_l10Ready (x.1, x.2)).bind fun r26 =>
    (cond r26
     (Option.bind (α := Int)
      (l_spec_l10Vote_1 n x.2.1 x.1.2.2.2.1 (0 : Int)) fun j47 =>
     (chk (bndB none (some j47) none r1.2.2.2.1.length)
      (chk (bndB (some j47) none none r1.2.2.2.1.length)
       (chk (Nat.ble (((r1.2.2.2.1.drop 0).take j47.toNat).length * 32) maxBytes)
       ((m_spec_l10Contract x.2).bind fun r48 =>
       (chk (Nat.ble ((((r1.2.2.2.1.drop 0).take j47.toNat).length + [r48].length) * 32) maxBytes)
       (chk (Nat.ble (((((r1.2.2.2.1.drop 0).take j47.toNat) ++ [r48]).length + ((r1.2.2.2.1.drop j47.toNat).take (r1.2.2.2.1.length - j47.toNat)).length) * 32) maxBytes)
       (some ((0 : Int), ((1 : Int), (r1.1, (r1.2.1, (r1.2.2.1, (((((r1.2.2.2.1.drop 0).take j47.toNat) ++ [r48]) ++ ((r1.2.2.2.1.drop j47.toNat).take (r1.2.2.2.1.length - j47.toNat))), r1.2.2.2.2))))))))))))))
     (some ((0 : Int), ((2 : Int), r1))))) fun j49 =>
   ((m_spec_l10Mark (j49.2.2.2.2.1, x.2.1, j49.2.1)).bind fun r50 =>
   some (j49.1, (j49.2.1, (j49.2.2.1, (j49.2.2.2.1, (r50, j49.2.2.2.2.2))))))))))))
def m_spec_l10Vote (x : ((Int × ((List (Int × (Int × Int))) × ((List (Int × Int)) × ((List (Int × (List (Int × (Int × (Int × Int)))))) × ((List (Int × Int)) × (List Int)))))) × (Int × (List (Int × (Int × (Int × Int))))))) : Option (Int × (Int × (Int × ((List (Int × (Int × Int))) × ((List (Int × Int)) × ((List (Int × (List (Int × (Int × (Int × Int)))))) × ((List (Int × Int)) × (List Int)))))))) := p_spec_l10Vote FU x
def a_spec_l10Vote : Ann := (.node .leaf (.node .leaf (.node .leaf (.node .leaf (.node .leaf (.join [.box 1000005 Kd2] [6, 25, 26, 27, 28, 29, 30, 31, 32, 33, 34, 35, 36, 37, 38, 39, 40, 41, 42, 43, 44, 45, 46, 47, 48, 49, 50, 51, 52, 53, 54, 55, 56, 57, 58, 59, 60, 61, 62, 63, 64, 65] (.node .leaf (.node (.node .leaf (.node .leaf (.join [.slot 6 (.int .i64)] [29, 30, 31, 32, 33, 34, 35, 36, 37, 38, 39, 40, 41, 42, 43, 44, 45, 46] (.loop [.slot 6 (.int .i64)] [29, 30, 31, 32, 33, 34, 35, 36, 37, 38, 39, 40, 41, 42, 43, 44, 45, 46] (.node (.join [.slot 44 .bool] [29, 30, 31, 32, 33, 34, 35, 36, 37, 38, 39, 40, 41, 42, 43] .leaf .leaf) .leaf)) (.lazy 47 .leaf)))) .leaf)) .leaf))))))
def S_spec_l10Vote : FSpec := ⟨[.val Kd6, .val Kd10], [Kd2], m_spec_l10Vote⟩

/-! spec.VoteShard -/
def p_spec_VoteShard (n : Nat) (x : ((Int × ((List (Int × (Int × Int))) × ((List (Int × Int)) × ((List (Int × (List (Int × (Int × (Int × Int)))))) × ((List (Int × Int)) × (List Int)))))) × (Int × (List (Int × (Int × (Int × Int))))))) : Option (Int × (Int × (Int × ((List (Int × (Int × Int))) × ((List (Int × Int)) × ((List (Int × (List (Int × (Int × (Int × Int)))))) × ((List (Int × Int)) × (List Int)))))))) :=
((m_spec_ShardFault x.1).bind fun r1 =>
(cond (!(r1 == (0 : Int)))
 (some (r1, ((0 : Int), ((0 : Int), ([], ([], ([], ([], []))))))))
 ((m_spec_ContractFault x.2).bind fun r2 =>
 (cond (!(r2 == (0 : Int)))
  (some (r2, ((0 : Int), ((0 : Int), ([], ([], ([], ([], []))))))))
  ((m_spec_l1Legs (x.2, x.1.1)).bind fun r3 =>
  (cond ((lenI r3) == (0 : Int))
   (some ((4 : Int), ((0 : Int), ((0 : Int), ([], ([], ([], ([], []))))))))
   ((m_spec_l10Vote (x.1, x.2)).bind fun r4 =>
   some r4)))))))
def m_spec_VoteShard (x : ((Int × ((List (Int × (Int × Int))) × ((List (Int × Int)) × ((List (Int × (List (Int × (Int × (Int × Int)))))) × ((List (Int × Int)) × (List Int)))))) × (Int × (List (Int × (Int × (Int × Int))))))) : Option (Int × (Int × (Int × ((List (Int × (Int × Int))) × ((List (Int × Int)) × ((List (Int × (List (Int × (Int × (Int × Int)))))) × ((List (Int × Int)) × (List Int)))))))) := p_spec_VoteShard FU x
def a_spec_VoteShard : Ann := .leaf
def S_spec_VoteShard : FSpec := ⟨[.val Kd6, .val Kd10], [Kd2], m_spec_VoteShard⟩

/-! impl.within -/
def p_impl_within (n : Nat) (x : (Int × (Int × Int))) : Option Bool :=
(cond (decide (x.1 ≥ x.2.1))
 (some (decide (x.1 ≤ x.2.2)))
 (some false))
def m_impl_within (x : (Int × (Int × Int))) : Option Bool := p_impl_within FU x
def a_impl_within : Ann := .leaf
def S_impl_within : FSpec := ⟨[.val (.int .i64), .val (.int .i64), .val (.int .i64)], [.bool], m_impl_within⟩

/-! impl.isShard -/
def p_impl_isShard (n : Nat) (x : Int) : Option Bool :=
((m_impl_within (x, (0 : Int), (2 : Int))).bind fun r1 =>
some r1)
def m_impl_isShard (x : Int) : Option Bool := p_impl_isShard FU x
def a_impl_isShard : Ann := .leaf
def S_impl_isShard : FSpec := ⟨[.val (.int .i64)], [.bool], m_impl_isShard⟩

/-! impl.isAsset -/
def p_impl_isAsset (n : Nat) (x : Int) : Option Bool :=
((m_impl_within (x, (0 : Int), (2 : Int))).bind fun r1 =>
some r1)
def m_impl_isAsset (x : Int) : Option Bool := p_impl_isAsset FU x
def a_impl_isAsset : Ann := .leaf
def S_impl_isAsset : FSpec := ⟨[.val (.int .i64)], [.bool], m_impl_isAsset⟩

/-! impl.isPlace -/
def p_impl_isPlace (n : Nat) (x : (Int × Int)) : Option Bool :=
((m_impl_within (x.1, (0 : Int), (5 : Int))).bind fun r1 =>
(cond r1
 ((m_impl_isAsset x.2).bind fun r2 =>
 some r2)
 (some false)))
def m_impl_isPlace (x : (Int × Int)) : Option Bool := p_impl_isPlace FU x
def a_impl_isPlace : Ann := .leaf
def S_impl_isPlace : FSpec := ⟨[.val (.int .i64), .val (.int .i64)], [.bool], m_impl_isPlace⟩

/-! cmp.isNaN[int64] -/
def p_cmp_isNaN_int64 (n : Nat) (x : Int) : Option Bool :=
some (!(x == x))
def m_cmp_isNaN_int64 (x : Int) : Option Bool := p_cmp_isNaN_int64 FU x
def a_cmp_isNaN_int64 : Ann := .leaf
def S_cmp_isNaN_int64 : FSpec := ⟨[.val (.int .i64)], [.bool], m_cmp_isNaN_int64⟩

/-! cmp.Compare[int64] -/
def p_cmp_Compare_int64 (n : Nat) (x : (Int × Int)) : Option Int :=
((m_cmp_isNaN_int64 x.1).bind fun r1 =>
((m_cmp_isNaN_int64 x.2).bind fun r2 =>
(cond r1
 (cond r2
  (some (0 : Int))
  (some (-1 : Int)))
 (cond r2
  (some (1 : Int))
  (cond (decide (x.1 < x.2))
   (some (-1 : Int))
   (cond (decide (x.1 > x.2))
    (some (1 : Int))
    (some (0 : Int))))))))
def m_cmp_Compare_int64 (x : (Int × Int)) : Option Int := p_cmp_Compare_int64 FU x
def a_cmp_Compare_int64 : Ann := .leaf
def S_cmp_Compare_int64 : FSpec := ⟨[.val (.int .i64), .val (.int .i64)], [(.int .i64)], m_cmp_Compare_int64⟩

/-! cmp.Or[int] -/
def l_cmp_Or_int_1 (n : Nat) (x : (List Int)) (z0 : Int) : Option Int :=
(lp (fun rec4 (z3 : Int) =>
 (cond (decide (z3 < (lenI x)))
  ((geti x z3).bind fun y5 =>
  (cond (!(y5 == (0 : Int)))
   (some y5)
   (rec4 (IntKind.wrap .i64 (z3 + (1 : Int))))))
  (some (0 : Int)))) n z0)
def p_cmp_Or_int (n : Nat) (x : (List Int)) : Option Int :=
(l_cmp_Or_int_1 n x (0 : Int))
def m_cmp_Or_int (x : (List Int)) : Option Int := p_cmp_Or_int FU x
def a_cmp_Or_int : Ann := (.node .leaf (.node .leaf (.node (.node .leaf (.loop [.slot 8 (.int .i64)] [2, 5, 9, 10, 11, 12, 13, 14, 15, 16] .leaf)) .leaf)))
def S_cmp_Or_int : FSpec := ⟨[.val Kd21], [(.int .i64)], m_cmp_Or_int⟩

/-! impl.comparePlaces -/
def p_impl_comparePlaces (n : Nat) (x : ((Int × (Int × Int)) × (Int × (Int × Int)))) : Option Int :=
((m_cmp_Compare_int64 (x.1.1, x.2.1)).bind fun r1 =>
((m_cmp_Compare_int64 (x.1.2.1, x.2.2.1)).bind fun r2 =>
((m_cmp_Or_int [r1, r2]).bind fun r3 =>
some r3)))
def m_impl_comparePlaces (x : ((Int × (Int × Int)) × (Int × (Int × Int)))) : Option Int := p_impl_comparePlaces FU x
def a_impl_comparePlaces : Ann := (.node .leaf (.node (.lazy 15 .leaf) .leaf))
def S_impl_comparePlaces : FSpec := ⟨[.val Kd16, .val Kd16], [(.int .i64)], m_impl_comparePlaces⟩

/-! impl.BalancesFault -/
def l_impl_BalancesFault_1 (n : Nat) (x : (List (Int × (Int × Int)))) (z0 : Int) : Option Int :=
(lp (fun rec14 (z13 : Int) =>
 (cond (decide (z13 < (lenI x)))
  ((geti x z13).bind fun y15 =>
  (Option.bind (α := Bool)
   ((m_impl_isPlace (y15.1, y15.2.1)).bind fun r18 =>
   (cond (!r18)
    (some true)
    ((m_impl_within (y15.2.2, (1 : Int), (1000000000000 : Int))).bind fun r19 =>
    some (!r19)))) fun j20 =>
  (cond j20
   (some (3 : Int))
   (Option.bind (α := Bool)
    (cond (decide (z13 > (0 : Int)))
     ((geti x (IntKind.wrap .i64 (z13 - (1 : Int)))).bind fun y23 =>
     ((m_impl_comparePlaces (y23, y15)).bind fun r24 =>
     some (decide (r24 ≥ (0 : Int)))))
     (some false)) fun j25 =>
   (cond j25
    (some (1 : Int))
    (rec14 (IntKind.wrap .i64 (z13 + (1 : Int)))))))))
  (some (0 : Int)))) n z0)
def p_impl_BalancesFault (n : Nat) (x : (List (Int × (Int × Int)))) : Option Int :=
(cond (decide ((lenI x) > (18 : Int)))
 (some (2 : Int))
 (l_impl_BalancesFault_1 n x (0 : Int)))
def m_impl_BalancesFault (x : (List (Int × (Int × Int)))) : Option Int := p_impl_BalancesFault FU x
def a_impl_BalancesFault : Ann := (.node .leaf (.node .leaf (.node (.node .leaf (.loop [.slot 10 (.int .i64)] [2, 3, 4, 11, 12, 13, 14, 15, 16, 17, 18, 19, 20, 21, 22, 23, 24, 25, 26, 27, 28, 29, 30, 31, 32, 33, 34, 35, 36, 37, 38, 39, 40, 41] (.node .leaf (.node .leaf (.node (.node .leaf (.join [.slot 15 .bool] [16, 17, 18, 19, 20, 21, 22, 23, 24, 25, 26, 27] .leaf (.node .leaf (.join [.slot 28 .bool] [29, 30, 31, 32, 33, 34, 35, 36, 37, 38, 39, 40] .leaf .leaf)))) .leaf))))) .leaf)))
def S_impl_BalancesFault : FSpec := ⟨[.val Kd15], [(.int .i64)], m_impl_BalancesFault⟩

/-! impl.isId -/
def p_impl_isId (n : Nat) (x : Int) : Option Bool :=
((m_impl_within (x, (1 : Int), (1000000000 : Int))).bind fun r1 =>
some r1)
def m_impl_isId (x : Int) : Option Bool := p_impl_isId FU x
def a_impl_isId : Ann := .leaf
def S_impl_isId : FSpec := ⟨[.val (.int .i64)], [.bool], m_impl_isId⟩

/-! impl.isValue -/
def p_impl_isValue (n : Nat) (x : Int) : Option Bool :=
(cond (x == (1 : Int))
 (some true)
 (some (x == (2 : Int))))
def m_impl_isValue (x : Int) : Option Bool := p_impl_isValue FU x
def a_impl_isValue : Ann := .leaf
def S_impl_isValue : FSpec := ⟨[.val (.int .i64)], [.bool], m_impl_isValue⟩

/-! impl.isOutcome -/
def p_impl_isOutcome (n : Nat) (x : Int) : Option Bool :=
(cond (x == (1 : Int))
 (some true)
 (some (x == (2 : Int))))
def m_impl_isOutcome (x : Int) : Option Bool := p_impl_isOutcome FU x
def a_impl_isOutcome : Ann := .leaf
def S_impl_isOutcome : FSpec := ⟨[.val (.int .i64)], [.bool], m_impl_isOutcome⟩

/-! impl.Leg] -/
def p_impl_size_impl_Leg (n : Nat) (x : (List (Int × (Int × (Int × Int))))) : Option Int :=
some (lenI x)
def m_impl_size_impl_Leg (x : (List (Int × (Int × (Int × Int))))) : Option Int := p_impl_size_impl_Leg FU x
def a_impl_size_impl_Leg : Ann := .leaf
def S_impl_size_impl_Leg : FSpec := ⟨[.val Kd12], [(.int .i64)], m_impl_size_impl_Leg⟩

/-! impl.LegFault -/
def p_impl_LegFault (n : Nat) (x : (Int × (Int × (Int × Int)))) : Option Int :=
(Option.bind (α := Bool)
 ((m_impl_isShard x.1).bind fun r4 =>
 (cond (!r4)
  (some true)
  ((m_impl_isPlace (x.2.1, x.2.2.1)).bind fun r5 =>
  (cond (!r5)
   (some true)
   ((m_impl_within (x.2.2.2, (-1000000000000 : Int), (1000000000000 : Int))).bind fun r6 =>
   some (!r6)))))) fun j7 =>
(cond j7
 (some (3 : Int))
 (cond (x.2.2.2 == (0 : Int))
  (some (1 : Int))
  (some (0 : Int)))))
def m_impl_LegFault (x : (Int × (Int × (Int × Int)))) : Option Int := p_impl_LegFault FU x
def a_impl_LegFault : Ann := (.node .leaf (.node (.join [.slot 3 .bool] [4, 5, 6, 7, 8, 9, 10, 11, 12, 13, 14, 15, 16, 17, 18, 19, 20, 21] .leaf .leaf) .leaf))
def S_impl_LegFault : FSpec := ⟨[.val Kd13], [(.int .i64)], m_impl_LegFault⟩

/-! impl.samePlace -/
def p_impl_samePlace (n : Nat) (x : ((Int × (Int × (Int × Int))) × (Int × (Int × (Int × Int))))) : Option Bool :=
(cond (x.1.1 == x.2.1)
 (cond (x.1.2.1 == x.2.2.1)
  (some (x.1.2.2.1 == x.2.2.2.1))
  (some false))
 (some false))
def m_impl_samePlace (x : ((Int × (Int × (Int × Int))) × (Int × (Int × (Int × Int))))) : Option Bool := p_impl_samePlace FU x
def a_impl_samePlace : Ann := .leaf
def S_impl_samePlace : FSpec := ⟨[.val Kd13, .val Kd13], [.bool], m_impl_samePlace⟩

/-! impl.ContractFault -/
def l_impl_ContractFault_1 (n : Nat) (z106_1 : Int) (x_2 : (List (Int × (Int × (Int × Int))))) (y108 : (Int × (Int × (Int × Int)))) (z0 : Int) : Option Int :=
(lp (fun rec122 (z121 : Int) =>
 (cond (decide (z121 < (lenI (cutL none (some z106_1) x_2))))
  ((geti (cutL none (some z106_1) x_2) z121).bind fun y123 =>
  ((m_impl_samePlace (y123, y108)).bind fun r124 =>
  (cond r124
   (some z121)
   (rec122 (IntKind.wrap .i64 (z121 + (1 : Int)))))))
  (some (-1 : Int)))) n z0)
def l_impl_ContractFault_2 (n : Nat) (x_2 : (List (Int × (Int × (Int × Int))))) (z0 : (Int × (List (Int × Int)))) : Option ((List (Int × Int)) ⊕ Int) :=
(lp (fun rec107 (z106 : (Int × (List (Int × Int)))) =>
 (cond (decide (z106.1 < (lenI x_2)))
  ((geti x_2 z106.1).bind fun y108 =>
  ((m_impl_LegFault y108).bind fun r109 =>
  (cond (!(r109 == (0 : Int)))
   (some (Sum.inr r109))
   (chk (bndB none (some z106.1) none x_2.length)
    (Option.bind (α := Int)
     (l_impl_ContractFault_1 n z106.1 x_2 y108 (0 : Int)) fun j126 =>
    (cond (decide (j126 ≥ (0 : Int)))
     (some (Sum.inr (7 : Int)))
     (rec107 (IntKind.wrap .i64 (z106.1 + (1 : Int)), (mupd (.int .i64) z106.2 y108.2.2.1 (IntKind.wrap .i64 ((mlook (.int .i64) z106.2 y108.2.2.1) + y108.2.2.2)))))))))))
  (some (Sum.inl z106.2)))) n z0)
def l_impl_ContractFault_3 (n : Nat) (j128 : (List (Int × Int))) (z0 : (Int × (List Int))) : Option Int :=
(lp (fun rec140 (z139 : (Int × (List Int))) =>
 (chk (z139.1 == lenI j128)
 (drawM (leftM z139.1 z139.2) (fun y141 =>
 ((geti j128 y141).bind fun y142 =>
 (chk (z139.1 == lenI j128)
 (((z139.2 ++ [y141]).getLast?).bind fun y143 =>
 ((geti j128 y143).bind fun y144 =>
 (cond (!(y144.2 == (0 : Int)))
  (some (1 : Int))
  (rec140 (z139.1, (z139.2 ++ [y141])))))))))
  (some (0 : Int))))) n z0)
def p_impl_ContractFault (n : Nat) (x : (Int × (List (Int × (Int × (Int × Int)))))) : Option Int :=
((m_impl_isId x.1).bind fun r1 =>
(cond (!r1)
 (some (3 : Int))
 ((m_impl_size_impl_Leg x.2).bind fun r2 =>
 ((m_impl_within (r2, (2 : Int), (8 : Int))).bind fun r3 =>
 (cond (!r3)
  (some (2 : Int))
  (Option.bind (α := ((List (Int × Int)) ⊕ Int))
   (l_impl_ContractFault_2 n x.2 ((0 : Int), ([] : List (Int × Int))))
   (Sum.elim (fun j128 =>
  (l_impl_ContractFault_3 n j128 ((lenI j128), ([] : List Int)))) some)))))))
def m_impl_ContractFault (x : (Int × (List (Int × (Int × (Int × Int)))))) : Option Int := p_impl_ContractFault FU x
def a_impl_ContractFault : Ann := (.node .leaf (.node .leaf (.node .leaf (.joinx [.map 1 (.int .i64) .i64] [2, 4, 5, 6, 21, 22, 23, 24, 25, 26, 27, 28, 29, 30, 31, 32, 33, 34, 35, 36, 37, 38, 39, 40, 41, 42, 43, 44, 45, 46, 47] (.node .leaf (.loop [.slot 24 (.int .i64), .map 1 (.int .i64) .i64] [2, 4, 5, 6, 25, 26, 27, 28, 29, 30, 31, 32, 33, 34, 35, 36, 37, 38, 39, 40, 41, 42, 43, 44, 45, 46, 47] (.node .leaf (.node .leaf (.node (.node .leaf (.node .leaf (.node (.node (.reg 39 (.node .leaf (.node (.regj 7 [.slot 7 (.int .i64)] [] (.node .leaf (.node (.node .leaf (.loop [.slot 8 (.int .i64)] [4, 5, 9, 10, 11, 12, 13, 14, 15, 16, 17, 18] .leaf)) .leaf)) .leaf) .leaf)) .leaf) .leaf) .leaf))) .leaf))))) (.node (.node .leaf (.loop [.iter 2 1] [2, 8, 50, 51, 52, 53, 54, 55] .leaf)) .leaf)))))
def S_impl_ContractFault : FSpec := ⟨[.val Kd10], [(.int .i64)], m_impl_ContractFault⟩

/-! impl.legsAt -/
def l_impl_legsAt_1 (n : Nat) (x_2 : Int) (x_1_2 : (List (Int × (Int × (Int × Int))))) (z0 : ((List (Int × (Int × (Int × Int)))) × Int)) : Option (List (Int × (Int × (Int × Int)))) :=
(lp (fun rec4 (z3 : ((List (Int × (Int × (Int × Int)))) × Int)) =>
 (cond (decide (z3.2 < (lenI x_1_2)))
  ((geti x_1_2 z3.2).bind fun y5 =>
  (cond (y5.1 == x_2)
   (chk (Nat.ble ((z3.1.length + [y5].length) * 32) maxBytes)
   (rec4 ((z3.1 ++ [y5]), IntKind.wrap .i64 (z3.2 + (1 : Int)))))
   (rec4 (z3.1, IntKind.wrap .i64 (z3.2 + (1 : Int))))))
  (some z3.1))) n z0)
def p_impl_legsAt (n : Nat) (x : ((Int × (List (Int × (Int × (Int × Int))))) × Int)) : Option (List (Int × (Int × (Int × Int)))) :=
(l_impl_legsAt_1 n x.2 x.1.2 (([] : List (Int × (Int × (Int × Int)))), (0 : Int)))
def m_impl_legsAt (x : ((Int × (List (Int × (Int × (Int × Int))))) × Int)) : Option (List (Int × (Int × (Int × Int)))) := p_impl_legsAt FU x
def a_impl_legsAt : Ann := (.node .leaf (.node .leaf (.node (.node .leaf (.loop [.slot 5 Kd11, .slot 12 (.int .i64)] [7, 13, 14, 15, 16, 17, 18, 19, 20, 21, 22, 23, 24] .leaf)) .leaf)))
def S_impl_legsAt : FSpec := ⟨[.val Kd10, .val (.int .i64)], [Kd11], m_impl_legsAt⟩

/-! impl.markAt$1 -/
def p_impl_markAt_1 (n : Nat) (x : ((Int × Int) × Int)) : Option Int :=
((m_cmp_Compare_int64 (x.1.1, x.2)).bind fun r1 =>
some r1)
def m_impl_markAt_1 (x : ((Int × Int) × Int)) : Option Int := p_impl_markAt_1 FU x
def a_impl_markAt_1 : Ann := .leaf
def S_impl_markAt_1 : FSpec := ⟨[.val Kd19, .val (.int .i64)], [(.int .i64)], m_impl_markAt_1⟩

/-! impl.markAt -/
def l_impl_markAt_1 (n : Nat) (x_1 : (List (Int × Int))) (x_2 : Int) (z0 : (Int × Int)) : Option Int :=
(lp (fun rec13 (z12 : (Int × Int)) =>
 (cond (decide (z12.1 < z12.2))
  (chk (decide (0 ≤ (1 : Int)))
   ((geti x_1 (IntKind.wrap .i64 (Int.fdiv (IntKind.wrap .u64 (IntKind.wrap .i64 (z12.1 + z12.2))) (2 ^ (min (1 : Int).toNat 64))))).bind fun y14 =>
   ((m_impl_markAt_1 (y14, x_2)).bind fun r15 =>
   (cond (decide (r15 < (0 : Int)))
    (rec13 (IntKind.wrap .i64 ((IntKind.wrap .i64 (Int.fdiv (IntKind.wrap .u64 (IntKind.wrap .i64 (z12.1 + z12.2))) (2 ^ (min (1 : Int).toNat 64)))) + (1 : Int)), z12.2))
    (rec13 (z12.1, IntKind.wrap .i64 (Int.fdiv (IntKind.wrap .u64 (IntKind.wrap .i64 (z12.1 + z12.2))) (2 ^ (min (1 : Int).toNat 64)))))))))
  (some z12.1))) n z0)
def p_impl_markAt (n : Nat) (x : ((List (Int × Int)) × Int)) : Option (Int × Bool) :=
(Option.bind (α := Int)
 (l_impl_markAt_1 n x.1 x.2 ((0 : Int), lenI x.1)) fun j17 =>
(cond (decide (j17 < (lenI x.1)))
 ((geti x.1 j17).bind fun y18 =>
 ((m_impl_markAt_1 (y18, x.2)).bind fun r19 =>
 some (j17, (r19 == (0 : Int)))))
 (some (j17, false))))
def m_impl_markAt (x : ((List (Int × Int)) × Int)) : Option (Int × Bool) := p_impl_markAt FU x
def a_impl_markAt : Ann := (.node .leaf (.node (.reg 8 (.node .leaf (.node .leaf (.node .leaf (.join [.slot 9 (.int .i64)] [10, 11, 15, 16, 17, 18, 19, 20, 21, 22, 23, 24, 25, 26, 27, 28, 29, 30, 31, 32, 33, 34] (.loop [.slot 9 (.int .i64), .slot 10 (.int .i64)] [11, 15, 16, 17, 18, 19, 20, 21, 22, 23, 24, 25, 26, 27, 28, 29, 30, 31, 32, 33, 34] .leaf) .leaf)))) .leaf) .leaf))
def S_impl_markAt : FSpec := ⟨[.val Kd18, .val (.int .i64)], [(.int .i64), .bool], m_impl_markAt⟩

/-! impl.markOf -/
def p_impl_markOf (n : Nat) (x : ((List (Int × Int)) × Int)) : Option Int :=
((m_impl_markAt (x.1, x.2)).bind fun r1 =>
(cond (!r1.2)
 (some (0 : Int))
 ((geti x.1 r1.1).bind fun y2 =>
 some y2.2)))
def m_impl_markOf (x : ((List (Int × Int)) × Int)) : Option Int := p_impl_markOf FU x
def a_impl_markOf : Ann := .leaf
def S_impl_markOf : FSpec := ⟨[.val Kd18, .val (.int .i64)], [(.int .i64)], m_impl_markOf⟩

/-! impl.Shard).heldFault -/
def l_impl_Shard_heldFault_1 (n : Nat) (x_1 : Int) (x_2_2_1 : (List (Int × Int))) (x_2_2_2_1 : (List (Int × (List (Int × (Int × (Int × Int))))))) (x_2_2_2_2_1 : (List (Int × Int))) (z0 : Int) : Option Int :=
(lp (fun rec20 (z19 : Int) =>
 (cond (decide (z19 < (lenI x_2_2_2_1)))
  ((geti x_2_2_2_1 z19).bind fun y21 =>
  ((m_impl_ContractFault y21).bind fun r22 =>
  (cond (!(r22 == (0 : Int)))
   (some r22)
   (Option.bind (α := Bool)
    (cond (decide (z19 > (0 : Int)))
     ((geti x_2_2_2_1 (IntKind.wrap .i64 (z19 - (1 : Int)))).bind fun y30 =>
     (cond (decide (y30.1 ≥ y21.1))
      (some true)
      ((m_impl_legsAt (y21, x_1)).bind fun r31 =>
      (cond ((lenI r31) == (0 : Int))
       (some true)
       ((m_impl_markOf (x_2_2_1, y21.1)).bind fun r32 =>
       (cond (!(r32 == (1 : Int)))
        (some true)
        ((m_impl_markOf (x_2_2_2_2_1, y21.1)).bind fun r33 =>
        some (!(r33 == (0 : Int))))))))))
     ((m_impl_legsAt (y21, x_1)).bind fun r34 =>
     (cond ((lenI r34) == (0 : Int))
      (some true)
      ((m_impl_markOf (x_2_2_1, y21.1)).bind fun r35 =>
      (cond (!(r35 == (1 : Int)))
       (some true)
       ((m_impl_markOf (x_2_2_2_2_1, y21.1)).bind fun r36 =>
       some (!(r36 == (0 : Int))))))))) fun j37 =>
   (cond j37
    (some (1 : Int))
    (rec20 (IntKind.wrap .i64 (z19 + (1 : Int)))))))))
  (some (0 : Int)))) n z0)
def p_impl_Shard_heldFault (n : Nat) (x : (Int × ((List (Int × (Int × Int))) × ((List (Int × Int)) × ((List (Int × (List (Int × (Int × (Int × Int)))))) × ((List (Int × Int)) × (List Int))))))) : Option Int :=
(l_impl_Shard_heldFault_1 n x.1 x.2.2.1 x.2.2.2.1 x.2.2.2.2.1 (0 : Int))
def m_impl_Shard_heldFault (x : (Int × ((List (Int × (Int × Int))) × ((List (Int × Int)) × ((List (Int × (List (Int × (Int × (Int × Int)))))) × ((List (Int × Int)) × (List Int))))))) : Option Int := p_impl_Shard_heldFault FU x
def a_impl_Shard_heldFault : Ann := (.node .leaf (.node (.node .leaf (.loop [.slot 9 (.int .i64)] [2, 3, 4, 5, 10, 11, 12, 13, 14, 15, 16, 17, 18, 19, 20, 21, 22, 23, 24, 25, 26, 27, 28, 29, 30, 31, 32, 33, 34, 35, 36, 37, 38, 39, 40, 41, 42, 43, 44, 45, 46, 47, 48, 49, 50, 51, 52, 53, 54, 55, 56, 57] (.node .leaf (.node .leaf (.node (.node .leaf (.node .leaf (.join [.slot 56 .bool] [19, 20, 21, 22, 23, 24, 25, 26, 27, 28, 29, 30, 31, 32, 33, 34, 35, 36, 37, 38, 39, 40, 41, 42, 43, 44, 45, 46, 47, 48, 49, 50, 51, 52, 53, 54, 55] .leaf .leaf))) .leaf))))) .leaf))
def S_impl_Shard_heldFault : FSpec := ⟨[.val Kd6], [(.int .i64)], m_impl_Shard_heldFault⟩

/-! impl.firstOf -/
def l_impl_firstOf_1 (n : Nat) (x : (List Int)) (z0 : Int) : Option Int :=
(lp (fun rec4 (z3 : Int) =>
 (cond (decide (z3 < (lenI x)))
  ((geti x z3).bind fun y5 =>
  (cond (!(y5 == (0 : Int)))
   (some y5)
   (rec4 (IntKind.wrap .i64 (z3 + (1 : Int))))))
  (some (0 : Int)))) n z0)
def p_impl_firstOf (n : Nat) (x : (List Int)) : Option Int :=
(l_impl_firstOf_1 n x (0 : Int))
def m_impl_firstOf (x : (List Int)) : Option Int := p_impl_firstOf FU x
def a_impl_firstOf : Ann := (.node .leaf (.node (.node .leaf (.loop [.slot 7 (.int .i64)] [2, 4, 8, 9, 10, 11, 12, 13, 14] .leaf)) .leaf))
def S_impl_firstOf : FSpec := ⟨[.val Kd21], [(.int .i64)], m_impl_firstOf⟩

/-! impl.Shard).heldAt$1 -/
def p_impl_Shard_heldAt_1 (n : Nat) (x : ((Int × (List (Int × (Int × (Int × Int))))) × Int)) : Option Int :=
((m_cmp_Compare_int64 (x.1.1, x.2)).bind fun r1 =>
some r1)
def m_impl_Shard_heldAt_1 (x : ((Int × (List (Int × (Int × (Int × Int))))) × Int)) : Option Int := p_impl_Shard_heldAt_1 FU x
def a_impl_Shard_heldAt_1 : Ann := .leaf
def S_impl_Shard_heldAt_1 : FSpec := ⟨[.val Kd10, .val (.int .i64)], [(.int .i64)], m_impl_Shard_heldAt_1⟩

/-! impl.Shard).heldAt -/
def l_impl_Shard_heldAt_1 (n : Nat) (x_2 : Int) (x_1_2_2_2_1 : (List (Int × (List (Int × (Int × (Int × Int))))))) (z0 : (Int × Int)) : Option Int :=
(lp (fun rec13 (z12 : (Int × Int)) =>
 (cond (decide (z12.1 < z12.2))
  (chk (decide (0 ≤ (1 : Int)))
   ((geti x_1_2_2_2_1 (IntKind.wrap .i64 (Int.fdiv (IntKind.wrap .u64 (IntKind.wrap .i64 (z12.1 + z12.2))) (2 ^ (min (1 : Int).toNat 64))))).bind fun y14 =>
   ((m_impl_Shard_heldAt_1 (y14, x_2)).bind fun r15 =>
   (cond (decide (r15 < (0 : Int)))
    (rec13 (IntKind.wrap .i64 ((IntKind.wrap .i64 (Int.fdiv (IntKind.wrap .u64 (IntKind.wrap .i64 (z12.1 + z12.2))) (2 ^ (min (1 : Int).toNat 64)))) + (1 : Int)), z12.2))
    (rec13 (z12.1, IntKind.wrap .i64 (Int.fdiv (IntKind.wrap .u64 (IntKind.wrap .i64 (z12.1 + z12.2))) (2 ^ (min (1 : Int).toNat 64)))))))))
  (some z12.1))) n z0)
def p_impl_Shard_heldAt (n : Nat) (x : ((Int × ((List (Int × (Int × Int))) × ((List (Int × Int)) × ((List (Int × (List (Int × (Int × (Int × Int)))))) × ((List (Int × Int)) × (List Int)))))) × Int)) : Option (Int × Bool) :=
(Option.bind (α := Int)
 (l_impl_Shard_heldAt_1 n x.2 x.1.2.2.2.1 ((0 : Int), lenI x.1.2.2.2.1)) fun j17 =>
(cond (decide (j17 < (lenI x.1.2.2.2.1)))
 ((geti x.1.2.2.2.1 j17).bind fun y18 =>
 ((m_impl_Shard_heldAt_1 (y18, x.2)).bind fun r19 =>
 some (j17, (r19 == (0 : Int)))))
 (some (j17, false))))
def m_impl_Shard_heldAt (x : ((Int × ((List (Int × (Int × Int))) × ((List (Int × Int)) × ((List (Int × (List (Int × (Int × (Int × Int)))))) × ((List (Int × Int)) × (List Int)))))) × Int)) : Option (Int × Bool) := p_impl_Shard_heldAt FU x
def a_impl_Shard_heldAt : Ann := (.node .leaf (.node (.reg 9 (.node .leaf (.node .leaf (.node .leaf (.join [.slot 9 (.int .i64)] [10, 11, 15, 16, 17, 18, 19, 20, 21, 22, 23, 24, 25, 26, 27, 28, 29, 30, 31, 32, 33, 34] (.loop [.slot 9 (.int .i64), .slot 10 (.int .i64)] [11, 15, 16, 17, 18, 19, 20, 21, 22, 23, 24, 25, 26, 27, 28, 29, 30, 31, 32, 33, 34] .leaf) .leaf)))) .leaf) .leaf))
def S_impl_Shard_heldAt : FSpec := ⟨[.val Kd6, .val (.int .i64)], [(.int .i64), .bool], m_impl_Shard_heldAt⟩

/-! impl.Shard).isOpen -/
def p_impl_Shard_isOpen (n : Nat) (x : ((Int × ((List (Int × (Int × Int))) × ((List (Int × Int)) × ((List (Int × (List (Int × (Int × (Int × Int)))))) × ((List (Int × Int)) × (List Int)))))) × (Int × Int))) : Option Bool :=
((m_impl_Shard_heldAt (x.1, x.2.1)).bind fun r1 =>
(cond (x.2.2 == (1 : Int))
 (cond (!r1.2)
  ((m_impl_markOf (x.1.2.2.2.2.1, x.2.1)).bind fun r2 =>
  some (r2 == (0 : Int)))
  (some false))
 (some false)))
def m_impl_Shard_isOpen (x : ((Int × ((List (Int × (Int × Int))) × ((List (Int × Int)) × ((List (Int × (List (Int × (Int × (Int × Int)))))) × ((List (Int × Int)) × (List Int)))))) × (Int × Int))) : Option Bool := p_impl_Shard_isOpen FU x
def a_impl_Shard_isOpen : Ann := .leaf
def S_impl_Shard_isOpen : FSpec := ⟨[.val Kd6, .val Kd19], [.bool], m_impl_Shard_isOpen⟩

/-! slices.Sorted[int64] -/
def p_slices_Sorted_int64 (n : Nat) (x : (List Int)) : Option ((List Int) × (List Int)) :=
sortedRun x
def m_slices_Sorted_int64 (x : (List Int)) : Option ((List Int) × (List Int)) := p_slices_Sorted_int64 FU x
def a_slices_Sorted_int64 : Ann := .leaf
def S_slices_Sorted_int64 : FSpec := ⟨[.fbox 287 Kd21], [Kd20], m_slices_Sorted_int64⟩

/-! slices.Equal[[]int64,int64] -/
def l_slices_Equal_int64_int64_1 (n : Nat) (x_1 : (List Int)) (x_2 : (List Int)) (z0 : Int) : Option Bool :=
(lp (fun rec5 (z4 : Int) =>
 (cond (decide (z4 < (lenI x_1)))
  ((geti x_1 z4).bind fun y6 =>
  ((geti x_2 z4).bind fun y7 =>
  (cond (!(y6 == y7))
   (some false)
   (rec5 (IntKind.wrap .i64 (z4 + (1 : Int)))))))
  (some true))) n z0)
def p_slices_Equal_int64_int64 (n : Nat) (x : ((List Int) × (List Int))) : Option Bool :=
(cond (!((lenI x.1) == (lenI x.2)))
 (some false)
 (l_slices_Equal_int64_int64_1 n x.1 x.2 (0 : Int)))
def m_slices_Equal_int64_int64 (x : ((List Int) × (List Int))) : Option Bool := p_slices_Equal_int64_int64 FU x
def a_slices_Equal_int64_int64 : Ann := (.node .leaf (.node .leaf (.node (.node .leaf (.loop [.slot 13 (.int .i64)] [4, 5, 14, 15, 16, 17, 18, 19, 20, 21, 22, 23, 24, 25] .leaf)) .leaf)))
def S_slices_Equal_int64_int64 : FSpec := ⟨[.val Kd21, .val Kd21], [.bool], m_slices_Equal_int64_int64⟩

/-! impl.Shard).appliedOk -/
def l_impl_Shard_appliedOk_1 (n : Nat) (x_2_2_2_2_1 : (List (Int × Int))) (z0 : ((List Int) × Int)) : Option (List Int) :=
(lp (fun rec10 (z9 : ((List Int) × Int)) =>
 (cond (decide (z9.2 < (lenI x_2_2_2_2_1)))
  ((geti x_2_2_2_2_1 z9.2).bind fun y11 =>
  (cond (y11.2 == (1 : Int))
   (chk (Nat.ble ((z9.1.length + [y11.1].length) * 8) maxBytes)
   (rec10 ((z9.1 ++ [y11.1]), IntKind.wrap .i64 (z9.2 + (1 : Int)))))
   (rec10 (z9.1, IntKind.wrap .i64 (z9.2 + (1 : Int))))))
  (some z9.1))) n z0)
def p_impl_Shard_appliedOk (n : Nat) (x : (Int × ((List (Int × (Int × Int))) × ((List (Int × Int)) × ((List (Int × (List (Int × (Int × (Int × Int)))))) × ((List (Int × Int)) × (List Int))))))) : Option Bool :=
(Option.bind (α := (List Int))
 (l_impl_Shard_appliedOk_1 n x.2.2.2.2.1 (([] : List Int), (0 : Int))) fun j13 =>
((m_slices_Sorted_int64 x.2.2.2.2.2).bind fun r14 =>
((m_slices_Equal_int64_int64 (r14.1, j13)).bind fun r15 =>
some r15)))
def m_impl_Shard_appliedOk (x : (Int × ((List (Int × (Int × Int))) × ((List (Int × Int)) × ((List (Int × (List (Int × (Int × (Int × Int)))))) × ((List (Int × Int)) × (List Int))))))) : Option Bool := p_impl_Shard_appliedOk FU x
def a_impl_Shard_appliedOk : Ann := (.node .leaf (.node .leaf (.join [.slot 3 Kd20] [5, 7, 8, 9, 10, 11, 12, 13, 14, 15, 16, 17, 18, 19, 20, 21, 22] (.node .leaf (.loop [.slot 3 Kd20, .slot 10 (.int .i64)] [5, 11, 12, 13, 14, 15, 16, 17, 18, 19, 20, 21, 22] .leaf)) .leaf)))
def S_impl_Shard_appliedOk : FSpec := ⟨[.val Kd6], [.bool], m_impl_Shard_appliedOk⟩

/-! impl.Shard).legsMeet -/
def l_impl_Shard_legsMeet_1 (n : Nat) (r67 : (List (Int × (Int × (Int × Int))))) (y66 : (Int × (Int × (Int × Int)))) (z0 : Int) : Option Int :=
(lp (fun rec80 (z79 : Int) =>
 (cond (decide (z79 < (lenI r67)))
  ((geti r67 z79).bind fun _ =>
  ((r67[z79.toNat]?).bind fun y81 =>
  ((m_impl_samePlace (y66, y81)).bind fun r82 =>
  (cond r82
   (some z79)
   (rec80 (IntKind.wrap .i64 (z79 + (1 : Int))))))))
  (some (-1 : Int)))) n z0)
def l_impl_Shard_legsMeet_2 (n : Nat) (r1 : (List (Int × (Int × (Int × Int))))) (x_1_1 : Int) (x_2_2 : (Int × (List (Int × (Int × (Int × Int)))))) (z0 : Int) : Option Int :=
(lp (fun rec65 (z64 : Int) =>
 (cond (decide (z64 < (lenI r1)))
  ((geti r1 z64).bind fun _ =>
  ((r1[z64.toNat]?).bind fun y66 =>
  ((m_impl_legsAt (x_2_2, x_1_1)).bind fun r67 =>
  (Option.bind (α := Int)
   (l_impl_Shard_legsMeet_1 n r67 y66 (0 : Int)) fun j84 =>
  (cond (decide (j84 ≥ (0 : Int)))
   (some z64)
   (rec65 (IntKind.wrap .i64 (z64 + (1 : Int)))))))))
  (some (-1 : Int)))) n z0)
def p_impl_Shard_legsMeet (n : Nat) (x : ((Int × ((List (Int × (Int × Int))) × ((List (Int × Int)) × ((List (Int × (List (Int × (Int × (Int × Int)))))) × ((List (Int × Int)) × (List Int)))))) × ((Int × (List (Int × (Int × (Int × Int))))) × (Int × (List (Int × (Int × (Int × Int)))))))) : Option Bool :=
((m_impl_legsAt (x.2.1, x.1.1)).bind fun r1 =>
(Option.bind (α := Int)
 (l_impl_Shard_legsMeet_2 n r1 x.1.1 x.2.2 (0 : Int)) fun j86 =>
some (decide (j86 ≥ (0 : Int)))))
def m_impl_Shard_legsMeet (x : ((Int × ((List (Int × (Int × Int))) × ((List (Int × Int)) × ((List (Int × (List (Int × (Int × (Int × Int)))))) × ((List (Int × Int)) × (List Int)))))) × ((Int × (List (Int × (Int × (Int × Int))))) × (Int × (List (Int × (Int × (Int × Int)))))))) : Option Bool := p_impl_Shard_legsMeet FU x
def a_impl_Shard_legsMeet : Ann := (.node .leaf (.node (.reg 12 (.node .leaf (.node (.regj 7 [.slot 7 (.int .i64)] [] (.node .leaf (.node (.node .leaf (.loop [.slot 8 (.int .i64)] [4, 5, 9, 10, 11, 12, 13, 14, 15, 16, 17, 18] (.node .leaf (.node .leaf (.node (.node .leaf (.node (.reg 16 (.node .leaf (.node (.reg 10 (.node .leaf (.node (.regj 7 [.slot 7 (.int .i64)] [] (.node .leaf (.node (.node .leaf (.loop [.slot 8 (.int .i64)] [4, 5, 9, 10, 11, 12, 13, 14, 15, 16, 17, 18] .leaf)) .leaf)) .leaf) .leaf)) .leaf) .leaf)) .leaf) .leaf)) .leaf))))) .leaf)) .leaf) .leaf)) .leaf) .leaf))
def S_impl_Shard_legsMeet : FSpec := ⟨[.val Kd6, .val Kd10, .val Kd10], [.bool], m_impl_Shard_legsMeet⟩

/-! impl.amountIn -/
def l_impl_amountIn_1 (n : Nat) (x_1 : (List (Int × (Int × Int)))) (x_2_1 : Int) (x_2_2 : Int) (z0 : (Int × Int)) : Option Int :=
(lp (fun rec32 (z31 : (Int × Int)) =>
 (cond (decide (z31.1 < z31.2))
  (chk (decide (0 ≤ (1 : Int)))
   ((geti x_1 (IntKind.wrap .i64 (Int.fdiv (IntKind.wrap .u64 (IntKind.wrap .i64 (z31.1 + z31.2))) (2 ^ (min (1 : Int).toNat 64))))).bind fun y33 =>
   ((m_impl_comparePlaces (y33, (x_2_1, (x_2_2, (0 : Int))))).bind fun r34 =>
   (cond (decide (r34 < (0 : Int)))
    (rec32 (IntKind.wrap .i64 ((IntKind.wrap .i64 (Int.fdiv (IntKind.wrap .u64 (IntKind.wrap .i64 (z31.1 + z31.2))) (2 ^ (min (1 : Int).toNat 64)))) + (1 : Int)), z31.2))
    (rec32 (z31.1, IntKind.wrap .i64 (Int.fdiv (IntKind.wrap .u64 (IntKind.wrap .i64 (z31.1 + z31.2))) (2 ^ (min (1 : Int).toNat 64)))))))))
  (some z31.1))) n z0)
def p_impl_amountIn (n : Nat) (x : ((List (Int × (Int × Int))) × (Int × Int))) : Option Int :=
(Option.bind (α := (Int × Bool))
 (Option.bind (α := Int)
  (l_impl_amountIn_1 n x.1 x.2.1 x.2.2 ((0 : Int), lenI x.1)) fun j36 =>
 (cond (decide (j36 < (lenI x.1)))
  ((geti x.1 j36).bind fun y37 =>
  ((m_impl_comparePlaces (y37, (x.2.1, (x.2.2, (0 : Int))))).bind fun r38 =>
  some (j36, (r38 == (0 : Int)))))
  (some (j36, false)))) fun j39 =>
(cond (!j39.2)
 (some (0 : Int))
 ((geti x.1 j39.1).bind fun y40 =>
 some y40.2.2)))
def m_impl_amountIn (x : ((List (Int × (Int × Int))) × (Int × Int))) : Option Int := p_impl_amountIn FU x
def a_impl_amountIn : Ann := (.node .leaf (.join [.slot 7 (.int .i64), .slot 8 .bool] [9, 10, 11, 12, 13, 14, 15, 16] (.reg 14 (.node .leaf (.node .leaf (.node .leaf (.join [.slot 9 (.int .i64)] [10, 11, 15, 16, 17, 18, 19, 20, 21, 22, 23, 24, 25, 26, 27, 28, 29, 30, 31, 32, 33, 34] (.loop [.slot 9 (.int .i64), .slot 10 (.int .i64)] [11, 15, 16, 17, 18, 19, 20, 21, 22, 23, 24, 25, 26, 27, 28, 29, 30, 31, 32, 33, 34] .leaf) .leaf)))) .leaf) .leaf))
def S_impl_amountIn : FSpec := ⟨[.val Kd15, .val (.int .i64), .val (.int .i64)], [(.int .i64)], m_impl_amountIn⟩

/-! impl.legCode -/
def p_impl_legCode (n : Nat) (x : ((List (Int × (Int × Int))) × (Int × (Int × (Int × Int))))) : Option Int :=
((m_impl_amountIn (x.1, x.2.2.1, x.2.2.2.1)).bind fun r1 =>
(cond (decide ((IntKind.wrap .i64 (r1 + x.2.2.2.2)) < (0 : Int)))
 (some (6 : Int))
 (cond (decide ((IntKind.wrap .i64 (r1 + x.2.2.2.2)) > (1000000000000 : Int)))
  (some (3 : Int))
  (some (0 : Int)))))
def m_impl_legCode (x : ((List (Int × (Int × Int))) × (Int × (Int × (Int × Int))))) : Option Int := p_impl_legCode FU x
def a_impl_legCode : Ann := .leaf
def S_impl_legCode : FSpec := ⟨[.val Kd15, .val Kd13], [(.int .i64)], m_impl_legCode⟩

/-! impl.Shard).fits -/
def l_impl_Shard_fits_1 (n : Nat) (r1 : (List (Int × (Int × (Int × Int))))) (x_1_2_1 : (List (Int × (Int × Int)))) (z0 : Int) : Option Int :=
(lp (fun rec6 (z5 : Int) =>
 (cond (decide (z5 < (lenI r1)))
  ((geti r1 z5).bind fun _ =>
  ((r1[z5.toNat]?).bind fun y7 =>
  ((m_impl_legCode (x_1_2_1, y7)).bind fun r8 =>
  (cond (!(r8 == (0 : Int)))
   (some r8)
   (rec6 (IntKind.wrap .i64 (z5 + (1 : Int))))))))
  (some (0 : Int)))) n z0)
def p_impl_Shard_fits (n : Nat) (x : ((Int × ((List (Int × (Int × Int))) × ((List (Int × Int)) × ((List (Int × (List (Int × (Int × (Int × Int)))))) × ((List (Int × Int)) × (List Int)))))) × (Int × (List (Int × (Int × (Int × Int))))))) : Option Int :=
((m_impl_legsAt (x.2, x.1.1)).bind fun r1 =>
(l_impl_Shard_fits_1 n r1 x.1.2.1 (0 : Int)))
def m_impl_Shard_fits (x : ((Int × ((List (Int × (Int × Int))) × ((List (Int × Int)) × ((List (Int × (List (Int × (Int × (Int × Int)))))) × ((List (Int × Int)) × (List Int)))))) × (Int × (List (Int × (Int × (Int × Int))))))) : Option Int := p_impl_Shard_fits FU x
def a_impl_Shard_fits : Ann := (.node .leaf (.node (.node .leaf (.loop [.slot 13 (.int .i64)] [4, 6, 7, 14, 15, 16, 17, 18, 19, 20, 21, 22, 23, 24] .leaf)) .leaf))
def S_impl_Shard_fits : FSpec := ⟨[.val Kd6, .val Kd10], [(.int .i64)], m_impl_Shard_fits⟩

/-! impl.Shard).heldTogether -/
def l_impl_Shard_heldTogether_1 (n : Nat) (z60 : Int) (x : (Int × ((List (Int × (Int × Int))) × ((List (Int × Int)) × ((List (Int × (List (Int × (Int × (Int × Int)))))) × ((List (Int × Int)) × (List Int))))))) (y62 : (Int × (List (Int × (Int × (Int × Int)))))) (z0 : Int) : Option Int :=
(lp (fun rec75 (z74 : Int) =>
 (cond (decide (z74 < (lenI (cutL none (some z60) x.2.2.2.1))))
  ((geti (cutL none (some z60) x.2.2.2.1) z74).bind fun y76 =>
  ((m_impl_Shard_legsMeet (x, y76, y62)).bind fun r77 =>
  (cond r77
   (some z74)
   (rec75 (IntKind.wrap .i64 (z74 + (1 : Int)))))))
  (some (-1 : Int)))) n z0)
def l_impl_Shard_heldTogether_2 (n : Nat) (x : (Int × ((List (Int × (Int × Int))) × ((List (Int × Int)) × ((List (Int × (List (Int × (Int × (Int × Int)))))) × ((List (Int × Int)) × (List Int))))))) (z0 : Int) : Option (Unit ⊕ Int) :=
(lp (fun rec61 (z60 : Int) =>
 (cond (decide (z60 < (lenI x.2.2.2.1)))
  ((geti x.2.2.2.1 z60).bind fun y62 =>
  (chk (bndB none (some z60) none x.2.2.2.1.length)
   (Option.bind (α := Int)
    (l_impl_Shard_heldTogether_1 n z60 x y62 (0 : Int)) fun j79 =>
   (cond (decide (j79 ≥ (0 : Int)))
    (some (Sum.inr (7 : Int)))
    (rec61 (IntKind.wrap .i64 (z60 + (1 : Int))))))))
  (some (Sum.inl ())))) n z0)
def l_impl_Shard_heldTogether_3 (n : Nat) (x : (Int × ((List (Int × (Int × Int))) × ((List (Int × Int)) × ((List (Int × (List (Int × (Int × (Int × Int)))))) × ((List (Int × Int)) × (List Int))))))) (z0 : Int) : Option Int :=
(lp (fun rec86 (z85 : Int) =>
 (cond (decide (z85 < (lenI x.2.2.2.1)))
  ((geti x.2.2.2.1 z85).bind fun y87 =>
  ((m_impl_Shard_fits (x, y87)).bind fun r88 =>
  (cond (!(r88 == (0 : Int)))
   (some r88)
   (rec86 (IntKind.wrap .i64 (z85 + (1 : Int)))))))
  (some (0 : Int)))) n z0)
def p_impl_Shard_heldTogether (n : Nat) (x : (Int × ((List (Int × (Int × Int))) × ((List (Int × Int)) × ((List (Int × (List (Int × (Int × (Int × Int)))))) × ((List (Int × Int)) × (List Int))))))) : Option Int :=
(Option.bind (α := (Unit ⊕ Int))
 (l_impl_Shard_heldTogether_2 n x (0 : Int))
 (Sum.elim (fun j81 =>
(l_impl_Shard_heldTogether_3 n x (0 : Int))) some))
def m_impl_Shard_heldTogether (x : (Int × ((List (Int × (Int × Int))) × ((List (Int × Int)) × ((List (Int × (List (Int × (Int × (Int × Int)))))) × ((List (Int × Int)) × (List Int))))))) : Option Int := p_impl_Shard_heldTogether FU x
def a_impl_Shard_heldTogether : Ann := (.node .leaf (.joinx [] [2, 3, 4, 8, 9, 10, 11, 12, 13, 14, 15, 16, 17, 18, 19, 20, 21, 22] (.node .leaf (.loop [.slot 11 (.int .i64)] [2, 3, 4, 12, 13, 14, 15, 16, 17, 18, 19, 20, 21, 22] (.node .leaf (.node .leaf (.node (.node .leaf (.node (.reg 21 (.node .leaf (.node (.regj 7 [.slot 7 (.int .i64)] [] (.node .leaf (.node (.node .leaf (.loop [.slot 8 (.int .i64)] [4, 5, 9, 10, 11, 12, 13, 14, 15, 16, 17, 18] .leaf)) .leaf)) .leaf) .leaf)) .leaf) .leaf)) .leaf))))) (.node (.node .leaf (.loop [.slot 26 (.int .i64)] [2, 6, 7, 27, 28, 29, 30, 31, 32, 33, 34, 35, 36] .leaf)) .leaf)))
def S_impl_Shard_heldTogether : FSpec := ⟨[.val Kd6], [(.int .i64)], m_impl_Shard_heldTogether⟩

/-! impl.ShardFault -/
def l_impl_ShardFault_1 (n : Nat) (x_2_2_1 : (List (Int × Int))) (z0 : Int) : Option Int :=
(lp (fun rec36 (z35 : Int) =>
 (cond (decide (z35 < (lenI x_2_2_1)))
  ((geti x_2_2_1 z35).bind fun y37 =>
  (Option.bind (α := Bool)
   ((m_impl_isId y37.1).bind fun r40 =>
   (cond (!r40)
    (some true)
    ((m_impl_isValue y37.2).bind fun r41 =>
    some (!r41)))) fun j42 =>
  (cond j42
   (some (3 : Int))
   (Option.bind (α := Bool)
    (cond (decide (z35 > (0 : Int)))
     ((geti x_2_2_1 (IntKind.wrap .i64 (z35 - (1 : Int)))).bind fun y44 =>
     some (decide (y44.1 ≥ y37.1)))
     (some false)) fun j45 =>
   (cond j45
    (some (1 : Int))
    (rec36 (IntKind.wrap .i64 (z35 + (1 : Int)))))))))
  (some (0 : Int)))) n z0)
def l_impl_ShardFault_2 (n : Nat) (x_2_2_2_2_1 : (List (Int × Int))) (z0 : Int) : Option Int :=
(lp (fun rec81 (z80 : Int) =>
 (cond (decide (z80 < (lenI x_2_2_2_2_1)))
  ((geti x_2_2_2_2_1 z80).bind fun y82 =>
  (Option.bind (α := Bool)
   ((m_impl_isId y82.1).bind fun r85 =>
   (cond (!r85)
    (some true)
    ((m_impl_isOutcome y82.2).bind fun r86 =>
    some (!r86)))) fun j87 =>
  (cond j87
   (some (3 : Int))
   (Option.bind (α := Bool)
    (cond (decide (z80 > (0 : Int)))
     ((geti x_2_2_2_2_1 (IntKind.wrap .i64 (z80 - (1 : Int)))).bind fun y89 =>
     some (decide (y89.1 ≥ y82.1)))
     (some false)) fun j90 =>
   (cond j90
    (some (1 : Int))
    (rec81 (IntKind.wrap .i64 (z80 + (1 : Int)))))))))
  (some (0 : Int)))) n z0)
def l_impl_ShardFault_3 (n : Nat) (x : (Int × ((List (Int × (Int × Int))) × ((List (Int × Int)) × ((List (Int × (List (Int × (Int × (Int × Int)))))) × ((List (Int × Int)) × (List Int))))))) (z0 : Int) : Option Int :=
(lp (fun rec125 (z124 : Int) =>
 (cond (decide (z124 < (lenI x.2.2.1)))
  ((geti x.2.2.1 z124).bind fun y126 =>
  ((m_impl_Shard_isOpen (x, y126)).bind fun r127 =>
  (cond r127
   (some z124)
   (rec125 (IntKind.wrap .i64 (z124 + (1 : Int)))))))
  (some (-1 : Int)))) n z0)
def p_impl_ShardFault (n : Nat) (x : (Int × ((List (Int × (Int × Int))) × ((List (Int × Int)) × ((List (Int × (List (Int × (Int × (Int × Int)))))) × ((List (Int × Int)) × (List Int))))))) : Option Int :=
((m_impl_isShard x.1).bind fun r1 =>
(cond (!r1)
 (some (3 : Int))
 ((m_impl_BalancesFault x.2.1).bind fun r2 =>
 (cond (!(r2 == (0 : Int)))
  (some r2)
  (cond (decide ((if (lenI x.2.2.2.2.2) > (if (lenI x.2.2.2.2.1) > (if (lenI x.2.2.2.1) > (lenI x.2.2.1) then lenI x.2.2.2.1 else lenI x.2.2.1) then lenI x.2.2.2.2.1 else (if (lenI x.2.2.2.1) > (lenI x.2.2.1) then lenI x.2.2.2.1 else lenI x.2.2.1)) then lenI x.2.2.2.2.2 else (if (lenI x.2.2.2.2.1) > (if (lenI x.2.2.2.1) > (lenI x.2.2.1) then lenI x.2.2.2.1 else lenI x.2.2.1) then lenI x.2.2.2.2.1 else (if (lenI x.2.2.2.1) > (lenI x.2.2.1) then lenI x.2.2.2.1 else lenI x.2.2.1))) > (100 : Int)))
   (some (2 : Int))
   (Option.bind (α := Int)
    (l_impl_ShardFault_1 n x.2.2.1 (0 : Int)) fun j47 =>
   (Option.bind (α := Int)
    (l_impl_ShardFault_2 n x.2.2.2.2.1 (0 : Int)) fun j92 =>
   ((m_impl_Shard_heldFault x).bind fun r93 =>
   ((m_impl_firstOf [j47, j92, r93]).bind fun r94 =>
   (cond (!(r94 == (0 : Int)))
    (some r94)
    (Option.bind (α := Bool)
     (Option.bind (α := Int)
      (l_impl_ShardFault_3 n x (0 : Int)) fun j129 =>
     (cond (decide (j129 ≥ (0 : Int)))
      (some true)
      ((m_impl_Shard_appliedOk x).bind fun r130 =>
      some (!r130)))) fun j131 =>
    (cond j131
     (some (1 : Int))
     ((m_impl_Shard_heldTogether x).bind fun r132 =>
     some r132)))))))))))))
def m_impl_ShardFault (x : (Int × ((List (Int × (Int × Int))) × ((List (Int × Int)) × ((List (Int × (List (Int × (Int × (Int × Int)))))) × ((List (Int × Int)) × (List Int))))))) : Option Int := p_impl_ShardFault FU x
def a_impl_ShardFault : Ann := (.node .leaf (.node .leaf (.node .leaf (.node .leaf (.node (.node (.regj 31 [.slot 31 (.int .i64)] [] (.node .leaf (.node (.node .leaf (.loop [.slot 9 (.int .i64)] [4, 5, 6, 10, 11, 12, 13, 14, 15, 16, 17, 18, 19, 20, 21, 22, 23, 24, 25, 26, 27, 28, 29, 30, 31, 32, 33, 34, 35, 36, 37, 38, 39, 40] (.node .leaf (.node .leaf (.node (.node .leaf (.join [.slot 14 .bool] [15, 16, 17, 18, 19, 20, 21, 22, 23, 24, 25] .leaf (.node .leaf (.join [.slot 26 .bool] [27, 28, 29, 30, 31, 32, 33, 34, 35, 36, 37, 38, 39] .leaf .leaf)))) .leaf))))) .leaf)) (.regj 34 [.slot 34 (.int .i64)] [] (.node .leaf (.node (.node .leaf (.loop [.slot 9 (.int .i64)] [4, 5, 6, 10, 11, 12, 13, 14, 15, 16, 17, 18, 19, 20, 21, 22, 23, 24, 25, 26, 27, 28, 29, 30, 31, 32, 33, 34, 35, 36, 37, 38, 39, 40] (.node .leaf (.node .leaf (.node (.node .leaf (.join [.slot 14 .bool] [15, 16, 17, 18, 19, 20, 21, 22, 23, 24, 25] .leaf (.node .leaf (.join [.slot 26 .bool] [27, 28, 29, 30, 31, 32, 33, 34, 35, 36, 37, 38, 39] .leaf .leaf)))) .leaf))))) .leaf)) (.lazy 37 .leaf))) .leaf) (.node (.join [.slot 51 .bool] [42, 43, 44, 45, 46, 47, 48, 49, 50] (.reg 46 (.node .leaf (.node (.regj 7 [.slot 7 (.int .i64)] [] (.node .leaf (.node (.node .leaf (.loop [.slot 8 (.int .i64)] [4, 5, 9, 10, 11, 12, 13, 14, 15, 16, 17, 18] .leaf)) .leaf)) .leaf) .leaf)) .leaf) .leaf) .leaf))))))
def S_impl_ShardFault : FSpec := ⟨[.val Kd6], [(.int .i64)], m_impl_ShardFault⟩

/-! impl.Balance] -/
def p_slices_Clone_impl_Balance_impl_Balance (n : Nat) (x : (List (Int × (Int × Int)))) : Option (List (Int × (Int × Int))) :=
(cond (List.isEmpty x)
 (same
  (some [])
  (chk (Nat.ble ((([] : List (Int × (Int × Int))).length + x.length) * 24) maxBytes)
  (some (([] : List (Int × (Int × Int))) ++ x))))
 (chk (Nat.ble ((([] : List (Int × (Int × Int))).length + x.length) * 24) maxBytes)
 (some (([] : List (Int × (Int × Int))) ++ x))))
def m_slices_Clone_impl_Balance_impl_Balance (x : (List (Int × (Int × Int)))) : Option (List (Int × (Int × Int))) := p_slices_Clone_impl_Balance_impl_Balance FU x
def a_slices_Clone_impl_Balance_impl_Balance : Ann := .leaf
def S_slices_Clone_impl_Balance_impl_Balance : FSpec := ⟨[.val Kd15], [Kd14], m_slices_Clone_impl_Balance_impl_Balance⟩

/-! impl.Mark] -/
def p_slices_Clone_impl_Mark_impl_Mark (n : Nat) (x : (List (Int × Int))) : Option (List (Int × Int)) :=
(cond (List.isEmpty x)
 (same
  (some [])
  (chk (Nat.ble ((([] : List (Int × Int)).length + x.length) * 16) maxBytes)
  (some (([] : List (Int × Int)) ++ x))))
 (chk (Nat.ble ((([] : List (Int × Int)).length + x.length) * 16) maxBytes)
 (some (([] : List (Int × Int)) ++ x))))
def m_slices_Clone_impl_Mark_impl_Mark (x : (List (Int × Int))) : Option (List (Int × Int)) := p_slices_Clone_impl_Mark_impl_Mark FU x
def a_slices_Clone_impl_Mark_impl_Mark : Ann := .leaf
def S_slices_Clone_impl_Mark_impl_Mark : FSpec := ⟨[.val Kd18], [Kd17], m_slices_Clone_impl_Mark_impl_Mark⟩

/-! impl.Leg] -/
def p_slices_Clone_impl_Leg_impl_Leg (n : Nat) (x : (List (Int × (Int × (Int × Int))))) : Option (List (Int × (Int × (Int × Int)))) :=
(cond (List.isEmpty x)
 (same
  (some [])
  (chk (Nat.ble ((([] : List (Int × (Int × (Int × Int)))).length + x.length) * 32) maxBytes)
  (some (([] : List (Int × (Int × (Int × Int)))) ++ x))))
 (chk (Nat.ble ((([] : List (Int × (Int × (Int × Int)))).length + x.length) * 32) maxBytes)
 (some (([] : List (Int × (Int × (Int × Int)))) ++ x))))
def m_slices_Clone_impl_Leg_impl_Leg (x : (List (Int × (Int × (Int × Int))))) : Option (List (Int × (Int × (Int × Int)))) := p_slices_Clone_impl_Leg_impl_Leg FU x
def a_slices_Clone_impl_Leg_impl_Leg : Ann := .leaf
def S_slices_Clone_impl_Leg_impl_Leg : FSpec := ⟨[.val Kd12], [Kd11], m_slices_Clone_impl_Leg_impl_Leg⟩

/-! impl.copyContract -/
def p_impl_copyContract (n : Nat) (x : (Int × (List (Int × (Int × (Int × Int)))))) : Option (Int × (List (Int × (Int × (Int × Int))))) :=
((m_slices_Clone_impl_Leg_impl_Leg x.2).bind fun r1 =>
some (x.1, r1))
def m_impl_copyContract (x : (Int × (List (Int × (Int × (Int × Int)))))) : Option (Int × (List (Int × (Int × (Int × Int))))) := p_impl_copyContract FU x
def a_impl_copyContract : Ann := .leaf
def S_impl_copyContract : FSpec := ⟨[.val Kd10], [Kd9], m_impl_copyContract⟩

/-! impl.copyContracts -/
def l_impl_copyContracts_1 (n : Nat) (x : (List (Int × (List (Int × (Int × (Int × Int))))))) (z0 : ((List (Int × (List (Int × (Int × (Int × Int)))))) × Int)) : Option (List (Int × (List (Int × (Int × (Int × Int)))))) :=
(lp (fun rec5 (z4 : ((List (Int × (List (Int × (Int × (Int × Int)))))) × Int)) =>
 (cond (decide (z4.2 < (lenI x)))
  ((geti x z4.2).bind fun y6 =>
  ((m_impl_copyContract y6).bind fun r7 =>
  (chk (Nat.ble ((z4.1.length + [r7].length) * 32) maxBytes)
  (rec5 ((z4.1 ++ [r7]), IntKind.wrap .i64 (z4.2 + (1 : Int)))))))
  (some z4.1))) n z0)
def p_impl_copyContracts (n : Nat) (x : (List (Int × (List (Int × (Int × (Int × Int))))))) : Option (List (Int × (List (Int × (Int × (Int × Int)))))) :=
(l_impl_copyContracts_1 n x (([] : List (Int × (List (Int × (Int × (Int × Int)))))), (0 : Int)))
def m_impl_copyContracts (x : (List (Int × (List (Int × (Int × (Int × Int))))))) : Option (List (Int × (List (Int × (Int × (Int × Int)))))) := p_impl_copyContracts FU x
def a_impl_copyContracts : Ann := (.node .leaf (.node (.own 6 Kd9 .leaf) (.node (.node .leaf (.loop [.slot 3 Kd7, .slot 9 (.int .i64)] [5, 10, 11, 12, 13, 14, 15, 16, 17, 18] (.node .leaf (.node .leaf (.node (.node .leaf (.own 16 Kd9 .leaf)) .leaf))))) .leaf)))
def S_impl_copyContracts : FSpec := ⟨[.val Kd8], [Kd7], m_impl_copyContracts⟩

/-! slices.Clone[[]int64,int64] -/
def p_slices_Clone_int64_int64 (n : Nat) (x : (List Int)) : Option (List Int) :=
(cond (List.isEmpty x)
 (same
  (some [])
  (chk (Nat.ble ((([] : List Int).length + x.length) * 8) maxBytes)
  (some (([] : List Int) ++ x))))
 (chk (Nat.ble ((([] : List Int).length + x.length) * 8) maxBytes)
 (some (([] : List Int) ++ x))))
def m_slices_Clone_int64_int64 (x : (List Int)) : Option (List Int) := p_slices_Clone_int64_int64 FU x
def a_slices_Clone_int64_int64 : Ann := .leaf
def S_slices_Clone_int64_int64 : FSpec := ⟨[.val Kd21], [Kd20], m_slices_Clone_int64_int64⟩

/-! impl.copyShard -/
def p_impl_copyShard (n : Nat) (x : (Int × ((List (Int × (Int × Int))) × ((List (Int × Int)) × ((List (Int × (List (Int × (Int × (Int × Int)))))) × ((List (Int × Int)) × (List Int))))))) : Option (Int × ((List (Int × (Int × Int))) × ((List (Int × Int)) × ((List (Int × (List (Int × (Int × (Int × Int)))))) × ((List (Int × Int)) × (List Int)))))) :=
((m_slices_Clone_impl_Balance_impl_Balance x.2.1).bind fun r1 =>
((m_slices_Clone_impl_Mark_impl_Mark x.2.2.1).bind fun r2 =>
((m_impl_copyContracts x.2.2.2.1).bind fun r3 =>
((m_slices_Clone_impl_Mark_impl_Mark x.2.2.2.2.1).bind fun r4 =>
((m_slices_Clone_int64_int64 x.2.2.2.2.2).bind fun r5 =>
some (x.1, (r1, (r2, (r3, (r4, r5))))))))))
def m_impl_copyShard (x : (Int × ((List (Int × (Int × Int))) × ((List (Int × Int)) × ((List (Int × (List (Int × (Int × (Int × Int)))))) × ((List (Int × Int)) × (List Int))))))) : Option (Int × ((List (Int × (Int × Int))) × ((List (Int × Int)) × ((List (Int × (List (Int × (Int × (Int × Int)))))) × ((List (Int × Int)) × (List Int)))))) := p_impl_copyShard FU x
def a_impl_copyShard : Ann := .leaf
def S_impl_copyShard : FSpec := ⟨[.val Kd6], [Kd4], m_impl_copyShard⟩

/-! impl.Shard).isReady -/
def l_impl_Shard_isReady_1 (n : Nat) (x_1 : (Int × ((List (Int × (Int × Int))) × ((List (Int × Int)) × ((List (Int × (List (Int × (Int × (Int × Int)))))) × ((List (Int × Int)) × (List Int))))))) (x_2 : (Int × (List (Int × (Int × (Int × Int)))))) (z0 : Int) : Option Int :=
(lp (fun rec13 (z12 : Int) =>
 (cond (decide (z12 < (lenI x_1.2.2.2.1)))
  ((geti x_1.2.2.2.1 z12).bind fun y14 =>
  ((m_impl_Shard_legsMeet (x_1, y14, x_2)).bind fun r15 =>
  (cond r15
   (some z12)
   (rec13 (IntKind.wrap .i64 (z12 + (1 : Int)))))))
  (some (-1 : Int)))) n z0)
def p_impl_Shard_isReady (n : Nat) (x : ((Int × ((List (Int × (Int × Int))) × ((List (Int × Int)) × ((List (Int × (List (Int × (Int × (Int × Int)))))) × ((List (Int × Int)) × (List Int)))))) × (Int × (List (Int × (Int × (Int × Int))))))) : Option Bool :=
(Option.bind (α := Int)
 (l_impl_Shard_isReady_1 n x.1 x.2 (0 : Int)) fun j17 =>
((m_impl_markOf (x.1.2.2.2.2.1, x.2.1)).bind fun r18 =>
(cond (r18 == (0 : Int))
 (cond (!(decide (j17 ≥ (0 : Int))))
  ((m_impl_Shard_fits (x.1, x.2)).bind fun r19 =>
  some (r19 == (0 : Int)))
  (some false))
 (some false))))
def m_impl_Shard_isReady (x : ((Int × ((List (Int × (Int × Int))) × ((List (Int × Int)) × ((List (Int × (List (Int × (Int × (Int × Int)))))) × ((List (Int × Int)) × (List Int)))))) × (Int × (List (Int × (Int × (Int × Int))))))) : Option Bool := p_impl_Shard_isReady FU x
def a_impl_Shard_isReady : Ann := (.node .leaf (.node (.reg 9 (.node .leaf (.node (.regj 7 [.slot 7 (.int .i64)] [] (.node .leaf (.node (.node .leaf (.loop [.slot 8 (.int .i64)] [4, 5, 9, 10, 11, 12, 13, 14, 15, 16, 17, 18] .leaf)) .leaf)) .leaf) .leaf)) .leaf) .leaf))
def S_impl_Shard_isReady : FSpec := ⟨[.val Kd6, .val Kd10], [.bool], m_impl_Shard_isReady⟩

/-! impl.Contract] -/
def p_slices_Insert_impl_Contract_impl_Contract (n : Nat) (x : ((List (Int × (List (Int × (Int × (Int × Int)))))) × (Int × (List (Int × (List (Int × (Int × (Int × Int))))))))) : Option ((List (Int × (List (Int × (Int × (Int × Int)))))) × (Bool × Bool)) :=
(insRun 32 x).map fun y => (y, (true, true))
def m_slices_Insert_impl_Contract_impl_Contract (x : ((List (Int × (List (Int × (Int × (Int × Int)))))) × (Int × (List (Int × (List (Int × (Int × (Int × Int))))))))) : Option ((List (Int × (List (Int × (Int × (Int × Int)))))) × (Bool × Bool)) := p_slices_Insert_impl_Contract_impl_Contract FU x
def a_slices_Insert_impl_Contract_impl_Contract : Ann := .leaf
def S_slices_Insert_impl_Contract_impl_Contract : FSpec := ⟨[.own 47 Kd9, .val (.int .i64), .own 47 Kd9], [Kd7], m_slices_Insert_impl_Contract_impl_Contract⟩

/-! impl.Mark] -/
def p_slices_Insert_impl_Mark_impl_Mark (n : Nat) (x : ((List (Int × Int)) × (Int × (List (Int × Int))))) : Option ((List (Int × Int)) × (Bool × Bool)) :=
(insRun 16 x).map fun y => (y, (true, true))
def m_slices_Insert_impl_Mark_impl_Mark (x : ((List (Int × Int)) × (Int × (List (Int × Int))))) : Option ((List (Int × Int)) × (Bool × Bool)) := p_slices_Insert_impl_Mark_impl_Mark FU x
def a_slices_Insert_impl_Mark_impl_Mark : Ann := .leaf
def S_slices_Insert_impl_Mark_impl_Mark : FSpec := ⟨[.own 185 Kd19, .val (.int .i64), .own 185 Kd19], [Kd17], m_slices_Insert_impl_Mark_impl_Mark⟩

/-! impl.withMark -/
def p_impl_withMark (n : Nat) (x : ((List (Int × Int)) × (Int × Int))) : Option (List (Int × Int)) :=
((m_impl_markAt (x.1, x.2.1)).bind fun r1 =>
(dup 1
 ((m_slices_Clone_impl_Mark_impl_Mark x.1).bind fun r2 =>
 ((m_slices_Insert_impl_Mark_impl_Mark (r2, r1.1, [x.2])).bind fun r3 =>
 some r3.1))))
def m_impl_withMark (x : ((List (Int × Int)) × (Int × Int))) : Option (List (Int × Int)) := p_impl_withMark FU x
def a_impl_withMark : Ann := .leaf
def S_impl_withMark : FSpec := ⟨[.val Kd18, .val Kd19], [Kd17], m_impl_withMark⟩

/-! impl.Shard).vote -/
def p_impl_Shard_vote (n : Nat) (x : ((Int × ((List (Int × (Int × Int))) × ((List (Int × Int)) × ((List (Int × (List (Int × (Int × (Int × Int)))))) × ((List (Int × Int)) × (List Int)))))) × (Int × (List (Int × (Int × (Int × Int))))))) : Option (Int × (Int × (Int × ((List (Int × (Int × Int))) × ((List (Int × Int)) × ((List (Int × (List (Int × (Int × (Int × Int)))))) × ((List (Int × Int)) × (List Int)))))))) :=
((m_impl_copyShard x.1).bind fun r1 =>
((m_impl_markOf (x.1.2.2.1, x.2.1)).bind fun r2 =>
(cond (!(r2 == (0 : Int)))
 (some ((0 : Int), (r2, r1)))
 (cond ((lenI x.1.2.2.1) == (100 : Int))
  (some ((2 : Int), ((0 : Int), ((0 : Int), ([], ([], ([], ([], []))))))))
  (Option.bind (α := (Int × (Int × ((List (Int × (Int × Int))) × ((List (Int × Int)) × ((List (Int × (List (Int × (Int × (Int × Int)))))) × ((List (Int × Int)) × (List Int))))))))
   ((m_impl_Shard_isReady (x.1, x.2)).bind fun r7 =>
   (cond r7
    ((m_impl_Shard_heldAt (x.1, x.2.1)).bind fun r8 =>
    ((m_impl_copyContract x.2).bind fun r9 =>
    ((m_slices_Insert_impl_Contract_impl_Contract (r1.2.2.2.1, r8.1, [r9])).bind fun r10 =>
    some ((1 : Int), (r1.1, (r1.2.1, (r1.2.2.1, (r10.1, r1.2.2.2.2))))))))
    (some ((2 : Int), r1)))) fun j11 =>
  ((m_impl_withMark (x.1.2.2.1, (x.2.1, j11.1))).bind fun r12 =>
  some ((0 : Int), (j11.1, (j11.2.1, (j11.2.2.1, (r12, j11.2.2.2.2)))))))))))
def m_impl_Shard_vote (x : ((Int × ((List (Int × (Int × Int))) × ((List (Int × Int)) × ((List (Int × (List (Int × (Int × (Int × Int)))))) × ((List (Int × Int)) × (List Int)))))) × (Int × (List (Int × (Int × (Int × Int))))))) : Option (Int × (Int × (Int × ((List (Int × (Int × Int))) × ((List (Int × Int)) × ((List (Int × (List (Int × (Int × (Int × Int)))))) × ((List (Int × Int)) × (List Int)))))))) := p_impl_Shard_vote FU x
def a_impl_Shard_vote : Ann := (.node .leaf (.node .leaf (.node .leaf (.node .leaf (.node .leaf (.join [.slot 7 (.int .i64), .box 9 Kd4] [8, 9, 27, 28, 29, 30, 31, 32, 33, 34, 35, 36, 37, 38, 39, 40, 41, 42, 43, 44] (.node .leaf (.node (.node .leaf (.own 42 Kd9 .leaf)) .leaf)) .leaf))))))
def S_impl_Shard_vote : FSpec := ⟨[.val Kd6, .val Kd10], [Kd1], m_impl_Shard_vote⟩

/-! impl.VoteShard -/
def p_impl_VoteShard (n : Nat) (x : ((Int × ((List (Int × (Int × Int))) × ((List (Int × Int)) × ((List (Int × (List (Int × (Int × (Int × Int)))))) × ((List (Int × Int)) × (List Int)))))) × (Int × (List (Int × (Int × (Int × Int))))))) : Option (Int × (Int × (Int × ((List (Int × (Int × Int))) × ((List (Int × Int)) × ((List (Int × (List (Int × (Int × (Int × Int)))))) × ((List (Int × Int)) × (List Int)))))))) :=
((m_impl_ShardFault x.1).bind fun r1 =>
((m_impl_ContractFault x.2).bind fun r2 =>
((m_impl_firstOf [r1, r2]).bind fun r3 =>
(cond (!(r3 == (0 : Int)))
 (some (r3, ((0 : Int), ((0 : Int), ([], ([], ([], ([], []))))))))
 ((m_impl_legsAt (x.2, x.1.1)).bind fun r4 =>
 (cond ((lenI r4) == (0 : Int))
  (some ((4 : Int), ((0 : Int), ((0 : Int), ([], ([], ([], ([], []))))))))
  ((m_impl_Shard_vote (x.1, x.2)).bind fun r5 =>
  some r5)))))))
def m_impl_VoteShard (x : ((Int × ((List (Int × (Int × Int))) × ((List (Int × Int)) × ((List (Int × (List (Int × (Int × (Int × Int)))))) × ((List (Int × Int)) × (List Int)))))) × (Int × (List (Int × (Int × (Int × Int))))))) : Option (Int × (Int × (Int × ((List (Int × (Int × Int))) × ((List (Int × Int)) × ((List (Int × (List (Int × (Int × (Int × Int)))))) × ((List (Int × Int)) × (List Int)))))))) := p_impl_VoteShard FU x
def a_impl_VoteShard : Ann := (.node .leaf (.node (.node (.lazy 10 .leaf) .leaf) .leaf))
def S_impl_VoteShard : FSpec := ⟨[.val Kd6, .val Kd10], [Kd1], m_impl_VoteShard⟩

/-! laws.eqBalance -/
def p_laws_eqBalance (n : Nat) (x : ((Int × (Int × Int)) × (Int × (Int × Int)))) : Option Bool :=
(cond (!(x.1.1 == x.2.1))
 (some false)
 (cond (!(x.1.2.1 == x.2.2.1))
  (some false)
  (cond (!(x.1.2.2 == x.2.2.2))
   (some false)
   (some true))))
def m_laws_eqBalance (x : ((Int × (Int × Int)) × (Int × (Int × Int)))) : Option Bool := p_laws_eqBalance FU x
def a_laws_eqBalance : Ann := .leaf
def S_laws_eqBalance : FSpec := ⟨[.val Kd16, .val Kd16], [.bool], m_laws_eqBalance⟩

/-! laws.eqBalanceS -/
def l_laws_eqBalanceS_1 (n : Nat) (x_1 : (List (Int × (Int × Int)))) (x_2 : (List (Int × (Int × Int)))) (z0 : Int) : Option Bool :=
(lp (fun rec6 (z5 : Int) =>
 (cond (decide (z5 < (lenI x_1)))
  ((geti x_1 z5).bind fun y7 =>
  ((geti x_2 z5).bind fun y8 =>
  ((m_laws_eqBalance (y7, y8)).bind fun r9 =>
  (cond (!r9)
   (some false)
   (rec6 (IntKind.wrap .i64 (z5 + (1 : Int))))))))
  (some true))) n z0)
def p_laws_eqBalanceS (n : Nat) (x : ((List (Int × (Int × Int))) × (List (Int × (Int × Int))))) : Option Bool :=
(cond (!((lenI x.1) == (lenI x.2)))
 (some false)
 (l_laws_eqBalanceS_1 n x.1 x.2 (0 : Int)))
def m_laws_eqBalanceS (x : ((List (Int × (Int × Int))) × (List (Int × (Int × Int))))) : Option Bool := p_laws_eqBalanceS FU x
def a_laws_eqBalanceS : Ann := (.node .leaf (.node .leaf (.node (.node .leaf (.loop [.slot 5 (.int .i64)] [4, 11, 12, 13, 14, 15, 16, 17, 18, 19, 20, 21, 22, 23, 24, 25, 26] .leaf)) .leaf)))
def S_laws_eqBalanceS : FSpec := ⟨[.val Kd15, .val Kd15], [.bool], m_laws_eqBalanceS⟩

/-! laws.eqMark -/
def p_laws_eqMark (n : Nat) (x : ((Int × Int) × (Int × Int))) : Option Bool :=
(cond (!(x.1.1 == x.2.1))
 (some false)
 (cond (!(x.1.2 == x.2.2))
  (some false)
  (some true)))
def m_laws_eqMark (x : ((Int × Int) × (Int × Int))) : Option Bool := p_laws_eqMark FU x
def a_laws_eqMark : Ann := .leaf
def S_laws_eqMark : FSpec := ⟨[.val Kd19, .val Kd19], [.bool], m_laws_eqMark⟩

/-! laws.eqMarkS -/
def l_laws_eqMarkS_1 (n : Nat) (x_1 : (List (Int × Int))) (x_2 : (List (Int × Int))) (z0 : Int) : Option Bool :=
(lp (fun rec6 (z5 : Int) =>
 (cond (decide (z5 < (lenI x_1)))
  ((geti x_1 z5).bind fun y7 =>
  ((geti x_2 z5).bind fun y8 =>
  ((m_laws_eqMark (y7, y8)).bind fun r9 =>
  (cond (!r9)
   (some false)
   (rec6 (IntKind.wrap .i64 (z5 + (1 : Int))))))))
  (some true))) n z0)
def p_laws_eqMarkS (n : Nat) (x : ((List (Int × Int)) × (List (Int × Int)))) : Option Bool :=
(cond (!((lenI x.1) == (lenI x.2)))
 (some false)
 (l_laws_eqMarkS_1 n x.1 x.2 (0 : Int)))
def m_laws_eqMarkS (x : ((List (Int × Int)) × (List (Int × Int)))) : Option Bool := p_laws_eqMarkS FU x
def a_laws_eqMarkS : Ann := (.node .leaf (.node .leaf (.node (.node .leaf (.loop [.slot 5 (.int .i64)] [4, 11, 12, 13, 14, 15, 16, 17, 18, 19, 20, 21, 22, 23, 24, 25, 26] .leaf)) .leaf)))
def S_laws_eqMarkS : FSpec := ⟨[.val Kd18, .val Kd18], [.bool], m_laws_eqMarkS⟩

/-! laws.eqLeg -/
def p_laws_eqLeg (n : Nat) (x : ((Int × (Int × (Int × Int))) × (Int × (Int × (Int × Int))))) : Option Bool :=
(cond (!(x.1.1 == x.2.1))
 (some false)
 (cond (!(x.1.2.1 == x.2.2.1))
  (some false)
  (cond (!(x.1.2.2.1 == x.2.2.2.1))
   (some false)
   (cond (!(x.1.2.2.2 == x.2.2.2.2))
    (some false)
    (some true)))))
def m_laws_eqLeg (x : ((Int × (Int × (Int × Int))) × (Int × (Int × (Int × Int))))) : Option Bool := p_laws_eqLeg FU x
def a_laws_eqLeg : Ann := .leaf
def S_laws_eqLeg : FSpec := ⟨[.val Kd13, .val Kd13], [.bool], m_laws_eqLeg⟩

/-! laws.eqLegS -/
def l_laws_eqLegS_1 (n : Nat) (x_1 : (List (Int × (Int × (Int × Int))))) (x_2 : (List (Int × (Int × (Int × Int))))) (z0 : Int) : Option Bool :=
(lp (fun rec6 (z5 : Int) =>
 (cond (decide (z5 < (lenI x_1)))
  ((geti x_1 z5).bind fun y7 =>
  ((geti x_2 z5).bind fun y8 =>
  ((m_laws_eqLeg (y7, y8)).bind fun r9 =>
  (cond (!r9)
   (some false)
   (rec6 (IntKind.wrap .i64 (z5 + (1 : Int))))))))
  (some true))) n z0)
def p_laws_eqLegS (n : Nat) (x : ((List (Int × (Int × (Int × Int)))) × (List (Int × (Int × (Int × Int)))))) : Option Bool :=
(cond (!((lenI x.1) == (lenI x.2)))
 (some false)
 (l_laws_eqLegS_1 n x.1 x.2 (0 : Int)))
def m_laws_eqLegS (x : ((List (Int × (Int × (Int × Int)))) × (List (Int × (Int × (Int × Int)))))) : Option Bool := p_laws_eqLegS FU x
def a_laws_eqLegS : Ann := (.node .leaf (.node .leaf (.node (.node .leaf (.loop [.slot 5 (.int .i64)] [4, 11, 12, 13, 14, 15, 16, 17, 18, 19, 20, 21, 22, 23, 24, 25, 26] .leaf)) .leaf)))
def S_laws_eqLegS : FSpec := ⟨[.val Kd12, .val Kd12], [.bool], m_laws_eqLegS⟩

/-! laws.eqContract -/
def p_laws_eqContract (n : Nat) (x : ((Int × (List (Int × (Int × (Int × Int))))) × (Int × (List (Int × (Int × (Int × Int))))))) : Option Bool :=
(cond (!(x.1.1 == x.2.1))
 (some false)
 ((m_laws_eqLegS (x.1.2, x.2.2)).bind fun r1 =>
 (cond (!r1)
  (some false)
  (some true))))
def m_laws_eqContract (x : ((Int × (List (Int × (Int × (Int × Int))))) × (Int × (List (Int × (Int × (Int × Int))))))) : Option Bool := p_laws_eqContract FU x
def a_laws_eqContract : Ann := .leaf
def S_laws_eqContract : FSpec := ⟨[.val Kd10, .val Kd10], [.bool], m_laws_eqContract⟩

/-! laws.eqContractS -/
def l_laws_eqContractS_1 (n : Nat) (x_1 : (List (Int × (List (Int × (Int × (Int × Int))))))) (x_2 : (List (Int × (List (Int × (Int × (Int × Int))))))) (z0 : Int) : Option Bool :=
(lp (fun rec6 (z5 : Int) =>
 (cond (decide (z5 < (lenI x_1)))
  ((geti x_1 z5).bind fun y7 =>
  ((geti x_2 z5).bind fun y8 =>
  ((m_laws_eqContract (y7, y8)).bind fun r9 =>
  (cond (!r9)
   (some false)
   (rec6 (IntKind.wrap .i64 (z5 + (1 : Int))))))))
  (some true))) n z0)
def p_laws_eqContractS (n : Nat) (x : ((List (Int × (List (Int × (Int × (Int × Int)))))) × (List (Int × (List (Int × (Int × (Int × Int)))))))) : Option Bool :=
(cond (!((lenI x.1) == (lenI x.2)))
 (some false)
 (l_laws_eqContractS_1 n x.1 x.2 (0 : Int)))
def m_laws_eqContractS (x : ((List (Int × (List (Int × (Int × (Int × Int)))))) × (List (Int × (List (Int × (Int × (Int × Int)))))))) : Option Bool := p_laws_eqContractS FU x
def a_laws_eqContractS : Ann := (.node .leaf (.node .leaf (.node (.node .leaf (.loop [.slot 5 (.int .i64)] [4, 11, 12, 13, 14, 15, 16, 17, 18, 19, 20, 21, 22, 23, 24, 25, 26] .leaf)) .leaf)))
def S_laws_eqContractS : FSpec := ⟨[.val Kd8, .val Kd8], [.bool], m_laws_eqContractS⟩

/-! laws.eqInt64S -/
def l_laws_eqInt64S_1 (n : Nat) (x_1 : (List Int)) (x_2 : (List Int)) (z0 : Int) : Option Bool :=
(lp (fun rec5 (z4 : Int) =>
 (cond (decide (z4 < (lenI x_1)))
  ((geti x_1 z4).bind fun y6 =>
  ((geti x_2 z4).bind fun y7 =>
  (cond (!(y6 == y7))
   (some false)
   (rec5 (IntKind.wrap .i64 (z4 + (1 : Int)))))))
  (some true))) n z0)
def p_laws_eqInt64S (n : Nat) (x : ((List Int) × (List Int))) : Option Bool :=
(cond (!((lenI x.1) == (lenI x.2)))
 (some false)
 (l_laws_eqInt64S_1 n x.1 x.2 (0 : Int)))
def m_laws_eqInt64S (x : ((List Int) × (List Int))) : Option Bool := p_laws_eqInt64S FU x
def a_laws_eqInt64S : Ann := (.node .leaf (.node .leaf (.node (.node .leaf (.loop [.slot 5 (.int .i64)] [4, 11, 12, 13, 14, 15, 16, 17, 18, 19, 20, 21, 22, 23, 24, 25] .leaf)) .leaf)))
def S_laws_eqInt64S : FSpec := ⟨[.val Kd21, .val Kd21], [.bool], m_laws_eqInt64S⟩

/-! laws.eqShard -/
def p_laws_eqShard (n : Nat) (x : ((Int × ((List (Int × (Int × Int))) × ((List (Int × Int)) × ((List (Int × (List (Int × (Int × (Int × Int)))))) × ((List (Int × Int)) × (List Int)))))) × (Int × ((List (Int × (Int × Int))) × ((List (Int × Int)) × ((List (Int × (List (Int × (Int × (Int × Int)))))) × ((List (Int × Int)) × (List Int)))))))) : Option Bool :=
(cond (!(x.1.1 == x.2.1))
 (some false)
 ((m_laws_eqBalanceS (x.1.2.1, x.2.2.1)).bind fun r1 =>
 (cond (!r1)
  (some false)
  ((m_laws_eqMarkS (x.1.2.2.1, x.2.2.2.1)).bind fun r2 =>
  (cond (!r2)
   (some false)
   ((m_laws_eqContractS (x.1.2.2.2.1, x.2.2.2.2.1)).bind fun r3 =>
   (cond (!r3)
    (some false)
    ((m_laws_eqMarkS (x.1.2.2.2.2.1, x.2.2.2.2.2.1)).bind fun r4 =>
    (cond (!r4)
     (some false)
     ((m_laws_eqInt64S (x.1.2.2.2.2.2, x.2.2.2.2.2.2)).bind fun r5 =>
     (cond (!r5)
      (some false)
      (some true))))))))))))
def m_laws_eqShard (x : ((Int × ((List (Int × (Int × Int))) × ((List (Int × Int)) × ((List (Int × (List (Int × (Int × (Int × Int)))))) × ((List (Int × Int)) × (List Int)))))) × (Int × ((List (Int × (Int × Int))) × ((List (Int × Int)) × ((List (Int × (List (Int × (Int × (Int × Int)))))) × ((List (Int × Int)) × (List Int)))))))) : Option Bool := p_laws_eqShard FU x
def a_laws_eqShard : Ann := .leaf
def S_laws_eqShard : FSpec := ⟨[.val Kd6, .val Kd6], [.bool], m_laws_eqShard⟩

/-! laws.eqShardResult -/
def p_laws_eqShardResult (n : Nat) (x : ((Int × (Int × (Int × ((List (Int × (Int × Int))) × ((List (Int × Int)) × ((List (Int × (List (Int × (Int × (Int × Int)))))) × ((List (Int × Int)) × (List Int)))))))) × (Int × (Int × (Int × ((List (Int × (Int × Int))) × ((List (Int × Int)) × ((List (Int × (List (Int × (Int × (Int × Int)))))) × ((List (Int × Int)) × (List Int)))))))))) : Option Bool :=
(cond (!(x.1.1 == x.2.1))
 (some false)
 (cond (!(x.1.2.1 == x.2.2.1))
  (some false)
  ((m_laws_eqShard (x.1.2.2, x.2.2.2)).bind fun r1 =>
  (cond (!r1)
   (some false)
   (some true)))))
def m_laws_eqShardResult (x : ((Int × (Int × (Int × ((List (Int × (Int × Int))) × ((List (Int × Int)) × ((List (Int × (List (Int × (Int × (Int × Int)))))) × ((List (Int × Int)) × (List Int)))))))) × (Int × (Int × (Int × ((List (Int × (Int × Int))) × ((List (Int × Int)) × ((List (Int × (List (Int × (Int × (Int × Int)))))) × ((List (Int × Int)) × (List Int)))))))))) : Option Bool := p_laws_eqShardResult FU x
def a_laws_eqShardResult : Ann := .leaf
def S_laws_eqShardResult : FSpec := ⟨[.val Kd3, .val Kd3], [.bool], m_laws_eqShardResult⟩

/-! laws.markBalanceS -/
def l_laws_markBalanceS_1 (n : Nat)  (z0 : (Int × (Int × (List (Int × (Int × Int)))))) : Option (Int × (List (Int × (Int × Int)))) :=
(lp (fun rec10 (z9 : (Int × (Int × (List (Int × (Int × Int)))))) =>
 (cond (decide (z9.2.1 < (lenI z9.2.2)))
  ((geti z9.2.2 z9.2.1).bind fun _ =>
  ((z9.2.2[z9.2.1.toNat]?).bind fun y11 =>
  ((geti (z9.2.2.set z9.2.1.toNat (z9.1, y11.2)) z9.2.1).bind fun _ =>
  (((z9.2.2.set z9.2.1.toNat (z9.1, y11.2))[z9.2.1.toNat]?).bind fun y12 =>
  ((geti ((z9.2.2.set z9.2.1.toNat (z9.1, y11.2)).set z9.2.1.toNat (y12.1, (IntKind.wrap .i64 (z9.1 + (1 : Int)), y12.2.2))) z9.2.1).bind fun _ =>
  ((((z9.2.2.set z9.2.1.toNat (z9.1, y11.2)).set z9.2.1.toNat (y12.1, (IntKind.wrap .i64 (z9.1 + (1 : Int)), y12.2.2)))[z9.2.1.toNat]?).bind fun y13 =>
  rec10 (IntKind.wrap .i64 ((IntKind.wrap .i64 ((IntKind.wrap .i64 (z9.1 + (1 : Int))) + (1 : Int))) + (1 : Int)), IntKind.wrap .i64 (z9.2.1 + (1 : Int)), (((z9.2.2.set z9.2.1.toNat (z9.1, y11.2)).set z9.2.1.toNat (y12.1, (IntKind.wrap .i64 (z9.1 + (1 : Int)), y12.2.2))).set z9.2.1.toNat (y13.1, (y13.2.1, IntKind.wrap .i64 ((IntKind.wrap .i64 (z9.1 + (1 : Int))) + (1 : Int))))))))))))
  (some (z9.1, z9.2.2)))) n z0)
def p_laws_markBalanceS (n : Nat) (x : ((List (Int × (Int × Int))) × Int)) : Option (Int × (List (Int × (Int × Int)))) :=
(l_laws_markBalanceS_1 n  (x.2, (0 : Int), x.1))
def m_laws_markBalanceS (x : ((List (Int × (Int × Int))) × Int)) : Option (Int × (List (Int × (Int × Int)))) := p_laws_markBalanceS FU x
def a_laws_markBalanceS : Ann := (.node .leaf (.node (.node .leaf (.loop [.slot 1 (.int .i64), .slot 5 (.int .i64), .row 0 263 Kd16] [6, 7, 8, 9, 10, 11, 12, 13, 14, 15, 16, 17, 18, 19, 20, 21, 22, 23, 24, 25, 26, 27, 28, 29, 30, 31, 32] .leaf)) .leaf))
def S_laws_markBalanceS : FSpec := ⟨[.row 263 Kd16, .val (.int .i64)], [(.int .i64)], m_laws_markBalanceS⟩

/-! laws.markMarkS -/
def l_laws_markMarkS_1 (n : Nat)  (z0 : (Int × (Int × (List (Int × Int))))) : Option (Int × (List (Int × Int))) :=
(lp (fun rec8 (z7 : (Int × (Int × (List (Int × Int))))) =>
 (cond (decide (z7.2.1 < (lenI z7.2.2)))
  ((geti z7.2.2 z7.2.1).bind fun _ =>
  ((z7.2.2[z7.2.1.toNat]?).bind fun y9 =>
  ((geti (z7.2.2.set z7.2.1.toNat (z7.1, y9.2)) z7.2.1).bind fun _ =>
  (((z7.2.2.set z7.2.1.toNat (z7.1, y9.2))[z7.2.1.toNat]?).bind fun y10 =>
  rec8 (IntKind.wrap .i64 ((IntKind.wrap .i64 (z7.1 + (1 : Int))) + (1 : Int)), IntKind.wrap .i64 (z7.2.1 + (1 : Int)), ((z7.2.2.set z7.2.1.toNat (z7.1, y9.2)).set z7.2.1.toNat (y10.1, IntKind.wrap .i64 (z7.1 + (1 : Int)))))))))
  (some (z7.1, z7.2.2)))) n z0)
def p_laws_markMarkS (n : Nat) (x : ((List (Int × Int)) × Int)) : Option (Int × (List (Int × Int))) :=
(l_laws_markMarkS_1 n  (x.2, (0 : Int), x.1))
def m_laws_markMarkS (x : ((List (Int × Int)) × Int)) : Option (Int × (List (Int × Int))) := p_laws_markMarkS FU x
def a_laws_markMarkS : Ann := (.node .leaf (.node (.node .leaf (.loop [.slot 1 (.int .i64), .slot 5 (.int .i64), .row 0 185 Kd19] [6, 7, 8, 9, 10, 11, 12, 13, 14, 15, 16, 17, 18, 19, 20, 21, 22, 23, 24, 25] .leaf)) .leaf))
def S_laws_markMarkS : FSpec := ⟨[.row 185 Kd19, .val (.int .i64)], [(.int .i64)], m_laws_markMarkS⟩

/-! laws.markLegS -/
def l_laws_markLegS_1 (n : Nat)  (z0 : (Int × (Int × (List (Int × (Int × (Int × Int))))))) : Option (Int × (List (Int × (Int × (Int × Int))))) :=
(lp (fun rec12 (z11 : (Int × (Int × (List (Int × (Int × (Int × Int))))))) =>
 (cond (decide (z11.2.1 < (lenI z11.2.2)))
  ((geti z11.2.2 z11.2.1).bind fun _ =>
  ((z11.2.2[z11.2.1.toNat]?).bind fun y13 =>
  ((geti (z11.2.2.set z11.2.1.toNat (z11.1, y13.2)) z11.2.1).bind fun _ =>
  (((z11.2.2.set z11.2.1.toNat (z11.1, y13.2))[z11.2.1.toNat]?).bind fun y14 =>
  ((geti ((z11.2.2.set z11.2.1.toNat (z11.1, y13.2)).set z11.2.1.toNat (y14.1, (IntKind.wrap .i64 (z11.1 + (1 : Int)), y14.2.2))) z11.2.1).bind fun _ =>
  ((((z11.2.2.set z11.2.1.toNat (z11.1, y13.2)).set z11.2.1.toNat (y14.1, (IntKind.wrap .i64 (z11.1 + (1 : Int)), y14.2.2)))[z11.2.1.toNat]?).bind fun y15 =>
  ((geti (((z11.2.2.set z11.2.1.toNat (z11.1, y13.2)).set z11.2.1.toNat (y14.1, (IntKind.wrap .i64 (z11.1 + (1 : Int)), y14.2.2))).set z11.2.1.toNat (y15.1, (y15.2.1, (IntKind.wrap .i64 ((IntKind.wrap .i64 (z11.1 + (1 : Int))) + (1 : Int)), y15.2.2.2)))) z11.2.1).bind fun _ =>
  (((((z11.2.2.set z11.2.1.toNat (z11.1, y13.2)).set z11.2.1.toNat (y14.1, (IntKind.wrap .i64 (z11.1 + (1 : Int)), y14.2.2))).set z11.2.1.toNat (y15.1, (y15.2.1, (IntKind.wrap .i64 ((IntKind.wrap .i64 (z11.1 + (1 : Int))) + (1 : Int)), y15.2.2.2))))[z11.2.1.toNat]?).bind fun y16 =>
  rec12 (IntKind.wrap .i64 ((IntKind.wrap .i64 ((IntKind.wrap .i64 ((IntKind.wrap .i64 (z11.1 + (1 : Int))) + (1 : Int))) + (1 : Int))) + (1 : Int)), IntKind.wrap .i64 (z11.2.1 + (1 : Int)), ((((z11.2.2.set z11.2.1.toNat (z11.1, y13.2)).set z11.2.1.toNat (y14.1, (IntKind.wrap .i64 (z11.1 + (1 : Int)), y14.2.2))).set z11.2.1.toNat (y15.1, (y15.2.1, (IntKind.wrap .i64 ((IntKind.wrap .i64 (z11.1 + (1 : Int))) + (1 : Int)), y15.2.2.2)))).set z11.2.1.toNat (y16.1, (y16.2.1, (y16.2.2.1, IntKind.wrap .i64 ((IntKind.wrap .i64 ((IntKind.wrap .i64 (z11.1 + (1 : Int))) + (1 : Int))) + (1 : Int)))))))))))))))
  (some (z11.1, z11.2.2)))) n z0)
def p_laws_markLegS (n : Nat) (x : ((List (Int × (Int × (Int × Int)))) × Int)) : Option (Int × (List (Int × (Int × (Int × Int))))) :=
(l_laws_markLegS_1 n  (x.2, (0 : Int), x.1))
def m_laws_markLegS (x : ((List (Int × (Int × (Int × Int)))) × Int)) : Option (Int × (List (Int × (Int × (Int × Int))))) := p_laws_markLegS FU x
def a_laws_markLegS : Ann := (.node .leaf (.node (.node .leaf (.loop [.slot 1 (.int .i64), .slot 5 (.int .i64), .row 0 194 Kd13] [6, 7, 8, 9, 10, 11, 12, 13, 14, 15, 16, 17, 18, 19, 20, 21, 22, 23, 24, 25, 26, 27, 28, 29, 30, 31, 32, 33, 34, 35, 36, 37, 38, 39] .leaf)) .leaf))
def S_laws_markLegS : FSpec := ⟨[.row 194 Kd13, .val (.int .i64)], [(.int .i64)], m_laws_markLegS⟩

/-! laws.markContractS -/
def l_laws_markContractS_1 (n : Nat)  (z0 : (Int × (Int × (List (Int × (List (Int × (Int × (Int × Int))))))))) : Option (Int × (List (Int × (List (Int × (Int × (Int × Int))))))) :=
(lp (fun rec12 (z11 : (Int × (Int × (List (Int × (List (Int × (Int × (Int × Int))))))))) =>
 (cond (decide (z11.2.1 < (lenI z11.2.2)))
  ((geti z11.2.2 z11.2.1).bind fun _ =>
  ((z11.2.2[z11.2.1.toNat]?).bind fun y13 =>
  ((geti (z11.2.2.set z11.2.1.toNat (z11.1, y13.2)) z11.2.1).bind fun _ =>
  (((z11.2.2.set z11.2.1.toNat (z11.1, y13.2))[z11.2.1.toNat]?).bind fun y14 =>
  (((z11.2.2.set z11.2.1.toNat (z11.1, y13.2))[z11.2.1.toNat]?).bind fun y15 =>
  ((m_laws_markLegS (y15.2, IntKind.wrap .i64 (z11.1 + (1 : Int)))).bind fun r16 =>
  rec12 (r16.1, IntKind.wrap .i64 (z11.2.1 + (1 : Int)), ((z11.2.2.set z11.2.1.toNat (z11.1, y13.2)).set z11.2.1.toNat (y15.1, r16.2)))))))))
  (some (z11.1, z11.2.2)))) n z0)
def p_laws_markContractS (n : Nat) (x : ((List (Int × (List (Int × (Int × (Int × Int)))))) × Int)) : Option (Int × (List (Int × (List (Int × (Int × (Int × Int))))))) :=
(l_laws_markContractS_1 n  (x.2, (0 : Int), x.1))
def m_laws_markContractS (x : ((List (Int × (List (Int × (Int × (Int × Int)))))) × Int)) : Option (Int × (List (Int × (List (Int × (Int × (Int × Int))))))) := p_laws_markContractS FU x
def a_laws_markContractS : Ann := (.node .leaf (.node (.node .leaf (.loop [.slot 1 (.int .i64), .slot 5 (.int .i64), .row 0 47 Kd9] [6, 7, 8, 9, 10, 11, 12, 13, 14, 15, 16, 17, 18, 19, 20, 21, 22, 23, 24, 25] .leaf)) .leaf))
def S_laws_markContractS : FSpec := ⟨[.row 47 Kd9, .val (.int .i64)], [(.int .i64)], m_laws_markContractS⟩

/-! laws.markInt64S -/
def l_laws_markInt64S_1 (n : Nat)  (z0 : (Int × (Int × (List Int)))) : Option (Int × (List Int)) :=
(lp (fun rec6 (z5 : (Int × (Int × (List Int)))) =>
 (cond (decide (z5.2.1 < (lenI z5.2.2)))
  ((geti z5.2.2 z5.2.1).bind fun _ =>
  ((z5.2.2[z5.2.1.toNat]?).bind fun y7 =>
  rec6 (IntKind.wrap .i64 (z5.1 + (1 : Int)), IntKind.wrap .i64 (z5.2.1 + (1 : Int)), (z5.2.2.set z5.2.1.toNat z5.1))))
  (some (z5.1, z5.2.2)))) n z0)
def p_laws_markInt64S (n : Nat) (x : ((List Int) × Int)) : Option (Int × (List Int)) :=
(l_laws_markInt64S_1 n  (x.2, (0 : Int), x.1))
def m_laws_markInt64S (x : ((List Int) × Int)) : Option (Int × (List Int)) := p_laws_markInt64S FU x
def a_laws_markInt64S : Ann := (.node .leaf (.node (.node .leaf (.loop [.slot 1 (.int .i64), .slot 5 (.int .i64), .row 0 2 (.int .i64)] [6, 7, 8, 9, 10, 11, 12, 13, 14, 15, 16, 17] .leaf)) .leaf))
def S_laws_markInt64S : FSpec := ⟨[.row 2 (.int .i64), .val (.int .i64)], [(.int .i64)], m_laws_markInt64S⟩

/-! laws.heldBalanceS -/
def l_laws_heldBalanceS_1 (n : Nat) (x_1 : (List (Int × (Int × Int)))) (z0 : (Int × Int)) : Option Int :=
(lp (fun rec6 (z5 : (Int × Int)) =>
 (cond (decide (z5.2 < (lenI x_1)))
  ((geti x_1 z5.2).bind fun y7 =>
  (cond (!(y7.1 == z5.1))
   (some (-1 : Int))
   ((geti x_1 z5.2).bind fun y8 =>
   (cond (!(y8.2.1 == (IntKind.wrap .i64 (z5.1 + (1 : Int)))))
    (some (-1 : Int))
    ((geti x_1 z5.2).bind fun y9 =>
    (cond (!(y9.2.2 == (IntKind.wrap .i64 ((IntKind.wrap .i64 (z5.1 + (1 : Int))) + (1 : Int)))))
     (some (-1 : Int))
     (rec6 (IntKind.wrap .i64 ((IntKind.wrap .i64 ((IntKind.wrap .i64 (z5.1 + (1 : Int))) + (1 : Int))) + (1 : Int)), IntKind.wrap .i64 (z5.2 + (1 : Int))))))))))
  (some z5.1))) n z0)
def p_laws_heldBalanceS (n : Nat) (x : ((List (Int × (Int × Int))) × Int)) : Option Int :=
(l_laws_heldBalanceS_1 n x.1 (x.2, (0 : Int)))
def m_laws_heldBalanceS (x : ((List (Int × (Int × Int))) × Int)) : Option Int := p_laws_heldBalanceS FU x
def a_laws_heldBalanceS : Ann := (.node .leaf (.node (.node .leaf (.loop [.slot 1 (.int .i64), .slot 5 (.int .i64)] [4, 6, 7, 8, 9, 10, 11, 12, 13, 14, 15, 16, 17, 18, 19, 20, 21, 22, 23, 24, 25, 26, 27, 28, 29, 30, 31, 32, 33, 34, 35, 36, 37, 38] .leaf)) .leaf))
def S_laws_heldBalanceS : FSpec := ⟨[.val Kd15, .val (.int .i64)], [(.int .i64)], m_laws_heldBalanceS⟩

/-! laws.heldMarkS -/
def l_laws_heldMarkS_1 (n : Nat) (x_1 : (List (Int × Int))) (z0 : (Int × Int)) : Option Int :=
(lp (fun rec5 (z4 : (Int × Int)) =>
 (cond (decide (z4.2 < (lenI x_1)))
  ((geti x_1 z4.2).bind fun y6 =>
  (cond (!(y6.1 == z4.1))
   (some (-1 : Int))
   ((geti x_1 z4.2).bind fun y7 =>
   (cond (!(y7.2 == (IntKind.wrap .i64 (z4.1 + (1 : Int)))))
    (some (-1 : Int))
    (rec5 (IntKind.wrap .i64 ((IntKind.wrap .i64 (z4.1 + (1 : Int))) + (1 : Int)), IntKind.wrap .i64 (z4.2 + (1 : Int))))))))
  (some z4.1))) n z0)
def p_laws_heldMarkS (n : Nat) (x : ((List (Int × Int)) × Int)) : Option Int :=
(l_laws_heldMarkS_1 n x.1 (x.2, (0 : Int)))
def m_laws_heldMarkS (x : ((List (Int × Int)) × Int)) : Option Int := p_laws_heldMarkS FU x
def a_laws_heldMarkS : Ann := (.node .leaf (.node (.node .leaf (.loop [.slot 1 (.int .i64), .slot 5 (.int .i64)] [4, 6, 7, 8, 9, 10, 11, 12, 13, 14, 15, 16, 17, 18, 19, 20, 21, 22, 23, 24, 25, 26, 27, 28, 29] .leaf)) .leaf))
def S_laws_heldMarkS : FSpec := ⟨[.val Kd18, .val (.int .i64)], [(.int .i64)], m_laws_heldMarkS⟩

/-! laws.heldLegS -/
def l_laws_heldLegS_1 (n : Nat) (x_1 : (List (Int × (Int × (Int × Int))))) (z0 : (Int × Int)) : Option Int :=
(lp (fun rec7 (z6 : (Int × Int)) =>
 (cond (decide (z6.2 < (lenI x_1)))
  ((geti x_1 z6.2).bind fun y8 =>
  (cond (!(y8.1 == z6.1))
   (some (-1 : Int))
   ((geti x_1 z6.2).bind fun y9 =>
   (cond (!(y9.2.1 == (IntKind.wrap .i64 (z6.1 + (1 : Int)))))
    (some (-1 : Int))
    ((geti x_1 z6.2).bind fun y10 =>
    (cond (!(y10.2.2.1 == (IntKind.wrap .i64 ((IntKind.wrap .i64 (z6.1 + (1 : Int))) + (1 : Int)))))
     (some (-1 : Int))
     ((geti x_1 z6.2).bind fun y11 =>
     (cond (!(y11.2.2.2 == (IntKind.wrap .i64 ((IntKind.wrap .i64 ((IntKind.wrap .i64 (z6.1 + (1 : Int))) + (1 : Int))) + (1 : Int)))))
      (some (-1 : Int))
      (rec7 (IntKind.wrap .i64 ((IntKind.wrap .i64 ((IntKind.wrap .i64 ((IntKind.wrap .i64 (z6.1 + (1 : Int))) + (1 : Int))) + (1 : Int))) + (1 : Int)), IntKind.wrap .i64 (z6.2 + (1 : Int))))))))))))
  (some z6.1))) n z0)
def p_laws_heldLegS (n : Nat) (x : ((List (Int × (Int × (Int × Int)))) × Int)) : Option Int :=
(l_laws_heldLegS_1 n x.1 (x.2, (0 : Int)))
def m_laws_heldLegS (x : ((List (Int × (Int × (Int × Int)))) × Int)) : Option Int := p_laws_heldLegS FU x
def a_laws_heldLegS : Ann := (.node .leaf (.node (.node .leaf (.loop [.slot 1 (.int .i64), .slot 5 (.int .i64)] [4, 6, 7, 8, 9, 10, 11, 12, 13, 14, 15, 16, 17, 18, 19, 20, 21, 22, 23, 24, 25, 26, 27, 28, 29, 30, 31, 32, 33, 34, 35, 36, 37, 38, 39, 40, 41, 42, 43, 44, 45, 46, 47] .leaf)) .leaf))
def S_laws_heldLegS : FSpec := ⟨[.val Kd12, .val (.int .i64)], [(.int .i64)], m_laws_heldLegS⟩

/-! laws.heldContractS -/
def l_laws_heldContractS_1 (n : Nat) (x_1 : (List (Int × (List (Int × (Int × (Int × Int))))))) (z0 : (Int × Int)) : Option Int :=
(lp (fun rec6 (z5 : (Int × Int)) =>
 (cond (decide (z5.2 < (lenI x_1)))
  ((geti x_1 z5.2).bind fun y7 =>
  (cond (!(y7.1 == z5.1))
   (some (-1 : Int))
   ((geti x_1 z5.2).bind fun y8 =>
   ((m_laws_heldLegS (y8.2, IntKind.wrap .i64 (z5.1 + (1 : Int)))).bind fun r9 =>
   (cond (decide (r9 < (0 : Int)))
    (some (-1 : Int))
    (rec6 (r9, IntKind.wrap .i64 (z5.2 + (1 : Int)))))))))
  (some z5.1))) n z0)
def p_laws_heldContractS (n : Nat) (x : ((List (Int × (List (Int × (Int × (Int × Int)))))) × Int)) : Option Int :=
(l_laws_heldContractS_1 n x.1 (x.2, (0 : Int)))
def m_laws_heldContractS (x : ((List (Int × (List (Int × (Int × (Int × Int)))))) × Int)) : Option Int := p_laws_heldContractS FU x
def a_laws_heldContractS : Ann := (.node .leaf (.node (.node .leaf (.loop [.slot 1 (.int .i64), .slot 5 (.int .i64)] [4, 6, 7, 8, 9, 10, 11, 12, 13, 14, 15, 16, 17, 18, 19, 20, 21, 22, 23, 24, 25, 26, 27, 28, 29] .leaf)) .leaf))
def S_laws_heldContractS : FSpec := ⟨[.val Kd8, .val (.int .i64)], [(.int .i64)], m_laws_heldContractS⟩

/-! laws.heldInt64S -/
def l_laws_heldInt64S_1 (n : Nat) (x_1 : (List Int)) (z0 : (Int × Int)) : Option Int :=
(lp (fun rec4 (z3 : (Int × Int)) =>
 (cond (decide (z3.2 < (lenI x_1)))
  ((geti x_1 z3.2).bind fun y5 =>
  (cond (!(y5 == z3.1))
   (some (-1 : Int))
   (rec4 (IntKind.wrap .i64 (z3.1 + (1 : Int)), IntKind.wrap .i64 (z3.2 + (1 : Int))))))
  (some z3.1))) n z0)
def p_laws_heldInt64S (n : Nat) (x : ((List Int) × Int)) : Option Int :=
(l_laws_heldInt64S_1 n x.1 (x.2, (0 : Int)))
def m_laws_heldInt64S (x : ((List Int) × Int)) : Option Int := p_laws_heldInt64S FU x
def a_laws_heldInt64S : Ann := (.node .leaf (.node (.node .leaf (.loop [.slot 1 (.int .i64), .slot 5 (.int .i64)] [4, 6, 7, 8, 9, 10, 11, 12, 13, 14, 15, 16, 17, 18, 19] .leaf)) .leaf))
def S_laws_heldInt64S : FSpec := ⟨[.val Kd21, .val (.int .i64)], [(.int .i64)], m_laws_heldInt64S⟩

/-! laws.heldShard -/
def p_laws_heldShard (n : Nat) (x : ((Int × ((List (Int × (Int × Int))) × ((List (Int × Int)) × ((List (Int × (List (Int × (Int × (Int × Int)))))) × ((List (Int × Int)) × (List Int)))))) × Int)) : Option Int :=
((m_laws_heldBalanceS (x.1.2.1, x.2)).bind fun r1 =>
(cond (decide (r1 < (0 : Int)))
 (some (-1 : Int))
 ((m_laws_heldMarkS (x.1.2.2.1, r1)).bind fun r2 =>
 (cond (decide (r2 < (0 : Int)))
  (some (-1 : Int))
  ((m_laws_heldContractS (x.1.2.2.2.1, r2)).bind fun r3 =>
  (cond (decide (r3 < (0 : Int)))
   (some (-1 : Int))
   ((m_laws_heldMarkS (x.1.2.2.2.2.1, r3)).bind fun r4 =>
   (cond (decide (r4 < (0 : Int)))
    (some (-1 : Int))
    ((m_laws_heldInt64S (x.1.2.2.2.2.2, r4)).bind fun r5 =>
    (cond (decide (r5 < (0 : Int)))
     (some (-1 : Int))
     (some r5)))))))))))
def m_laws_heldShard (x : ((Int × ((List (Int × (Int × Int))) × ((List (Int × Int)) × ((List (Int × (List (Int × (Int × (Int × Int)))))) × ((List (Int × Int)) × (List Int)))))) × Int)) : Option Int := p_laws_heldShard FU x
def a_laws_heldShard : Ann := .leaf
def S_laws_heldShard : FSpec := ⟨[.val Kd6, .val (.int .i64)], [(.int .i64)], m_laws_heldShard⟩

/-! laws.heldShardResult -/
def p_laws_heldShardResult (n : Nat) (x : ((Int × (Int × (Int × ((List (Int × (Int × Int))) × ((List (Int × Int)) × ((List (Int × (List (Int × (Int × (Int × Int)))))) × ((List (Int × Int)) × (List Int)))))))) × Int)) : Option Int :=
((m_laws_heldShard (x.1.2.2, x.2)).bind fun r1 =>
(cond (decide (r1 < (0 : Int)))
 (some (-1 : Int))
 (some r1)))
def m_laws_heldShardResult (x : ((Int × (Int × (Int × ((List (Int × (Int × Int))) × ((List (Int × Int)) × ((List (Int × (List (Int × (Int × (Int × Int)))))) × ((List (Int × Int)) × (List Int)))))))) × Int)) : Option Int := p_laws_heldShardResult FU x
def a_laws_heldShardResult : Ann := .leaf
def S_laws_heldShardResult : FSpec := ⟨[.val Kd3, .val (.int .i64)], [(.int .i64)], m_laws_heldShardResult⟩

/-! laws.FnExactVoteShard -/
def p_laws_FnExactVoteShard (n : Nat) (x : ((Int × ((List (Int × (Int × Int))) × ((List (Int × Int)) × ((List (Int × (List (Int × (Int × (Int × Int)))))) × ((List (Int × Int)) × (List Int)))))) × (Int × (List (Int × (Int × (Int × Int))))))) : Option Bool :=
((m_laws_szShard (x.1, (1048576 : Int))).bind fun r1 =>
(cond (decide (r1 < (0 : Int)))
 (some true)
 ((m_laws_szContract (x.2, r1)).bind fun r2 =>
 (cond (decide (r2 < (0 : Int)))
  (some true)
  (same
   ((m_laws_toShard x.1).bind fun r3 =>
   (same
    ((m_laws_toContract x.2).bind fun r4 =>
    (dup 1
     ((m_spec_VoteShard (r3, r4)).bind fun r5 =>
     ((m_laws_toShard x.1).bind fun r6 =>
     ((m_laws_toContract x.2).bind fun r7 =>
     ((m_impl_VoteShard (r6, r7)).bind fun r8 =>
     ((m_laws_eqShardResult (r8, r5)).bind fun r9 =>
     (cond (!r9)
      (some false)
      ((m_laws_toShard x.1).bind fun r10 =>
      ((m_laws_eqShard (r6, r10)).bind fun r11 =>
      (cond (!r11)
       (some false)
       ((m_laws_toContract x.2).bind fun r12 =>
       ((m_laws_eqContract (r7, r12)).bind fun r13 =>
       (cond (!r13)
        (some false)
        ((m_laws_markBalanceS (r6.2.1, (1 : Int))).bind fun r14 =>
        ((m_laws_markMarkS (r6.2.2.1, r14.1)).bind fun r15 =>
        ((m_laws_markContractS (r6.2.2.2.1, r15.1)).bind fun r16 =>
        ((m_laws_markMarkS (r6.2.2.2.2.1, r16.1)).bind fun r17 =>
        ((m_laws_markInt64S (r6.2.2.2.2.2, r17.1)).bind fun r18 =>
        ((m_laws_markLegS (r7.2, r18.1)).bind fun r19 =>
        (Option.bind (α := Bool)
         (cond (decide (r19.1 < (0 : Int)))
          (some true)
          ((m_laws_eqShardResult (r8, r5)).bind fun r21 =>
          some (!r21))) fun j22 =>
        (cond j22
         (some false)
         ((m_laws_markBalanceS (r8.2.2.2.1, (1 : Int))).bind fun r23 =>
         ((m_laws_markMarkS (r8.2.2.2.2.1, r23.1)).bind fun r24 =>
         ((m_laws_markContractS (r8.2.2.2.2.2.1, r24.1)).bind fun r25 =>
         ((m_laws_markMarkS (r8.2.2.2.2.2.2.1, r25.1)).bind fun r26 =>
         ((m_laws_markInt64S (r8.2.2.2.2.2.2.2, r26.1)).bind fun r27 =>
         ((m_laws_heldShardResult ((r8.1, (r8.2.1, (r8.2.2.1, (r23.2, (r24.2, (r25.2, (r26.2, r27.2))))))), (1 : Int))).bind fun r28 =>
         (cond (decide (r28 < (0 : Int)))
          (some false)
          (cond (!(r28 == r27.1))
           (some false)
           (same
            ((m_laws_toShard x.1).bind fun r29 =>
            (same
             ((m_laws_toContract x.2).bind fun r30 =>
             (dup 1
              ((m_impl_VoteShard (r29, r30)).bind fun r31 =>
              ((m_laws_eqShardResult (r31, r5)).bind fun r32 =>
              (cond (!r32)
               (some false)
               ((m_laws_heldShardResult ((r8.1, (r8.2.1, (r8.2.2.1, (r23.2, (r24.2, (r25.2, (r26.2, r27.2))))))), (1 : Int))).bind fun r33 =>
               (cond (decide (r33 < (0 : Int)))
                (some false)
                (cond (!(r33 == r27.1))
                 (some false)
                 (some true)))))))))
             ((m_laws_toContract x.2).bind fun r30 =>
             ((m_impl_VoteShard (r29, r30)).bind fun r31 =>
             ((m_laws_eqShardResult (r31, r5)).bind fun r32 =>
             (cond (!r32)
              (some false)
              ((m_laws_heldShardResult ((r8.1, (r8.2.1, (r8.2.2.1, (r23.2, (r24.2, (r25.2, (r26.2, r27.2))))))), (1 : Int))).bind fun r33 =>
              (cond (decide (r33 < (0 : Int)))
               (some false)
               (cond (!(r33 == r27.1))
                (some false)
                (some true))))))))))
            ((m_laws_toShard x.1).bind fun r29 =>
            ((m_laws_toContract x.2).bind fun r30 =>
            ((m_impl_VoteShard (r29, r30)).bind fun r31 =>
            ((m_laws_eqShardResult (r31, r5)).bind fun r32 =>
            (cond (!r32)
             (some false)
             ((m_laws_heldShardResult ((r8.1, (r8.2.1, (r8.2.2.1, (r23.2, (r24.2, (r25.2, (r26.2, r27.2))))))), (1 : Int))).bind fun r33 =>
             (cond (decide (r33 < (0 : Int)))
              (some false)
              (cond (!(r33 == r27.1))
               (some false)
               (some true))))))))))))))))))))))))))))))))))))))))
    ((m_laws_toContract x.2).bind fun r4 =>
    ((m_spec_VoteShard (r3, r4)).bind fun r5 =>
    ((m_laws_toShard x.1).bind fun r6 =>
    ((m_laws_toContract x.2).bind fun r7 =>
    ((m_impl_VoteShard (r6, r7)).bind fun r8 =>
    ((m_laws_eqShardResult (r8, r5)).bind fun r9 =>
    (cond (!r9)
     (some false)
     ((m_laws_toShard x.1).bind fun r10 =>
     ((m_laws_eqShard (r6, r10)).bind fun r11 =>
     (cond (!r11)
      (some false)
      ((m_laws_toContract x.2).bind fun r12 =>
      ((m_laws_eqContract (r7, r12)).bind fun r13 =>
      (cond (!r13)
       (some false)
       ((m_laws_markBalanceS (r6.2.1, (1 : Int))).bind fun r14 =>
       ((m_laws_markMarkS (r6.2.2.1, r14.1)).bind fun r15 =>
       ((m_laws_markContractS (r6.2.2.2.1, r15.1)).bind fun r16 =>
       ((m_laws_markMarkS (r6.2.2.2.2.1, r16.1)).bind fun r17 =>
       ((m_laws_markInt64S (r6.2.2.2.2.2, r17.1)).bind fun r18 =>
       ((m_laws_markLegS (r7.2, r18.1)).bind fun r19 =>
       (Option.bind (α := Bool)
        (cond (decide (r19.1 < (0 : Int)))
         (some true)
         ((m_laws_eqShardResult (r8, r5)).bind fun r21 =>
         some (!r21))) fun j22 =>
       (cond j22
        (some false)
        ((m_laws_markBalanceS (r8.2.2.2.1, (1 : Int))).bind fun r23 =>
        ((m_laws_markMarkS (r8.2.2.2.2.1, r23.1)).bind fun r24 =>
        ((m_laws_markContractS (r8.2.2.2.2.2.1, r24.1)).bind fun r25 =>
        ((m_laws_markMarkS (r8.2.2.2.2.2.2.1, r25.1)).bind fun r26 =>
        ((m_laws_markInt64S (r8.2.2.2.2.2.2.2, r26.1)).bind fun r27 =>
        ((m_laws_heldShardResult ((r8.1, (r8.2.1, (r8.2.2.1, (r23.2, (r24.2, (r25.2, (r26.2, r27.2))))))), (1 : Int))).bind fun r28 =>
        (cond (decide (r28 < (0 : Int)))
         (some false)
         (cond (!(r28 == r27.1))
          (some false)
          (same
           ((m_laws_toShard x.1).bind fun r29 =>
           (same
            ((m_laws_toContract x.2).bind fun r30 =>
            (dup 1
             ((m_impl_VoteShard (r29, r30)).bind fun r31 =>
             ((m_laws_eqShardResult (r31, r5)).bind fun r32 =>
             (cond (!r32)
              (some false)
              ((m_laws_heldShardResult ((r8.1, (r8.2.1, (r8.2.2.1, (r23.2, (r24.2, (r25.2, (r26.2, r27.2))))))), (1 : Int))).bind fun r33 =>
              (cond (decide (r33 < (0 : Int)))
               (some false)
               (cond (!(r33 == r27.1))
                (some false)
                (some true)))))))))
            ((m_laws_toContract x.2).bind fun r30 =>
            ((m_impl_VoteShard (r29, r30)).bind fun r31 =>
            ((m_laws_eqShardResult (r31, r5)).bind fun r32 =>
            (cond (!r32)
             (some false)
             ((m_laws_heldShardResult ((r8.1, (r8.2.1, (r8.2.2.1, (r23.2, (r24.2, (r25.2, (r26.2, r27.2))))))), (1 : Int))).bind fun r33 =>
             (cond (decide (r33 < (0 : Int)))
              (some false)
              (cond (!(r33 == r27.1))
               (some false)
               (some true))))))))))
           ((m_laws_toShard x.1).bind fun r29 =>
           ((m_laws_toContract x.2).bind fun r30 =>
           ((m_impl_VoteShard (r29, r30)).bind fun r31 =>
           ((m_laws_eqShardResult (r31, r5)).bind fun r32 =>
           (cond (!r32)
            (some false)
            ((m_laws_heldShardResult ((r8.1, (r8.2.1, (r8.2.2.1, (r23.2, (r24.2, (r25.2, (r26.2, r27.2))))))), (1 : Int))).bind fun r33 =>
            (cond (decide (r33 < (0 : Int)))
             (some false)
             (cond (!(r33 == r27.1))
              (some false)
              (some true)))))))))))))))))))))))))))))))))))))))))
   ((m_laws_toShard x.1).bind fun r3 =>
   ((m_laws_toContract x.2).bind fun r4 =>
   ((m_spec_VoteShard (r3, r4)).bind fun r5 =>
   ((m_laws_toShard x.1).bind fun r6 =>
   ((m_laws_toContract x.2).bind fun r7 =>
   ((m_impl_VoteShard (r6, r7)).bind fun r8 =>
   ((m_laws_eqShardResult (r8, r5)).bind fun r9 =>
   (cond (!r9)
    (some false)
    ((m_laws_toShard x.1).bind fun r10 =>
    ((m_laws_eqShard (r6, r10)).bind fun r11 =>
    (cond (!r11)
     (some false)
     ((m_laws_toContract x.2).bind fun r12 =>
     ((m_laws_eqContract (r7, r12)).bind fun r13 =>
     (cond (!r13)
      (some false)
      ((m_laws_markBalanceS (r6.2.1, (1 : Int))).bind fun r14 =>
      ((m_laws_markMarkS (r6.2.2.1, r14.1)).bind fun r15 =>
      ((m_laws_markContractS (r6.2.2.2.1, r15.1)).bind fun r16 =>
      ((m_laws_markMarkS (r6.2.2.2.2.1, r16.1)).bind fun r17 =>
      ((m_laws_markInt64S (r6.2.2.2.2.2, r17.1)).bind fun r18 =>
      ((m_laws_markLegS (r7.2, r18.1)).bind fun r19 =>
      (Option.bind (α := Bool)
       (cond (decide (r19.1 < (0 : Int)))
        (some true)
        ((m_laws_eqShardResult (r8, r5)).bind fun r21 =>
        some (!r21))) fun j22 =>
      (cond j22
       (some false)
       ((m_laws_markBalanceS (r8.2.2.2.1, (1 : Int))).bind fun r23 =>
       ((m_laws_markMarkS (r8.2.2.2.2.1, r23.1)).bind fun r24 =>
       ((m_laws_markContractS (r8.2.2.2.2.2.1, r24.1)).bind fun r25 =>
       ((m_laws_markMarkS (r8.2.2.2.2.2.2.1, r25.1)).bind fun r26 =>
       ((m_laws_markInt64S (r8.2.2.2.2.2.2.2, r26.1)).bind fun r27 =>
       ((m_laws_heldShardResult ((r8.1, (r8.2.1, (r8.2.2.1, (r23.2, (r24.2, (r25.2, (r26.2, r27.2))))))), (1 : Int))).bind fun r28 =>
       (cond (decide (r28 < (0 : Int)))
        (some false)
        (cond (!(r28 == r27.1))
         (some false)
         (same
          ((m_laws_toShard x.1).bind fun r29 =>
          (same
           ((m_laws_toContract x.2).bind fun r30 =>
           (dup 1
            ((m_impl_VoteShard (r29, r30)).bind fun r31 =>
            ((m_laws_eqShardResult (r31, r5)).bind fun r32 =>
            (cond (!r32)
             (some false)
             ((m_laws_heldShardResult ((r8.1, (r8.2.1, (r8.2.2.1, (r23.2, (r24.2, (r25.2, (r26.2, r27.2))))))), (1 : Int))).bind fun r33 =>
             (cond (decide (r33 < (0 : Int)))
              (some false)
              (cond (!(r33 == r27.1))
               (some false)
               (some true)))))))))
           ((m_laws_toContract x.2).bind fun r30 =>
           ((m_impl_VoteShard (r29, r30)).bind fun r31 =>
           ((m_laws_eqShardResult (r31, r5)).bind fun r32 =>
           (cond (!r32)
            (some false)
            ((m_laws_heldShardResult ((r8.1, (r8.2.1, (r8.2.2.1, (r23.2, (r24.2, (r25.2, (r26.2, r27.2))))))), (1 : Int))).bind fun r33 =>
            (cond (decide (r33 < (0 : Int)))
             (some false)
             (cond (!(r33 == r27.1))
              (some false)
              (some true))))))))))
          ((m_laws_toShard x.1).bind fun r29 =>
          ((m_laws_toContract x.2).bind fun r30 =>
          ((m_impl_VoteShard (r29, r30)).bind fun r31 =>
          ((m_laws_eqShardResult (r31, r5)).bind fun r32 =>
          (cond (!r32)
           (some false)
           ((m_laws_heldShardResult ((r8.1, (r8.2.1, (r8.2.2.1, (r23.2, (r24.2, (r25.2, (r26.2, r27.2))))))), (1 : Int))).bind fun r33 =>
           (cond (decide (r33 < (0 : Int)))
            (some false)
            (cond (!(r33 == r27.1))
             (some false)
             (some true)))))))))))))))))))))))))))))))))))))))))))))
def m_laws_FnExactVoteShard (x : ((Int × ((List (Int × (Int × Int))) × ((List (Int × Int)) × ((List (Int × (List (Int × (Int × (Int × Int)))))) × ((List (Int × Int)) × (List Int)))))) × (Int × (List (Int × (Int × (Int × Int))))))) : Option Bool := p_laws_FnExactVoteShard FU x
def a_laws_FnExactVoteShard : Ann := (.node .leaf (.node .leaf (.node .leaf (.node .leaf (.node .leaf (.node .leaf (.node .leaf (.node .leaf (.node .leaf (.node .leaf (.node .leaf (.node .leaf (.node .leaf (.node .leaf (.node .leaf (.node .leaf (.node (.join [.slot 63 .bool] [56, 57, 58, 59, 60, 61, 62] .leaf .leaf) .leaf)))))))))))))))))
def S_laws_FnExactVoteShard : FSpec := ⟨[.val Kd6, .val Kd10], [.bool], m_laws_FnExactVoteShard⟩

def T : Tab := [
  (2, ⟨false, 1, 8, [], 0, [.int .i64 0], some (.int .i64), [0]⟩),
  (3, ⟨false, 1, 8, [], 0, [.int .i64 0], some (.int .i64), [0]⟩),
  (23, ⟨false, 1, 24, [], 2, [.nil], some Kd21, []⟩),
  (38, ⟨false, 1, 24, [], 224, [.nil], some Kd12, []⟩),
  (40, ⟨true, 2, 32, [(0, 1, 2), (1, 1, 38)], 0, [.int .i64 0, .nil], some Kd10, []⟩),
  (45, ⟨false, 1, 24, [], 194, [.nil], some Kd12, []⟩),
  (47, ⟨true, 2, 32, [(0, 1, 2), (1, 1, 45)], 0, [.int .i64 0, .nil], some Kd10, []⟩),
  (60, ⟨false, 1, 24, [], 40, [.nil], some Kd8, []⟩),
  (72, ⟨false, 1, 24, [], 47, [.nil], some Kd8, []⟩),
  (85, ⟨false, 1, 24, [], 265, [.nil], some Kd15, []⟩),
  (86, ⟨false, 1, 24, [], 267, [.nil], some Kd18, []⟩),
  (88, ⟨true, 6, 128, [(0, 1, 2), (1, 1, 85), (2, 1, 86), (3, 1, 60), (4, 1, 86), (5, 1, 23)], 0, [.int .i64 0, .nil, .nil, .nil, .nil, .nil], some Kd6, []⟩),
  (91, ⟨false, 1, 24, [], 263, [.nil], some Kd15, []⟩),
  (92, ⟨false, 1, 24, [], 185, [.nil], some Kd18, []⟩),
  (94, ⟨true, 6, 128, [(0, 1, 2), (1, 1, 91), (2, 1, 92), (3, 1, 72), (4, 1, 92), (5, 1, 23)], 0, [.int .i64 0, .nil, .nil, .nil, .nil, .nil], some Kd6, []⟩),
  (105, ⟨true, 8, 144, [(0, 1, 2), (1, 1, 2), (2, 6, 94)], 0, [.int .i64 0, .int .i64 0, .int .i64 0, .nil, .nil, .nil, .nil, .nil], some Kd3, []⟩),
  (185, ⟨true, 2, 16, [(0, 1, 2), (1, 1, 2)], 0, [.int .i64 0, .int .i64 0], some Kd19, [0, 0]⟩),
  (194, ⟨true, 4, 32, [(0, 1, 2), (1, 1, 2), (2, 1, 2), (3, 1, 2)], 0, [.int .i64 0, .int .i64 0, .int .i64 0, .int .i64 0], some Kd13, [0, 0, 0, 0]⟩),
  (224, ⟨true, 4, 32, [(0, 1, 2), (1, 1, 2), (2, 1, 2), (3, 1, 2)], 0, [.int .i64 0, .int .i64 0, .int .i64 0, .int .i64 0], some Kd13, [0, 0, 0, 0]⟩),
  (226, ⟨false, 1, 8, [(2, 0, 2)], 0, [.undef], none, []⟩),
  (263, ⟨true, 3, 24, [(0, 1, 2), (1, 1, 2), (2, 1, 2)], 0, [.int .i64 0, .int .i64 0, .int .i64 0], some Kd16, [0, 0, 0]⟩),
  (265, ⟨true, 3, 24, [(0, 1, 2), (1, 1, 2), (2, 1, 2)], 0, [.int .i64 0, .int .i64 0, .int .i64 0], some Kd16, [0, 0, 0]⟩),
  (267, ⟨true, 2, 16, [(0, 1, 2), (1, 1, 2)], 0, [.int .i64 0, .int .i64 0], some Kd19, [0, 0]⟩),
  (309, ⟨false, 1, 8, [], 0, [.int .u64 0], some (.int .u64), [0]⟩),
  (370, ⟨false, 1, 24, [], 3, [.nil], some Kd21, []⟩)]
def G_laws_szBalanceS : Env := (116, S_laws_szBalanceS) :: []
def G_laws_szMarkS : Env := (117, S_laws_szMarkS) :: G_laws_szBalanceS
def G_laws_szLegS : Env := (85, S_laws_szLegS) :: G_laws_szMarkS
def G_laws_szContract : Env := (23, S_laws_szContract) :: G_laws_szLegS
def G_laws_szContractS : Env := (96, S_laws_szContractS) :: G_laws_szContract
def G_laws_szInt64S : Env := (118, S_laws_szInt64S) :: G_laws_szContractS
def G_laws_szShard : Env := (40, S_laws_szShard) :: G_laws_szInt64S
def G_laws_toBalance : Env := (218, S_laws_toBalance) :: G_laws_szShard
def G_laws_toBalanceS : Env := (122, S_laws_toBalanceS) :: G_laws_toBalance
def G_laws_toMark : Env := (219, S_laws_toMark) :: G_laws_toBalanceS
def G_laws_toMarkS : Env := (123, S_laws_toMarkS) :: G_laws_toMark
def G_laws_toLeg : Env := (185, S_laws_toLeg) :: G_laws_toMarkS
def G_laws_toLegS : Env := (89, S_laws_toLegS) :: G_laws_toLeg
def G_laws_toContract : Env := (25, S_laws_toContract) :: G_laws_toLegS
def G_laws_toContractS : Env := (101, S_laws_toContractS) :: G_laws_toContract
def G_laws_toInt64S : Env := (14, S_laws_toInt64S) :: G_laws_toContractS
def G_laws_toShard : Env := (42, S_laws_toShard) :: G_laws_toInt64S
def G_spec_l1In : Env := (63, S_spec_l1In) :: G_laws_toShard
def G_spec_l2Key : Env := (135, S_spec_l2Key) :: G_spec_l1In
def G_spec_BalancesFault : Env := (212, S_spec_BalancesFault) :: G_spec_l2Key
def G_spec_l10Base : Env := (119, S_spec_l10Base) :: G_spec_BalancesFault
def G_spec_l1Id : Env := (181, S_spec_l1Id) :: G_spec_l10Base
def G_spec_l10Marks : Env := (120, S_spec_l10Marks) :: G_spec_l1Id
def G_spec_LegFault : Env := (182, S_spec_LegFault) :: G_spec_l10Marks
def G_spec_ContractFault : Env := (87, S_spec_ContractFault) :: G_spec_LegFault
def G_spec_l1Legs : Env := (137, S_spec_l1Legs) :: G_spec_ContractFault
def G_spec_l10Find : Env := (213, S_spec_l10Find) :: G_spec_l1Legs
def G_spec_l10IsHeld : Env := (214, S_spec_l10IsHeld) :: G_spec_l10Find
def G_spec_l1Has : Env := (273, S_spec_l1Has) :: G_spec_l10IsHeld
def G_spec_l10Applied : Env := (215, S_spec_l10Applied) :: G_spec_l1Has
def G_spec_l10Touch : Env := (216, S_spec_l10Touch) :: G_spec_l10Applied
def G_spec_l2Has : Env := (136, S_spec_l2Has) :: G_spec_l10Touch
def G_spec_l2Legs : Env := (217, S_spec_l2Legs) :: G_spec_l2Has
def G_spec_l10Held : Env := (121, S_spec_l10Held) :: G_spec_l2Legs
def G_spec_ShardFault : Env := (41, S_spec_ShardFault) :: G_spec_l10Held
def G_spec_l10Contract : Env := (237, S_spec_l10Contract) :: G_spec_ShardFault
def G_spec_l10Copy : Env := (235, S_spec_l10Copy) :: G_spec_l10Contract
def G_spec_l10Ready : Env := (236, S_spec_l10Ready) :: G_spec_l10Copy
def G_spec_l10Mark : Env := (238, S_spec_l10Mark) :: G_spec_l10Ready
def G_spec_l10Vote : Env := (147, S_spec_l10Vote) :: G_spec_l10Mark
def G_spec_VoteShard : Env := (53, S_spec_VoteShard) :: G_spec_l10Vote
def G_impl_within : Env := (106, S_impl_within) :: G_spec_VoteShard
def G_impl_isShard : Env := (124, S_impl_isShard) :: G_impl_within
def G_impl_isAsset : Env := (233, S_impl_isAsset) :: G_impl_isShard
def G_impl_isPlace : Env := (139, S_impl_isPlace) :: G_impl_isAsset
def G_cmp_isNaN_int64 : Env := (334, S_cmp_isNaN_int64) :: G_impl_isPlace
def G_cmp_Compare_int64 : Env := (282, S_cmp_Compare_int64) :: G_cmp_isNaN_int64
def G_cmp_Or_int : Env := (281, S_cmp_Or_int) :: G_cmp_Compare_int64
def G_impl_comparePlaces : Env := (220, S_impl_comparePlaces) :: G_cmp_Or_int
def G_impl_BalancesFault : Env := (125, S_impl_BalancesFault) :: G_impl_comparePlaces
def G_impl_isId : Env := (163, S_impl_isId) :: G_impl_BalancesFault
def G_impl_isValue : Env := (74, S_impl_isValue) :: G_impl_isId
def G_impl_isOutcome : Env := (127, S_impl_isOutcome) :: G_impl_isValue
def G_impl_size_impl_Leg : Env := (186, S_impl_size_impl_Leg) :: G_impl_isOutcome
def G_impl_LegFault : Env := (187, S_impl_LegFault) :: G_impl_size_impl_Leg
def G_impl_samePlace : Env := (190, S_impl_samePlace) :: G_impl_LegFault
def G_impl_ContractFault : Env := (90, S_impl_ContractFault) :: G_impl_samePlace
def G_impl_legsAt : Env := (141, S_impl_legsAt) :: G_impl_ContractFault
def G_impl_markAt_1 : Env := (336, S_impl_markAt_1) :: G_impl_legsAt
def G_impl_markAt : Env := (283, S_impl_markAt) :: G_impl_markAt_1
def G_impl_markOf : Env := (221, S_impl_markOf) :: G_impl_markAt
def G_impl_Shard_heldFault : Env := (128, S_impl_Shard_heldFault) :: G_impl_markOf
def G_impl_firstOf : Env := (70, S_impl_firstOf) :: G_impl_Shard_heldFault
def G_impl_Shard_heldAt_1 : Env := (285, S_impl_Shard_heldAt_1) :: G_impl_firstOf
def G_impl_Shard_heldAt : Env := (223, S_impl_Shard_heldAt) :: G_impl_Shard_heldAt_1
def G_impl_Shard_isOpen : Env := (130, S_impl_Shard_isOpen) :: G_impl_Shard_heldAt
def G_slices_Sorted_int64 : Env := (225, S_slices_Sorted_int64) :: G_impl_Shard_isOpen
def G_slices_Equal_int64_int64 : Env := (224, S_slices_Equal_int64_int64) :: G_slices_Sorted_int64
def G_impl_Shard_appliedOk : Env := (131, S_impl_Shard_appliedOk) :: G_slices_Equal_int64_int64
def G_impl_Shard_legsMeet : Env := (229, S_impl_Shard_legsMeet) :: G_impl_Shard_appliedOk
def G_impl_amountIn : Env := (140, S_impl_amountIn) :: G_impl_Shard_legsMeet
def G_impl_legCode : Env := (290, S_impl_legCode) :: G_impl_amountIn
def G_impl_Shard_fits : Env := (230, S_impl_Shard_fits) :: G_impl_legCode
def G_impl_Shard_heldTogether : Env := (132, S_impl_Shard_heldTogether) :: G_impl_Shard_fits
def G_impl_ShardFault : Env := (43, S_impl_ShardFault) :: G_impl_Shard_heldTogether
def G_slices_Clone_impl_Balance_impl_Balance : Env := (291, S_slices_Clone_impl_Balance_impl_Balance) :: G_impl_ShardFault
def G_slices_Clone_impl_Mark_impl_Mark : Env := (292, S_slices_Clone_impl_Mark_impl_Mark) :: G_slices_Clone_impl_Balance_impl_Balance
def G_slices_Clone_impl_Leg_impl_Leg : Env := (298, S_slices_Clone_impl_Leg_impl_Leg) :: G_slices_Clone_impl_Mark_impl_Mark
def G_impl_copyContract : Env := (242, S_impl_copyContract) :: G_slices_Clone_impl_Leg_impl_Leg
def G_impl_copyContracts : Env := (293, S_impl_copyContracts) :: G_impl_copyContract
def G_slices_Clone_int64_int64 : Env := (294, S_slices_Clone_int64_int64) :: G_impl_copyContracts
def G_impl_copyShard : Env := (239, S_impl_copyShard) :: G_slices_Clone_int64_int64
def G_impl_Shard_isReady : Env := (240, S_impl_Shard_isReady) :: G_impl_copyShard
def G_slices_Insert_impl_Contract_impl_Contract : Env := (241, S_slices_Insert_impl_Contract_impl_Contract) :: G_impl_Shard_isReady
def G_slices_Insert_impl_Mark_impl_Mark : Env := (299, S_slices_Insert_impl_Mark_impl_Mark) :: G_slices_Insert_impl_Contract_impl_Contract
def G_impl_withMark : Env := (243, S_impl_withMark) :: G_slices_Insert_impl_Mark_impl_Mark
def G_impl_Shard_vote : Env := (148, S_impl_Shard_vote) :: G_impl_withMark
def G_impl_VoteShard : Env := (54, S_impl_VoteShard) :: G_impl_Shard_vote
def G_laws_eqBalance : Env := (231, S_laws_eqBalance) :: G_impl_VoteShard
def G_laws_eqBalanceS : Env := (133, S_laws_eqBalanceS) :: G_laws_eqBalance
def G_laws_eqMark : Env := (232, S_laws_eqMark) :: G_laws_eqBalanceS
def G_laws_eqMarkS : Env := (134, S_laws_eqMarkS) :: G_laws_eqMark
def G_laws_eqLeg : Env := (193, S_laws_eqLeg) :: G_laws_eqMarkS
def G_laws_eqLegS : Env := (92, S_laws_eqLegS) :: G_laws_eqLeg
def G_laws_eqContract : Env := (28, S_laws_eqContract) :: G_laws_eqLegS
def G_laws_eqContractS : Env := (112, S_laws_eqContractS) :: G_laws_eqContract
def G_laws_eqInt64S : Env := (18, S_laws_eqInt64S) :: G_laws_eqContractS
def G_laws_eqShard : Env := (44, S_laws_eqShard) :: G_laws_eqInt64S
def G_laws_eqShardResult : Env := (55, S_laws_eqShardResult) :: G_laws_eqShard
def G_laws_markBalanceS : Env := (143, S_laws_markBalanceS) :: G_laws_eqShardResult
def G_laws_markMarkS : Env := (144, S_laws_markMarkS) :: G_laws_markBalanceS
def G_laws_markLegS : Env := (149, S_laws_markLegS) :: G_laws_markMarkS
def G_laws_markContractS : Env := (145, S_laws_markContractS) :: G_laws_markLegS
def G_laws_markInt64S : Env := (20, S_laws_markInt64S) :: G_laws_markContractS
def G_laws_heldBalanceS : Env := (244, S_laws_heldBalanceS) :: G_laws_markInt64S
def G_laws_heldMarkS : Env := (245, S_laws_heldMarkS) :: G_laws_heldBalanceS
def G_laws_heldLegS : Env := (300, S_laws_heldLegS) :: G_laws_heldMarkS
def G_laws_heldContractS : Env := (246, S_laws_heldContractS) :: G_laws_heldLegS
def G_laws_heldInt64S : Env := (146, S_laws_heldInt64S) :: G_laws_heldContractS
def G_laws_heldShard : Env := (150, S_laws_heldShard) :: G_laws_heldInt64S
def G_laws_heldShardResult : Env := (58, S_laws_heldShardResult) :: G_laws_heldShard
def G_laws_FnExactVoteShard : Env := (10, S_laws_FnExactVoteShard) :: G_laws_heldShardResult
end
end Go.RvP
