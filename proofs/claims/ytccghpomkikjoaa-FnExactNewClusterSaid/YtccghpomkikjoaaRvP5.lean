/- The plain functions that the evaluator comes to, for FnExactNewCluster. No condition. -/
import Derived.Test.YtccghpomkikjoaaRvL
namespace Go.RvP
open Go Go.Rv
noncomputable section
/-! laws.szBalanceS -/
def p_laws_szBalanceS (n : Nat) (x : ((List (Int × (Int × Int))) × Int)) : Option Int :=
(cond (decide ((IntKind.wrap .i64 (x.2 - (lenI x.1))) < (0 : Int)))
 (some (-1 : Int))
 (some (IntKind.wrap .i64 (x.2 - (lenI x.1)))))
def m_laws_szBalanceS (x : ((List (Int × (Int × Int))) × Int)) : Option Int := p_laws_szBalanceS FU x
def a_laws_szBalanceS : Ann := .leaf
def S_laws_szBalanceS : FSpec := ⟨[.val (.sl none (.pair (.int .i64) (.pair (.int .i64) (.int .i64)))), .val (.int .i64)], [(.int .i64)], m_laws_szBalanceS⟩

/-! laws.szBalanceSS -/
def l_laws_szBalanceSS_1 (n : Nat) (x_1 : (List (List (Int × (Int × Int))))) (z0 : (Int × Int)) : Option Int :=
(lp (fun rec5 (z4 : (Int × Int)) =>
 (cond (decide (z4.2 < (lenI x_1)))
  ((geti x_1 z4.2).bind fun y6 =>
  ((m_laws_szBalanceS (y6, z4.1)).bind fun r7 =>
  (cond (decide (r7 < (0 : Int)))
   (some (-1 : Int))
   (rec5 (r7, IntKind.wrap .i64 (z4.2 + (1 : Int)))))))
  (some z4.1))) n z0)
def p_laws_szBalanceSS (n : Nat) (x : ((List (List (Int × (Int × Int)))) × Int)) : Option Int :=
(cond (decide ((IntKind.wrap .i64 (x.2 - (lenI x.1))) < (0 : Int)))
 (some (-1 : Int))
 (l_laws_szBalanceSS_1 n x.1 (IntKind.wrap .i64 (x.2 - (lenI x.1)), (0 : Int))))
def m_laws_szBalanceSS (x : ((List (List (Int × (Int × Int)))) × Int)) : Option Int := p_laws_szBalanceSS FU x
def a_laws_szBalanceSS : Ann := (.node .leaf (.node .leaf (.node .leaf (.node (.node .leaf (.loop [.slot 1 (.int .i64), .slot 5 (.int .i64)] [4, 12, 13, 14, 15, 16, 17, 18, 19, 20, 21, 22, 23, 24, 25] .leaf)) .leaf))))
def S_laws_szBalanceSS : FSpec := ⟨[.val (.sl none (.sl none (.pair (.int .i64) (.pair (.int .i64) (.int .i64))))), .val (.int .i64)], [(.int .i64)], m_laws_szBalanceSS⟩

/-! laws.szLedger -/
def p_laws_szLedger (n : Nat) (x : ((List (List (Int × (Int × Int)))) × Int)) : Option Int :=
((m_laws_szBalanceSS (x.1, x.2)).bind fun r1 =>
(cond (decide (r1 < (0 : Int)))
 (some (-1 : Int))
 (some r1)))
def m_laws_szLedger (x : ((List (List (Int × (Int × Int)))) × Int)) : Option Int := p_laws_szLedger FU x
def a_laws_szLedger : Ann := .leaf
def S_laws_szLedger : FSpec := ⟨[.val (.one (.sl none (.sl none (.pair (.int .i64) (.pair (.int .i64) (.int .i64)))))), .val (.int .i64)], [(.int .i64)], m_laws_szLedger⟩

/-! laws.toBalance -/
def p_laws_toBalance (n : Nat) (x : (Int × (Int × Int))) : Option (Int × (Int × Int)) :=
some x
def m_laws_toBalance (x : (Int × (Int × Int))) : Option (Int × (Int × Int)) := p_laws_toBalance FU x
def a_laws_toBalance : Ann := .leaf
def S_laws_toBalance : FSpec := ⟨[.val (.pair (.int .i64) (.pair (.int .i64) (.int .i64)))], [(.pair (.int .i64) (.pair (.int .i64) (.int .i64)))], m_laws_toBalance⟩

/-! laws.toBalanceS -/
def l_laws_toBalanceS_1 (n : Nat) (x : (List (Int × (Int × Int)))) (z0 : (Int × (List (Int × (Int × Int))))) : Option (List (Int × (Int × Int))) :=
(lp (fun rec10 (z9 : (Int × (List (Int × (Int × Int))))) =>
 (cond (decide (z9.1 < (lenI x)))
  ((geti x z9.1).bind fun y11 =>
  ((m_laws_toBalance y11).bind fun r12 =>
  ((geti z9.2 z9.1).bind fun _ =>
  ((z9.2[z9.1.toNat]?).bind fun y13 =>
  rec10 (IntKind.wrap .i64 (z9.1 + (1 : Int)), (z9.2.set z9.1.toNat r12))))))
  (some z9.2))) n z0)
def p_laws_toBalanceS (n : Nat) (x : (List (Int × (Int × Int)))) : Option (List (Int × (Int × Int))) :=
(if (lenI x) = (lenI x) then (if 0 ≤ (lenI x) then chk (Nat.ble (24 * (lenI x).toNat) maxBytes)
(l_laws_toBalanceS_1 n x ((0 : Int), (List.replicate (lenI x).toNat ((0 : Int), ((0 : Int), (0 : Int)))))) else none) else none)
def m_laws_toBalanceS (x : (List (Int × (Int × Int)))) : Option (List (Int × (Int × Int))) := p_laws_toBalanceS FU x
def a_laws_toBalanceS : Ann := (.node .leaf (.node .leaf (.node (.node .leaf (.loop [.slot 4 (.int .i64), .row 0 116 (.pair (.int .i64) (.pair (.int .i64) (.int .i64)))] [8, 9, 10, 11, 12, 13, 14, 15, 16, 17, 18, 19, 20, 21] .leaf)) .leaf)))
def S_laws_toBalanceS : FSpec := ⟨[.val (.sl none (.pair (.int .i64) (.pair (.int .i64) (.int .i64))))], [(.sl (some 116) (.pair (.int .i64) (.pair (.int .i64) (.int .i64))))], m_laws_toBalanceS⟩

/-! laws.toBalanceSS -/
def l_laws_toBalanceSS_1 (n : Nat) (x : (List (List (Int × (Int × Int))))) (z0 : (Int × (List (List (Int × (Int × Int)))))) : Option (List (List (Int × (Int × Int)))) :=
(lp (fun rec8 (z7 : (Int × (List (List (Int × (Int × Int)))))) =>
 (cond (decide (z7.1 < (lenI x)))
  ((geti x z7.1).bind fun y9 =>
  ((m_laws_toBalanceS y9).bind fun r10 =>
  ((geti z7.2 z7.1).bind fun _ =>
  ((z7.2[z7.1.toNat]?).bind fun _ =>
  rec8 (IntKind.wrap .i64 (z7.1 + (1 : Int)), (z7.2.set z7.1.toNat r10))))))
  (some z7.2))) n z0)
def p_laws_toBalanceSS (n : Nat) (x : (List (List (Int × (Int × Int))))) : Option (List (List (Int × (Int × Int)))) :=
(if (lenI x) = (lenI x) then (if 0 ≤ (lenI x) then chk (Nat.ble (24 * (lenI x).toNat) maxBytes)
(l_laws_toBalanceSS_1 n x ((0 : Int), (List.replicate (lenI x).toNat []))) else none) else none)
def m_laws_toBalanceSS (x : (List (List (Int × (Int × Int))))) : Option (List (List (Int × (Int × Int)))) := p_laws_toBalanceSS FU x
def a_laws_toBalanceSS : Ann := (.node .leaf (.node (.own 7 (.sl (some 116) (.pair (.int .i64) (.pair (.int .i64) (.int .i64)))) .leaf) (.node (.node .leaf (.loop [.slot 4 (.int .i64), .row 0 106 (.sl (some 116) (.pair (.int .i64) (.pair (.int .i64) (.int .i64))))] [8, 9, 10, 11, 12, 13, 14, 15, 16, 17, 18, 19, 20, 21] .leaf)) .leaf)))
def S_laws_toBalanceSS : FSpec := ⟨[.val (.sl none (.sl none (.pair (.int .i64) (.pair (.int .i64) (.int .i64)))))], [(.sl (some 106) (.sl (some 116) (.pair (.int .i64) (.pair (.int .i64) (.int .i64)))))], m_laws_toBalanceSS⟩

/-! laws.toLedger -/
def p_laws_toLedger (n : Nat) (x : (List (List (Int × (Int × Int))))) : Option (List (List (Int × (Int × Int)))) :=
((m_laws_toBalanceSS x).bind fun r1 =>
some r1)
def m_laws_toLedger (x : (List (List (Int × (Int × Int))))) : Option (List (List (Int × (Int × Int)))) := p_laws_toLedger FU x
def a_laws_toLedger : Ann := .leaf
def S_laws_toLedger : FSpec := ⟨[.val (.one (.sl none (.sl none (.pair (.int .i64) (.pair (.int .i64) (.int .i64))))))], [(.one (.sl (some 106) (.sl (some 116) (.pair (.int .i64) (.pair (.int .i64) (.int .i64))))))], m_laws_toLedger⟩

/-! spec.l1In -/
def p_spec_l1In (n : Nat) (x : (Int × (Int × Int))) : Option Bool :=
(cond (decide (x.1 ≥ x.2.1))
 (some (decide (x.1 ≤ x.2.2)))
 (some false))
def m_spec_l1In (x : (Int × (Int × Int))) : Option Bool := p_spec_l1In FU x
def a_spec_l1In : Ann := .leaf
def S_spec_l1In : FSpec := ⟨[.val (.int .i64), .val (.int .i64), .val (.int .i64)], [.bool], m_spec_l1In⟩

/-! spec.l2Key -/
def p_spec_l2Key (n : Nat) (x : (Int × Int)) : Option Bool :=
((m_spec_l1In (x.1, (0 : Int), (5 : Int))).bind fun r1 =>
(cond r1
 ((m_spec_l1In (x.2, (0 : Int), (2 : Int))).bind fun r2 =>
 some r2)
 (some false)))
def m_spec_l2Key (x : (Int × Int)) : Option Bool := p_spec_l2Key FU x
def a_spec_l2Key : Ann := .leaf
def S_spec_l2Key : FSpec := ⟨[.val (.int .i64), .val (.int .i64)], [.bool], m_spec_l2Key⟩

/-! spec.BalancesFault -/
def l_spec_BalancesFault_1 (n : Nat) (x : (List (Int × (Int × Int)))) (z0 : Int) : Option Int :=
(lp (fun rec14 (z13 : Int) =>
 (cond (decide (z13 < (lenI x)))
  ((geti x z13).bind fun y15 =>
  (Option.bind (α := Bool)
   ((m_spec_l2Key (y15.1, y15.2.1)).bind fun r18 =>
   (cond (!r18)
    (some true)
    ((m_spec_l1In (y15.2.2, (1 : Int), (1000000000000 : Int))).bind fun r19 =>
    some (!r19)))) fun j20 =>
  (cond j20
   (some (3 : Int))
   (Option.bind (α := Bool)
    (cond (decide (z13 > (0 : Int)))
     ((geti x (IntKind.wrap .i64 (z13 - (1 : Int)))).bind fun y23 =>
     ((geti x (IntKind.wrap .i64 (z13 - (1 : Int)))).bind fun y24 =>
     some (decide ((IntKind.wrap .i64 ((IntKind.wrap .i64 (y15.1 * (3 : Int))) + y15.2.1)) ≤ (IntKind.wrap .i64 ((IntKind.wrap .i64 (y23.1 * (3 : Int))) + y24.2.1))))))
     (some false)) fun j25 =>
   (cond j25
    (some (1 : Int))
    (rec14 (IntKind.wrap .i64 (z13 + (1 : Int)))))))))
  (some (0 : Int)))) n z0)
def p_spec_BalancesFault (n : Nat) (x : (List (Int × (Int × Int)))) : Option Int :=
(cond (decide ((lenI x) > (18 : Int)))
 (some (2 : Int))
 (l_spec_BalancesFault_1 n x (0 : Int)))
def m_spec_BalancesFault (x : (List (Int × (Int × Int)))) : Option Int := p_spec_BalancesFault FU x
def a_spec_BalancesFault : Ann := (.node .leaf (.node .leaf (.node (.node .leaf (.loop [.slot 3 (.int .i64)] [2, 4, 8, 9, 10, 11, 12, 13, 14, 15, 16, 17, 18, 19, 20, 21, 22, 23, 24, 25, 26, 27, 28, 29, 30, 31, 32, 33, 34, 35, 36, 37, 38, 39, 40, 41, 42, 43, 44, 45, 46, 47, 48, 49, 50, 51, 52, 53, 54] (.node .leaf (.node (.node .leaf (.node (.join [.slot 29 .bool] [18, 19, 20, 21, 22, 23, 24, 25, 26, 27, 28] .leaf .leaf) (.join [.slot 54 .bool] [30, 31, 32, 33, 34, 35, 36, 37, 38, 39, 40, 41, 42, 43, 44, 45, 46, 47, 48, 49, 50, 51, 52, 53] .leaf .leaf))) .leaf)))) .leaf)))
def S_spec_BalancesFault : FSpec := ⟨[.val (.sl none (.pair (.int .i64) (.pair (.int .i64) (.int .i64))))], [(.int .i64)], m_spec_BalancesFault⟩

/-! spec.LedgerFault -/
def l_spec_LedgerFault_1 (n : Nat) (x : (List (List (Int × (Int × Int))))) (z0 : Int) : Option Int :=
(lp (fun rec6 (z5 : Int) =>
 (cond (decide (z5 < (lenI x)))
  ((geti x z5).bind fun y7 =>
  ((m_spec_BalancesFault y7).bind fun r8 =>
  (cond (!(r8 == (0 : Int)))
   (some r8)
   (rec6 (IntKind.wrap .i64 (z5 + (1 : Int)))))))
  (some (0 : Int)))) n z0)
def p_spec_LedgerFault (n : Nat) (x : (List (List (Int × (Int × Int))))) : Option Int :=
(Option.bind (α := Bool)
 (cond (decide ((lenI x) < (1 : Int)))
  (some true)
  (some (decide ((lenI x) > (3 : Int))))) fun j1 =>
(cond j1
 (some (2 : Int))
 (l_spec_LedgerFault_1 n x (0 : Int))))
def m_spec_LedgerFault (x : (List (List (Int × (Int × Int))))) : Option Int := p_spec_LedgerFault FU x
def a_spec_LedgerFault : Ann := (.node .leaf (.node (.join [.slot 14 .bool] [5, 6, 7, 8, 9, 10, 11, 12, 13] .leaf .leaf) (.node (.node .leaf (.loop [.slot 3 (.int .i64)] [2, 4, 15, 16, 17, 18, 19, 20, 21, 22, 23, 24, 25, 26, 27, 28, 29, 30] .leaf)) .leaf)))
def S_spec_LedgerFault : FSpec := ⟨[.val (.one (.sl none (.sl none (.pair (.int .i64) (.pair (.int .i64) (.int .i64))))))], [(.int .i64)], m_spec_LedgerFault⟩

/-! spec.l10Base -/
def p_spec_l10Base (n : Nat) (x : (Int × (List (Int × (Int × Int))))) : Option Int :=
((m_spec_l1In (x.1, (0 : Int), (2 : Int))).bind fun r1 =>
(cond (!r1)
 (some (3 : Int))
 ((m_spec_BalancesFault x.2).bind fun r2 =>
 some r2)))
def m_spec_l10Base (x : (Int × (List (Int × (Int × Int))))) : Option Int := p_spec_l10Base FU x
def a_spec_l10Base : Ann := .leaf
def S_spec_l10Base : FSpec := ⟨[.val (.int .i64), .val (.sl none (.pair (.int .i64) (.pair (.int .i64) (.int .i64))))], [(.int .i64)], m_spec_l10Base⟩

/-! spec.NewShard -/
def p_spec_NewShard (n : Nat) (x : (Int × (List (Int × (Int × Int))))) : Option (Int × (Int × (Int × ((List (Int × (Int × Int))) × ((List (Int × Int)) × ((List (Int × (List (Int × (Int × (Int × Int)))))) × ((List (Int × Int)) × (List Int)))))))) :=
((m_spec_l10Base (x.1, x.2)).bind fun r1 =>
(cond (!(r1 == (0 : Int)))
 (some (r1, ((0 : Int), ((0 : Int), ([], ([], ([], ([], []))))))))
 (chk (Nat.ble ((([] : List (Int × (Int × Int))).length + x.2.length) * 24) maxBytes)
 (some ((0 : Int), ((0 : Int), (x.1, ((([] : List (Int × (Int × Int))) ++ x.2), ([], ([], ([], [])))))))))))
def m_spec_NewShard (x : (Int × (List (Int × (Int × Int))))) : Option (Int × (Int × (Int × ((List (Int × (Int × Int))) × ((List (Int × Int)) × ((List (Int × (List (Int × (Int × (Int × Int)))))) × ((List (Int × Int)) × (List Int)))))))) := p_spec_NewShard FU x
def a_spec_NewShard : Ann := .leaf
def S_spec_NewShard : FSpec := ⟨[.val (.int .i64), .val (.sl none (.pair (.int .i64) (.pair (.int .i64) (.int .i64))))], [(.pair (.int .i64) (.pair (.int .i64) (.pair (.int .i64) (.pair (.sl (some 116) (.pair (.int .i64) (.pair (.int .i64) (.int .i64)))) (.pair (.sl (some 232) (.pair (.int .i64) (.int .i64))) (.pair (.sl (some 187) (.pair (.int .i64) (.sl none (.pair (.int .i64) (.pair (.int .i64) (.pair (.int .i64) (.int .i64))))))) (.pair (.sl (some 232) (.pair (.int .i64) (.int .i64))) (.sl (some 2) (.int .i64)))))))))], m_spec_NewShard⟩

/-! spec.NewCluster -/
def l_spec_NewCluster_1 (n : Nat) (x_1 : (List (List (Int × (Int × Int))))) (z0 : (Int × ((List (Int × (List (Int × (Int × (Int × Int)))))) × ((List (Int × ((List (Int × (Int × Int))) × ((List (Int × Int)) × ((List (Int × (List (Int × (Int × (Int × Int)))))) × ((List (Int × Int)) × (List Int))))))) × ((List (List (Int × (Int × (Int × ((Int × Int) × (List (Int × Int)))))))) × ((List (Int × ((List (Int × (Int × (Int × (Int × ((List Int) × (List (Int × Int)))))))) × (List (Int × (Int × (Int × (Int × Int)))))))) × (List (Int × (Int × (Int × (Int × (Int × (Int × (Int × (Int × Int))))))))))))))) : Option (Int × ((List (Int × (List (Int × (Int × (Int × Int)))))) × ((List (Int × ((List (Int × (Int × Int))) × ((List (Int × Int)) × ((List (Int × (List (Int × (Int × (Int × Int)))))) × ((List (Int × Int)) × (List Int))))))) × ((List (List (Int × (Int × (Int × ((Int × Int) × (List (Int × Int)))))))) × ((List (Int × ((List (Int × (Int × (Int × (Int × ((List Int) × (List (Int × Int)))))))) × (List (Int × (Int × (Int × (Int × Int)))))))) × (List (Int × (Int × (Int × (Int × (Int × (Int × (Int × (Int × Int)))))))))))))) :=
(lp (fun rec13 (z12 : (Int × ((List (Int × (List (Int × (Int × (Int × Int)))))) × ((List (Int × ((List (Int × (Int × Int))) × ((List (Int × Int)) × ((List (Int × (List (Int × (Int × (Int × Int)))))) × ((List (Int × Int)) × (List Int))))))) × ((List (List (Int × (Int × (Int × ((Int × Int) × (List (Int × Int)))))))) × ((List (Int × ((List (Int × (Int × (Int × (Int × ((List Int) × (List (Int × Int)))))))) × (List (Int × (Int × (Int × (Int × Int)))))))) × (List (Int × (Int × (Int × (Int × (Int × (Int × (Int × (Int × Int))))))))))))))) =>
 (cond (decide (z12.1 < (lenI x_1)))
  ((geti x_1 z12.1).bind fun y14 =>
  ((m_spec_NewShard (z12.1, y14)).bind fun r15 =>
  (chk (Nat.ble ((z12.2.2.1.length + [r15.2.2].length) * 128) maxBytes)
  (rec13 (IntKind.wrap .i64 (z12.1 + (1 : Int)), (z12.2.1, ((z12.2.2.1 ++ [r15.2.2]), z12.2.2.2)))))))
  (some ((0 : Int), z12.2)))) n z0)
def p_spec_NewCluster (n : Nat) (x : ((List (List (Int × (Int × Int)))) × Int)) : Option (Int × ((List (Int × (List (Int × (Int × (Int × Int)))))) × ((List (Int × ((List (Int × (Int × Int))) × ((List (Int × Int)) × ((List (Int × (List (Int × (Int × (Int × Int)))))) × ((List (Int × Int)) × (List Int))))))) × ((List (List (Int × (Int × (Int × ((Int × Int) × (List (Int × Int)))))))) × ((List (Int × ((List (Int × (Int × (Int × (Int × ((List Int) × (List (Int × Int)))))))) × (List (Int × (Int × (Int × (Int × Int)))))))) × (List (Int × (Int × (Int × (Int × (Int × (Int × (Int × (Int × Int)))))))))))))) :=
((m_spec_LedgerFault x.1).bind fun r1 =>
(cond (!(r1 == (0 : Int)))
 (some (r1, ([], ([], ([], ([], []))))))
 ((m_spec_l1In (x.2, (1 : Int), (5 : Int))).bind fun r2 =>
 (cond (!r2)
  (some ((3 : Int), ([], ([], ([], ([], []))))))
  (same
   (same
    (if x.2 = x.2 then (if 0 ≤ x.2 then chk (Nat.ble (24 * x.2.toNat) maxBytes)
    (dup 1
     (if (2 : Int) = (2 : Int) then (if 0 ≤ (2 : Int) then chk (Nat.ble (56 * (2 : Int).toNat) maxBytes)
     (l_spec_NewCluster_1 n x.1 ((0 : Int), ([], ([], ((List.replicate x.2.toNat []), ((List.replicate (2 : Int).toNat ((0 : Int), ([], []))), [])))))) else none) else none)) else none) else none)
    (if (2 : Int) = (2 : Int) then (if 0 ≤ (2 : Int) then chk (Nat.ble (56 * (2 : Int).toNat) maxBytes)
    (dup 1
     (if x.2 = x.2 then (if 0 ≤ x.2 then chk (Nat.ble (24 * x.2.toNat) maxBytes)
     (l_spec_NewCluster_1 n x.1 ((0 : Int), ([], ([], ((List.replicate x.2.toNat []), ((List.replicate (2 : Int).toNat ((0 : Int), ([], []))), [])))))) else none) else none)) else none) else none))
   (same
    (if x.2 = x.2 then (if 0 ≤ x.2 then chk (Nat.ble (24 * x.2.toNat) maxBytes)
    (if (2 : Int) = (2 : Int) then (if 0 ≤ (2 : Int) then chk (Nat.ble (56 * (2 : Int).toNat) maxBytes)
    (l_spec_NewCluster_1 n x.1 ((0 : Int), ([], ([], ((List.replicate x.2.toNat []), ((List.replicate (2 : Int).toNat ((0 : Int), ([], []))), [])))))) else none) else none) else none) else none)
    (if (2 : Int) = (2 : Int) then (if 0 ≤ (2 : Int) then chk (Nat.ble (56 * (2 : Int).toNat) maxBytes)
    (if x.2 = x.2 then (if 0 ≤ x.2 then chk (Nat.ble (24 * x.2.toNat) maxBytes)
    (l_spec_NewCluster_1 n x.1 ((0 : Int), ([], ([], ((List.replicate x.2.toNat []), ((List.replicate (2 : Int).toNat ((0 : Int), ([], []))), [])))))) else none) else none) else none) else none)))))))
def m_spec_NewCluster (x : ((List (List (Int × (Int × Int)))) × Int)) : Option (Int × ((List (Int × (List (Int × (Int × (Int × Int)))))) × ((List (Int × ((List (Int × (Int × Int))) × ((List (Int × Int)) × ((List (Int × (List (Int × (Int × (Int × Int)))))) × ((List (Int × Int)) × (List Int))))))) × ((List (List (Int × (Int × (Int × ((Int × Int) × (List (Int × Int)))))))) × ((List (Int × ((List (Int × (Int × (Int × (Int × ((List Int) × (List (Int × Int)))))))) × (List (Int × (Int × (Int × (Int × Int)))))))) × (List (Int × (Int × (Int × (Int × (Int × (Int × (Int × (Int × Int)))))))))))))) := p_spec_NewCluster FU x
def a_spec_NewCluster : Ann := (.node .leaf (.node .leaf (.node .leaf (.node .leaf (.node (.node .leaf (.loop [.slot 7 (.int .i64), .box 1000006 (.pair (.sl (some 187) (.pair (.int .i64) (.sl none (.pair (.int .i64) (.pair (.int .i64) (.pair (.int .i64) (.int .i64))))))) (.pair (.sl (some 109) (.pair (.int .i64) (.pair (.sl none (.pair (.int .i64) (.pair (.int .i64) (.int .i64)))) (.pair (.sl none (.pair (.int .i64) (.int .i64))) (.pair (.sl none (.pair (.int .i64) (.sl none (.pair (.int .i64) (.pair (.int .i64) (.pair (.int .i64) (.int .i64))))))) (.pair (.sl none (.pair (.int .i64) (.int .i64))) (.sl none (.int .i64)))))))) (.pair (.sl (some 80) (.one (.sl none (.pair (.int .i64) (.pair (.int .i64) (.pair (.int .i64) (.pair (.pair (.int .i64) (.int .i64)) (.sl none (.pair (.int .i64) (.int .i64)))))))))) (.pair (.sl (some 193) (.pair (.int .i64) (.pair (.sl none (.pair (.int .i64) (.pair (.int .i64) (.pair (.int .i64) (.pair (.int .i64) (.pair (.sl none (.int .i64)) (.sl none (.pair (.int .i64) (.int .i64))))))))) (.sl none (.pair (.int .i64) (.pair (.int .i64) (.pair (.int .i64) (.pair (.int .i64) (.int .i64))))))))) (.sl (some 196) (.pair (.int .i64) (.pair (.int .i64) (.pair (.int .i64) (.pair (.int .i64) (.pair (.int .i64) (.pair (.int .i64) (.pair (.int .i64) (.pair (.int .i64) (.int .i64))))))))))))))] [22, 23, 24, 25, 26, 27, 28, 29, 30, 31, 32, 33, 34, 35, 36, 37, 38, 39, 40, 41] .leaf)) .leaf)))))
def S_spec_NewCluster : FSpec := ⟨[.val (.one (.sl none (.sl none (.pair (.int .i64) (.pair (.int .i64) (.int .i64)))))), .val (.int .i64)], [(.pair (.int .i64) (.pair (.sl (some 187) (.pair (.int .i64) (.sl none (.pair (.int .i64) (.pair (.int .i64) (.pair (.int .i64) (.int .i64))))))) (.pair (.sl (some 109) (.pair (.int .i64) (.pair (.sl none (.pair (.int .i64) (.pair (.int .i64) (.int .i64)))) (.pair (.sl none (.pair (.int .i64) (.int .i64))) (.pair (.sl none (.pair (.int .i64) (.sl none (.pair (.int .i64) (.pair (.int .i64) (.pair (.int .i64) (.int .i64))))))) (.pair (.sl none (.pair (.int .i64) (.int .i64))) (.sl none (.int .i64)))))))) (.pair (.sl (some 80) (.one (.sl none (.pair (.int .i64) (.pair (.int .i64) (.pair (.int .i64) (.pair (.pair (.int .i64) (.int .i64)) (.sl none (.pair (.int .i64) (.int .i64)))))))))) (.pair (.sl (some 193) (.pair (.int .i64) (.pair (.sl none (.pair (.int .i64) (.pair (.int .i64) (.pair (.int .i64) (.pair (.int .i64) (.pair (.sl none (.int .i64)) (.sl none (.pair (.int .i64) (.int .i64))))))))) (.sl none (.pair (.int .i64) (.pair (.int .i64) (.pair (.int .i64) (.pair (.int .i64) (.int .i64))))))))) (.sl (some 196) (.pair (.int .i64) (.pair (.int .i64) (.pair (.int .i64) (.pair (.int .i64) (.pair (.int .i64) (.pair (.int .i64) (.pair (.int .i64) (.pair (.int .i64) (.int .i64)))))))))))))))], m_spec_NewCluster⟩

/-! impl.Balance] -/
def p_impl_size_impl_Balance (n : Nat) (x : (List (List (Int × (Int × Int))))) : Option Int :=
some (lenI x)
def m_impl_size_impl_Balance (x : (List (List (Int × (Int × Int))))) : Option Int := p_impl_size_impl_Balance FU x
def a_impl_size_impl_Balance : Ann := .leaf
def S_impl_size_impl_Balance : FSpec := ⟨[.val (.sl none (.sl none (.pair (.int .i64) (.pair (.int .i64) (.int .i64)))))], [(.int .i64)], m_impl_size_impl_Balance⟩

/-! impl.within -/
def p_impl_within (n : Nat) (x : (Int × (Int × Int))) : Option Bool :=
(cond (decide (x.1 ≥ x.2.1))
 (some (decide (x.1 ≤ x.2.2)))
 (some false))
def m_impl_within (x : (Int × (Int × Int))) : Option Bool := p_impl_within FU x
def a_impl_within : Ann := .leaf
def S_impl_within : FSpec := ⟨[.val (.int .i64), .val (.int .i64), .val (.int .i64)], [.bool], m_impl_within⟩

/-! impl.isAsset -/
def p_impl_isAsset (n : Nat) (x : Int) : Option Bool :=
((m_impl_within (x, (0 : Int), (2 : Int))).bind fun r1 =>
some r1)
def m_impl_isAsset (x : Int) : Option Bool := p_impl_isAsset FU x
def a_impl_isAsset : Ann := .leaf
def S_impl_isAsset : FSpec := ⟨[.val (.int .i64)], [.bool], m_impl_isAsset⟩

/-! impl.isPlace -/
def p_impl_isPlace (n : Nat) (x : (Int × Int)) : Option Bool :=
((m_impl_within (x.1, (0 : Int), (5 : Int))).bind fun r1 =>
(cond r1
 ((m_impl_isAsset x.2).bind fun r2 =>
 some r2)
 (some false)))
def m_impl_isPlace (x : (Int × Int)) : Option Bool := p_impl_isPlace FU x
def a_impl_isPlace : Ann := .leaf
def S_impl_isPlace : FSpec := ⟨[.val (.int .i64), .val (.int .i64)], [.bool], m_impl_isPlace⟩

/-! cmp.isNaN[int64] -/
def p_cmp_isNaN_int64 (n : Nat) (x : Int) : Option Bool :=
some (!(x == x))
def m_cmp_isNaN_int64 (x : Int) : Option Bool := p_cmp_isNaN_int64 FU x
def a_cmp_isNaN_int64 : Ann := .leaf
def S_cmp_isNaN_int64 : FSpec := ⟨[.val (.int .i64)], [.bool], m_cmp_isNaN_int64⟩

/-! cmp.Compare[int64] -/
def p_cmp_Compare_int64 (n : Nat) (x : (Int × Int)) : Option Int :=
((m_cmp_isNaN_int64 x.1).bind fun r1 =>
((m_cmp_isNaN_int64 x.2).bind fun r2 =>
(cond r1
 (cond r2
  (some (0 : Int))
  (some (-1 : Int)))
 (cond r2
  (some (1 : Int))
  (cond (decide (x.1 < x.2))
   (some (-1 : Int))
   (cond (decide (x.1 > x.2))
    (some (1 : Int))
    (some (0 : Int))))))))
def m_cmp_Compare_int64 (x : (Int × Int)) : Option Int := p_cmp_Compare_int64 FU x
def a_cmp_Compare_int64 : Ann := .leaf
def S_cmp_Compare_int64 : FSpec := ⟨[.val (.int .i64), .val (.int .i64)], [(.int .i64)], m_cmp_Compare_int64⟩

/-! cmp.Or[int] -/
def l_cmp_Or_int_1 (n : Nat) (x : (List Int)) (z0 : Int) : Option Int :=
(lp (fun rec4 (z3 : Int) =>
 (cond (decide (z3 < (lenI x)))
  ((geti x z3).bind fun y5 =>
  (cond (!(y5 == (0 : Int)))
   (some y5)
   (rec4 (IntKind.wrap .i64 (z3 + (1 : Int))))))
  (some (0 : Int)))) n z0)
def p_cmp_Or_int (n : Nat) (x : (List Int)) : Option Int :=
(l_cmp_Or_int_1 n x (0 : Int))
def m_cmp_Or_int (x : (List Int)) : Option Int := p_cmp_Or_int FU x
def a_cmp_Or_int : Ann := (.node .leaf (.node .leaf (.node (.node .leaf (.loop [.slot 8 (.int .i64)] [2, 5, 9, 10, 11, 12, 13, 14, 15, 16] .leaf)) .leaf)))
def S_cmp_Or_int : FSpec := ⟨[.val (.sl none (.int .i64))], [(.int .i64)], m_cmp_Or_int⟩

/-! impl.comparePlaces -/
def p_impl_comparePlaces (n : Nat) (x : ((Int × (Int × Int)) × (Int × (Int × Int)))) : Option Int :=
((m_cmp_Compare_int64 (x.1.1, x.2.1)).bind fun r1 =>
((m_cmp_Compare_int64 (x.1.2.1, x.2.2.1)).bind fun r2 =>
((m_cmp_Or_int [r1, r2]).bind fun r3 =>
some r3)))
def m_impl_comparePlaces (x : ((Int × (Int × Int)) × (Int × (Int × Int)))) : Option Int := p_impl_comparePlaces FU x
def a_impl_comparePlaces : Ann := (.node .leaf (.node (.lazy 15 .leaf) .leaf))
def S_impl_comparePlaces : FSpec := ⟨[.val (.pair (.int .i64) (.pair (.int .i64) (.int .i64))), .val (.pair (.int .i64) (.pair (.int .i64) (.int .i64)))], [(.int .i64)], m_impl_comparePlaces⟩

/-! impl.BalancesFault -/
def l_impl_BalancesFault_1 (n : Nat) (x : (List (Int × (Int × Int)))) (z0 : Int) : Option Int :=
(lp (fun rec14 (z13 : Int) =>
 (cond (decide (z13 < (lenI x)))
  ((geti x z13).bind fun y15 =>
  (Option.bind (α := Bool)
   ((m_impl_isPlace (y15.1, y15.2.1)).bind fun r18 =>
   (cond (!r18)
    (some true)
    ((m_impl_within (y15.2.2, (1 : Int), (1000000000000 : Int))).bind fun r19 =>
    some (!r19)))) fun j20 =>
  (cond j20
   (some (3 : Int))
   (Option.bind (α := Bool)
    (cond (decide (z13 > (0 : Int)))
     ((geti x (IntKind.wrap .i64 (z13 - (1 : Int)))).bind fun y23 =>
     ((m_impl_comparePlaces (y23, y15)).bind fun r24 =>
     some (decide (r24 ≥ (0 : Int)))))
     (some false)) fun j25 =>
   (cond j25
    (some (1 : Int))
    (rec14 (IntKind.wrap .i64 (z13 + (1 : Int)))))))))
  (some (0 : Int)))) n z0)
def p_impl_BalancesFault (n : Nat) (x : (List (Int × (Int × Int)))) : Option Int :=
(cond (decide ((lenI x) > (18 : Int)))
 (some (2 : Int))
 (l_impl_BalancesFault_1 n x (0 : Int)))
def m_impl_BalancesFault (x : (List (Int × (Int × Int)))) : Option Int := p_impl_BalancesFault FU x
def a_impl_BalancesFault : Ann := (.node .leaf (.node .leaf (.node (.node .leaf (.loop [.slot 10 (.int .i64)] [2, 3, 4, 11, 12, 13, 14, 15, 16, 17, 18, 19, 20, 21, 22, 23, 24, 25, 26, 27, 28, 29, 30, 31, 32, 33, 34, 35, 36, 37, 38, 39, 40, 41] (.node .leaf (.node .leaf (.node (.node .leaf (.join [.slot 15 .bool] [16, 17, 18, 19, 20, 21, 22, 23, 24, 25, 26, 27] .leaf (.node .leaf (.join [.slot 28 .bool] [29, 30, 31, 32, 33, 34, 35, 36, 37, 38, 39, 40] .leaf .leaf)))) .leaf))))) .leaf)))
def S_impl_BalancesFault : FSpec := ⟨[.val (.sl none (.pair (.int .i64) (.pair (.int .i64) (.int .i64))))], [(.int .i64)], m_impl_BalancesFault⟩

/-! impl.LedgerFault -/
def l_impl_LedgerFault_1 (n : Nat) (x : (List (List (Int × (Int × Int))))) (z0 : Int) : Option Int :=
(lp (fun rec7 (z6 : Int) =>
 (cond (decide (z6 < (lenI x)))
  ((geti x z6).bind fun y8 =>
  ((m_impl_BalancesFault y8).bind fun r9 =>
  (cond (!(r9 == (0 : Int)))
   (some r9)
   (rec7 (IntKind.wrap .i64 (z6 + (1 : Int)))))))
  (some (0 : Int)))) n z0)
def p_impl_LedgerFault (n : Nat) (x : (List (List (Int × (Int × Int))))) : Option Int :=
((m_impl_size_impl_Balance x).bind fun r1 =>
((m_impl_within (r1, (1 : Int), (3 : Int))).bind fun r2 =>
(cond (!r2)
 (some (2 : Int))
 (l_impl_LedgerFault_1 n x (0 : Int)))))
def m_impl_LedgerFault (x : (List (List (Int × (Int × Int))))) : Option Int := p_impl_LedgerFault FU x
def a_impl_LedgerFault : Ann := (.node .leaf (.node .leaf (.node (.node .leaf (.loop [.slot 14 (.int .i64)] [2, 4, 5, 15, 16, 17, 18, 19, 20, 21, 22, 23] .leaf)) .leaf)))
def S_impl_LedgerFault : FSpec := ⟨[.val (.one (.sl none (.sl none (.pair (.int .i64) (.pair (.int .i64) (.int .i64))))))], [(.int .i64)], m_impl_LedgerFault⟩

/-! impl.Balance] -/
def p_slices_Clone_impl_Balance_impl_Balance (n : Nat) (x : (List (Int × (Int × Int)))) : Option (List (Int × (Int × Int))) :=
(cond (List.isEmpty x)
 (same
  (some [])
  (chk (Nat.ble ((([] : List (Int × (Int × Int))).length + x.length) * 24) maxBytes)
  (some (([] : List (Int × (Int × Int))) ++ x))))
 (chk (Nat.ble ((([] : List (Int × (Int × Int))).length + x.length) * 24) maxBytes)
 (some (([] : List (Int × (Int × Int))) ++ x))))
def m_slices_Clone_impl_Balance_impl_Balance (x : (List (Int × (Int × Int)))) : Option (List (Int × (Int × Int))) := p_slices_Clone_impl_Balance_impl_Balance FU x
def a_slices_Clone_impl_Balance_impl_Balance : Ann := .leaf
def S_slices_Clone_impl_Balance_impl_Balance : FSpec := ⟨[.val (.sl none (.pair (.int .i64) (.pair (.int .i64) (.int .i64))))], [(.sl (some 116) (.pair (.int .i64) (.pair (.int .i64) (.int .i64))))], m_slices_Clone_impl_Balance_impl_Balance⟩

/-! impl.NewCluster -/
def l_impl_NewCluster_1 (n : Nat) (x_1 : (List (List (Int × (Int × Int))))) (z0 : (Int × ((List (Int × (List (Int × (Int × (Int × Int)))))) × ((List (Int × ((List (Int × (Int × Int))) × ((List (Int × Int)) × ((List (Int × (List (Int × (Int × (Int × Int)))))) × ((List (Int × Int)) × (List Int))))))) × ((List (List (Int × (Int × (Int × ((Int × Int) × (List (Int × Int)))))))) × ((List (Int × ((List (Int × (Int × (Int × (Int × ((List Int) × (List (Int × Int)))))))) × (List (Int × (Int × (Int × (Int × Int)))))))) × (List (Int × (Int × (Int × (Int × (Int × (Int × (Int × (Int × Int))))))))))))))) : Option (Int × ((List (Int × (List (Int × (Int × (Int × Int)))))) × ((List (Int × ((List (Int × (Int × Int))) × ((List (Int × Int)) × ((List (Int × (List (Int × (Int × (Int × Int)))))) × ((List (Int × Int)) × (List Int))))))) × ((List (List (Int × (Int × (Int × ((Int × Int) × (List (Int × Int)))))))) × ((List (Int × ((List (Int × (Int × (Int × (Int × ((List Int) × (List (Int × Int)))))))) × (List (Int × (Int × (Int × (Int × Int)))))))) × (List (Int × (Int × (Int × (Int × (Int × (Int × (Int × (Int × Int)))))))))))))) :=
(lp (fun rec13 (z12 : (Int × ((List (Int × (List (Int × (Int × (Int × Int)))))) × ((List (Int × ((List (Int × (Int × Int))) × ((List (Int × Int)) × ((List (Int × (List (Int × (Int × (Int × Int)))))) × ((List (Int × Int)) × (List Int))))))) × ((List (List (Int × (Int × (Int × ((Int × Int) × (List (Int × Int)))))))) × ((List (Int × ((List (Int × (Int × (Int × (Int × ((List Int) × (List (Int × Int)))))))) × (List (Int × (Int × (Int × (Int × Int)))))))) × (List (Int × (Int × (Int × (Int × (Int × (Int × (Int × (Int × Int))))))))))))))) =>
 (cond (decide (z12.1 < (lenI x_1)))
  ((geti x_1 z12.1).bind fun y14 =>
  ((m_slices_Clone_impl_Balance_impl_Balance y14).bind fun r15 =>
  (chk (Nat.ble ((z12.2.2.1.length + ([(z12.1, (r15, ([], ([], ([], [])))))] : List (Int × ((List (Int × (Int × Int))) × ((List (Int × Int)) × ((List (Int × (List (Int × (Int × (Int × Int)))))) × ((List (Int × Int)) × (List Int))))))).length) * 128) maxBytes)
  (rec13 (IntKind.wrap .i64 (z12.1 + (1 : Int)), (z12.2.1, ((z12.2.2.1 ++ [(z12.1, (r15, ([], ([], ([], [])))))]), z12.2.2.2)))))))
  (some ((0 : Int), z12.2)))) n z0)
def p_impl_NewCluster (n : Nat) (x : ((List (List (Int × (Int × Int)))) × Int)) : Option (Int × ((List (Int × (List (Int × (Int × (Int × Int)))))) × ((List (Int × ((List (Int × (Int × Int))) × ((List (Int × Int)) × ((List (Int × (List (Int × (Int × (Int × Int)))))) × ((List (Int × Int)) × (List Int))))))) × ((List (List (Int × (Int × (Int × ((Int × Int) × (List (Int × Int)))))))) × ((List (Int × ((List (Int × (Int × (Int × (Int × ((List Int) × (List (Int × Int)))))))) × (List (Int × (Int × (Int × (Int × Int)))))))) × (List (Int × (Int × (Int × (Int × (Int × (Int × (Int × (Int × Int)))))))))))))) :=
((m_impl_LedgerFault x.1).bind fun r1 =>
(cond (!(r1 == (0 : Int)))
 (some (r1, ([], ([], ([], ([], []))))))
 ((m_impl_within (x.2, (1 : Int), (5 : Int))).bind fun r2 =>
 (cond (!r2)
  (some ((3 : Int), ([], ([], ([], ([], []))))))
  (same
   (same
    (if x.2 = x.2 then (if 0 ≤ x.2 then chk (Nat.ble (24 * x.2.toNat) maxBytes)
    (dup 1
     (if (2 : Int) = (2 : Int) then (if 0 ≤ (2 : Int) then chk (Nat.ble (56 * (2 : Int).toNat) maxBytes)
     (l_impl_NewCluster_1 n x.1 ((0 : Int), ([], ([], ((List.replicate x.2.toNat []), ((List.replicate (2 : Int).toNat ((0 : Int), ([], []))), [])))))) else none) else none)) else none) else none)
    (if (2 : Int) = (2 : Int) then (if 0 ≤ (2 : Int) then chk (Nat.ble (56 * (2 : Int).toNat) maxBytes)
    (dup 1
     (if x.2 = x.2 then (if 0 ≤ x.2 then chk (Nat.ble (24 * x.2.toNat) maxBytes)
     (l_impl_NewCluster_1 n x.1 ((0 : Int), ([], ([], ((List.replicate x.2.toNat []), ((List.replicate (2 : Int).toNat ((0 : Int), ([], []))), [])))))) else none) else none)) else none) else none))
   (same
    (if x.2 = x.2 then (if 0 ≤ x.2 then chk (Nat.ble (24 * x.2.toNat) maxBytes)
    (if (2 : Int) = (2 : Int) then (if 0 ≤ (2 : Int) then chk (Nat.ble (56 * (2 : Int).toNat) maxBytes)
    (l_impl_NewCluster_1 n x.1 ((0 : Int), ([], ([], ((List.replicate x.2.toNat []), ((List.replicate (2 : Int).toNat ((0 : Int), ([], []))), [])))))) else none) else none) else none) else none)
    (if (2 : Int) = (2 : Int) then (if 0 ≤ (2 : Int) then chk (Nat.ble (56 * (2 : Int).toNat) maxBytes)
    (if x.2 = x.2 then (if 0 ≤ x.2 then chk (Nat.ble (24 * x.2.toNat) maxBytes)
    (l_impl_NewCluster_1 n x.1 ((0 : Int), ([], ([], ((List.replicate x.2.toNat []), ((List.replicate (2 : Int).toNat ((0 : Int), ([], []))), [])))))) else none) else none) else none) else none)))))))
def m_impl_NewCluster (x : ((List (List (Int × (Int × Int)))) × Int)) : Option (Int × ((List (Int × (List (Int × (Int × (Int × Int)))))) × ((List (Int × ((List (Int × (Int × Int))) × ((List (Int × Int)) × ((List (Int × (List (Int × (Int × (Int × Int)))))) × ((List (Int × Int)) × (List Int))))))) × ((List (List (Int × (Int × (Int × ((Int × Int) × (List (Int × Int)))))))) × ((List (Int × ((List (Int × (Int × (Int × (Int × ((List Int) × (List (Int × Int)))))))) × (List (Int × (Int × (Int × (Int × Int)))))))) × (List (Int × (Int × (Int × (Int × (Int × (Int × (Int × (Int × Int)))))))))))))) := p_impl_NewCluster FU x
def a_impl_NewCluster : Ann := (.node .leaf (.node .leaf (.node .leaf (.node (.own 20 (.one (.sl (some 73) (.pair (.int .i64) (.pair (.int .i64) (.pair (.int .i64) (.pair (.pair (.int .i64) (.int .i64)) (.sl (some 70) (.pair (.int .i64) (.int .i64))))))))) (.own 21 (.pair (.int .i64) (.pair (.sl (some 235) (.pair (.int .i64) (.pair (.int .i64) (.pair (.int .i64) (.pair (.int .i64) (.pair (.sl (some 2) (.int .i64)) (.sl (some 70) (.pair (.int .i64) (.int .i64))))))))) (.sl (some 237) (.pair (.int .i64) (.pair (.int .i64) (.pair (.int .i64) (.pair (.int .i64) (.int .i64)))))))) .leaf)) (.node (.node .leaf (.loop [.slot 26 (.int .i64), .box 1000006 (.pair (.sl (some 187) (.pair (.int .i64) (.sl (some 230) (.pair (.int .i64) (.pair (.int .i64) (.pair (.int .i64) (.int .i64))))))) (.pair (.sl (some 109) (.pair (.int .i64) (.pair (.sl (some 116) (.pair (.int .i64) (.pair (.int .i64) (.int .i64)))) (.pair (.sl (some 232) (.pair (.int .i64) (.int .i64))) (.pair (.sl (some 187) (.pair (.int .i64) (.sl (some 230) (.pair (.int .i64) (.pair (.int .i64) (.pair (.int .i64) (.int .i64))))))) (.pair (.sl (some 232) (.pair (.int .i64) (.int .i64))) (.sl (some 2) (.int .i64)))))))) (.pair (.sl (some 80) (.one (.sl (some 73) (.pair (.int .i64) (.pair (.int .i64) (.pair (.int .i64) (.pair (.pair (.int .i64) (.int .i64)) (.sl (some 70) (.pair (.int .i64) (.int .i64)))))))))) (.pair (.sl (some 193) (.pair (.int .i64) (.pair (.sl (some 235) (.pair (.int .i64) (.pair (.int .i64) (.pair (.int .i64) (.pair (.int .i64) (.pair (.sl (some 2) (.int .i64)) (.sl (some 70) (.pair (.int .i64) (.int .i64))))))))) (.sl (some 237) (.pair (.int .i64) (.pair (.int .i64) (.pair (.int .i64) (.pair (.int .i64) (.int .i64))))))))) (.sl (some 196) (.pair (.int .i64) (.pair (.int .i64) (.pair (.int .i64) (.pair (.int .i64) (.pair (.int .i64) (.pair (.int .i64) (.pair (.int .i64) (.pair (.int .i64) (.int .i64))))))))))))))] [7, 8, 27, 28, 29, 30, 31, 32, 33, 34, 35, 36, 37, 38, 39, 40] (.node .leaf (.node .leaf (.node (.node .leaf (.own 37 (.pair (.int .i64) (.pair (.sl (some 116) (.pair (.int .i64) (.pair (.int .i64) (.int .i64)))) (.pair (.sl (some 232) (.pair (.int .i64) (.int .i64))) (.pair (.sl (some 187) (.pair (.int .i64) (.sl (some 230) (.pair (.int .i64) (.pair (.int .i64) (.pair (.int .i64) (.int .i64))))))) (.pair (.sl (some 232) (.pair (.int .i64) (.int .i64))) (.sl (some 2) (.int .i64))))))) .leaf)) .leaf))))) .leaf)))))
def S_impl_NewCluster : FSpec := ⟨[.val (.one (.sl none (.sl none (.pair (.int .i64) (.pair (.int .i64) (.int .i64)))))), .val (.int .i64)], [(.pair (.int .i64) (.pair (.sl (some 187) (.pair (.int .i64) (.sl (some 230) (.pair (.int .i64) (.pair (.int .i64) (.pair (.int .i64) (.int .i64))))))) (.pair (.sl (some 109) (.pair (.int .i64) (.pair (.sl (some 116) (.pair (.int .i64) (.pair (.int .i64) (.int .i64)))) (.pair (.sl (some 232) (.pair (.int .i64) (.int .i64))) (.pair (.sl (some 187) (.pair (.int .i64) (.sl (some 230) (.pair (.int .i64) (.pair (.int .i64) (.pair (.int .i64) (.int .i64))))))) (.pair (.sl (some 232) (.pair (.int .i64) (.int .i64))) (.sl (some 2) (.int .i64)))))))) (.pair (.sl (some 80) (.one (.sl (some 73) (.pair (.int .i64) (.pair (.int .i64) (.pair (.int .i64) (.pair (.pair (.int .i64) (.int .i64)) (.sl (some 70) (.pair (.int .i64) (.int .i64)))))))))) (.pair (.sl (some 193) (.pair (.int .i64) (.pair (.sl (some 235) (.pair (.int .i64) (.pair (.int .i64) (.pair (.int .i64) (.pair (.int .i64) (.pair (.sl (some 2) (.int .i64)) (.sl (some 70) (.pair (.int .i64) (.int .i64))))))))) (.sl (some 237) (.pair (.int .i64) (.pair (.int .i64) (.pair (.int .i64) (.pair (.int .i64) (.int .i64))))))))) (.sl (some 196) (.pair (.int .i64) (.pair (.int .i64) (.pair (.int .i64) (.pair (.int .i64) (.pair (.int .i64) (.pair (.int .i64) (.pair (.int .i64) (.pair (.int .i64) (.int .i64)))))))))))))))], m_impl_NewCluster⟩

/-! laws.eqLeg -/
def p_laws_eqLeg (n : Nat) (x : ((Int × (Int × (Int × Int))) × (Int × (Int × (Int × Int))))) : Option Bool :=
(cond (!(x.1.1 == x.2.1))
 (some false)
 (cond (!(x.1.2.1 == x.2.2.1))
  (some false)
  (cond (!(x.1.2.2.1 == x.2.2.2.1))
   (some false)
   (cond (!(x.1.2.2.2 == x.2.2.2.2))
    (some false)
    (some true)))))
def m_laws_eqLeg (x : ((Int × (Int × (Int × Int))) × (Int × (Int × (Int × Int))))) : Option Bool := p_laws_eqLeg FU x
def a_laws_eqLeg : Ann := .leaf
def S_laws_eqLeg : FSpec := ⟨[.val (.pair (.int .i64) (.pair (.int .i64) (.pair (.int .i64) (.int .i64)))), .val (.pair (.int .i64) (.pair (.int .i64) (.pair (.int .i64) (.int .i64))))], [.bool], m_laws_eqLeg⟩

/-! laws.eqLegS -/
def l_laws_eqLegS_1 (n : Nat) (x_1 : (List (Int × (Int × (Int × Int))))) (x_2 : (List (Int × (Int × (Int × Int))))) (z0 : Int) : Option Bool :=
(lp (fun rec6 (z5 : Int) =>
 (cond (decide (z5 < (lenI x_1)))
  ((geti x_1 z5).bind fun y7 =>
  ((geti x_2 z5).bind fun y8 =>
  ((m_laws_eqLeg (y7, y8)).bind fun r9 =>
  (cond (!r9)
   (some false)
   (rec6 (IntKind.wrap .i64 (z5 + (1 : Int))))))))
  (some true))) n z0)
def p_laws_eqLegS (n : Nat) (x : ((List (Int × (Int × (Int × Int)))) × (List (Int × (Int × (Int × Int)))))) : Option Bool :=
(cond (!((lenI x.1) == (lenI x.2)))
 (some false)
 (l_laws_eqLegS_1 n x.1 x.2 (0 : Int)))
def m_laws_eqLegS (x : ((List (Int × (Int × (Int × Int)))) × (List (Int × (Int × (Int × Int)))))) : Option Bool := p_laws_eqLegS FU x
def a_laws_eqLegS : Ann := (.node .leaf (.node .leaf (.node (.node .leaf (.loop [.slot 5 (.int .i64)] [4, 11, 12, 13, 14, 15, 16, 17, 18, 19, 20, 21, 22, 23, 24, 25, 26] .leaf)) .leaf)))
def S_laws_eqLegS : FSpec := ⟨[.val (.sl none (.pair (.int .i64) (.pair (.int .i64) (.pair (.int .i64) (.int .i64))))), .val (.sl none (.pair (.int .i64) (.pair (.int .i64) (.pair (.int .i64) (.int .i64)))))], [.bool], m_laws_eqLegS⟩

/-! laws.eqContract -/
def p_laws_eqContract (n : Nat) (x : ((Int × (List (Int × (Int × (Int × Int))))) × (Int × (List (Int × (Int × (Int × Int))))))) : Option Bool :=
(cond (!(x.1.1 == x.2.1))
 (some false)
 ((m_laws_eqLegS (x.1.2, x.2.2)).bind fun r1 =>
 (cond (!r1)
  (some false)
  (some true))))
def m_laws_eqContract (x : ((Int × (List (Int × (Int × (Int × Int))))) × (Int × (List (Int × (Int × (Int × Int))))))) : Option Bool := p_laws_eqContract FU x
def a_laws_eqContract : Ann := .leaf
def S_laws_eqContract : FSpec := ⟨[.val (.pair (.int .i64) (.sl none (.pair (.int .i64) (.pair (.int .i64) (.pair (.int .i64) (.int .i64)))))), .val (.pair (.int .i64) (.sl none (.pair (.int .i64) (.pair (.int .i64) (.pair (.int .i64) (.int .i64))))))], [.bool], m_laws_eqContract⟩

/-! laws.eqContractS -/
def l_laws_eqContractS_1 (n : Nat) (x_1 : (List (Int × (List (Int × (Int × (Int × Int))))))) (x_2 : (List (Int × (List (Int × (Int × (Int × Int))))))) (z0 : Int) : Option Bool :=
(lp (fun rec6 (z5 : Int) =>
 (cond (decide (z5 < (lenI x_1)))
  ((geti x_1 z5).bind fun y7 =>
  ((geti x_2 z5).bind fun y8 =>
  ((m_laws_eqContract (y7, y8)).bind fun r9 =>
  (cond (!r9)
   (some false)
   (rec6 (IntKind.wrap .i64 (z5 + (1 : Int))))))))
  (some true))) n z0)
def p_laws_eqContractS (n : Nat) (x : ((List (Int × (List (Int × (Int × (Int × Int)))))) × (List (Int × (List (Int × (Int × (Int × Int)))))))) : Option Bool :=
(cond (!((lenI x.1) == (lenI x.2)))
 (some false)
 (l_laws_eqContractS_1 n x.1 x.2 (0 : Int)))
def m_laws_eqContractS (x : ((List (Int × (List (Int × (Int × (Int × Int)))))) × (List (Int × (List (Int × (Int × (Int × Int)))))))) : Option Bool := p_laws_eqContractS FU x
def a_laws_eqContractS : Ann := (.node .leaf (.node .leaf (.node (.node .leaf (.loop [.slot 5 (.int .i64)] [4, 11, 12, 13, 14, 15, 16, 17, 18, 19, 20, 21, 22, 23, 24, 25, 26] .leaf)) .leaf)))
def S_laws_eqContractS : FSpec := ⟨[.val (.sl none (.pair (.int .i64) (.sl none (.pair (.int .i64) (.pair (.int .i64) (.pair (.int .i64) (.int .i64))))))), .val (.sl none (.pair (.int .i64) (.sl none (.pair (.int .i64) (.pair (.int .i64) (.pair (.int .i64) (.int .i64)))))))], [.bool], m_laws_eqContractS⟩

/-! laws.eqBalance -/
def p_laws_eqBalance (n : Nat) (x : ((Int × (Int × Int)) × (Int × (Int × Int)))) : Option Bool :=
(cond (!(x.1.1 == x.2.1))
 (some false)
 (cond (!(x.1.2.1 == x.2.2.1))
  (some false)
  (cond (!(x.1.2.2 == x.2.2.2))
   (some false)
   (some true))))
def m_laws_eqBalance (x : ((Int × (Int × Int)) × (Int × (Int × Int)))) : Option Bool := p_laws_eqBalance FU x
def a_laws_eqBalance : Ann := .leaf
def S_laws_eqBalance : FSpec := ⟨[.val (.pair (.int .i64) (.pair (.int .i64) (.int .i64))), .val (.pair (.int .i64) (.pair (.int .i64) (.int .i64)))], [.bool], m_laws_eqBalance⟩

/-! laws.eqBalanceS -/
def l_laws_eqBalanceS_1 (n : Nat) (x_1 : (List (Int × (Int × Int)))) (x_2 : (List (Int × (Int × Int)))) (z0 : Int) : Option Bool :=
(lp (fun rec6 (z5 : Int) =>
 (cond (decide (z5 < (lenI x_1)))
  ((geti x_1 z5).bind fun y7 =>
  ((geti x_2 z5).bind fun y8 =>
  ((m_laws_eqBalance (y7, y8)).bind fun r9 =>
  (cond (!r9)
   (some false)
   (rec6 (IntKind.wrap .i64 (z5 + (1 : Int))))))))
  (some true))) n z0)
def p_laws_eqBalanceS (n : Nat) (x : ((List (Int × (Int × Int))) × (List (Int × (Int × Int))))) : Option Bool :=
(cond (!((lenI x.1) == (lenI x.2)))
 (some false)
 (l_laws_eqBalanceS_1 n x.1 x.2 (0 : Int)))
def m_laws_eqBalanceS (x : ((List (Int × (Int × Int))) × (List (Int × (Int × Int))))) : Option Bool := p_laws_eqBalanceS FU x
def a_laws_eqBalanceS : Ann := (.node .leaf (.node .leaf (.node (.node .leaf (.loop [.slot 5 (.int .i64)] [4, 11, 12, 13, 14, 15, 16, 17, 18, 19, 20, 21, 22, 23, 24, 25, 26] .leaf)) .leaf)))
def S_laws_eqBalanceS : FSpec := ⟨[.val (.sl none (.pair (.int .i64) (.pair (.int .i64) (.int .i64)))), .val (.sl none (.pair (.int .i64) (.pair (.int .i64) (.int .i64))))], [.bool], m_laws_eqBalanceS⟩

/-! laws.eqMark -/
def p_laws_eqMark (n : Nat) (x : ((Int × Int) × (Int × Int))) : Option Bool :=
(cond (!(x.1.1 == x.2.1))
 (some false)
 (cond (!(x.1.2 == x.2.2))
  (some false)
  (some true)))
def m_laws_eqMark (x : ((Int × Int) × (Int × Int))) : Option Bool := p_laws_eqMark FU x
def a_laws_eqMark : Ann := .leaf
def S_laws_eqMark : FSpec := ⟨[.val (.pair (.int .i64) (.int .i64)), .val (.pair (.int .i64) (.int .i64))], [.bool], m_laws_eqMark⟩

/-! laws.eqMarkS -/
def l_laws_eqMarkS_1 (n : Nat) (x_1 : (List (Int × Int))) (x_2 : (List (Int × Int))) (z0 : Int) : Option Bool :=
(lp (fun rec6 (z5 : Int) =>
 (cond (decide (z5 < (lenI x_1)))
  ((geti x_1 z5).bind fun y7 =>
  ((geti x_2 z5).bind fun y8 =>
  ((m_laws_eqMark (y7, y8)).bind fun r9 =>
  (cond (!r9)
   (some false)
   (rec6 (IntKind.wrap .i64 (z5 + (1 : Int))))))))
  (some true))) n z0)
def p_laws_eqMarkS (n : Nat) (x : ((List (Int × Int)) × (List (Int × Int)))) : Option Bool :=
(cond (!((lenI x.1) == (lenI x.2)))
 (some false)
 (l_laws_eqMarkS_1 n x.1 x.2 (0 : Int)))
def m_laws_eqMarkS (x : ((List (Int × Int)) × (List (Int × Int)))) : Option Bool := p_laws_eqMarkS FU x
def a_laws_eqMarkS : Ann := (.node .leaf (.node .leaf (.node (.node .leaf (.loop [.slot 5 (.int .i64)] [4, 11, 12, 13, 14, 15, 16, 17, 18, 19, 20, 21, 22, 23, 24, 25, 26] .leaf)) .leaf)))
def S_laws_eqMarkS : FSpec := ⟨[.val (.sl none (.pair (.int .i64) (.int .i64))), .val (.sl none (.pair (.int .i64) (.int .i64)))], [.bool], m_laws_eqMarkS⟩

/-! laws.eqInt64S -/
def l_laws_eqInt64S_1 (n : Nat) (x_1 : (List Int)) (x_2 : (List Int)) (z0 : Int) : Option Bool :=
(lp (fun rec5 (z4 : Int) =>
 (cond (decide (z4 < (lenI x_1)))
  ((geti x_1 z4).bind fun y6 =>
  ((geti x_2 z4).bind fun y7 =>
  (cond (!(y6 == y7))
   (some false)
   (rec5 (IntKind.wrap .i64 (z4 + (1 : Int)))))))
  (some true))) n z0)
def p_laws_eqInt64S (n : Nat) (x : ((List Int) × (List Int))) : Option Bool :=
(cond (!((lenI x.1) == (lenI x.2)))
 (some false)
 (l_laws_eqInt64S_1 n x.1 x.2 (0 : Int)))
def m_laws_eqInt64S (x : ((List Int) × (List Int))) : Option Bool := p_laws_eqInt64S FU x
def a_laws_eqInt64S : Ann := (.node .leaf (.node .leaf (.node (.node .leaf (.loop [.slot 5 (.int .i64)] [4, 11, 12, 13, 14, 15, 16, 17, 18, 19, 20, 21, 22, 23, 24, 25] .leaf)) .leaf)))
def S_laws_eqInt64S : FSpec := ⟨[.val (.sl none (.int .i64)), .val (.sl none (.int .i64))], [.bool], m_laws_eqInt64S⟩

/-! laws.eqShard -/
def p_laws_eqShard (n : Nat) (x : ((Int × ((List (Int × (Int × Int))) × ((List (Int × Int)) × ((List (Int × (List (Int × (Int × (Int × Int)))))) × ((List (Int × Int)) × (List Int)))))) × (Int × ((List (Int × (Int × Int))) × ((List (Int × Int)) × ((List (Int × (List (Int × (Int × (Int × Int)))))) × ((List (Int × Int)) × (List Int)))))))) : Option Bool :=
(cond (!(x.1.1 == x.2.1))
 (some false)
 ((m_laws_eqBalanceS (x.1.2.1, x.2.2.1)).bind fun r1 =>
 (cond (!r1)
  (some false)
  ((m_laws_eqMarkS (x.1.2.2.1, x.2.2.2.1)).bind fun r2 =>
  (cond (!r2)
   (some false)
   ((m_laws_eqContractS (x.1.2.2.2.1, x.2.2.2.2.1)).bind fun r3 =>
   (cond (!r3)
    (some false)
    ((m_laws_eqMarkS (x.1.2.2.2.2.1, x.2.2.2.2.2.1)).bind fun r4 =>
    (cond (!r4)
     (some false)
     ((m_laws_eqInt64S (x.1.2.2.2.2.2, x.2.2.2.2.2.2)).bind fun r5 =>
     (cond (!r5)
      (some false)
      (some true))))))))))))
def m_laws_eqShard (x : ((Int × ((List (Int × (Int × Int))) × ((List (Int × Int)) × ((List (Int × (List (Int × (Int × (Int × Int)))))) × ((List (Int × Int)) × (List Int)))))) × (Int × ((List (Int × (Int × Int))) × ((List (Int × Int)) × ((List (Int × (List (Int × (Int × (Int × Int)))))) × ((List (Int × Int)) × (List Int)))))))) : Option Bool := p_laws_eqShard FU x
def a_laws_eqShard : Ann := .leaf
def S_laws_eqShard : FSpec := ⟨[.val (.pair (.int .i64) (.pair (.sl none (.pair (.int .i64) (.pair (.int .i64) (.int .i64)))) (.pair (.sl none (.pair (.int .i64) (.int .i64))) (.pair (.sl none (.pair (.int .i64) (.sl none (.pair (.int .i64) (.pair (.int .i64) (.pair (.int .i64) (.int .i64))))))) (.pair (.sl none (.pair (.int .i64) (.int .i64))) (.sl none (.int .i64))))))), .val (.pair (.int .i64) (.pair (.sl none (.pair (.int .i64) (.pair (.int .i64) (.int .i64)))) (.pair (.sl none (.pair (.int .i64) (.int .i64))) (.pair (.sl none (.pair (.int .i64) (.sl none (.pair (.int .i64) (.pair (.int .i64) (.pair (.int .i64) (.int .i64))))))) (.pair (.sl none (.pair (.int .i64) (.int .i64))) (.sl none (.int .i64)))))))], [.bool], m_laws_eqShard⟩

/-! laws.eqShardS -/
def l_laws_eqShardS_1 (n : Nat) (x_1 : (List (Int × ((List (Int × (Int × Int))) × ((List (Int × Int)) × ((List (Int × (List (Int × (Int × (Int × Int)))))) × ((List (Int × Int)) × (List Int)))))))) (x_2 : (List (Int × ((List (Int × (Int × Int))) × ((List (Int × Int)) × ((List (Int × (List (Int × (Int × (Int × Int)))))) × ((List (Int × Int)) × (List Int)))))))) (z0 : Int) : Option Bool :=
(lp (fun rec6 (z5 : Int) =>
 (cond (decide (z5 < (lenI x_1)))
  ((geti x_1 z5).bind fun y7 =>
  ((geti x_2 z5).bind fun y8 =>
  ((m_laws_eqShard (y7, y8)).bind fun r9 =>
  (cond (!r9)
   (some false)
   (rec6 (IntKind.wrap .i64 (z5 + (1 : Int))))))))
  (some true))) n z0)
def p_laws_eqShardS (n : Nat) (x : ((List (Int × ((List (Int × (Int × Int))) × ((List (Int × Int)) × ((List (Int × (List (Int × (Int × (Int × Int)))))) × ((List (Int × Int)) × (List Int))))))) × (List (Int × ((List (Int × (Int × Int))) × ((List (Int × Int)) × ((List (Int × (List (Int × (Int × (Int × Int)))))) × ((List (Int × Int)) × (List Int))))))))) : Option Bool :=
(cond (!((lenI x.1) == (lenI x.2)))
 (some false)
 (l_laws_eqShardS_1 n x.1 x.2 (0 : Int)))
def m_laws_eqShardS (x : ((List (Int × ((List (Int × (Int × Int))) × ((List (Int × Int)) × ((List (Int × (List (Int × (Int × (Int × Int)))))) × ((List (Int × Int)) × (List Int))))))) × (List (Int × ((List (Int × (Int × Int))) × ((List (Int × Int)) × ((List (Int × (List (Int × (Int × (Int × Int)))))) × ((List (Int × Int)) × (List Int))))))))) : Option Bool := p_laws_eqShardS FU x
def a_laws_eqShardS : Ann := (.node .leaf (.node .leaf (.node (.node .leaf (.loop [.slot 5 (.int .i64)] [4, 11, 12, 13, 14, 15, 16, 17, 18, 19, 20, 21, 22, 23, 24, 25, 26] .leaf)) .leaf)))
def S_laws_eqShardS : FSpec := ⟨[.val (.sl none (.pair (.int .i64) (.pair (.sl none (.pair (.int .i64) (.pair (.int .i64) (.int .i64)))) (.pair (.sl none (.pair (.int .i64) (.int .i64))) (.pair (.sl none (.pair (.int .i64) (.sl none (.pair (.int .i64) (.pair (.int .i64) (.pair (.int .i64) (.int .i64))))))) (.pair (.sl none (.pair (.int .i64) (.int .i64))) (.sl none (.int .i64)))))))), .val (.sl none (.pair (.int .i64) (.pair (.sl none (.pair (.int .i64) (.pair (.int .i64) (.int .i64)))) (.pair (.sl none (.pair (.int .i64) (.int .i64))) (.pair (.sl none (.pair (.int .i64) (.sl none (.pair (.int .i64) (.pair (.int .i64) (.pair (.int .i64) (.int .i64))))))) (.pair (.sl none (.pair (.int .i64) (.int .i64))) (.sl none (.int .i64))))))))], [.bool], m_laws_eqShardS⟩

/-! laws.eqVote -/
def p_laws_eqVote (n : Nat) (x : ((Int × Int) × (Int × Int))) : Option Bool :=
(cond (!(x.1.1 == x.2.1))
 (some false)
 (cond (!(x.1.2 == x.2.2))
  (some false)
  (some true)))
def m_laws_eqVote (x : ((Int × Int) × (Int × Int))) : Option Bool := p_laws_eqVote FU x
def a_laws_eqVote : Ann := .leaf
def S_laws_eqVote : FSpec := ⟨[.val (.pair (.int .i64) (.int .i64)), .val (.pair (.int .i64) (.int .i64))], [.bool], m_laws_eqVote⟩

/-! laws.eqVoteS -/
def l_laws_eqVoteS_1 (n : Nat) (x_1 : (List (Int × Int))) (x_2 : (List (Int × Int))) (z0 : Int) : Option Bool :=
(lp (fun rec6 (z5 : Int) =>
 (cond (decide (z5 < (lenI x_1)))
  ((geti x_1 z5).bind fun y7 =>
  ((geti x_2 z5).bind fun y8 =>
  ((m_laws_eqVote (y7, y8)).bind fun r9 =>
  (cond (!r9)
   (some false)
   (rec6 (IntKind.wrap .i64 (z5 + (1 : Int))))))))
  (some true))) n z0)
def p_laws_eqVoteS (n : Nat) (x : ((List (Int × Int)) × (List (Int × Int)))) : Option Bool :=
(cond (!((lenI x.1) == (lenI x.2)))
 (some false)
 (l_laws_eqVoteS_1 n x.1 x.2 (0 : Int)))
def m_laws_eqVoteS (x : ((List (Int × Int)) × (List (Int × Int)))) : Option Bool := p_laws_eqVoteS FU x
def a_laws_eqVoteS : Ann := (.node .leaf (.node .leaf (.node (.node .leaf (.loop [.slot 5 (.int .i64)] [4, 11, 12, 13, 14, 15, 16, 17, 18, 19, 20, 21, 22, 23, 24, 25, 26] .leaf)) .leaf)))
def S_laws_eqVoteS : FSpec := ⟨[.val (.sl none (.pair (.int .i64) (.int .i64))), .val (.sl none (.pair (.int .i64) (.int .i64)))], [.bool], m_laws_eqVoteS⟩

/-! laws.eqSlot -/
def p_laws_eqSlot (n : Nat) (x : ((Int × (Int × (Int × ((Int × Int) × (List (Int × Int)))))) × (Int × (Int × (Int × ((Int × Int) × (List (Int × Int)))))))) : Option Bool :=
(cond (!(x.1.1 == x.2.1))
 (some false)
 (cond (!(x.1.2.1 == x.2.2.1))
  (some false)
  (cond (!(x.1.2.2.1 == x.2.2.2.1))
   (some false)
   ((m_laws_eqVote (x.1.2.2.2.1, x.2.2.2.2.1)).bind fun r1 =>
   (cond (!r1)
    (some false)
    ((m_laws_eqVoteS (x.1.2.2.2.2, x.2.2.2.2.2)).bind fun r2 =>
    (cond (!r2)
     (some false)
     (some true))))))))
def m_laws_eqSlot (x : ((Int × (Int × (Int × ((Int × Int) × (List (Int × Int)))))) × (Int × (Int × (Int × ((Int × Int) × (List (Int × Int)))))))) : Option Bool := p_laws_eqSlot FU x
def a_laws_eqSlot : Ann := .leaf
def S_laws_eqSlot : FSpec := ⟨[.val (.pair (.int .i64) (.pair (.int .i64) (.pair (.int .i64) (.pair (.pair (.int .i64) (.int .i64)) (.sl none (.pair (.int .i64) (.int .i64))))))), .val (.pair (.int .i64) (.pair (.int .i64) (.pair (.int .i64) (.pair (.pair (.int .i64) (.int .i64)) (.sl none (.pair (.int .i64) (.int .i64)))))))], [.bool], m_laws_eqSlot⟩

/-! laws.eqSlotS -/
def l_laws_eqSlotS_1 (n : Nat) (x_1 : (List (Int × (Int × (Int × ((Int × Int) × (List (Int × Int)))))))) (x_2 : (List (Int × (Int × (Int × ((Int × Int) × (List (Int × Int)))))))) (z0 : Int) : Option Bool :=
(lp (fun rec6 (z5 : Int) =>
 (cond (decide (z5 < (lenI x_1)))
  ((geti x_1 z5).bind fun y7 =>
  ((geti x_2 z5).bind fun y8 =>
  ((m_laws_eqSlot (y7, y8)).bind fun r9 =>
  (cond (!r9)
   (some false)
   (rec6 (IntKind.wrap .i64 (z5 + (1 : Int))))))))
  (some true))) n z0)
def p_laws_eqSlotS (n : Nat) (x : ((List (Int × (Int × (Int × ((Int × Int) × (List (Int × Int))))))) × (List (Int × (Int × (Int × ((Int × Int) × (List (Int × Int))))))))) : Option Bool :=
(cond (!((lenI x.1) == (lenI x.2)))
 (some false)
 (l_laws_eqSlotS_1 n x.1 x.2 (0 : Int)))
def m_laws_eqSlotS (x : ((List (Int × (Int × (Int × ((Int × Int) × (List (Int × Int))))))) × (List (Int × (Int × (Int × ((Int × Int) × (List (Int × Int))))))))) : Option Bool := p_laws_eqSlotS FU x
def a_laws_eqSlotS : Ann := (.node .leaf (.node .leaf (.node (.node .leaf (.loop [.slot 5 (.int .i64)] [4, 11, 12, 13, 14, 15, 16, 17, 18, 19, 20, 21, 22, 23, 24, 25, 26] .leaf)) .leaf)))
def S_laws_eqSlotS : FSpec := ⟨[.val (.sl none (.pair (.int .i64) (.pair (.int .i64) (.pair (.int .i64) (.pair (.pair (.int .i64) (.int .i64)) (.sl none (.pair (.int .i64) (.int .i64)))))))), .val (.sl none (.pair (.int .i64) (.pair (.int .i64) (.pair (.int .i64) (.pair (.pair (.int .i64) (.int .i64)) (.sl none (.pair (.int .i64) (.int .i64))))))))], [.bool], m_laws_eqSlotS⟩

/-! laws.eqAcceptor -/
def p_laws_eqAcceptor (n : Nat) (x : ((List (Int × (Int × (Int × ((Int × Int) × (List (Int × Int))))))) × (List (Int × (Int × (Int × ((Int × Int) × (List (Int × Int))))))))) : Option Bool :=
((m_laws_eqSlotS (x.1, x.2)).bind fun r1 =>
(cond (!r1)
 (some false)
 (some true)))
def m_laws_eqAcceptor (x : ((List (Int × (Int × (Int × ((Int × Int) × (List (Int × Int))))))) × (List (Int × (Int × (Int × ((Int × Int) × (List (Int × Int))))))))) : Option Bool := p_laws_eqAcceptor FU x
def a_laws_eqAcceptor : Ann := .leaf
def S_laws_eqAcceptor : FSpec := ⟨[.val (.one (.sl none (.pair (.int .i64) (.pair (.int .i64) (.pair (.int .i64) (.pair (.pair (.int .i64) (.int .i64)) (.sl none (.pair (.int .i64) (.int .i64))))))))), .val (.one (.sl none (.pair (.int .i64) (.pair (.int .i64) (.pair (.int .i64) (.pair (.pair (.int .i64) (.int .i64)) (.sl none (.pair (.int .i64) (.int .i64)))))))))], [.bool], m_laws_eqAcceptor⟩

/-! laws.eqAcceptorS -/
def l_laws_eqAcceptorS_1 (n : Nat) (x_1 : (List (List (Int × (Int × (Int × ((Int × Int) × (List (Int × Int))))))))) (x_2 : (List (List (Int × (Int × (Int × ((Int × Int) × (List (Int × Int))))))))) (z0 : Int) : Option Bool :=
(lp (fun rec6 (z5 : Int) =>
 (cond (decide (z5 < (lenI x_1)))
  ((geti x_1 z5).bind fun y7 =>
  ((geti x_2 z5).bind fun y8 =>
  ((m_laws_eqAcceptor (y7, y8)).bind fun r9 =>
  (cond (!r9)
   (some false)
   (rec6 (IntKind.wrap .i64 (z5 + (1 : Int))))))))
  (some true))) n z0)
def p_laws_eqAcceptorS (n : Nat) (x : ((List (List (Int × (Int × (Int × ((Int × Int) × (List (Int × Int)))))))) × (List (List (Int × (Int × (Int × ((Int × Int) × (List (Int × Int)))))))))) : Option Bool :=
(cond (!((lenI x.1) == (lenI x.2)))
 (some false)
 (l_laws_eqAcceptorS_1 n x.1 x.2 (0 : Int)))
def m_laws_eqAcceptorS (x : ((List (List (Int × (Int × (Int × ((Int × Int) × (List (Int × Int)))))))) × (List (List (Int × (Int × (Int × ((Int × Int) × (List (Int × Int)))))))))) : Option Bool := p_laws_eqAcceptorS FU x
def a_laws_eqAcceptorS : Ann := (.node .leaf (.node .leaf (.node (.node .leaf (.loop [.slot 5 (.int .i64)] [4, 11, 12, 13, 14, 15, 16, 17, 18, 19, 20, 21, 22, 23, 24, 25, 26] .leaf)) .leaf)))
def S_laws_eqAcceptorS : FSpec := ⟨[.val (.sl none (.one (.sl none (.pair (.int .i64) (.pair (.int .i64) (.pair (.int .i64) (.pair (.pair (.int .i64) (.int .i64)) (.sl none (.pair (.int .i64) (.int .i64)))))))))), .val (.sl none (.one (.sl none (.pair (.int .i64) (.pair (.int .i64) (.pair (.int .i64) (.pair (.pair (.int .i64) (.int .i64)) (.sl none (.pair (.int .i64) (.int .i64))))))))))], [.bool], m_laws_eqAcceptorS⟩

/-! laws.eqTry -/
def p_laws_eqTry (n : Nat) (x : ((Int × (Int × (Int × (Int × ((List Int) × (List (Int × Int))))))) × (Int × (Int × (Int × (Int × ((List Int) × (List (Int × Int))))))))) : Option Bool :=
(cond (!(x.1.1 == x.2.1))
 (some false)
 (cond (!(x.1.2.1 == x.2.2.1))
  (some false)
  (cond (!(x.1.2.2.1 == x.2.2.2.1))
   (some false)
   (cond (!(x.1.2.2.2.1 == x.2.2.2.2.1))
    (some false)
    ((m_laws_eqInt64S (x.1.2.2.2.2.1, x.2.2.2.2.2.1)).bind fun r1 =>
    (cond (!r1)
     (some false)
     ((m_laws_eqVoteS (x.1.2.2.2.2.2, x.2.2.2.2.2.2)).bind fun r2 =>
     (cond (!r2)
      (some false)
      (some true)))))))))
def m_laws_eqTry (x : ((Int × (Int × (Int × (Int × ((List Int) × (List (Int × Int))))))) × (Int × (Int × (Int × (Int × ((List Int) × (List (Int × Int))))))))) : Option Bool := p_laws_eqTry FU x
def a_laws_eqTry : Ann := .leaf
def S_laws_eqTry : FSpec := ⟨[.val (.pair (.int .i64) (.pair (.int .i64) (.pair (.int .i64) (.pair (.int .i64) (.pair (.sl none (.int .i64)) (.sl none (.pair (.int .i64) (.int .i64)))))))), .val (.pair (.int .i64) (.pair (.int .i64) (.pair (.int .i64) (.pair (.int .i64) (.pair (.sl none (.int .i64)) (.sl none (.pair (.int .i64) (.int .i64))))))))], [.bool], m_laws_eqTry⟩

/-! laws.eqTryS -/
def l_laws_eqTryS_1 (n : Nat) (x_1 : (List (Int × (Int × (Int × (Int × ((List Int) × (List (Int × Int))))))))) (x_2 : (List (Int × (Int × (Int × (Int × ((List Int) × (List (Int × Int))))))))) (z0 : Int) : Option Bool :=
(lp (fun rec6 (z5 : Int) =>
 (cond (decide (z5 < (lenI x_1)))
  ((geti x_1 z5).bind fun y7 =>
  ((geti x_2 z5).bind fun y8 =>
  ((m_laws_eqTry (y7, y8)).bind fun r9 =>
  (cond (!r9)
   (some false)
   (rec6 (IntKind.wrap .i64 (z5 + (1 : Int))))))))
  (some true))) n z0)
def p_laws_eqTryS (n : Nat) (x : ((List (Int × (Int × (Int × (Int × ((List Int) × (List (Int × Int)))))))) × (List (Int × (Int × (Int × (Int × ((List Int) × (List (Int × Int)))))))))) : Option Bool :=
(cond (!((lenI x.1) == (lenI x.2)))
 (some false)
 (l_laws_eqTryS_1 n x.1 x.2 (0 : Int)))
def m_laws_eqTryS (x : ((List (Int × (Int × (Int × (Int × ((List Int) × (List (Int × Int)))))))) × (List (Int × (Int × (Int × (Int × ((List Int) × (List (Int × Int)))))))))) : Option Bool := p_laws_eqTryS FU x
def a_laws_eqTryS : Ann := (.node .leaf (.node .leaf (.node (.node .leaf (.loop [.slot 5 (.int .i64)] [4, 11, 12, 13, 14, 15, 16, 17, 18, 19, 20, 21, 22, 23, 24, 25, 26] .leaf)) .leaf)))
def S_laws_eqTryS : FSpec := ⟨[.val (.sl none (.pair (.int .i64) (.pair (.int .i64) (.pair (.int .i64) (.pair (.int .i64) (.pair (.sl none (.int .i64)) (.sl none (.pair (.int .i64) (.int .i64))))))))), .val (.sl none (.pair (.int .i64) (.pair (.int .i64) (.pair (.int .i64) (.pair (.int .i64) (.pair (.sl none (.int .i64)) (.sl none (.pair (.int .i64) (.int .i64)))))))))], [.bool], m_laws_eqTryS⟩

/-! laws.eqHeard -/
def p_laws_eqHeard (n : Nat) (x : ((Int × (Int × (Int × (Int × Int)))) × (Int × (Int × (Int × (Int × Int)))))) : Option Bool :=
(cond (!(x.1.1 == x.2.1))
 (some false)
 (cond (!(x.1.2.1 == x.2.2.1))
  (some false)
  (cond (!(x.1.2.2.1 == x.2.2.2.1))
   (some false)
   (cond (!(x.1.2.2.2.1 == x.2.2.2.2.1))
    (some false)
    (cond (!(x.1.2.2.2.2 == x.2.2.2.2.2))
     (some false)
     (some true))))))
def m_laws_eqHeard (x : ((Int × (Int × (Int × (Int × Int)))) × (Int × (Int × (Int × (Int × Int)))))) : Option Bool := p_laws_eqHeard FU x
def a_laws_eqHeard : Ann := .leaf
def S_laws_eqHeard : FSpec := ⟨[.val (.pair (.int .i64) (.pair (.int .i64) (.pair (.int .i64) (.pair (.int .i64) (.int .i64))))), .val (.pair (.int .i64) (.pair (.int .i64) (.pair (.int .i64) (.pair (.int .i64) (.int .i64)))))], [.bool], m_laws_eqHeard⟩

/-! laws.eqHeardS -/
def l_laws_eqHeardS_1 (n : Nat) (x_1 : (List (Int × (Int × (Int × (Int × Int)))))) (x_2 : (List (Int × (Int × (Int × (Int × Int)))))) (z0 : Int) : Option Bool :=
(lp (fun rec6 (z5 : Int) =>
 (cond (decide (z5 < (lenI x_1)))
  ((geti x_1 z5).bind fun y7 =>
  ((geti x_2 z5).bind fun y8 =>
  ((m_laws_eqHeard (y7, y8)).bind fun r9 =>
  (cond (!r9)
   (some false)
   (rec6 (IntKind.wrap .i64 (z5 + (1 : Int))))))))
  (some true))) n z0)
def p_laws_eqHeardS (n : Nat) (x : ((List (Int × (Int × (Int × (Int × Int))))) × (List (Int × (Int × (Int × (Int × Int))))))) : Option Bool :=
(cond (!((lenI x.1) == (lenI x.2)))
 (some false)
 (l_laws_eqHeardS_1 n x.1 x.2 (0 : Int)))
def m_laws_eqHeardS (x : ((List (Int × (Int × (Int × (Int × Int))))) × (List (Int × (Int × (Int × (Int × Int))))))) : Option Bool := p_laws_eqHeardS FU x
def a_laws_eqHeardS : Ann := (.node .leaf (.node .leaf (.node (.node .leaf (.loop [.slot 5 (.int .i64)] [4, 11, 12, 13, 14, 15, 16, 17, 18, 19, 20, 21, 22, 23, 24, 25, 26] .leaf)) .leaf)))
def S_laws_eqHeardS : FSpec := ⟨[.val (.sl none (.pair (.int .i64) (.pair (.int .i64) (.pair (.int .i64) (.pair (.int .i64) (.int .i64)))))), .val (.sl none (.pair (.int .i64) (.pair (.int .i64) (.pair (.int .i64) (.pair (.int .i64) (.int .i64))))))], [.bool], m_laws_eqHeardS⟩

/-! laws.eqLeader -/
def p_laws_eqLeader (n : Nat) (x : ((Int × ((List (Int × (Int × (Int × (Int × ((List Int) × (List (Int × Int)))))))) × (List (Int × (Int × (Int × (Int × Int))))))) × (Int × ((List (Int × (Int × (Int × (Int × ((List Int) × (List (Int × Int)))))))) × (List (Int × (Int × (Int × (Int × Int))))))))) : Option Bool :=
(cond (!(x.1.1 == x.2.1))
 (some false)
 ((m_laws_eqTryS (x.1.2.1, x.2.2.1)).bind fun r1 =>
 (cond (!r1)
  (some false)
  ((m_laws_eqHeardS (x.1.2.2, x.2.2.2)).bind fun r2 =>
  (cond (!r2)
   (some false)
   (some true))))))
def m_laws_eqLeader (x : ((Int × ((List (Int × (Int × (Int × (Int × ((List Int) × (List (Int × Int)))))))) × (List (Int × (Int × (Int × (Int × Int))))))) × (Int × ((List (Int × (Int × (Int × (Int × ((List Int) × (List (Int × Int)))))))) × (List (Int × (Int × (Int × (Int × Int))))))))) : Option Bool := p_laws_eqLeader FU x
def a_laws_eqLeader : Ann := .leaf
def S_laws_eqLeader : FSpec := ⟨[.val (.pair (.int .i64) (.pair (.sl none (.pair (.int .i64) (.pair (.int .i64) (.pair (.int .i64) (.pair (.int .i64) (.pair (.sl none (.int .i64)) (.sl none (.pair (.int .i64) (.int .i64))))))))) (.sl none (.pair (.int .i64) (.pair (.int .i64) (.pair (.int .i64) (.pair (.int .i64) (.int .i64)))))))), .val (.pair (.int .i64) (.pair (.sl none (.pair (.int .i64) (.pair (.int .i64) (.pair (.int .i64) (.pair (.int .i64) (.pair (.sl none (.int .i64)) (.sl none (.pair (.int .i64) (.int .i64))))))))) (.sl none (.pair (.int .i64) (.pair (.int .i64) (.pair (.int .i64) (.pair (.int .i64) (.int .i64))))))))], [.bool], m_laws_eqLeader⟩

/-! laws.eqLeaderS -/
def l_laws_eqLeaderS_1 (n : Nat) (x_1 : (List (Int × ((List (Int × (Int × (Int × (Int × ((List Int) × (List (Int × Int)))))))) × (List (Int × (Int × (Int × (Int × Int))))))))) (x_2 : (List (Int × ((List (Int × (Int × (Int × (Int × ((List Int) × (List (Int × Int)))))))) × (List (Int × (Int × (Int × (Int × Int))))))))) (z0 : Int) : Option Bool :=
(lp (fun rec6 (z5 : Int) =>
 (cond (decide (z5 < (lenI x_1)))
  ((geti x_1 z5).bind fun y7 =>
  ((geti x_2 z5).bind fun y8 =>
  ((m_laws_eqLeader (y7, y8)).bind fun r9 =>
  (cond (!r9)
   (some false)
   (rec6 (IntKind.wrap .i64 (z5 + (1 : Int))))))))
  (some true))) n z0)
def p_laws_eqLeaderS (n : Nat) (x : ((List (Int × ((List (Int × (Int × (Int × (Int × ((List Int) × (List (Int × Int)))))))) × (List (Int × (Int × (Int × (Int × Int)))))))) × (List (Int × ((List (Int × (Int × (Int × (Int × ((List Int) × (List (Int × Int)))))))) × (List (Int × (Int × (Int × (Int × Int)))))))))) : Option Bool :=
(cond (!((lenI x.1) == (lenI x.2)))
 (some false)
 (l_laws_eqLeaderS_1 n x.1 x.2 (0 : Int)))
def m_laws_eqLeaderS (x : ((List (Int × ((List (Int × (Int × (Int × (Int × ((List Int) × (List (Int × Int)))))))) × (List (Int × (Int × (Int × (Int × Int)))))))) × (List (Int × ((List (Int × (Int × (Int × (Int × ((List Int) × (List (Int × Int)))))))) × (List (Int × (Int × (Int × (Int × Int)))))))))) : Option Bool := p_laws_eqLeaderS FU x
def a_laws_eqLeaderS : Ann := (.node .leaf (.node .leaf (.node (.node .leaf (.loop [.slot 5 (.int .i64)] [4, 11, 12, 13, 14, 15, 16, 17, 18, 19, 20, 21, 22, 23, 24, 25, 26] .leaf)) .leaf)))
def S_laws_eqLeaderS : FSpec := ⟨[.val (.sl none (.pair (.int .i64) (.pair (.sl none (.pair (.int .i64) (.pair (.int .i64) (.pair (.int .i64) (.pair (.int .i64) (.pair (.sl none (.int .i64)) (.sl none (.pair (.int .i64) (.int .i64))))))))) (.sl none (.pair (.int .i64) (.pair (.int .i64) (.pair (.int .i64) (.pair (.int .i64) (.int .i64))))))))), .val (.sl none (.pair (.int .i64) (.pair (.sl none (.pair (.int .i64) (.pair (.int .i64) (.pair (.int .i64) (.pair (.int .i64) (.pair (.sl none (.int .i64)) (.sl none (.pair (.int .i64) (.int .i64))))))))) (.sl none (.pair (.int .i64) (.pair (.int .i64) (.pair (.int .i64) (.pair (.int .i64) (.int .i64)))))))))], [.bool], m_laws_eqLeaderS⟩

/-! laws.eqMessage -/
def p_laws_eqMessage (n : Nat) (x : ((Int × (Int × (Int × (Int × (Int × (Int × (Int × (Int × Int)))))))) × (Int × (Int × (Int × (Int × (Int × (Int × (Int × (Int × Int)))))))))) : Option Bool :=
(cond (!(x.1.1 == x.2.1))
 (some false)
 (cond (!(x.1.2.1 == x.2.2.1))
  (some false)
  (cond (!(x.1.2.2.1 == x.2.2.2.1))
   (some false)
   (cond (!(x.1.2.2.2.1 == x.2.2.2.2.1))
    (some false)
    (cond (!(x.1.2.2.2.2.1 == x.2.2.2.2.2.1))
     (some false)
     (cond (!(x.1.2.2.2.2.2.1 == x.2.2.2.2.2.2.1))
      (some false)
      (cond (!(x.1.2.2.2.2.2.2.1 == x.2.2.2.2.2.2.2.1))
       (some false)
       ((m_laws_eqVote (x.1.2.2.2.2.2.2.2, x.2.2.2.2.2.2.2.2)).bind fun r1 =>
       (cond (!r1)
        (some false)
        (some true))))))))))
def m_laws_eqMessage (x : ((Int × (Int × (Int × (Int × (Int × (Int × (Int × (Int × Int)))))))) × (Int × (Int × (Int × (Int × (Int × (Int × (Int × (Int × Int)))))))))) : Option Bool := p_laws_eqMessage FU x
def a_laws_eqMessage : Ann := .leaf
def S_laws_eqMessage : FSpec := ⟨[.val (.pair (.int .i64) (.pair (.int .i64) (.pair (.int .i64) (.pair (.int .i64) (.pair (.int .i64) (.pair (.int .i64) (.pair (.int .i64) (.pair (.int .i64) (.int .i64))))))))), .val (.pair (.int .i64) (.pair (.int .i64) (.pair (.int .i64) (.pair (.int .i64) (.pair (.int .i64) (.pair (.int .i64) (.pair (.int .i64) (.pair (.int .i64) (.int .i64)))))))))], [.bool], m_laws_eqMessage⟩

/-! laws.eqMessageS -/
def l_laws_eqMessageS_1 (n : Nat) (x_1 : (List (Int × (Int × (Int × (Int × (Int × (Int × (Int × (Int × Int)))))))))) (x_2 : (List (Int × (Int × (Int × (Int × (Int × (Int × (Int × (Int × Int)))))))))) (z0 : Int) : Option Bool :=
(lp (fun rec6 (z5 : Int) =>
 (cond (decide (z5 < (lenI x_1)))
  ((geti x_1 z5).bind fun y7 =>
  ((geti x_2 z5).bind fun y8 =>
  ((m_laws_eqMessage (y7, y8)).bind fun r9 =>
  (cond (!r9)
   (some false)
   (rec6 (IntKind.wrap .i64 (z5 + (1 : Int))))))))
  (some true))) n z0)
def p_laws_eqMessageS (n : Nat) (x : ((List (Int × (Int × (Int × (Int × (Int × (Int × (Int × (Int × Int))))))))) × (List (Int × (Int × (Int × (Int × (Int × (Int × (Int × (Int × Int))))))))))) : Option Bool :=
(cond (!((lenI x.1) == (lenI x.2)))
 (some false)
 (l_laws_eqMessageS_1 n x.1 x.2 (0 : Int)))
def m_laws_eqMessageS (x : ((List (Int × (Int × (Int × (Int × (Int × (Int × (Int × (Int × Int))))))))) × (List (Int × (Int × (Int × (Int × (Int × (Int × (Int × (Int × Int))))))))))) : Option Bool := p_laws_eqMessageS FU x
def a_laws_eqMessageS : Ann := (.node .leaf (.node .leaf (.node (.node .leaf (.loop [.slot 5 (.int .i64)] [4, 11, 12, 13, 14, 15, 16, 17, 18, 19, 20, 21, 22, 23, 24, 25, 26] .leaf)) .leaf)))
def S_laws_eqMessageS : FSpec := ⟨[.val (.sl none (.pair (.int .i64) (.pair (.int .i64) (.pair (.int .i64) (.pair (.int .i64) (.pair (.int .i64) (.pair (.int .i64) (.pair (.int .i64) (.pair (.int .i64) (.int .i64)))))))))), .val (.sl none (.pair (.int .i64) (.pair (.int .i64) (.pair (.int .i64) (.pair (.int .i64) (.pair (.int .i64) (.pair (.int .i64) (.pair (.int .i64) (.pair (.int .i64) (.int .i64))))))))))], [.bool], m_laws_eqMessageS⟩

/-! laws.eqCluster -/
def p_laws_eqCluster (n : Nat) (x : (((List (Int × (List (Int × (Int × (Int × Int)))))) × ((List (Int × ((List (Int × (Int × Int))) × ((List (Int × Int)) × ((List (Int × (List (Int × (Int × (Int × Int)))))) × ((List (Int × Int)) × (List Int))))))) × ((List (List (Int × (Int × (Int × ((Int × Int) × (List (Int × Int)))))))) × ((List (Int × ((List (Int × (Int × (Int × (Int × ((List Int) × (List (Int × Int)))))))) × (List (Int × (Int × (Int × (Int × Int)))))))) × (List (Int × (Int × (Int × (Int × (Int × (Int × (Int × (Int × Int))))))))))))) × ((List (Int × (List (Int × (Int × (Int × Int)))))) × ((List (Int × ((List (Int × (Int × Int))) × ((List (Int × Int)) × ((List (Int × (List (Int × (Int × (Int × Int)))))) × ((List (Int × Int)) × (List Int))))))) × ((List (List (Int × (Int × (Int × ((Int × Int) × (List (Int × Int)))))))) × ((List (Int × ((List (Int × (Int × (Int × (Int × ((List Int) × (List (Int × Int)))))))) × (List (Int × (Int × (Int × (Int × Int)))))))) × (List (Int × (Int × (Int × (Int × (Int × (Int × (Int × (Int × Int))))))))))))))) : Option Bool :=
((m_laws_eqContractS (x.1.1, x.2.1)).bind fun r1 =>
(cond (!r1)
 (some false)
 ((m_laws_eqShardS (x.1.2.1, x.2.2.1)).bind fun r2 =>
 (cond (!r2)
  (some false)
  ((m_laws_eqAcceptorS (x.1.2.2.1, x.2.2.2.1)).bind fun r3 =>
  (cond (!r3)
   (some false)
   ((m_laws_eqLeaderS (x.1.2.2.2.1, x.2.2.2.2.1)).bind fun r4 =>
   (cond (!r4)
    (some false)
    ((m_laws_eqMessageS (x.1.2.2.2.2, x.2.2.2.2.2)).bind fun r5 =>
    (cond (!r5)
     (some false)
     (some true)))))))))))
def m_laws_eqCluster (x : (((List (Int × (List (Int × (Int × (Int × Int)))))) × ((List (Int × ((List (Int × (Int × Int))) × ((List (Int × Int)) × ((List (Int × (List (Int × (Int × (Int × Int)))))) × ((List (Int × Int)) × (List Int))))))) × ((List (List (Int × (Int × (Int × ((Int × Int) × (List (Int × Int)))))))) × ((List (Int × ((List (Int × (Int × (Int × (Int × ((List Int) × (List (Int × Int)))))))) × (List (Int × (Int × (Int × (Int × Int)))))))) × (List (Int × (Int × (Int × (Int × (Int × (Int × (Int × (Int × Int))))))))))))) × ((List (Int × (List (Int × (Int × (Int × Int)))))) × ((List (Int × ((List (Int × (Int × Int))) × ((List (Int × Int)) × ((List (Int × (List (Int × (Int × (Int × Int)))))) × ((List (Int × Int)) × (List Int))))))) × ((List (List (Int × (Int × (Int × ((Int × Int) × (List (Int × Int)))))))) × ((List (Int × ((List (Int × (Int × (Int × (Int × ((List Int) × (List (Int × Int)))))))) × (List (Int × (Int × (Int × (Int × Int)))))))) × (List (Int × (Int × (Int × (Int × (Int × (Int × (Int × (Int × Int))))))))))))))) : Option Bool := p_laws_eqCluster FU x
def a_laws_eqCluster : Ann := .leaf
def S_laws_eqCluster : FSpec := ⟨[.val (.pair (.sl none (.pair (.int .i64) (.sl none (.pair (.int .i64) (.pair (.int .i64) (.pair (.int .i64) (.int .i64))))))) (.pair (.sl none (.pair (.int .i64) (.pair (.sl none (.pair (.int .i64) (.pair (.int .i64) (.int .i64)))) (.pair (.sl none (.pair (.int .i64) (.int .i64))) (.pair (.sl none (.pair (.int .i64) (.sl none (.pair (.int .i64) (.pair (.int .i64) (.pair (.int .i64) (.int .i64))))))) (.pair (.sl none (.pair (.int .i64) (.int .i64))) (.sl none (.int .i64)))))))) (.pair (.sl none (.one (.sl none (.pair (.int .i64) (.pair (.int .i64) (.pair (.int .i64) (.pair (.pair (.int .i64) (.int .i64)) (.sl none (.pair (.int .i64) (.int .i64)))))))))) (.pair (.sl none (.pair (.int .i64) (.pair (.sl none (.pair (.int .i64) (.pair (.int .i64) (.pair (.int .i64) (.pair (.int .i64) (.pair (.sl none (.int .i64)) (.sl none (.pair (.int .i64) (.int .i64))))))))) (.sl none (.pair (.int .i64) (.pair (.int .i64) (.pair (.int .i64) (.pair (.int .i64) (.int .i64))))))))) (.sl none (.pair (.int .i64) (.pair (.int .i64) (.pair (.int .i64) (.pair (.int .i64) (.pair (.int .i64) (.pair (.int .i64) (.pair (.int .i64) (.pair (.int .i64) (.int .i64)))))))))))))), .val (.pair (.sl none (.pair (.int .i64) (.sl none (.pair (.int .i64) (.pair (.int .i64) (.pair (.int .i64) (.int .i64))))))) (.pair (.sl none (.pair (.int .i64) (.pair (.sl none (.pair (.int .i64) (.pair (.int .i64) (.int .i64)))) (.pair (.sl none (.pair (.int .i64) (.int .i64))) (.pair (.sl none (.pair (.int .i64) (.sl none (.pair (.int .i64) (.pair (.int .i64) (.pair (.int .i64) (.int .i64))))))) (.pair (.sl none (.pair (.int .i64) (.int .i64))) (.sl none (.int .i64)))))))) (.pair (.sl none (.one (.sl none (.pair (.int .i64) (.pair (.int .i64) (.pair (.int .i64) (.pair (.pair (.int .i64) (.int .i64)) (.sl none (.pair (.int .i64) (.int .i64)))))))))) (.pair (.sl none (.pair (.int .i64) (.pair (.sl none (.pair (.int .i64) (.pair (.int .i64) (.pair (.int .i64) (.pair (.int .i64) (.pair (.sl none (.int .i64)) (.sl none (.pair (.int .i64) (.int .i64))))))))) (.sl none (.pair (.int .i64) (.pair (.int .i64) (.pair (.int .i64) (.pair (.int .i64) (.int .i64))))))))) (.sl none (.pair (.int .i64) (.pair (.int .i64) (.pair (.int .i64) (.pair (.int .i64) (.pair (.int .i64) (.pair (.int .i64) (.pair (.int .i64) (.pair (.int .i64) (.int .i64))))))))))))))], [.bool], m_laws_eqCluster⟩

/-! laws.eqClusterResult -/
def p_laws_eqClusterResult (n : Nat) (x : ((Int × ((List (Int × (List (Int × (Int × (Int × Int)))))) × ((List (Int × ((List (Int × (Int × Int))) × ((List (Int × Int)) × ((List (Int × (List (Int × (Int × (Int × Int)))))) × ((List (Int × Int)) × (List Int))))))) × ((List (List (Int × (Int × (Int × ((Int × Int) × (List (Int × Int)))))))) × ((List (Int × ((List (Int × (Int × (Int × (Int × ((List Int) × (List (Int × Int)))))))) × (List (Int × (Int × (Int × (Int × Int)))))))) × (List (Int × (Int × (Int × (Int × (Int × (Int × (Int × (Int × Int)))))))))))))) × (Int × ((List (Int × (List (Int × (Int × (Int × Int)))))) × ((List (Int × ((List (Int × (Int × Int))) × ((List (Int × Int)) × ((List (Int × (List (Int × (Int × (Int × Int)))))) × ((List (Int × Int)) × (List Int))))))) × ((List (List (Int × (Int × (Int × ((Int × Int) × (List (Int × Int)))))))) × ((List (Int × ((List (Int × (Int × (Int × (Int × ((List Int) × (List (Int × Int)))))))) × (List (Int × (Int × (Int × (Int × Int)))))))) × (List (Int × (Int × (Int × (Int × (Int × (Int × (Int × (Int × Int)))))))))))))))) : Option Bool :=
(cond (!(x.1.1 == x.2.1))
 (some false)
 ((m_laws_eqCluster (x.1.2, x.2.2)).bind fun r1 =>
 (cond (!r1)
  (some false)
  (some true))))
def m_laws_eqClusterResult (x : ((Int × ((List (Int × (List (Int × (Int × (Int × Int)))))) × ((List (Int × ((List (Int × (Int × Int))) × ((List (Int × Int)) × ((List (Int × (List (Int × (Int × (Int × Int)))))) × ((List (Int × Int)) × (List Int))))))) × ((List (List (Int × (Int × (Int × ((Int × Int) × (List (Int × Int)))))))) × ((List (Int × ((List (Int × (Int × (Int × (Int × ((List Int) × (List (Int × Int)))))))) × (List (Int × (Int × (Int × (Int × Int)))))))) × (List (Int × (Int × (Int × (Int × (Int × (Int × (Int × (Int × Int)))))))))))))) × (Int × ((List (Int × (List (Int × (Int × (Int × Int)))))) × ((List (Int × ((List (Int × (Int × Int))) × ((List (Int × Int)) × ((List (Int × (List (Int × (Int × (Int × Int)))))) × ((List (Int × Int)) × (List Int))))))) × ((List (List (Int × (Int × (Int × ((Int × Int) × (List (Int × Int)))))))) × ((List (Int × ((List (Int × (Int × (Int × (Int × ((List Int) × (List (Int × Int)))))))) × (List (Int × (Int × (Int × (Int × Int)))))))) × (List (Int × (Int × (Int × (Int × (Int × (Int × (Int × (Int × Int)))))))))))))))) : Option Bool := p_laws_eqClusterResult FU x
def a_laws_eqClusterResult : Ann := .leaf
def S_laws_eqClusterResult : FSpec := ⟨[.val (.pair (.int .i64) (.pair (.sl none (.pair (.int .i64) (.sl none (.pair (.int .i64) (.pair (.int .i64) (.pair (.int .i64) (.int .i64))))))) (.pair (.sl none (.pair (.int .i64) (.pair (.sl none (.pair (.int .i64) (.pair (.int .i64) (.int .i64)))) (.pair (.sl none (.pair (.int .i64) (.int .i64))) (.pair (.sl none (.pair (.int .i64) (.sl none (.pair (.int .i64) (.pair (.int .i64) (.pair (.int .i64) (.int .i64))))))) (.pair (.sl none (.pair (.int .i64) (.int .i64))) (.sl none (.int .i64)))))))) (.pair (.sl none (.one (.sl none (.pair (.int .i64) (.pair (.int .i64) (.pair (.int .i64) (.pair (.pair (.int .i64) (.int .i64)) (.sl none (.pair (.int .i64) (.int .i64)))))))))) (.pair (.sl none (.pair (.int .i64) (.pair (.sl none (.pair (.int .i64) (.pair (.int .i64) (.pair (.int .i64) (.pair (.int .i64) (.pair (.sl none (.int .i64)) (.sl none (.pair (.int .i64) (.int .i64))))))))) (.sl none (.pair (.int .i64) (.pair (.int .i64) (.pair (.int .i64) (.pair (.int .i64) (.int .i64))))))))) (.sl none (.pair (.int .i64) (.pair (.int .i64) (.pair (.int .i64) (.pair (.int .i64) (.pair (.int .i64) (.pair (.int .i64) (.pair (.int .i64) (.pair (.int .i64) (.int .i64))))))))))))))), .val (.pair (.int .i64) (.pair (.sl none (.pair (.int .i64) (.sl none (.pair (.int .i64) (.pair (.int .i64) (.pair (.int .i64) (.int .i64))))))) (.pair (.sl none (.pair (.int .i64) (.pair (.sl none (.pair (.int .i64) (.pair (.int .i64) (.int .i64)))) (.pair (.sl none (.pair (.int .i64) (.int .i64))) (.pair (.sl none (.pair (.int .i64) (.sl none (.pair (.int .i64) (.pair (.int .i64) (.pair (.int .i64) (.int .i64))))))) (.pair (.sl none (.pair (.int .i64) (.int .i64))) (.sl none (.int .i64)))))))) (.pair (.sl none (.one (.sl none (.pair (.int .i64) (.pair (.int .i64) (.pair (.int .i64) (.pair (.pair (.int .i64) (.int .i64)) (.sl none (.pair (.int .i64) (.int .i64)))))))))) (.pair (.sl none (.pair (.int .i64) (.pair (.sl none (.pair (.int .i64) (.pair (.int .i64) (.pair (.int .i64) (.pair (.int .i64) (.pair (.sl none (.int .i64)) (.sl none (.pair (.int .i64) (.int .i64))))))))) (.sl none (.pair (.int .i64) (.pair (.int .i64) (.pair (.int .i64) (.pair (.int .i64) (.int .i64))))))))) (.sl none (.pair (.int .i64) (.pair (.int .i64) (.pair (.int .i64) (.pair (.int .i64) (.pair (.int .i64) (.pair (.int .i64) (.pair (.int .i64) (.pair (.int .i64) (.int .i64)))))))))))))))], [.bool], m_laws_eqClusterResult⟩

/-! laws.eqBalanceSS -/
def l_laws_eqBalanceSS_1 (n : Nat) (x_1 : (List (List (Int × (Int × Int))))) (x_2 : (List (List (Int × (Int × Int))))) (z0 : Int) : Option Bool :=
(lp (fun rec6 (z5 : Int) =>
 (cond (decide (z5 < (lenI x_1)))
  ((geti x_1 z5).bind fun y7 =>
  ((geti x_2 z5).bind fun y8 =>
  ((m_laws_eqBalanceS (y7, y8)).bind fun r9 =>
  (cond (!r9)
   (some false)
   (rec6 (IntKind.wrap .i64 (z5 + (1 : Int))))))))
  (some true))) n z0)
def p_laws_eqBalanceSS (n : Nat) (x : ((List (List (Int × (Int × Int)))) × (List (List (Int × (Int × Int)))))) : Option Bool :=
(cond (!((lenI x.1) == (lenI x.2)))
 (some false)
 (l_laws_eqBalanceSS_1 n x.1 x.2 (0 : Int)))
def m_laws_eqBalanceSS (x : ((List (List (Int × (Int × Int)))) × (List (List (Int × (Int × Int)))))) : Option Bool := p_laws_eqBalanceSS FU x
def a_laws_eqBalanceSS : Ann := (.node .leaf (.node .leaf (.node (.node .leaf (.loop [.slot 5 (.int .i64)] [4, 11, 12, 13, 14, 15, 16, 17, 18, 19, 20, 21, 22, 23, 24, 25, 26] .leaf)) .leaf)))
def S_laws_eqBalanceSS : FSpec := ⟨[.val (.sl none (.sl none (.pair (.int .i64) (.pair (.int .i64) (.int .i64))))), .val (.sl none (.sl none (.pair (.int .i64) (.pair (.int .i64) (.int .i64)))))], [.bool], m_laws_eqBalanceSS⟩

/-! laws.eqLedger -/
def p_laws_eqLedger (n : Nat) (x : ((List (List (Int × (Int × Int)))) × (List (List (Int × (Int × Int)))))) : Option Bool :=
((m_laws_eqBalanceSS (x.1, x.2)).bind fun r1 =>
(cond (!r1)
 (some false)
 (some true)))
def m_laws_eqLedger (x : ((List (List (Int × (Int × Int)))) × (List (List (Int × (Int × Int)))))) : Option Bool := p_laws_eqLedger FU x
def a_laws_eqLedger : Ann := .leaf
def S_laws_eqLedger : FSpec := ⟨[.val (.one (.sl none (.sl none (.pair (.int .i64) (.pair (.int .i64) (.int .i64)))))), .val (.one (.sl none (.sl none (.pair (.int .i64) (.pair (.int .i64) (.int .i64))))))], [.bool], m_laws_eqLedger⟩

/-! laws.markBalanceS -/
def l_laws_markBalanceS_1 (n : Nat)  (z0 : (Int × (Int × (List (Int × (Int × Int)))))) : Option (Int × (List (Int × (Int × Int)))) :=
(lp (fun rec10 (z9 : (Int × (Int × (List (Int × (Int × Int)))))) =>
 (cond (decide (z9.2.1 < (lenI z9.2.2)))
  ((geti z9.2.2 z9.2.1).bind fun _ =>
  ((z9.2.2[z9.2.1.toNat]?).bind fun y11 =>
  ((geti (z9.2.2.set z9.2.1.toNat (z9.1, y11.2)) z9.2.1).bind fun _ =>
  (((z9.2.2.set z9.2.1.toNat (z9.1, y11.2))[z9.2.1.toNat]?).bind fun y12 =>
  ((geti ((z9.2.2.set z9.2.1.toNat (z9.1, y11.2)).set z9.2.1.toNat (y12.1, (IntKind.wrap .i64 (z9.1 + (1 : Int)), y12.2.2))) z9.2.1).bind fun _ =>
  ((((z9.2.2.set z9.2.1.toNat (z9.1, y11.2)).set z9.2.1.toNat (y12.1, (IntKind.wrap .i64 (z9.1 + (1 : Int)), y12.2.2)))[z9.2.1.toNat]?).bind fun y13 =>
  rec10 (IntKind.wrap .i64 ((IntKind.wrap .i64 ((IntKind.wrap .i64 (z9.1 + (1 : Int))) + (1 : Int))) + (1 : Int)), IntKind.wrap .i64 (z9.2.1 + (1 : Int)), (((z9.2.2.set z9.2.1.toNat (z9.1, y11.2)).set z9.2.1.toNat (y12.1, (IntKind.wrap .i64 (z9.1 + (1 : Int)), y12.2.2))).set z9.2.1.toNat (y13.1, (y13.2.1, IntKind.wrap .i64 ((IntKind.wrap .i64 (z9.1 + (1 : Int))) + (1 : Int))))))))))))
  (some (z9.1, z9.2.2)))) n z0)
def p_laws_markBalanceS (n : Nat) (x : ((List (Int × (Int × Int))) × Int)) : Option (Int × (List (Int × (Int × Int)))) :=
(l_laws_markBalanceS_1 n  (x.2, (0 : Int), x.1))
def m_laws_markBalanceS (x : ((List (Int × (Int × Int))) × Int)) : Option (Int × (List (Int × (Int × Int)))) := p_laws_markBalanceS FU x
def a_laws_markBalanceS : Ann := (.node .leaf (.node (.node .leaf (.loop [.slot 1 (.int .i64), .slot 5 (.int .i64), .row 0 116 (.pair (.int .i64) (.pair (.int .i64) (.int .i64)))] [6, 7, 8, 9, 10, 11, 12, 13, 14, 15, 16, 17, 18, 19, 20, 21, 22, 23, 24, 25, 26, 27, 28, 29, 30, 31, 32] .leaf)) .leaf))
def S_laws_markBalanceS : FSpec := ⟨[.row 116 (.pair (.int .i64) (.pair (.int .i64) (.int .i64))), .val (.int .i64)], [(.int .i64)], m_laws_markBalanceS⟩

/-! laws.markBalanceSS -/
def l_laws_markBalanceSS_1 (n : Nat)  (z0 : (Int × (Int × (List (List (Int × (Int × Int))))))) : Option (Int × (List (List (Int × (Int × Int))))) :=
(lp (fun rec10 (z9 : (Int × (Int × (List (List (Int × (Int × Int))))))) =>
 (cond (decide (z9.2.1 < (lenI z9.2.2)))
  ((geti z9.2.2 z9.2.1).bind fun _ =>
  ((z9.2.2[z9.2.1.toNat]?).bind fun y11 =>
  ((z9.2.2[z9.2.1.toNat]?).bind fun y12 =>
  ((m_laws_markBalanceS (y12, z9.1)).bind fun r13 =>
  rec10 (r13.1, IntKind.wrap .i64 (z9.2.1 + (1 : Int)), (z9.2.2.set z9.2.1.toNat r13.2))))))
  (some (z9.1, z9.2.2)))) n z0)
def p_laws_markBalanceSS (n : Nat) (x : ((List (List (Int × (Int × Int)))) × Int)) : Option (Int × (List (List (Int × (Int × Int))))) :=
(l_laws_markBalanceSS_1 n  (x.2, (0 : Int), x.1))
def m_laws_markBalanceSS (x : ((List (List (Int × (Int × Int)))) × Int)) : Option (Int × (List (List (Int × (Int × Int))))) := p_laws_markBalanceSS FU x
def a_laws_markBalanceSS : Ann := (.node .leaf (.node (.node .leaf (.loop [.slot 1 (.int .i64), .slot 5 (.int .i64), .row 0 106 (.sl (some 116) (.pair (.int .i64) (.pair (.int .i64) (.int .i64))))] [6, 7, 8, 9, 10, 11, 12, 13, 14, 15, 16, 17] .leaf)) .leaf))
def S_laws_markBalanceSS : FSpec := ⟨[.row 106 (.sl (some 116) (.pair (.int .i64) (.pair (.int .i64) (.int .i64)))), .val (.int .i64)], [(.int .i64)], m_laws_markBalanceSS⟩

/-! laws.markLegS -/
def l_laws_markLegS_1 (n : Nat)  (z0 : (Int × (Int × (List (Int × (Int × (Int × Int))))))) : Option (Int × (List (Int × (Int × (Int × Int))))) :=
(lp (fun rec12 (z11 : (Int × (Int × (List (Int × (Int × (Int × Int))))))) =>
 (cond (decide (z11.2.1 < (lenI z11.2.2)))
  ((geti z11.2.2 z11.2.1).bind fun _ =>
  ((z11.2.2[z11.2.1.toNat]?).bind fun y13 =>
  ((geti (z11.2.2.set z11.2.1.toNat (z11.1, y13.2)) z11.2.1).bind fun _ =>
  (((z11.2.2.set z11.2.1.toNat (z11.1, y13.2))[z11.2.1.toNat]?).bind fun y14 =>
  ((geti ((z11.2.2.set z11.2.1.toNat (z11.1, y13.2)).set z11.2.1.toNat (y14.1, (IntKind.wrap .i64 (z11.1 + (1 : Int)), y14.2.2))) z11.2.1).bind fun _ =>
  ((((z11.2.2.set z11.2.1.toNat (z11.1, y13.2)).set z11.2.1.toNat (y14.1, (IntKind.wrap .i64 (z11.1 + (1 : Int)), y14.2.2)))[z11.2.1.toNat]?).bind fun y15 =>
  ((geti (((z11.2.2.set z11.2.1.toNat (z11.1, y13.2)).set z11.2.1.toNat (y14.1, (IntKind.wrap .i64 (z11.1 + (1 : Int)), y14.2.2))).set z11.2.1.toNat (y15.1, (y15.2.1, (IntKind.wrap .i64 ((IntKind.wrap .i64 (z11.1 + (1 : Int))) + (1 : Int)), y15.2.2.2)))) z11.2.1).bind fun _ =>
  (((((z11.2.2.set z11.2.1.toNat (z11.1, y13.2)).set z11.2.1.toNat (y14.1, (IntKind.wrap .i64 (z11.1 + (1 : Int)), y14.2.2))).set z11.2.1.toNat (y15.1, (y15.2.1, (IntKind.wrap .i64 ((IntKind.wrap .i64 (z11.1 + (1 : Int))) + (1 : Int)), y15.2.2.2))))[z11.2.1.toNat]?).bind fun y16 =>
  rec12 (IntKind.wrap .i64 ((IntKind.wrap .i64 ((IntKind.wrap .i64 ((IntKind.wrap .i64 (z11.1 + (1 : Int))) + (1 : Int))) + (1 : Int))) + (1 : Int)), IntKind.wrap .i64 (z11.2.1 + (1 : Int)), ((((z11.2.2.set z11.2.1.toNat (z11.1, y13.2)).set z11.2.1.toNat (y14.1, (IntKind.wrap .i64 (z11.1 + (1 : Int)), y14.2.2))).set z11.2.1.toNat (y15.1, (y15.2.1, (IntKind.wrap .i64 ((IntKind.wrap .i64 (z11.1 + (1 : Int))) + (1 : Int)), y15.2.2.2)))).set z11.2.1.toNat (y16.1, (y16.2.1, (y16.2.2.1, IntKind.wrap .i64 ((IntKind.wrap .i64 ((IntKind.wrap .i64 (z11.1 + (1 : Int))) + (1 : Int))) + (1 : Int)))))))))))))))
  (some (z11.1, z11.2.2)))) n z0)
def p_laws_markLegS (n : Nat) (x : ((List (Int × (Int × (Int × Int)))) × Int)) : Option (Int × (List (Int × (Int × (Int × Int))))) :=
(l_laws_markLegS_1 n  (x.2, (0 : Int), x.1))
def m_laws_markLegS (x : ((List (Int × (Int × (Int × Int)))) × Int)) : Option (Int × (List (Int × (Int × (Int × Int))))) := p_laws_markLegS FU x
def a_laws_markLegS : Ann := (.node .leaf (.node (.node .leaf (.loop [.slot 1 (.int .i64), .slot 5 (.int .i64), .row 0 230 (.pair (.int .i64) (.pair (.int .i64) (.pair (.int .i64) (.int .i64))))] [6, 7, 8, 9, 10, 11, 12, 13, 14, 15, 16, 17, 18, 19, 20, 21, 22, 23, 24, 25, 26, 27, 28, 29, 30, 31, 32, 33, 34, 35, 36, 37, 38, 39] .leaf)) .leaf))
def S_laws_markLegS : FSpec := ⟨[.row 230 (.pair (.int .i64) (.pair (.int .i64) (.pair (.int .i64) (.int .i64)))), .val (.int .i64)], [(.int .i64)], m_laws_markLegS⟩

/-! laws.markContractS -/
def l_laws_markContractS_1 (n : Nat)  (z0 : (Int × (Int × (List (Int × (List (Int × (Int × (Int × Int))))))))) : Option (Int × (List (Int × (List (Int × (Int × (Int × Int))))))) :=
(lp (fun rec12 (z11 : (Int × (Int × (List (Int × (List (Int × (Int × (Int × Int))))))))) =>
 (cond (decide (z11.2.1 < (lenI z11.2.2)))
  ((geti z11.2.2 z11.2.1).bind fun _ =>
  ((z11.2.2[z11.2.1.toNat]?).bind fun y13 =>
  ((geti (z11.2.2.set z11.2.1.toNat (z11.1, y13.2)) z11.2.1).bind fun _ =>
  (((z11.2.2.set z11.2.1.toNat (z11.1, y13.2))[z11.2.1.toNat]?).bind fun y14 =>
  (((z11.2.2.set z11.2.1.toNat (z11.1, y13.2))[z11.2.1.toNat]?).bind fun y15 =>
  ((m_laws_markLegS (y15.2, IntKind.wrap .i64 (z11.1 + (1 : Int)))).bind fun r16 =>
  rec12 (r16.1, IntKind.wrap .i64 (z11.2.1 + (1 : Int)), ((z11.2.2.set z11.2.1.toNat (z11.1, y13.2)).set z11.2.1.toNat (y15.1, r16.2)))))))))
  (some (z11.1, z11.2.2)))) n z0)
def p_laws_markContractS (n : Nat) (x : ((List (Int × (List (Int × (Int × (Int × Int)))))) × Int)) : Option (Int × (List (Int × (List (Int × (Int × (Int × Int))))))) :=
(l_laws_markContractS_1 n  (x.2, (0 : Int), x.1))
def m_laws_markContractS (x : ((List (Int × (List (Int × (Int × (Int × Int)))))) × Int)) : Option (Int × (List (Int × (List (Int × (Int × (Int × Int))))))) := p_laws_markContractS FU x
def a_laws_markContractS : Ann := (.node .leaf (.node (.node .leaf (.loop [.slot 1 (.int .i64), .slot 5 (.int .i64), .row 0 187 (.pair (.int .i64) (.sl (some 230) (.pair (.int .i64) (.pair (.int .i64) (.pair (.int .i64) (.int .i64))))))] [6, 7, 8, 9, 10, 11, 12, 13, 14, 15, 16, 17, 18, 19, 20, 21, 22, 23, 24, 25] .leaf)) .leaf))
def S_laws_markContractS : FSpec := ⟨[.row 187 (.pair (.int .i64) (.sl (some 230) (.pair (.int .i64) (.pair (.int .i64) (.pair (.int .i64) (.int .i64)))))), .val (.int .i64)], [(.int .i64)], m_laws_markContractS⟩

/-! laws.markMarkS -/
def l_laws_markMarkS_1 (n : Nat)  (z0 : (Int × (Int × (List (Int × Int))))) : Option (Int × (List (Int × Int))) :=
(lp (fun rec8 (z7 : (Int × (Int × (List (Int × Int))))) =>
 (cond (decide (z7.2.1 < (lenI z7.2.2)))
  ((geti z7.2.2 z7.2.1).bind fun _ =>
  ((z7.2.2[z7.2.1.toNat]?).bind fun y9 =>
  ((geti (z7.2.2.set z7.2.1.toNat (z7.1, y9.2)) z7.2.1).bind fun _ =>
  (((z7.2.2.set z7.2.1.toNat (z7.1, y9.2))[z7.2.1.toNat]?).bind fun y10 =>
  rec8 (IntKind.wrap .i64 ((IntKind.wrap .i64 (z7.1 + (1 : Int))) + (1 : Int)), IntKind.wrap .i64 (z7.2.1 + (1 : Int)), ((z7.2.2.set z7.2.1.toNat (z7.1, y9.2)).set z7.2.1.toNat (y10.1, IntKind.wrap .i64 (z7.1 + (1 : Int)))))))))
  (some (z7.1, z7.2.2)))) n z0)
def p_laws_markMarkS (n : Nat) (x : ((List (Int × Int)) × Int)) : Option (Int × (List (Int × Int))) :=
(l_laws_markMarkS_1 n  (x.2, (0 : Int), x.1))
def m_laws_markMarkS (x : ((List (Int × Int)) × Int)) : Option (Int × (List (Int × Int))) := p_laws_markMarkS FU x
def a_laws_markMarkS : Ann := (.node .leaf (.node (.node .leaf (.loop [.slot 1 (.int .i64), .slot 5 (.int .i64), .row 0 232 (.pair (.int .i64) (.int .i64))] [6, 7, 8, 9, 10, 11, 12, 13, 14, 15, 16, 17, 18, 19, 20, 21, 22, 23, 24, 25] .leaf)) .leaf))
def S_laws_markMarkS : FSpec := ⟨[.row 232 (.pair (.int .i64) (.int .i64)), .val (.int .i64)], [(.int .i64)], m_laws_markMarkS⟩

/-! laws.markInt64S -/
def l_laws_markInt64S_1 (n : Nat)  (z0 : (Int × (Int × (List Int)))) : Option (Int × (List Int)) :=
(lp (fun rec6 (z5 : (Int × (Int × (List Int)))) =>
 (cond (decide (z5.2.1 < (lenI z5.2.2)))
  ((geti z5.2.2 z5.2.1).bind fun _ =>
  ((z5.2.2[z5.2.1.toNat]?).bind fun y7 =>
  rec6 (IntKind.wrap .i64 (z5.1 + (1 : Int)), IntKind.wrap .i64 (z5.2.1 + (1 : Int)), (z5.2.2.set z5.2.1.toNat z5.1))))
  (some (z5.1, z5.2.2)))) n z0)
def p_laws_markInt64S (n : Nat) (x : ((List Int) × Int)) : Option (Int × (List Int)) :=
(l_laws_markInt64S_1 n  (x.2, (0 : Int), x.1))
def m_laws_markInt64S (x : ((List Int) × Int)) : Option (Int × (List Int)) := p_laws_markInt64S FU x
def a_laws_markInt64S : Ann := (.node .leaf (.node (.node .leaf (.loop [.slot 1 (.int .i64), .slot 5 (.int .i64), .row 0 2 (.int .i64)] [6, 7, 8, 9, 10, 11, 12, 13, 14, 15, 16, 17] .leaf)) .leaf))
def S_laws_markInt64S : FSpec := ⟨[.row 2 (.int .i64), .val (.int .i64)], [(.int .i64)], m_laws_markInt64S⟩

/-! laws.markShardS -/
def l_laws_markShardS_1 (n : Nat)  (z0 : (Int × (Int × (List (Int × ((List (Int × (Int × Int))) × ((List (Int × Int)) × ((List (Int × (List (Int × (Int × (Int × Int)))))) × ((List (Int × Int)) × (List Int)))))))))) : Option (Int × (List (Int × ((List (Int × (Int × Int))) × ((List (Int × Int)) × ((List (Int × (List (Int × (Int × (Int × Int)))))) × ((List (Int × Int)) × (List Int)))))))) :=
(lp (fun rec36 (z35 : (Int × (Int × (List (Int × ((List (Int × (Int × Int))) × ((List (Int × Int)) × ((List (Int × (List (Int × (Int × (Int × Int)))))) × ((List (Int × Int)) × (List Int)))))))))) =>
 (cond (decide (z35.2.1 < (lenI z35.2.2)))
  ((geti z35.2.2 z35.2.1).bind fun _ =>
  ((z35.2.2[z35.2.1.toNat]?).bind fun y37 =>
  ((geti (z35.2.2.set z35.2.1.toNat (z35.1, y37.2)) z35.2.1).bind fun _ =>
  (((z35.2.2.set z35.2.1.toNat (z35.1, y37.2))[z35.2.1.toNat]?).bind fun y38 =>
  (((z35.2.2.set z35.2.1.toNat (z35.1, y37.2))[z35.2.1.toNat]?).bind fun y39 =>
  ((m_laws_markBalanceS (y39.2.1, IntKind.wrap .i64 (z35.1 + (1 : Int)))).bind fun r40 =>
  ((geti ((z35.2.2.set z35.2.1.toNat (z35.1, y37.2)).set z35.2.1.toNat (y39.1, (r40.2, y39.2.2))) z35.2.1).bind fun _ =>
  ((((z35.2.2.set z35.2.1.toNat (z35.1, y37.2)).set z35.2.1.toNat (y39.1, (r40.2, y39.2.2)))[z35.2.1.toNat]?).bind fun y41 =>
  ((((z35.2.2.set z35.2.1.toNat (z35.1, y37.2)).set z35.2.1.toNat (y39.1, (r40.2, y39.2.2)))[z35.2.1.toNat]?).bind fun y42 =>
  ((m_laws_markMarkS (y42.2.2.1, r40.1)).bind fun r43 =>
  ((geti (((z35.2.2.set z35.2.1.toNat (z35.1, y37.2)).set z35.2.1.toNat (y39.1, (r40.2, y39.2.2))).set z35.2.1.toNat (y42.1, (y42.2.1, (r43.2, y42.2.2.2)))) z35.2.1).bind fun _ =>
  (((((z35.2.2.set z35.2.1.toNat (z35.1, y37.2)).set z35.2.1.toNat (y39.1, (r40.2, y39.2.2))).set z35.2.1.toNat (y42.1, (y42.2.1, (r43.2, y42.2.2.2))))[z35.2.1.toNat]?).bind fun y44 =>
  (((((z35.2.2.set z35.2.1.toNat (z35.1, y37.2)).set z35.2.1.toNat (y39.1, (r40.2, y39.2.2))).set z35.2.1.toNat (y42.1, (y42.2.1, (r43.2, y42.2.2.2))))[z35.2.1.toNat]?).bind fun y45 =>
  ((m_laws_markContractS (y45.2.2.2.1, r43.1)).bind fun r46 =>
  ((geti ((((z35.2.2.set z35.2.1.toNat (z35.1, y37.2)).set z35.2.1.toNat (y39.1, (r40.2, y39.2.2))).set z35.2.1.toNat (y42.1, (y42.2.1, (r43.2, y42.2.2.2)))).set z35.2.1.toNat (y45.1, (y45.2.1, (y45.2.2.1, (r46.2, y45.2.2.2.2))))) z35.2.1).bind fun _ =>
  ((((((z35.2.2.set z35.2.1.toNat (z35.1, y37.2)).set z35.2.1.toNat (y39.1, (r40.2, y39.2.2))).set z35.2.1.toNat (y42.1, (y42.2.1, (r43.2, y42.2.2.2)))).set z35.2.1.toNat (y45.1, (y45.2.1, (y45.2.2.1, (r46.2, y45.2.2.2.2)))))[z35.2.1.toNat]?).bind fun y47 =>
  ((((((z35.2.2.set z35.2.1.toNat (z35.1, y37.2)).set z35.2.1.toNat (y39.1, (r40.2, y39.2.2))).set z35.2.1.toNat (y42.1, (y42.2.1, (r43.2, y42.2.2.2)))).set z35.2.1.toNat (y45.1, (y45.2.1, (y45.2.2.1, (r46.2, y45.2.2.2.2)))))[z35.2.1.toNat]?).bind fun y48 =>
  ((m_laws_markMarkS (y48.2.2.2.2.1, r46.1)).bind fun r49 =>
  ((geti (((((z35.2.2.set z35.2.1.toNat (z35.1, y37.2)).set z35.2.1.toNat (y39.1, (r40.2, y39.2.2))).set z35.2.1.toNat (y42.1, (y42.2.1, (r43.2, y42.2.2.2)))).set z35.2.1.toNat (y45.1, (y45.2.1, (y45.2.2.1, (r46.2, y45.2.2.2.2))))).set z35.2.1.toNat (y48.1, (y48.2.1, (y48.2.2.1, (y48.2.2.2.1, (r49.2, y48.2.2.2.2.2)))))) z35.2.1).bind fun _ =>
  (((((((z35.2.2.set z35.2.1.toNat (z35.1, y37.2)).set z35.2.1.toNat (y39.1, (r40.2, y39.2.2))).set z35.2.1.toNat (y42.1, (y42.2.1, (r43.2, y42.2.2.2)))).set z35.2.1.toNat (y45.1, (y45.2.1, (y45.2.2.1, (r46.2, y45.2.2.2.2))))).set z35.2.1.toNat (y48.1, (y48.2.1, (y48.2.2.1, (y48.2.2.2.1, (r49.2, y48.2.2.2.2.2))))))[z35.2.1.toNat]?).bind fun y50 =>
  (((((((z35.2.2.set z35.2.1.toNat (z35.1, y37.2)).set z35.2.1.toNat (y39.1, (r40.2, y39.2.2))).set z35.2.1.toNat (y42.1, (y42.2.1, (r43.2, y42.2.2.2)))).set z35.2.1.toNat (y45.1, (y45.2.1, (y45.2.2.1, (r46.2, y45.2.2.2.2))))).set z35.2.1.toNat (y48.1, (y48.2.1, (y48.2.2.1, (y48.2.2.2.1, (r49.2, y48.2.2.2.2.2))))))[z35.2.1.toNat]?).bind fun y51 =>
  ((m_laws_markInt64S (y51.2.2.2.2.2, r49.1)).bind fun r52 =>
  rec36 (r52.1, IntKind.wrap .i64 (z35.2.1 + (1 : Int)), ((((((z35.2.2.set z35.2.1.toNat (z35.1, y37.2)).set z35.2.1.toNat (y39.1, (r40.2, y39.2.2))).set z35.2.1.toNat (y42.1, (y42.2.1, (r43.2, y42.2.2.2)))).set z35.2.1.toNat (y45.1, (y45.2.1, (y45.2.2.1, (r46.2, y45.2.2.2.2))))).set z35.2.1.toNat (y48.1, (y48.2.1, (y48.2.2.1, (y48.2.2.2.1, (r49.2, y48.2.2.2.2.2)))))).set z35.2.1.toNat (y51.1, (y51.2.1, (y51.2.2.1, (y51.2.2.2.1, (y51.2.2.2.2.1, r52.2)))))))))))))))))))))))))))))
  (some (z35.1, z35.2.2)))) n z0)
def p_laws_markShardS (n : Nat) (x : ((List (Int × ((List (Int × (Int × Int))) × ((List (Int × Int)) × ((List (Int × (List (Int × (Int × (Int × Int)))))) × ((List (Int × Int)) × (List Int))))))) × Int)) : Option (Int × (List (Int × ((List (Int × (Int × Int))) × ((List (Int × Int)) × ((List (Int × (List (Int × (Int × (Int × Int)))))) × ((List (Int × Int)) × (List Int)))))))) :=
(l_laws_markShardS_1 n  (x.2, (0 : Int), x.1))
def m_laws_markShardS (x : ((List (Int × ((List (Int × (Int × Int))) × ((List (Int × Int)) × ((List (Int × (List (Int × (Int × (Int × Int)))))) × ((List (Int × Int)) × (List Int))))))) × Int)) : Option (Int × (List (Int × ((List (Int × (Int × Int))) × ((List (Int × Int)) × ((List (Int × (List (Int × (Int × (Int × Int)))))) × ((List (Int × Int)) × (List Int)))))))) := p_laws_markShardS FU x
def a_laws_markShardS : Ann := (.node .leaf (.node (.node .leaf (.loop [.slot 1 (.int .i64), .slot 5 (.int .i64), .row 0 109 (.pair (.int .i64) (.pair (.sl (some 116) (.pair (.int .i64) (.pair (.int .i64) (.int .i64)))) (.pair (.sl (some 232) (.pair (.int .i64) (.int .i64))) (.pair (.sl (some 187) (.pair (.int .i64) (.sl (some 230) (.pair (.int .i64) (.pair (.int .i64) (.pair (.int .i64) (.int .i64))))))) (.pair (.sl (some 232) (.pair (.int .i64) (.int .i64))) (.sl (some 2) (.int .i64)))))))] [6, 7, 8, 9, 10, 11, 12, 13, 14, 15, 16, 17, 18, 19, 20, 21, 22, 23, 24, 25, 26, 27, 28, 29, 30, 31, 32, 33, 34, 35, 36, 37, 38, 39, 40, 41, 42, 43, 44, 45, 46, 47, 48, 49, 50, 51, 52, 53] .leaf)) .leaf))
def S_laws_markShardS : FSpec := ⟨[.row 109 (.pair (.int .i64) (.pair (.sl (some 116) (.pair (.int .i64) (.pair (.int .i64) (.int .i64)))) (.pair (.sl (some 232) (.pair (.int .i64) (.int .i64))) (.pair (.sl (some 187) (.pair (.int .i64) (.sl (some 230) (.pair (.int .i64) (.pair (.int .i64) (.pair (.int .i64) (.int .i64))))))) (.pair (.sl (some 232) (.pair (.int .i64) (.int .i64))) (.sl (some 2) (.int .i64))))))), .val (.int .i64)], [(.int .i64)], m_laws_markShardS⟩

/-! laws.markVoteS -/
def l_laws_markVoteS_1 (n : Nat)  (z0 : (Int × (Int × (List (Int × Int))))) : Option (Int × (List (Int × Int))) :=
(lp (fun rec8 (z7 : (Int × (Int × (List (Int × Int))))) =>
 (cond (decide (z7.2.1 < (lenI z7.2.2)))
  ((geti z7.2.2 z7.2.1).bind fun _ =>
  ((z7.2.2[z7.2.1.toNat]?).bind fun y9 =>
  ((geti (z7.2.2.set z7.2.1.toNat (z7.1, y9.2)) z7.2.1).bind fun _ =>
  (((z7.2.2.set z7.2.1.toNat (z7.1, y9.2))[z7.2.1.toNat]?).bind fun y10 =>
  rec8 (IntKind.wrap .i64 ((IntKind.wrap .i64 (z7.1 + (1 : Int))) + (1 : Int)), IntKind.wrap .i64 (z7.2.1 + (1 : Int)), ((z7.2.2.set z7.2.1.toNat (z7.1, y9.2)).set z7.2.1.toNat (y10.1, IntKind.wrap .i64 (z7.1 + (1 : Int)))))))))
  (some (z7.1, z7.2.2)))) n z0)
def p_laws_markVoteS (n : Nat) (x : ((List (Int × Int)) × Int)) : Option (Int × (List (Int × Int))) :=
(l_laws_markVoteS_1 n  (x.2, (0 : Int), x.1))
def m_laws_markVoteS (x : ((List (Int × Int)) × Int)) : Option (Int × (List (Int × Int))) := p_laws_markVoteS FU x
def a_laws_markVoteS : Ann := (.node .leaf (.node (.node .leaf (.loop [.slot 1 (.int .i64), .slot 5 (.int .i64), .row 0 70 (.pair (.int .i64) (.int .i64))] [6, 7, 8, 9, 10, 11, 12, 13, 14, 15, 16, 17, 18, 19, 20, 21, 22, 23, 24, 25] .leaf)) .leaf))
def S_laws_markVoteS : FSpec := ⟨[.row 70 (.pair (.int .i64) (.int .i64)), .val (.int .i64)], [(.int .i64)], m_laws_markVoteS⟩

/-! laws.markSlotS -/
def l_laws_markSlotS_1 (n : Nat)  (z0 : (Int × (Int × (List (Int × (Int × (Int × ((Int × Int) × (List (Int × Int)))))))))) : Option (Int × (List (Int × (Int × (Int × ((Int × Int) × (List (Int × Int)))))))) :=
(lp (fun rec20 (z19 : (Int × (Int × (List (Int × (Int × (Int × ((Int × Int) × (List (Int × Int)))))))))) =>
 (cond (decide (z19.2.1 < (lenI z19.2.2)))
  ((geti z19.2.2 z19.2.1).bind fun _ =>
  ((z19.2.2[z19.2.1.toNat]?).bind fun y21 =>
  ((geti (z19.2.2.set z19.2.1.toNat (z19.1, y21.2)) z19.2.1).bind fun _ =>
  (((z19.2.2.set z19.2.1.toNat (z19.1, y21.2))[z19.2.1.toNat]?).bind fun y22 =>
  ((geti ((z19.2.2.set z19.2.1.toNat (z19.1, y21.2)).set z19.2.1.toNat (y22.1, (IntKind.wrap .i64 (z19.1 + (1 : Int)), y22.2.2))) z19.2.1).bind fun _ =>
  ((((z19.2.2.set z19.2.1.toNat (z19.1, y21.2)).set z19.2.1.toNat (y22.1, (IntKind.wrap .i64 (z19.1 + (1 : Int)), y22.2.2)))[z19.2.1.toNat]?).bind fun y23 =>
  ((geti (((z19.2.2.set z19.2.1.toNat (z19.1, y21.2)).set z19.2.1.toNat (y22.1, (IntKind.wrap .i64 (z19.1 + (1 : Int)), y22.2.2))).set z19.2.1.toNat (y23.1, (y23.2.1, (IntKind.wrap .i64 ((IntKind.wrap .i64 (z19.1 + (1 : Int))) + (1 : Int)), y23.2.2.2)))) z19.2.1).bind fun _ =>
  (((((z19.2.2.set z19.2.1.toNat (z19.1, y21.2)).set z19.2.1.toNat (y22.1, (IntKind.wrap .i64 (z19.1 + (1 : Int)), y22.2.2))).set z19.2.1.toNat (y23.1, (y23.2.1, (IntKind.wrap .i64 ((IntKind.wrap .i64 (z19.1 + (1 : Int))) + (1 : Int)), y23.2.2.2))))[z19.2.1.toNat]?).bind fun y24 =>
  ((geti ((((z19.2.2.set z19.2.1.toNat (z19.1, y21.2)).set z19.2.1.toNat (y22.1, (IntKind.wrap .i64 (z19.1 + (1 : Int)), y22.2.2))).set z19.2.1.toNat (y23.1, (y23.2.1, (IntKind.wrap .i64 ((IntKind.wrap .i64 (z19.1 + (1 : Int))) + (1 : Int)), y23.2.2.2)))).set z19.2.1.toNat (y24.1, (y24.2.1, (y24.2.2.1, ((IntKind.wrap .i64 ((IntKind.wrap .i64 ((IntKind.wrap .i64 (z19.1 + (1 : Int))) + (1 : Int))) + (1 : Int)), y24.2.2.2.1.2), y24.2.2.2.2))))) z19.2.1).bind fun _ =>
  ((((((z19.2.2.set z19.2.1.toNat (z19.1, y21.2)).set z19.2.1.toNat (y22.1, (IntKind.wrap .i64 (z19.1 + (1 : Int)), y22.2.2))).set z19.2.1.toNat (y23.1, (y23.2.1, (IntKind.wrap .i64 ((IntKind.wrap .i64 (z19.1 + (1 : Int))) + (1 : Int)), y23.2.2.2)))).set z19.2.1.toNat (y24.1, (y24.2.1, (y24.2.2.1, ((IntKind.wrap .i64 ((IntKind.wrap .i64 ((IntKind.wrap .i64 (z19.1 + (1 : Int))) + (1 : Int))) + (1 : Int)), y24.2.2.2.1.2), y24.2.2.2.2)))))[z19.2.1.toNat]?).bind fun y25 =>
  ((geti (((((z19.2.2.set z19.2.1.toNat (z19.1, y21.2)).set z19.2.1.toNat (y22.1, (IntKind.wrap .i64 (z19.1 + (1 : Int)), y22.2.2))).set z19.2.1.toNat (y23.1, (y23.2.1, (IntKind.wrap .i64 ((IntKind.wrap .i64 (z19.1 + (1 : Int))) + (1 : Int)), y23.2.2.2)))).set z19.2.1.toNat (y24.1, (y24.2.1, (y24.2.2.1, ((IntKind.wrap .i64 ((IntKind.wrap .i64 ((IntKind.wrap .i64 (z19.1 + (1 : Int))) + (1 : Int))) + (1 : Int)), y24.2.2.2.1.2), y24.2.2.2.2))))).set z19.2.1.toNat (y25.1, (y25.2.1, (y25.2.2.1, ((y25.2.2.2.1.1, IntKind.wrap .i64 ((IntKind.wrap .i64 ((IntKind.wrap .i64 ((IntKind.wrap .i64 (z19.1 + (1 : Int))) + (1 : Int))) + (1 : Int))) + (1 : Int))), y25.2.2.2.2))))) z19.2.1).bind fun _ =>
  (((((((z19.2.2.set z19.2.1.toNat (z19.1, y21.2)).set z19.2.1.toNat (y22.1, (IntKind.wrap .i64 (z19.1 + (1 : Int)), y22.2.2))).set z19.2.1.toNat (y23.1, (y23.2.1, (IntKind.wrap .i64 ((IntKind.wrap .i64 (z19.1 + (1 : Int))) + (1 : Int)), y23.2.2.2)))).set z19.2.1.toNat (y24.1, (y24.2.1, (y24.2.2.1, ((IntKind.wrap .i64 ((IntKind.wrap .i64 ((IntKind.wrap .i64 (z19.1 + (1 : Int))) + (1 : Int))) + (1 : Int)), y24.2.2.2.1.2), y24.2.2.2.2))))).set z19.2.1.toNat (y25.1, (y25.2.1, (y25.2.2.1, ((y25.2.2.2.1.1, IntKind.wrap .i64 ((IntKind.wrap .i64 ((IntKind.wrap .i64 ((IntKind.wrap .i64 (z19.1 + (1 : Int))) + (1 : Int))) + (1 : Int))) + (1 : Int))), y25.2.2.2.2)))))[z19.2.1.toNat]?).bind fun y26 =>
  (((((((z19.2.2.set z19.2.1.toNat (z19.1, y21.2)).set z19.2.1.toNat (y22.1, (IntKind.wrap .i64 (z19.1 + (1 : Int)), y22.2.2))).set z19.2.1.toNat (y23.1, (y23.2.1, (IntKind.wrap .i64 ((IntKind.wrap .i64 (z19.1 + (1 : Int))) + (1 : Int)), y23.2.2.2)))).set z19.2.1.toNat (y24.1, (y24.2.1, (y24.2.2.1, ((IntKind.wrap .i64 ((IntKind.wrap .i64 ((IntKind.wrap .i64 (z19.1 + (1 : Int))) + (1 : Int))) + (1 : Int)), y24.2.2.2.1.2), y24.2.2.2.2))))).set z19.2.1.toNat (y25.1, (y25.2.1, (y25.2.2.1, ((y25.2.2.2.1.1, IntKind.wrap .i64 ((IntKind.wrap .i64 ((IntKind.wrap .i64 ((IntKind.wrap .i64 (z19.1 + (1 : Int))) + (1 : Int))) + (1 : Int))) + (1 : Int))), y25.2.2.2.2)))))[z19.2.1.toNat]?).bind fun y27 =>
  ((m_laws_markVoteS (y27.2.2.2.2, IntKind.wrap .i64 ((IntKind.wrap .i64 ((IntKind.wrap .i64 ((IntKind.wrap .i64 ((IntKind.wrap .i64 (z19.1 + (1 : Int))) + (1 : Int))) + (1 : Int))) + (1 : Int))) + (1 : Int)))).bind fun r28 =>
  rec20 (r28.1, IntKind.wrap .i64 (z19.2.1 + (1 : Int)), ((((((z19.2.2.set z19.2.1.toNat (z19.1, y21.2)).set z19.2.1.toNat (y22.1, (IntKind.wrap .i64 (z19.1 + (1 : Int)), y22.2.2))).set z19.2.1.toNat (y23.1, (y23.2.1, (IntKind.wrap .i64 ((IntKind.wrap .i64 (z19.1 + (1 : Int))) + (1 : Int)), y23.2.2.2)))).set z19.2.1.toNat (y24.1, (y24.2.1, (y24.2.2.1, ((IntKind.wrap .i64 ((IntKind.wrap .i64 ((IntKind.wrap .i64 (z19.1 + (1 : Int))) + (1 : Int))) + (1 : Int)), y24.2.2.2.1.2), y24.2.2.2.2))))).set z19.2.1.toNat (y25.1, (y25.2.1, (y25.2.2.1, ((y25.2.2.2.1.1, IntKind.wrap .i64 ((IntKind.wrap .i64 ((IntKind.wrap .i64 ((IntKind.wrap .i64 (z19.1 + (1 : Int))) + (1 : Int))) + (1 : Int))) + (1 : Int))), y25.2.2.2.2))))).set z19.2.1.toNat (y27.1, (y27.2.1, (y27.2.2.1, (y27.2.2.2.1, r28.2))))))))))))))))))))
  (some (z19.1, z19.2.2)))) n z0)
def p_laws_markSlotS (n : Nat) (x : ((List (Int × (Int × (Int × ((Int × Int) × (List (Int × Int))))))) × Int)) : Option (Int × (List (Int × (Int × (Int × ((Int × Int) × (List (Int × Int)))))))) :=
(l_laws_markSlotS_1 n  (x.2, (0 : Int), x.1))
def m_laws_markSlotS (x : ((List (Int × (Int × (Int × ((Int × Int) × (List (Int × Int))))))) × Int)) : Option (Int × (List (Int × (Int × (Int × ((Int × Int) × (List (Int × Int)))))))) := p_laws_markSlotS FU x
def a_laws_markSlotS : Ann := (.node .leaf (.node (.node .leaf (.loop [.slot 1 (.int .i64), .slot 5 (.int .i64), .row 0 73 (.pair (.int .i64) (.pair (.int .i64) (.pair (.int .i64) (.pair (.pair (.int .i64) (.int .i64)) (.sl (some 70) (.pair (.int .i64) (.int .i64)))))))] [6, 7, 8, 9, 10, 11, 12, 13, 14, 15, 16, 17, 18, 19, 20, 21, 22, 23, 24, 25, 26, 27, 28, 29, 30, 31, 32, 33, 34, 35, 36, 37, 38, 39, 40, 41, 42, 43, 44, 45, 46, 47, 48, 49, 50, 51, 52, 53, 54, 55] .leaf)) .leaf))
def S_laws_markSlotS : FSpec := ⟨[.row 73 (.pair (.int .i64) (.pair (.int .i64) (.pair (.int .i64) (.pair (.pair (.int .i64) (.int .i64)) (.sl (some 70) (.pair (.int .i64) (.int .i64))))))), .val (.int .i64)], [(.int .i64)], m_laws_markSlotS⟩

/-! laws.markAcceptorS -/
def l_laws_markAcceptorS_1 (n : Nat)  (z0 : (Int × (Int × (List (List (Int × (Int × (Int × ((Int × Int) × (List (Int × Int))))))))))) : Option (Int × (List (List (Int × (Int × (Int × ((Int × Int) × (List (Int × Int))))))))) :=
(lp (fun rec10 (z9 : (Int × (Int × (List (List (Int × (Int × (Int × ((Int × Int) × (List (Int × Int))))))))))) =>
 (cond (decide (z9.2.1 < (lenI z9.2.2)))
  ((geti z9.2.2 z9.2.1).bind fun _ =>
  ((z9.2.2[z9.2.1.toNat]?).bind fun y11 =>
  ((z9.2.2[z9.2.1.toNat]?).bind fun y12 =>
  ((m_laws_markSlotS (y12, z9.1)).bind fun r13 =>
  rec10 (r13.1, IntKind.wrap .i64 (z9.2.1 + (1 : Int)), (z9.2.2.set z9.2.1.toNat r13.2))))))
  (some (z9.1, z9.2.2)))) n z0)
def p_laws_markAcceptorS (n : Nat) (x : ((List (List (Int × (Int × (Int × ((Int × Int) × (List (Int × Int)))))))) × Int)) : Option (Int × (List (List (Int × (Int × (Int × ((Int × Int) × (List (Int × Int))))))))) :=
(l_laws_markAcceptorS_1 n  (x.2, (0 : Int), x.1))
def m_laws_markAcceptorS (x : ((List (List (Int × (Int × (Int × ((Int × Int) × (List (Int × Int)))))))) × Int)) : Option (Int × (List (List (Int × (Int × (Int × ((Int × Int) × (List (Int × Int))))))))) := p_laws_markAcceptorS FU x
def a_laws_markAcceptorS : Ann := (.node .leaf (.node (.node .leaf (.loop [.slot 1 (.int .i64), .slot 5 (.int .i64), .row 0 80 (.one (.sl (some 73) (.pair (.int .i64) (.pair (.int .i64) (.pair (.int .i64) (.pair (.pair (.int .i64) (.int .i64)) (.sl (some 70) (.pair (.int .i64) (.int .i64)))))))))] [6, 7, 8, 9, 10, 11, 12, 13, 14, 15, 16, 17, 18] .leaf)) .leaf))
def S_laws_markAcceptorS : FSpec := ⟨[.row 80 (.one (.sl (some 73) (.pair (.int .i64) (.pair (.int .i64) (.pair (.int .i64) (.pair (.pair (.int .i64) (.int .i64)) (.sl (some 70) (.pair (.int .i64) (.int .i64))))))))), .val (.int .i64)], [(.int .i64)], m_laws_markAcceptorS⟩

/-! laws.markTryS -/
def l_laws_markTryS_1 (n : Nat)  (z0 : (Int × (Int × (List (Int × (Int × (Int × (Int × ((List Int) × (List (Int × Int))))))))))) : Option (Int × (List (Int × (Int × (Int × (Int × ((List Int) × (List (Int × Int))))))))) :=
(lp (fun rec24 (z23 : (Int × (Int × (List (Int × (Int × (Int × (Int × ((List Int) × (List (Int × Int))))))))))) =>
 (cond (decide (z23.2.1 < (lenI z23.2.2)))
  ((geti z23.2.2 z23.2.1).bind fun _ =>
  ((z23.2.2[z23.2.1.toNat]?).bind fun y25 =>
  ((geti (z23.2.2.set z23.2.1.toNat (z23.1, y25.2)) z23.2.1).bind fun _ =>
  (((z23.2.2.set z23.2.1.toNat (z23.1, y25.2))[z23.2.1.toNat]?).bind fun y26 =>
  ((geti ((z23.2.2.set z23.2.1.toNat (z23.1, y25.2)).set z23.2.1.toNat (y26.1, (IntKind.wrap .i64 (z23.1 + (1 : Int)), y26.2.2))) z23.2.1).bind fun _ =>
  ((((z23.2.2.set z23.2.1.toNat (z23.1, y25.2)).set z23.2.1.toNat (y26.1, (IntKind.wrap .i64 (z23.1 + (1 : Int)), y26.2.2)))[z23.2.1.toNat]?).bind fun y27 =>
  ((geti (((z23.2.2.set z23.2.1.toNat (z23.1, y25.2)).set z23.2.1.toNat (y26.1, (IntKind.wrap .i64 (z23.1 + (1 : Int)), y26.2.2))).set z23.2.1.toNat (y27.1, (y27.2.1, (IntKind.wrap .i64 ((IntKind.wrap .i64 (z23.1 + (1 : Int))) + (1 : Int)), y27.2.2.2)))) z23.2.1).bind fun _ =>
  (((((z23.2.2.set z23.2.1.toNat (z23.1, y25.2)).set z23.2.1.toNat (y26.1, (IntKind.wrap .i64 (z23.1 + (1 : Int)), y26.2.2))).set z23.2.1.toNat (y27.1, (y27.2.1, (IntKind.wrap .i64 ((IntKind.wrap .i64 (z23.1 + (1 : Int))) + (1 : Int)), y27.2.2.2))))[z23.2.1.toNat]?).bind fun y28 =>
  ((geti ((((z23.2.2.set z23.2.1.toNat (z23.1, y25.2)).set z23.2.1.toNat (y26.1, (IntKind.wrap .i64 (z23.1 + (1 : Int)), y26.2.2))).set z23.2.1.toNat (y27.1, (y27.2.1, (IntKind.wrap .i64 ((IntKind.wrap .i64 (z23.1 + (1 : Int))) + (1 : Int)), y27.2.2.2)))).set z23.2.1.toNat (y28.1, (y28.2.1, (y28.2.2.1, (IntKind.wrap .i64 ((IntKind.wrap .i64 ((IntKind.wrap .i64 (z23.1 + (1 : Int))) + (1 : Int))) + (1 : Int)), y28.2.2.2.2))))) z23.2.1).bind fun _ =>
  ((((((z23.2.2.set z23.2.1.toNat (z23.1, y25.2)).set z23.2.1.toNat (y26.1, (IntKind.wrap .i64 (z23.1 + (1 : Int)), y26.2.2))).set z23.2.1.toNat (y27.1, (y27.2.1, (IntKind.wrap .i64 ((IntKind.wrap .i64 (z23.1 + (1 : Int))) + (1 : Int)), y27.2.2.2)))).set z23.2.1.toNat (y28.1, (y28.2.1, (y28.2.2.1, (IntKind.wrap .i64 ((IntKind.wrap .i64 ((IntKind.wrap .i64 (z23.1 + (1 : Int))) + (1 : Int))) + (1 : Int)), y28.2.2.2.2)))))[z23.2.1.toNat]?).bind fun y29 =>
  ((((((z23.2.2.set z23.2.1.toNat (z23.1, y25.2)).set z23.2.1.toNat (y26.1, (IntKind.wrap .i64 (z23.1 + (1 : Int)), y26.2.2))).set z23.2.1.toNat (y27.1, (y27.2.1, (IntKind.wrap .i64 ((IntKind.wrap .i64 (z23.1 + (1 : Int))) + (1 : Int)), y27.2.2.2)))).set z23.2.1.toNat (y28.1, (y28.2.1, (y28.2.2.1, (IntKind.wrap .i64 ((IntKind.wrap .i64 ((IntKind.wrap .i64 (z23.1 + (1 : Int))) + (1 : Int))) + (1 : Int)), y28.2.2.2.2)))))[z23.2.1.toNat]?).bind fun y30 =>
  ((m_laws_markInt64S (y30.2.2.2.2.1, IntKind.wrap .i64 ((IntKind.wrap .i64 ((IntKind.wrap .i64 ((IntKind.wrap .i64 (z23.1 + (1 : Int))) + (1 : Int))) + (1 : Int))) + (1 : Int)))).bind fun r31 =>
  ((geti (((((z23.2.2.set z23.2.1.toNat (z23.1, y25.2)).set z23.2.1.toNat (y26.1, (IntKind.wrap .i64 (z23.1 + (1 : Int)), y26.2.2))).set z23.2.1.toNat (y27.1, (y27.2.1, (IntKind.wrap .i64 ((IntKind.wrap .i64 (z23.1 + (1 : Int))) + (1 : Int)), y27.2.2.2)))).set z23.2.1.toNat (y28.1, (y28.2.1, (y28.2.2.1, (IntKind.wrap .i64 ((IntKind.wrap .i64 ((IntKind.wrap .i64 (z23.1 + (1 : Int))) + (1 : Int))) + (1 : Int)), y28.2.2.2.2))))).set z23.2.1.toNat (y30.1, (y30.2.1, (y30.2.2.1, (y30.2.2.2.1, (r31.2, y30.2.2.2.2.2)))))) z23.2.1).bind fun _ =>
  (((((((z23.2.2.set z23.2.1.toNat (z23.1, y25.2)).set z23.2.1.toNat (y26.1, (IntKind.wrap .i64 (z23.1 + (1 : Int)), y26.2.2))).set z23.2.1.toNat (y27.1, (y27.2.1, (IntKind.wrap .i64 ((IntKind.wrap .i64 (z23.1 + (1 : Int))) + (1 : Int)), y27.2.2.2)))).set z23.2.1.toNat (y28.1, (y28.2.1, (y28.2.2.1, (IntKind.wrap .i64 ((IntKind.wrap .i64 ((IntKind.wrap .i64 (z23.1 + (1 : Int))) + (1 : Int))) + (1 : Int)), y28.2.2.2.2))))).set z23.2.1.toNat (y30.1, (y30.2.1, (y30.2.2.1, (y30.2.2.2.1, (r31.2, y30.2.2.2.2.2))))))[z23.2.1.toNat]?).bind fun y32 =>
  (((((((z23.2.2.set z23.2.1.toNat (z23.1, y25.2)).set z23.2.1.toNat (y26.1, (IntKind.wrap .i64 (z23.1 + (1 : Int)), y26.2.2))).set z23.2.1.toNat (y27.1, (y27.2.1, (IntKind.wrap .i64 ((IntKind.wrap .i64 (z23.1 + (1 : Int))) + (1 : Int)), y27.2.2.2)))).set z23.2.1.toNat (y28.1, (y28.2.1, (y28.2.2.1, (IntKind.wrap .i64 ((IntKind.wrap .i64 ((IntKind.wrap .i64 (z23.1 + (1 : Int))) + (1 : Int))) + (1 : Int)), y28.2.2.2.2))))).set z23.2.1.toNat (y30.1, (y30.2.1, (y30.2.2.1, (y30.2.2.2.1, (r31.2, y30.2.2.2.2.2))))))[z23.2.1.toNat]?).bind fun y33 =>
  ((m_laws_markVoteS (y33.2.2.2.2.2, r31.1)).bind fun r34 =>
  rec24 (r34.1, IntKind.wrap .i64 (z23.2.1 + (1 : Int)), ((((((z23.2.2.set z23.2.1.toNat (z23.1, y25.2)).set z23.2.1.toNat (y26.1, (IntKind.wrap .i64 (z23.1 + (1 : Int)), y26.2.2))).set z23.2.1.toNat (y27.1, (y27.2.1, (IntKind.wrap .i64 ((IntKind.wrap .i64 (z23.1 + (1 : Int))) + (1 : Int)), y27.2.2.2)))).set z23.2.1.toNat (y28.1, (y28.2.1, (y28.2.2.1, (IntKind.wrap .i64 ((IntKind.wrap .i64 ((IntKind.wrap .i64 (z23.1 + (1 : Int))) + (1 : Int))) + (1 : Int)), y28.2.2.2.2))))).set z23.2.1.toNat (y30.1, (y30.2.1, (y30.2.2.1, (y30.2.2.2.1, (r31.2, y30.2.2.2.2.2)))))).set z23.2.1.toNat (y33.1, (y33.2.1, (y33.2.2.1, (y33.2.2.2.1, (y33.2.2.2.2.1, r34.2)))))))))))))))))))))))
  (some (z23.1, z23.2.2)))) n z0)
def p_laws_markTryS (n : Nat) (x : ((List (Int × (Int × (Int × (Int × ((List Int) × (List (Int × Int)))))))) × Int)) : Option (Int × (List (Int × (Int × (Int × (Int × ((List Int) × (List (Int × Int))))))))) :=
(l_laws_markTryS_1 n  (x.2, (0 : Int), x.1))
def m_laws_markTryS (x : ((List (Int × (Int × (Int × (Int × ((List Int) × (List (Int × Int)))))))) × Int)) : Option (Int × (List (Int × (Int × (Int × (Int × ((List Int) × (List (Int × Int))))))))) := p_laws_markTryS FU x
def a_laws_markTryS : Ann := (.node .leaf (.node (.node .leaf (.loop [.slot 1 (.int .i64), .slot 5 (.int .i64), .row 0 235 (.pair (.int .i64) (.pair (.int .i64) (.pair (.int .i64) (.pair (.int .i64) (.pair (.sl (some 2) (.int .i64)) (.sl (some 70) (.pair (.int .i64) (.int .i64))))))))] [6, 7, 8, 9, 10, 11, 12, 13, 14, 15, 16, 17, 18, 19, 20, 21, 22, 23, 24, 25, 26, 27, 28, 29, 30, 31, 32, 33, 34, 35, 36, 37, 38, 39, 40, 41, 42, 43, 44, 45, 46, 47, 48, 49, 50, 51, 52, 53] .leaf)) .leaf))
def S_laws_markTryS : FSpec := ⟨[.row 235 (.pair (.int .i64) (.pair (.int .i64) (.pair (.int .i64) (.pair (.int .i64) (.pair (.sl (some 2) (.int .i64)) (.sl (some 70) (.pair (.int .i64) (.int .i64)))))))), .val (.int .i64)], [(.int .i64)], m_laws_markTryS⟩

/-! laws.markHeardS -/
def l_laws_markHeardS_1 (n : Nat)  (z0 : (Int × (Int × (List (Int × (Int × (Int × (Int × Int)))))))) : Option (Int × (List (Int × (Int × (Int × (Int × Int)))))) :=
(lp (fun rec14 (z13 : (Int × (Int × (List (Int × (Int × (Int × (Int × Int)))))))) =>
 (cond (decide (z13.2.1 < (lenI z13.2.2)))
  ((geti z13.2.2 z13.2.1).bind fun _ =>
  ((z13.2.2[z13.2.1.toNat]?).bind fun y15 =>
  ((geti (z13.2.2.set z13.2.1.toNat (z13.1, y15.2)) z13.2.1).bind fun _ =>
  (((z13.2.2.set z13.2.1.toNat (z13.1, y15.2))[z13.2.1.toNat]?).bind fun y16 =>
  ((geti ((z13.2.2.set z13.2.1.toNat (z13.1, y15.2)).set z13.2.1.toNat (y16.1, (IntKind.wrap .i64 (z13.1 + (1 : Int)), y16.2.2))) z13.2.1).bind fun _ =>
  ((((z13.2.2.set z13.2.1.toNat (z13.1, y15.2)).set z13.2.1.toNat (y16.1, (IntKind.wrap .i64 (z13.1 + (1 : Int)), y16.2.2)))[z13.2.1.toNat]?).bind fun y17 =>
  ((geti (((z13.2.2.set z13.2.1.toNat (z13.1, y15.2)).set z13.2.1.toNat (y16.1, (IntKind.wrap .i64 (z13.1 + (1 : Int)), y16.2.2))).set z13.2.1.toNat (y17.1, (y17.2.1, (IntKind.wrap .i64 ((IntKind.wrap .i64 (z13.1 + (1 : Int))) + (1 : Int)), y17.2.2.2)))) z13.2.1).bind fun _ =>
  (((((z13.2.2.set z13.2.1.toNat (z13.1, y15.2)).set z13.2.1.toNat (y16.1, (IntKind.wrap .i64 (z13.1 + (1 : Int)), y16.2.2))).set z13.2.1.toNat (y17.1, (y17.2.1, (IntKind.wrap .i64 ((IntKind.wrap .i64 (z13.1 + (1 : Int))) + (1 : Int)), y17.2.2.2))))[z13.2.1.toNat]?).bind fun y18 =>
  ((geti ((((z13.2.2.set z13.2.1.toNat (z13.1, y15.2)).set z13.2.1.toNat (y16.1, (IntKind.wrap .i64 (z13.1 + (1 : Int)), y16.2.2))).set z13.2.1.toNat (y17.1, (y17.2.1, (IntKind.wrap .i64 ((IntKind.wrap .i64 (z13.1 + (1 : Int))) + (1 : Int)), y17.2.2.2)))).set z13.2.1.toNat (y18.1, (y18.2.1, (y18.2.2.1, (IntKind.wrap .i64 ((IntKind.wrap .i64 ((IntKind.wrap .i64 (z13.1 + (1 : Int))) + (1 : Int))) + (1 : Int)), y18.2.2.2.2))))) z13.2.1).bind fun _ =>
  ((((((z13.2.2.set z13.2.1.toNat (z13.1, y15.2)).set z13.2.1.toNat (y16.1, (IntKind.wrap .i64 (z13.1 + (1 : Int)), y16.2.2))).set z13.2.1.toNat (y17.1, (y17.2.1, (IntKind.wrap .i64 ((IntKind.wrap .i64 (z13.1 + (1 : Int))) + (1 : Int)), y17.2.2.2)))).set z13.2.1.toNat (y18.1, (y18.2.1, (y18.2.2.1, (IntKind.wrap .i64 ((IntKind.wrap .i64 ((IntKind.wrap .i64 (z13.1 + (1 : Int))) + (1 : Int))) + (1 : Int)), y18.2.2.2.2)))))[z13.2.1.toNat]?).bind fun y19 =>
  rec14 (IntKind.wrap .i64 ((IntKind.wrap .i64 ((IntKind.wrap .i64 ((IntKind.wrap .i64 ((IntKind.wrap .i64 (z13.1 + (1 : Int))) + (1 : Int))) + (1 : Int))) + (1 : Int))) + (1 : Int)), IntKind.wrap .i64 (z13.2.1 + (1 : Int)), (((((z13.2.2.set z13.2.1.toNat (z13.1, y15.2)).set z13.2.1.toNat (y16.1, (IntKind.wrap .i64 (z13.1 + (1 : Int)), y16.2.2))).set z13.2.1.toNat (y17.1, (y17.2.1, (IntKind.wrap .i64 ((IntKind.wrap .i64 (z13.1 + (1 : Int))) + (1 : Int)), y17.2.2.2)))).set z13.2.1.toNat (y18.1, (y18.2.1, (y18.2.2.1, (IntKind.wrap .i64 ((IntKind.wrap .i64 ((IntKind.wrap .i64 (z13.1 + (1 : Int))) + (1 : Int))) + (1 : Int)), y18.2.2.2.2))))).set z13.2.1.toNat (y19.1, (y19.2.1, (y19.2.2.1, (y19.2.2.2.1, IntKind.wrap .i64 ((IntKind.wrap .i64 ((IntKind.wrap .i64 ((IntKind.wrap .i64 (z13.1 + (1 : Int))) + (1 : Int))) + (1 : Int))) + (1 : Int))))))))))))))))))
  (some (z13.1, z13.2.2)))) n z0)
def p_laws_markHeardS (n : Nat) (x : ((List (Int × (Int × (Int × (Int × Int))))) × Int)) : Option (Int × (List (Int × (Int × (Int × (Int × Int)))))) :=
(l_laws_markHeardS_1 n  (x.2, (0 : Int), x.1))
def m_laws_markHeardS (x : ((List (Int × (Int × (Int × (Int × Int))))) × Int)) : Option (Int × (List (Int × (Int × (Int × (Int × Int)))))) := p_laws_markHeardS FU x
def a_laws_markHeardS : Ann := (.node .leaf (.node (.node .leaf (.loop [.slot 1 (.int .i64), .slot 5 (.int .i64), .row 0 237 (.pair (.int .i64) (.pair (.int .i64) (.pair (.int .i64) (.pair (.int .i64) (.int .i64)))))] [6, 7, 8, 9, 10, 11, 12, 13, 14, 15, 16, 17, 18, 19, 20, 21, 22, 23, 24, 25, 26, 27, 28, 29, 30, 31, 32, 33, 34, 35, 36, 37, 38, 39, 40, 41, 42, 43, 44, 45, 46] .leaf)) .leaf))
def S_laws_markHeardS : FSpec := ⟨[.row 237 (.pair (.int .i64) (.pair (.int .i64) (.pair (.int .i64) (.pair (.int .i64) (.int .i64))))), .val (.int .i64)], [(.int .i64)], m_laws_markHeardS⟩

/-! laws.markLeaderS -/
def l_laws_markLeaderS_1 (n : Nat)  (z0 : (Int × (Int × (List (Int × ((List (Int × (Int × (Int × (Int × ((List Int) × (List (Int × Int)))))))) × (List (Int × (Int × (Int × (Int × Int))))))))))) : Option (Int × (List (Int × ((List (Int × (Int × (Int × (Int × ((List Int) × (List (Int × Int)))))))) × (List (Int × (Int × (Int × (Int × Int))))))))) :=
(lp (fun rec18 (z17 : (Int × (Int × (List (Int × ((List (Int × (Int × (Int × (Int × ((List Int) × (List (Int × Int)))))))) × (List (Int × (Int × (Int × (Int × Int))))))))))) =>
 (cond (decide (z17.2.1 < (lenI z17.2.2)))
  ((geti z17.2.2 z17.2.1).bind fun _ =>
  ((z17.2.2[z17.2.1.toNat]?).bind fun y19 =>
  ((geti (z17.2.2.set z17.2.1.toNat (z17.1, y19.2)) z17.2.1).bind fun _ =>
  (((z17.2.2.set z17.2.1.toNat (z17.1, y19.2))[z17.2.1.toNat]?).bind fun y20 =>
  (((z17.2.2.set z17.2.1.toNat (z17.1, y19.2))[z17.2.1.toNat]?).bind fun y21 =>
  ((m_laws_markTryS (y21.2.1, IntKind.wrap .i64 (z17.1 + (1 : Int)))).bind fun r22 =>
  ((geti ((z17.2.2.set z17.2.1.toNat (z17.1, y19.2)).set z17.2.1.toNat (y21.1, (r22.2, y21.2.2))) z17.2.1).bind fun _ =>
  ((((z17.2.2.set z17.2.1.toNat (z17.1, y19.2)).set z17.2.1.toNat (y21.1, (r22.2, y21.2.2)))[z17.2.1.toNat]?).bind fun y23 =>
  ((((z17.2.2.set z17.2.1.toNat (z17.1, y19.2)).set z17.2.1.toNat (y21.1, (r22.2, y21.2.2)))[z17.2.1.toNat]?).bind fun y24 =>
  ((m_laws_markHeardS (y24.2.2, r22.1)).bind fun r25 =>
  rec18 (r25.1, IntKind.wrap .i64 (z17.2.1 + (1 : Int)), (((z17.2.2.set z17.2.1.toNat (z17.1, y19.2)).set z17.2.1.toNat (y21.1, (r22.2, y21.2.2))).set z17.2.1.toNat (y24.1, (y24.2.1, r25.2))))))))))))))
  (some (z17.1, z17.2.2)))) n z0)
def p_laws_markLeaderS (n : Nat) (x : ((List (Int × ((List (Int × (Int × (Int × (Int × ((List Int) × (List (Int × Int)))))))) × (List (Int × (Int × (Int × (Int × Int)))))))) × Int)) : Option (Int × (List (Int × ((List (Int × (Int × (Int × (Int × ((List Int) × (List (Int × Int)))))))) × (List (Int × (Int × (Int × (Int × Int))))))))) :=
(l_laws_markLeaderS_1 n  (x.2, (0 : Int), x.1))
def m_laws_markLeaderS (x : ((List (Int × ((List (Int × (Int × (Int × (Int × ((List Int) × (List (Int × Int)))))))) × (List (Int × (Int × (Int × (Int × Int)))))))) × Int)) : Option (Int × (List (Int × ((List (Int × (Int × (Int × (Int × ((List Int) × (List (Int × Int)))))))) × (List (Int × (Int × (Int × (Int × Int))))))))) := p_laws_markLeaderS FU x
def a_laws_markLeaderS : Ann := (.node .leaf (.node (.node .leaf (.loop [.slot 1 (.int .i64), .slot 5 (.int .i64), .row 0 193 (.pair (.int .i64) (.pair (.sl (some 235) (.pair (.int .i64) (.pair (.int .i64) (.pair (.int .i64) (.pair (.int .i64) (.pair (.sl (some 2) (.int .i64)) (.sl (some 70) (.pair (.int .i64) (.int .i64))))))))) (.sl (some 237) (.pair (.int .i64) (.pair (.int .i64) (.pair (.int .i64) (.pair (.int .i64) (.int .i64))))))))] [6, 7, 8, 9, 10, 11, 12, 13, 14, 15, 16, 17, 18, 19, 20, 21, 22, 23, 24, 25, 26, 27, 28, 29, 30, 31, 32] .leaf)) .leaf))
def S_laws_markLeaderS : FSpec := ⟨[.row 193 (.pair (.int .i64) (.pair (.sl (some 235) (.pair (.int .i64) (.pair (.int .i64) (.pair (.int .i64) (.pair (.int .i64) (.pair (.sl (some 2) (.int .i64)) (.sl (some 70) (.pair (.int .i64) (.int .i64))))))))) (.sl (some 237) (.pair (.int .i64) (.pair (.int .i64) (.pair (.int .i64) (.pair (.int .i64) (.int .i64)))))))), .val (.int .i64)], [(.int .i64)], m_laws_markLeaderS⟩

/-! laws.markMessageS -/
def l_laws_markMessageS_1 (n : Nat)  (z0 : (Int × (Int × (List (Int × (Int × (Int × (Int × (Int × (Int × (Int × (Int × Int)))))))))))) : Option (Int × (List (Int × (Int × (Int × (Int × (Int × (Int × (Int × (Int × Int)))))))))) :=
(lp (fun rec22 (z21 : (Int × (Int × (List (Int × (Int × (Int × (Int × (Int × (Int × (Int × (Int × Int)))))))))))) =>
 (cond (decide (z21.2.1 < (lenI z21.2.2)))
  ((geti z21.2.2 z21.2.1).bind fun _ =>
  ((z21.2.2[z21.2.1.toNat]?).bind fun y23 =>
  ((geti (z21.2.2.set z21.2.1.toNat (z21.1, y23.2)) z21.2.1).bind fun _ =>
  (((z21.2.2.set z21.2.1.toNat (z21.1, y23.2))[z21.2.1.toNat]?).bind fun y24 =>
  ((geti ((z21.2.2.set z21.2.1.toNat (z21.1, y23.2)).set z21.2.1.toNat (y24.1, (IntKind.wrap .i64 (z21.1 + (1 : Int)), y24.2.2))) z21.2.1).bind fun _ =>
  ((((z21.2.2.set z21.2.1.toNat (z21.1, y23.2)).set z21.2.1.toNat (y24.1, (IntKind.wrap .i64 (z21.1 + (1 : Int)), y24.2.2)))[z21.2.1.toNat]?).bind fun y25 =>
  ((geti (((z21.2.2.set z21.2.1.toNat (z21.1, y23.2)).set z21.2.1.toNat (y24.1, (IntKind.wrap .i64 (z21.1 + (1 : Int)), y24.2.2))).set z21.2.1.toNat (y25.1, (y25.2.1, (IntKind.wrap .i64 ((IntKind.wrap .i64 (z21.1 + (1 : Int))) + (1 : Int)), y25.2.2.2)))) z21.2.1).bind fun _ =>
  (((((z21.2.2.set z21.2.1.toNat (z21.1, y23.2)).set z21.2.1.toNat (y24.1, (IntKind.wrap .i64 (z21.1 + (1 : Int)), y24.2.2))).set z21.2.1.toNat (y25.1, (y25.2.1, (IntKind.wrap .i64 ((IntKind.wrap .i64 (z21.1 + (1 : Int))) + (1 : Int)), y25.2.2.2))))[z21.2.1.toNat]?).bind fun y26 =>
  ((geti ((((z21.2.2.set z21.2.1.toNat (z21.1, y23.2)).set z21.2.1.toNat (y24.1, (IntKind.wrap .i64 (z21.1 + (1 : Int)), y24.2.2))).set z21.2.1.toNat (y25.1, (y25.2.1, (IntKind.wrap .i64 ((IntKind.wrap .i64 (z21.1 + (1 : Int))) + (1 : Int)), y25.2.2.2)))).set z21.2.1.toNat (y26.1, (y26.2.1, (y26.2.2.1, (IntKind.wrap .i64 ((IntKind.wrap .i64 ((IntKind.wrap .i64 (z21.1 + (1 : Int))) + (1 : Int))) + (1 : Int)), y26.2.2.2.2))))) z21.2.1).bind fun _ =>
  ((((((z21.2.2.set z21.2.1.toNat (z21.1, y23.2)).set z21.2.1.toNat (y24.1, (IntKind.wrap .i64 (z21.1 + (1 : Int)), y24.2.2))).set z21.2.1.toNat (y25.1, (y25.2.1, (IntKind.wrap .i64 ((IntKind.wrap .i64 (z21.1 + (1 : Int))) + (1 : Int)), y25.2.2.2)))).set z21.2.1.toNat (y26.1, (y26.2.1, (y26.2.2.1, (IntKind.wrap .i64 ((IntKind.wrap .i64 ((IntKind.wrap .i64 (z21.1 + (1 : Int))) + (1 : Int))) + (1 : Int)), y26.2.2.2.2)))))[z21.2.1.toNat]?).bind fun y27 =>
  ((geti (((((z21.2.2.set z21.2.1.toNat (z21.1, y23.2)).set z21.2.1.toNat (y24.1, (IntKind.wrap .i64 (z21.1 + (1 : Int)), y24.2.2))).set z21.2.1.toNat (y25.1, (y25.2.1, (IntKind.wrap .i64 ((IntKind.wrap .i64 (z21.1 + (1 : Int))) + (1 : Int)), y25.2.2.2)))).set z21.2.1.toNat (y26.1, (y26.2.1, (y26.2.2.1, (IntKind.wrap .i64 ((IntKind.wrap .i64 ((IntKind.wrap .i64 (z21.1 + (1 : Int))) + (1 : Int))) + (1 : Int)), y26.2.2.2.2))))).set z21.2.1.toNat (y27.1, (y27.2.1, (y27.2.2.1, (y27.2.2.2.1, (IntKind.wrap .i64 ((IntKind.wrap .i64 ((IntKind.wrap .i64 ((IntKind.wrap .i64 (z21.1 + (1 : Int))) + (1 : Int))) + (1 : Int))) + (1 : Int)), y27.2.2.2.2.2)))))) z21.2.1).bind fun _ =>
  (((((((z21.2.2.set z21.2.1.toNat (z21.1, y23.2)).set z21.2.1.toNat (y24.1, (IntKind.wrap .i64 (z21.1 + (1 : Int)), y24.2.2))).set z21.2.1.toNat (y25.1, (y25.2.1, (IntKind.wrap .i64 ((IntKind.wrap .i64 (z21.1 + (1 : Int))) + (1 : Int)), y25.2.2.2)))).set z21.2.1.toNat (y26.1, (y26.2.1, (y26.2.2.1, (IntKind.wrap .i64 ((IntKind.wrap .i64 ((IntKind.wrap .i64 (z21.1 + (1 : Int))) + (1 : Int))) + (1 : Int)), y26.2.2.2.2))))).set z21.2.1.toNat (y27.1, (y27.2.1, (y27.2.2.1, (y27.2.2.2.1, (IntKind.wrap .i64 ((IntKind.wrap .i64 ((IntKind.wrap .i64 ((IntKind.wrap .i64 (z21.1 + (1 : Int))) + (1 : Int))) + (1 : Int))) + (1 : Int)), y27.2.2.2.2.2))))))[z21.2.1.toNat]?).bind fun y28 =>
  ((geti ((((((z21.2.2.set z21.2.1.toNat (z21.1, y23.2)).set z21.2.1.toNat (y24.1, (IntKind.wrap .i64 (z21.1 + (1 : Int)), y24.2.2))).set z21.2.1.toNat (y25.1, (y25.2.1, (IntKind.wrap .i64 ((IntKind.wrap .i64 (z21.1 + (1 : Int))) + (1 : Int)), y25.2.2.2)))).set z21.2.1.toNat (y26.1, (y26.2.1, (y26.2.2.1, (IntKind.wrap .i64 ((IntKind.wrap .i64 ((IntKind.wrap .i64 (z21.1 + (1 : Int))) + (1 : Int))) + (1 : Int)), y26.2.2.2.2))))).set z21.2.1.toNat (y27.1, (y27.2.1, (y27.2.2.1, (y27.2.2.2.1, (IntKind.wrap .i64 ((IntKind.wrap .i64 ((IntKind.wrap .i64 ((IntKind.wrap .i64 (z21.1 + (1 : Int))) + (1 : Int))) + (1 : Int))) + (1 : Int)), y27.2.2.2.2.2)))))).set z21.2.1.toNat (y28.1, (y28.2.1, (y28.2.2.1, (y28.2.2.2.1, (y28.2.2.2.2.1, (IntKind.wrap .i64 ((IntKind.wrap .i64 ((IntKind.wrap .i64 ((IntKind.wrap .i64 ((IntKind.wrap .i64 (z21.1 + (1 : Int))) + (1 : Int))) + (1 : Int))) + (1 : Int))) + (1 : Int)), y28.2.2.2.2.2.2))))))) z21.2.1).bind fun _ =>
  ((((((((z21.2.2.set z21.2.1.toNat (z21.1, y23.2)).set z21.2.1.toNat (y24.1, (IntKind.wrap .i64 (z21.1 + (1 : Int)), y24.2.2))).set z21.2.1.toNat (y25.1, (y25.2.1, (IntKind.wrap .i64 ((IntKind.wrap .i64 (z21.1 + (1 : Int))) + (1 : Int)), y25.2.2.2)))).set z21.2.1.toNat (y26.1, (y26.2.1, (y26.2.2.1, (IntKind.wrap .i64 ((IntKind.wrap .i64 ((IntKind.wrap .i64 (z21.1 + (1 : Int))) + (1 : Int))) + (1 : Int)), y26.2.2.2.2))))).set z21.2.1.toNat (y27.1, (y27.2.1, (y27.2.2.1, (y27.2.2.2.1, (IntKind.wrap .i64 ((IntKind.wrap .i64 ((IntKind.wrap .i64 ((IntKind.wrap .i64 (z21.1 + (1 : Int))) + (1 : Int))) + (1 : Int))) + (1 : Int)), y27.2.2.2.2.2)))))).set z21.2.1.toNat (y28.1, (y28.2.1, (y28.2.2.1, (y28.2.2.2.1, (y28.2.2.2.2.1, (IntKind.wrap .i64 ((IntKind.wrap .i64 ((IntKind.wrap .i64 ((IntKind.wrap .i64 ((IntKind.wrap .i64 (z21.1 + (1 : Int))) + (1 : Int))) + (1 : Int))) + (1 : Int))) + (1 : Int)), y28.2.2.2.2.2.2)))))))[z21.2.1.toNat]?).bind fun y29 =>
  ((geti (((((((z21.2.2.set z21.2.1.toNat (z21.1, y23.2)).set z21.2.1.toNat (y24.1, (IntKind.wrap .i64 (z21.1 + (1 : Int)), y24.2.2))).set z21.2.1.toNat (y25.1, (y25.2.1, (IntKind.wrap .i64 ((IntKind.wrap .i64 (z21.1 + (1 : Int))) + (1 : Int)), y25.2.2.2)))).set z21.2.1.toNat (y26.1, (y26.2.1, (y26.2.2.1, (IntKind.wrap .i64 ((IntKind.wrap .i64 ((IntKind.wrap .i64 (z21.1 + (1 : Int))) + (1 : Int))) + (1 : Int)), y26.2.2.2.2))))).set z21.2.1.toNat (y27.1, (y27.2.1, (y27.2.2.1, (y27.2.2.2.1, (IntKind.wrap .i64 ((IntKind.wrap .i64 ((IntKind.wrap .i64 ((IntKind.wrap .i64 (z21.1 + (1 : Int))) + (1 : Int))) + (1 : Int))) + (1 : Int)), y27.2.2.2.2.2)))))).set z21.2.1.toNat (y28.1, (y28.2.1, (y28.2.2.1, (y28.2.2.2.1, (y28.2.2.2.2.1, (IntKind.wrap .i64 ((IntKind.wrap .i64 ((IntKind.wrap .i64 ((IntKind.wrap .i64 ((IntKind.wrap .i64 (z21.1 + (1 : Int))) + (1 : Int))) + (1 : Int))) + (1 : Int))) + (1 : Int)), y28.2.2.2.2.2.2))))))).set z21.2.1.toNat (y29.1, (y29.2.1, (y29.2.2.1, (y29.2.2.2.1, (y29.2.2.2.2.1, (y29.2.2.2.2.2.1, (IntKind.wrap .i64 ((IntKind.wrap .i64 ((IntKind.wrap .i64 ((IntKind.wrap .i64 ((IntKind.wrap .i64 ((IntKind.wrap .i64 (z21.1 + (1 : Int))) + (1 : Int))) + (1 : Int))) + (1 : Int))) + (1 : Int))) + (1 : Int)), y29.2.2.2.2.2.2.2)))))))) z21.2.1).bind fun _ =>
  (((((((((z21.2.2.set z21.2.1.toNat (z21.1, y23.2)).set z21.2.1.toNat (y24.1, (IntKind.wrap .i64 (z21.1 + (1 : Int)), y24.2.2))).set z21.2.1.toNat (y25.1, (y25.2.1, (IntKind.wrap .i64 ((IntKind.wrap .i64 (z21.1 + (1 : Int))) + (1 : Int)), y25.2.2.2)))).set z21.2.1.toNat (y26.1, (y26.2.1, (y26.2.2.1, (IntKind.wrap .i64 ((IntKind.wrap .i64 ((IntKind.wrap .i64 (z21.1 + (1 : Int))) + (1 : Int))) + (1 : Int)), y26.2.2.2.2))))).set z21.2.1.toNat (y27.1, (y27.2.1, (y27.2.2.1, (y27.2.2.2.1, (IntKind.wrap .i64 ((IntKind.wrap .i64 ((IntKind.wrap .i64 ((IntKind.wrap .i64 (z21.1 + (1 : Int))) + (1 : Int))) + (1 : Int))) + (1 : Int)), y27.2.2.2.2.2)))))).set z21.2.1.toNat (y28.1, (y28.2.1, (y28.2.2.1, (y28.2.2.2.1, (y28.2.2.2.2.1, (IntKind.wrap .i64 ((IntKind.wrap .i64 ((IntKind.wrap .i64 ((IntKind.wrap .i64 ((IntKind.wrap .i64 (z21.1 + (1 : Int))) + (1 : Int))) + (1 : Int))) + (1 : Int))) + (1 : Int)), y28.2.2.2.2.2.2))))))).set z21.2.1.toNat (y29.1, (y29.2.1, (y29.2.2.1, (y29.2.2.2.1, (y29.2.2.2.2.1, (y29.2.2.2.2.2.1, (IntKind.wrap .i64 ((IntKind.wrap .i64 ((IntKind.wrap .i64 ((IntKind.wrap .i64 ((IntKind.wrap .i64 ((IntKind.wrap .i64 (z21.1 + (1 : Int))) + (1 : Int))) + (1 : Int))) + (1 : Int))) + (1 : Int))) + (1 : Int)), y29.2.2.2.2.2.2.2))))))))[z21.2.1.toNat]?).bind fun y30 =>
  ((geti ((((((((z21.2.2.set z21.2.1.toNat (z21.1, y23.2)).set z21.2.1.toNat (y24.1, (IntKind.wrap .i64 (z21.1 + (1 : Int)), y24.2.2))).set z21.2.1.toNat (y25.1, (y25.2.1, (IntKind.wrap .i64 ((IntKind.wrap .i64 (z21.1 + (1 : Int))) + (1 : Int)), y25.2.2.2)))).set z21.2.1.toNat (y26.1, (y26.2.1, (y26.2.2.1, (IntKind.wrap .i64 ((IntKind.wrap .i64 ((IntKind.wrap .i64 (z21.1 + (1 : Int))) + (1 : Int))) + (1 : Int)), y26.2.2.2.2))))).set z21.2.1.toNat (y27.1, (y27.2.1, (y27.2.2.1, (y27.2.2.2.1, (IntKind.wrap .i64 ((IntKind.wrap .i64 ((IntKind.wrap .i64 ((IntKind.wrap .i64 (z21.1 + (1 : Int))) + (1 : Int))) + (1 : Int))) + (1 : Int)), y27.2.2.2.2.2)))))).set z21.2.1.toNat (y28.1, (y28.2.1, (y28.2.2.1, (y28.2.2.2.1, (y28.2.2.2.2.1, (IntKind.wrap .i64 ((IntKind.wrap .i64 ((IntKind.wrap .i64 ((IntKind.wrap .i64 ((IntKind.wrap .i64 (z21.1 + (1 : Int))) + (1 : Int))) + (1 : Int))) + (1 : Int))) + (1 : Int)), y28.2.2.2.2.2.2))))))).set z21.2.1.toNat (y29.1, (y29.2.1, (y29.2.2.1, (y29.2.2.2.1, (y29.2.2.2.2.1, (y29.2.2.2.2.2.1, (IntKind.wrap .i64 ((IntKind.wrap .i64 ((IntKind.wrap .i64 ((IntKind.wrap .i64 ((IntKind.wrap .i64 ((IntKind.wrap .i64 (z21.1 + (1 : Int))) + (1 : Int))) + (1 : Int))) + (1 : Int))) + (1 : Int))) + (1 : Int)), y29.2.2.2.2.2.2.2)))))))).set z21.2.1.toNat (y30.1, (y30.2.1, (y30.2.2.1, (y30.2.2.2.1, (y30.2.2.2.2.1, (y30.2.2.2.2.2.1, (y30.2.2.2.2.2.2.1, (IntKind.wrap .i64 ((IntKind.wrap .i64 ((IntKind.wrap .i64 ((IntKind.wrap .i64 ((IntKind.wrap .i64 ((IntKind.wrap .i64 ((IntKind.wrap .i64 (z21.1 + (1 : Int))) + (1 : Int))) + (1 : Int))) + (1 : Int))) + (1 : Int))) + (1 : Int))) + (1 : Int)), y30.2.2.2.2.2.2.2.2))))))))) z21.2.1).bind fun _ =>
  ((((((((((z21.2.2.set z21.2.1.toNat (z21.1, y23.2)).set z21.2.1.toNat (y24.1, (IntKind.wrap .i64 (z21.1 + (1 : Int)), y24.2.2))).set z21.2.1.toNat (y25.1, (y25.2.1, (IntKind.wrap .i64 ((IntKind.wrap .i64 (z21.1 + (1 : Int))) + (1 : Int)), y25.2.2.2)))).set z21.2.1.toNat (y26.1, (y26.2.1, (y26.2.2.1, (IntKind.wrap .i64 ((IntKind.wrap .i64 ((IntKind.wrap .i64 (z21.1 + (1 : Int))) + (1 : Int))) + (1 : Int)), y26.2.2.2.2))))).set z21.2.1.toNat (y27.1, (y27.2.1, (y27.2.2.1, (y27.2.2.2.1, (IntKind.wrap .i64 ((IntKind.wrap .i64 ((IntKind.wrap .i64 ((IntKind.wrap .i64 (z21.1 + (1 : Int))) + (1 : Int))) + (1 : Int))) + (1 : Int)), y27.2.2.2.2.2)))))).set z21.2.1.toNat (y28.1, (y28.2.1, (y28.2.2.1, (y28.2.2.2.1, (y28.2.2.2.2.1, (IntKind.wrap .i64 ((IntKind.wrap .i64 ((IntKind.wrap .i64 ((IntKind.wrap .i64 ((IntKind.wrap .i64 (z21.1 + (1 : Int))) + (1 : Int))) + (1 : Int))) + (1 : Int))) + (1 : Int)), y28.2.2.2.2.2.2))))))).set z21.2.1.toNat (y29.1, (y29.2.1, (y29.2.2.1, (y29.2.2.2.1, (y29.2.2.2.2.1, (y29.2.2.2.2.2.1, (IntKind.wrap .i64 ((IntKind.wrap .i64 ((IntKind.wrap .i64 ((IntKind.wrap .i64 ((IntKind.wrap .i64 ((IntKind.wrap .i64 (z21.1 + (1 : Int))) + (1 : Int))) + (1 : Int))) + (1 : Int))) + (1 : Int))) + (1 : Int)), y29.2.2.2.2.2.2.2)))))))).set z21.2.1.toNat (y30.1, (y30.2.1, (y30.2.2.1, (y30.2.2.2.1, (y30.2.2.2.2.1, (y30.2.2.2.2.2.1, (y30.2.2.2.2.2.2.1, (IntKind.wrap .i64 ((IntKind.wrap .i64 ((IntKind.wrap .i64 ((IntKind.wrap .i64 ((IntKind.wrap .i64 ((IntKind.wrap .i64 ((IntKind.wrap .i64 (z21.1 + (1 : Int))) + (1 : Int))) + (1 : Int))) + (1 : Int))) + (1 : Int))) + (1 : Int))) + (1 : Int)), y30.2.2.2.2.2.2.2.2)))))))))[z21.2.1.toNat]?).bind fun y31 =>
  rec22 (IntKind.wrap .i64 ((IntKind.wrap .i64 ((IntKind.wrap .i64 ((IntKind.wrap .i64 ((IntKind.wrap .i64 ((IntKind.wrap .i64 ((IntKind.wrap .i64 ((IntKind.wrap .i64 ((IntKind.wrap .i64 (z21.1 + (1 : Int))) + (1 : Int))) + (1 : Int))) + (1 : Int))) + (1 : Int))) + (1 : Int))) + (1 : Int))) + (1 : Int))) + (1 : Int)), IntKind.wrap .i64 (z21.2.1 + (1 : Int)), (((((((((z21.2.2.set z21.2.1.toNat (z21.1, y23.2)).set z21.2.1.toNat (y24.1, (IntKind.wrap .i64 (z21.1 + (1 : Int)), y24.2.2))).set z21.2.1.toNat (y25.1, (y25.2.1, (IntKind.wrap .i64 ((IntKind.wrap .i64 (z21.1 + (1 : Int))) + (1 : Int)), y25.2.2.2)))).set z21.2.1.toNat (y26.1, (y26.2.1, (y26.2.2.1, (IntKind.wrap .i64 ((IntKind.wrap .i64 ((IntKind.wrap .i64 (z21.1 + (1 : Int))) + (1 : Int))) + (1 : Int)), y26.2.2.2.2))))).set z21.2.1.toNat (y27.1, (y27.2.1, (y27.2.2.1, (y27.2.2.2.1, (IntKind.wrap .i64 ((IntKind.wrap .i64 ((IntKind.wrap .i64 ((IntKind.wrap .i64 (z21.1 + (1 : Int))) + (1 : Int))) + (1 : Int))) + (1 : Int)), y27.2.2.2.2.2)))))).set z21.2.1.toNat (y28.1, (y28.2.1, (y28.2.2.1, (y28.2.2.2.1, (y28.2.2.2.2.1, (IntKind.wrap .i64 ((IntKind.wrap .i64 ((IntKind.wrap .i64 ((IntKind.wrap .i64 ((IntKind.wrap .i64 (z21.1 + (1 : Int))) + (1 : Int))) + (1 : Int))) + (1 : Int))) + (1 : Int)), y28.2.2.2.2.2.2))))))).set z21.2.1.toNat (y29.1, (y29.2.1, (y29.2.2.1, (y29.2.2.2.1, (y29.2.2.2.2.1, (y29.2.2.2.2.2.1, (IntKind.wrap .i64 ((IntKind.wrap .i64 ((IntKind.wrap .i64 ((IntKind.wrap .i64 ((IntKind.wrap .i64 ((IntKind.wrap .i64 (z21.1 + (1 : Int))) + (1 : Int))) + (1 : Int))) + (1 : Int))) + (1 : Int))) + (1 : Int)), y29.2.2.2.2.2.2.2)))))))).set z21.2.1.toNat (y30.1, (y30.2.1, (y30.2.2.1, (y30.2.2.2.1, (y30.2.2.2.2.1, (y30.2.2.2.2.2.1, (y30.2.2.2.2.2.2.1, (IntKind.wrap .i64 ((IntKind.wrap .i64 ((IntKind.wrap .i64 ((IntKind.wrap .i64 ((IntKind.wrap .i64 ((IntKind.wrap .i64 ((IntKind.wrap .i64 (z21.1 + (1 : Int))) + (1 : Int))) + (1 : Int))) + (1 : Int))) + (1 : Int))) + (1 : Int))) + (1 : Int)), y30.2.2.2.2.2.2.2.2))))))))).set z21.2.1.toNat (y31.1, (y31.2.1, (y31.2.2.1, (y31.2.2.2.1, (y31.2.2.2.2.1, (y31.2.2.2.2.2.1, (y31.2.2.2.2.2.2.1, (y31.2.2.2.2.2.2.2.1, IntKind.wrap .i64 ((IntKind.wrap .i64 ((IntKind.wrap .i64 ((IntKind.wrap .i64 ((IntKind.wrap .i64 ((IntKind.wrap .i64 ((IntKind.wrap .i64 ((IntKind.wrap .i64 (z21.1 + (1 : Int))) + (1 : Int))) + (1 : Int))) + (1 : Int))) + (1 : Int))) + (1 : Int))) + (1 : Int))) + (1 : Int))))))))))))))))))))))))))))))
  (some (z21.1, z21.2.2)))) n z0)
def p_laws_markMessageS (n : Nat) (x : ((List (Int × (Int × (Int × (Int × (Int × (Int × (Int × (Int × Int))))))))) × Int)) : Option (Int × (List (Int × (Int × (Int × (Int × (Int × (Int × (Int × (Int × Int)))))))))) :=
(l_laws_markMessageS_1 n  (x.2, (0 : Int), x.1))
def m_laws_markMessageS (x : ((List (Int × (Int × (Int × (Int × (Int × (Int × (Int × (Int × Int))))))))) × Int)) : Option (Int × (List (Int × (Int × (Int × (Int × (Int × (Int × (Int × (Int × Int)))))))))) := p_laws_markMessageS FU x
def a_laws_markMessageS : Ann := (.node .leaf (.node (.node .leaf (.loop [.slot 1 (.int .i64), .slot 5 (.int .i64), .row 0 196 (.pair (.int .i64) (.pair (.int .i64) (.pair (.int .i64) (.pair (.int .i64) (.pair (.int .i64) (.pair (.int .i64) (.pair (.int .i64) (.pair (.int .i64) (.int .i64)))))))))] [6, 7, 8, 9, 10, 11, 12, 13, 14, 15, 16, 17, 18, 19, 20, 21, 22, 23, 24, 25, 26, 27, 28, 29, 30, 31, 32, 33, 34, 35, 36, 37, 38, 39, 40, 41, 42, 43, 44, 45, 46, 47, 48, 49, 50, 51, 52, 53, 54, 55, 56, 57, 58, 59, 60, 61, 62, 63, 64, 65, 66, 67, 68, 69, 70, 71, 72, 73, 74, 75, 76] .leaf)) .leaf))
def S_laws_markMessageS : FSpec := ⟨[.row 196 (.pair (.int .i64) (.pair (.int .i64) (.pair (.int .i64) (.pair (.int .i64) (.pair (.int .i64) (.pair (.int .i64) (.pair (.int .i64) (.pair (.int .i64) (.int .i64))))))))), .val (.int .i64)], [(.int .i64)], m_laws_markMessageS⟩

/-! laws.heldLegS -/
def l_laws_heldLegS_1 (n : Nat) (x_1 : (List (Int × (Int × (Int × Int))))) (z0 : (Int × Int)) : Option Int :=
(lp (fun rec7 (z6 : (Int × Int)) =>
 (cond (decide (z6.2 < (lenI x_1)))
  ((geti x_1 z6.2).bind fun y8 =>
  (cond (!(y8.1 == z6.1))
   (some (-1 : Int))
   ((geti x_1 z6.2).bind fun y9 =>
   (cond (!(y9.2.1 == (IntKind.wrap .i64 (z6.1 + (1 : Int)))))
    (some (-1 : Int))
    ((geti x_1 z6.2).bind fun y10 =>
    (cond (!(y10.2.2.1 == (IntKind.wrap .i64 ((IntKind.wrap .i64 (z6.1 + (1 : Int))) + (1 : Int)))))
     (some (-1 : Int))
     ((geti x_1 z6.2).bind fun y11 =>
     (cond (!(y11.2.2.2 == (IntKind.wrap .i64 ((IntKind.wrap .i64 ((IntKind.wrap .i64 (z6.1 + (1 : Int))) + (1 : Int))) + (1 : Int)))))
      (some (-1 : Int))
      (rec7 (IntKind.wrap .i64 ((IntKind.wrap .i64 ((IntKind.wrap .i64 ((IntKind.wrap .i64 (z6.1 + (1 : Int))) + (1 : Int))) + (1 : Int))) + (1 : Int)), IntKind.wrap .i64 (z6.2 + (1 : Int))))))))))))
  (some z6.1))) n z0)
def p_laws_heldLegS (n : Nat) (x : ((List (Int × (Int × (Int × Int)))) × Int)) : Option Int :=
(l_laws_heldLegS_1 n x.1 (x.2, (0 : Int)))
def m_laws_heldLegS (x : ((List (Int × (Int × (Int × Int)))) × Int)) : Option Int := p_laws_heldLegS FU x
def a_laws_heldLegS : Ann := (.node .leaf (.node (.node .leaf (.loop [.slot 1 (.int .i64), .slot 5 (.int .i64)] [4, 6, 7, 8, 9, 10, 11, 12, 13, 14, 15, 16, 17, 18, 19, 20, 21, 22, 23, 24, 25, 26, 27, 28, 29, 30, 31, 32, 33, 34, 35, 36, 37, 38, 39, 40, 41, 42, 43, 44, 45, 46, 47] .leaf)) .leaf))
def S_laws_heldLegS : FSpec := ⟨[.val (.sl none (.pair (.int .i64) (.pair (.int .i64) (.pair (.int .i64) (.int .i64))))), .val (.int .i64)], [(.int .i64)], m_laws_heldLegS⟩

/-! laws.heldContractS -/
def l_laws_heldContractS_1 (n : Nat) (x_1 : (List (Int × (List (Int × (Int × (Int × Int))))))) (z0 : (Int × Int)) : Option Int :=
(lp (fun rec6 (z5 : (Int × Int)) =>
 (cond (decide (z5.2 < (lenI x_1)))
  ((geti x_1 z5.2).bind fun y7 =>
  (cond (!(y7.1 == z5.1))
   (some (-1 : Int))
   ((geti x_1 z5.2).bind fun y8 =>
   ((m_laws_heldLegS (y8.2, IntKind.wrap .i64 (z5.1 + (1 : Int)))).bind fun r9 =>
   (cond (decide (r9 < (0 : Int)))
    (some (-1 : Int))
    (rec6 (r9, IntKind.wrap .i64 (z5.2 + (1 : Int)))))))))
  (some z5.1))) n z0)
def p_laws_heldContractS (n : Nat) (x : ((List (Int × (List (Int × (Int × (Int × Int)))))) × Int)) : Option Int :=
(l_laws_heldContractS_1 n x.1 (x.2, (0 : Int)))
def m_laws_heldContractS (x : ((List (Int × (List (Int × (Int × (Int × Int)))))) × Int)) : Option Int := p_laws_heldContractS FU x
def a_laws_heldContractS : Ann := (.node .leaf (.node (.node .leaf (.loop [.slot 1 (.int .i64), .slot 5 (.int .i64)] [4, 6, 7, 8, 9, 10, 11, 12, 13, 14, 15, 16, 17, 18, 19, 20, 21, 22, 23, 24, 25, 26, 27, 28, 29] .leaf)) .leaf))
def S_laws_heldContractS : FSpec := ⟨[.val (.sl none (.pair (.int .i64) (.sl none (.pair (.int .i64) (.pair (.int .i64) (.pair (.int .i64) (.int .i64))))))), .val (.int .i64)], [(.int .i64)], m_laws_heldContractS⟩

/-! laws.heldBalanceS -/
def l_laws_heldBalanceS_1 (n : Nat) (x_1 : (List (Int × (Int × Int)))) (z0 : (Int × Int)) : Option Int :=
(lp (fun rec6 (z5 : (Int × Int)) =>
 (cond (decide (z5.2 < (lenI x_1)))
  ((geti x_1 z5.2).bind fun y7 =>
  (cond (!(y7.1 == z5.1))
   (some (-1 : Int))
   ((geti x_1 z5.2).bind fun y8 =>
   (cond (!(y8.2.1 == (IntKind.wrap .i64 (z5.1 + (1 : Int)))))
    (some (-1 : Int))
    ((geti x_1 z5.2).bind fun y9 =>
    (cond (!(y9.2.2 == (IntKind.wrap .i64 ((IntKind.wrap .i64 (z5.1 + (1 : Int))) + (1 : Int)))))
     (some (-1 : Int))
     (rec6 (IntKind.wrap .i64 ((IntKind.wrap .i64 ((IntKind.wrap .i64 (z5.1 + (1 : Int))) + (1 : Int))) + (1 : Int)), IntKind.wrap .i64 (z5.2 + (1 : Int))))))))))
  (some z5.1))) n z0)
def p_laws_heldBalanceS (n : Nat) (x : ((List (Int × (Int × Int))) × Int)) : Option Int :=
(l_laws_heldBalanceS_1 n x.1 (x.2, (0 : Int)))
def m_laws_heldBalanceS (x : ((List (Int × (Int × Int))) × Int)) : Option Int := p_laws_heldBalanceS FU x
def a_laws_heldBalanceS : Ann := (.node .leaf (.node (.node .leaf (.loop [.slot 1 (.int .i64), .slot 5 (.int .i64)] [4, 6, 7, 8, 9, 10, 11, 12, 13, 14, 15, 16, 17, 18, 19, 20, 21, 22, 23, 24, 25, 26, 27, 28, 29, 30, 31, 32, 33, 34, 35, 36, 37, 38] .leaf)) .leaf))
def S_laws_heldBalanceS : FSpec := ⟨[.val (.sl none (.pair (.int .i64) (.pair (.int .i64) (.int .i64)))), .val (.int .i64)], [(.int .i64)], m_laws_heldBalanceS⟩

/-! laws.heldMarkS -/
def l_laws_heldMarkS_1 (n : Nat) (x_1 : (List (Int × Int))) (z0 : (Int × Int)) : Option Int :=
(lp (fun rec5 (z4 : (Int × Int)) =>
 (cond (decide (z4.2 < (lenI x_1)))
  ((geti x_1 z4.2).bind fun y6 =>
  (cond (!(y6.1 == z4.1))
   (some (-1 : Int))
   ((geti x_1 z4.2).bind fun y7 =>
   (cond (!(y7.2 == (IntKind.wrap .i64 (z4.1 + (1 : Int)))))
    (some (-1 : Int))
    (rec5 (IntKind.wrap .i64 ((IntKind.wrap .i64 (z4.1 + (1 : Int))) + (1 : Int)), IntKind.wrap .i64 (z4.2 + (1 : Int))))))))
  (some z4.1))) n z0)
def p_laws_heldMarkS (n : Nat) (x : ((List (Int × Int)) × Int)) : Option Int :=
(l_laws_heldMarkS_1 n x.1 (x.2, (0 : Int)))
def m_laws_heldMarkS (x : ((List (Int × Int)) × Int)) : Option Int := p_laws_heldMarkS FU x
def a_laws_heldMarkS : Ann := (.node .leaf (.node (.node .leaf (.loop [.slot 1 (.int .i64), .slot 5 (.int .i64)] [4, 6, 7, 8, 9, 10, 11, 12, 13, 14, 15, 16, 17, 18, 19, 20, 21, 22, 23, 24, 25, 26, 27, 28, 29] .leaf)) .leaf))
def S_laws_heldMarkS : FSpec := ⟨[.val (.sl none (.pair (.int .i64) (.int .i64))), .val (.int .i64)], [(.int .i64)], m_laws_heldMarkS⟩

/-! laws.heldInt64S -/
def l_laws_heldInt64S_1 (n : Nat) (x_1 : (List Int)) (z0 : (Int × Int)) : Option Int :=
(lp (fun rec4 (z3 : (Int × Int)) =>
 (cond (decide (z3.2 < (lenI x_1)))
  ((geti x_1 z3.2).bind fun y5 =>
  (cond (!(y5 == z3.1))
   (some (-1 : Int))
   (rec4 (IntKind.wrap .i64 (z3.1 + (1 : Int)), IntKind.wrap .i64 (z3.2 + (1 : Int))))))
  (some z3.1))) n z0)
def p_laws_heldInt64S (n : Nat) (x : ((List Int) × Int)) : Option Int :=
(l_laws_heldInt64S_1 n x.1 (x.2, (0 : Int)))
def m_laws_heldInt64S (x : ((List Int) × Int)) : Option Int := p_laws_heldInt64S FU x
def a_laws_heldInt64S : Ann := (.node .leaf (.node (.node .leaf (.loop [.slot 1 (.int .i64), .slot 5 (.int .i64)] [4, 6, 7, 8, 9, 10, 11, 12, 13, 14, 15, 16, 17, 18, 19] .leaf)) .leaf))
def S_laws_heldInt64S : FSpec := ⟨[.val (.sl none (.int .i64)), .val (.int .i64)], [(.int .i64)], m_laws_heldInt64S⟩

/-! laws.heldShardS -/
def l_laws_heldShardS_1 (n : Nat) (x_1 : (List (Int × ((List (Int × (Int × Int))) × ((List (Int × Int)) × ((List (Int × (List (Int × (Int × (Int × Int)))))) × ((List (Int × Int)) × (List Int)))))))) (z0 : (Int × Int)) : Option Int :=
(lp (fun rec14 (z13 : (Int × Int)) =>
 (cond (decide (z13.2 < (lenI x_1)))
  ((geti x_1 z13.2).bind fun y15 =>
  (cond (!(y15.1 == z13.1))
   (some (-1 : Int))
   ((geti x_1 z13.2).bind fun y16 =>
   ((m_laws_heldBalanceS (y16.2.1, IntKind.wrap .i64 (z13.1 + (1 : Int)))).bind fun r17 =>
   (cond (decide (r17 < (0 : Int)))
    (some (-1 : Int))
    ((geti x_1 z13.2).bind fun y18 =>
    ((m_laws_heldMarkS (y18.2.2.1, r17)).bind fun r19 =>
    (cond (decide (r19 < (0 : Int)))
     (some (-1 : Int))
     ((geti x_1 z13.2).bind fun y20 =>
     ((m_laws_heldContractS (y20.2.2.2.1, r19)).bind fun r21 =>
     (cond (decide (r21 < (0 : Int)))
      (some (-1 : Int))
      ((geti x_1 z13.2).bind fun y22 =>
      ((m_laws_heldMarkS (y22.2.2.2.2.1, r21)).bind fun r23 =>
      (cond (decide (r23 < (0 : Int)))
       (some (-1 : Int))
       ((geti x_1 z13.2).bind fun y24 =>
       ((m_laws_heldInt64S (y24.2.2.2.2.2, r23)).bind fun r25 =>
       (cond (decide (r25 < (0 : Int)))
        (some (-1 : Int))
        (rec14 (r25, IntKind.wrap .i64 (z13.2 + (1 : Int)))))))))))))))))))))
  (some z13.1))) n z0)
def p_laws_heldShardS (n : Nat) (x : ((List (Int × ((List (Int × (Int × Int))) × ((List (Int × Int)) × ((List (Int × (List (Int × (Int × (Int × Int)))))) × ((List (Int × Int)) × (List Int))))))) × Int)) : Option Int :=
(l_laws_heldShardS_1 n x.1 (x.2, (0 : Int)))
def m_laws_heldShardS (x : ((List (Int × ((List (Int × (Int × Int))) × ((List (Int × Int)) × ((List (Int × (List (Int × (Int × (Int × Int)))))) × ((List (Int × Int)) × (List Int))))))) × Int)) : Option Int := p_laws_heldShardS FU x
def a_laws_heldShardS : Ann := (.node .leaf (.node (.node .leaf (.loop [.slot 1 (.int .i64), .slot 5 (.int .i64)] [4, 6, 7, 8, 9, 10, 11, 12, 13, 14, 15, 16, 17, 18, 19, 20, 21, 22, 23, 24, 25, 26, 27, 28, 29, 30, 31, 32, 33, 34, 35, 36, 37, 38, 39, 40, 41, 42, 43, 44, 45, 46, 47, 48, 49, 50, 51, 52, 53, 54, 55, 56, 57, 58, 59, 60, 61, 62, 63, 64, 65] .leaf)) .leaf))
def S_laws_heldShardS : FSpec := ⟨[.val (.sl none (.pair (.int .i64) (.pair (.sl none (.pair (.int .i64) (.pair (.int .i64) (.int .i64)))) (.pair (.sl none (.pair (.int .i64) (.int .i64))) (.pair (.sl none (.pair (.int .i64) (.sl none (.pair (.int .i64) (.pair (.int .i64) (.pair (.int .i64) (.int .i64))))))) (.pair (.sl none (.pair (.int .i64) (.int .i64))) (.sl none (.int .i64)))))))), .val (.int .i64)], [(.int .i64)], m_laws_heldShardS⟩

/-! laws.heldVoteS -/
def l_laws_heldVoteS_1 (n : Nat) (x_1 : (List (Int × Int))) (z0 : (Int × Int)) : Option Int :=
(lp (fun rec5 (z4 : (Int × Int)) =>
 (cond (decide (z4.2 < (lenI x_1)))
  ((geti x_1 z4.2).bind fun y6 =>
  (cond (!(y6.1 == z4.1))
   (some (-1 : Int))
   ((geti x_1 z4.2).bind fun y7 =>
   (cond (!(y7.2 == (IntKind.wrap .i64 (z4.1 + (1 : Int)))))
    (some (-1 : Int))
    (rec5 (IntKind.wrap .i64 ((IntKind.wrap .i64 (z4.1 + (1 : Int))) + (1 : Int)), IntKind.wrap .i64 (z4.2 + (1 : Int))))))))
  (some z4.1))) n z0)
def p_laws_heldVoteS (n : Nat) (x : ((List (Int × Int)) × Int)) : Option Int :=
(l_laws_heldVoteS_1 n x.1 (x.2, (0 : Int)))
def m_laws_heldVoteS (x : ((List (Int × Int)) × Int)) : Option Int := p_laws_heldVoteS FU x
def a_laws_heldVoteS : Ann := (.node .leaf (.node (.node .leaf (.loop [.slot 1 (.int .i64), .slot 5 (.int .i64)] [4, 6, 7, 8, 9, 10, 11, 12, 13, 14, 15, 16, 17, 18, 19, 20, 21, 22, 23, 24, 25, 26, 27, 28, 29] .leaf)) .leaf))
def S_laws_heldVoteS : FSpec := ⟨[.val (.sl none (.pair (.int .i64) (.int .i64))), .val (.int .i64)], [(.int .i64)], m_laws_heldVoteS⟩

/-! laws.heldSlotS -/
def l_laws_heldSlotS_1 (n : Nat) (x_1 : (List (Int × (Int × (Int × ((Int × Int) × (List (Int × Int)))))))) (z0 : (Int × Int)) : Option Int :=
(lp (fun rec10 (z9 : (Int × Int)) =>
 (cond (decide (z9.2 < (lenI x_1)))
  ((geti x_1 z9.2).bind fun y11 =>
  (cond (!(y11.1 == z9.1))
   (some (-1 : Int))
   ((geti x_1 z9.2).bind fun y12 =>
   (cond (!(y12.2.1 == (IntKind.wrap .i64 (z9.1 + (1 : Int)))))
    (some (-1 : Int))
    ((geti x_1 z9.2).bind fun y13 =>
    (cond (!(y13.2.2.1 == (IntKind.wrap .i64 ((IntKind.wrap .i64 (z9.1 + (1 : Int))) + (1 : Int)))))
     (some (-1 : Int))
     ((geti x_1 z9.2).bind fun y14 =>
     (cond (!(y14.2.2.2.1.1 == (IntKind.wrap .i64 ((IntKind.wrap .i64 ((IntKind.wrap .i64 (z9.1 + (1 : Int))) + (1 : Int))) + (1 : Int)))))
      (some (-1 : Int))
      ((geti x_1 z9.2).bind fun y15 =>
      (cond (!(y15.2.2.2.1.2 == (IntKind.wrap .i64 ((IntKind.wrap .i64 ((IntKind.wrap .i64 ((IntKind.wrap .i64 (z9.1 + (1 : Int))) + (1 : Int))) + (1 : Int))) + (1 : Int)))))
       (some (-1 : Int))
       ((geti x_1 z9.2).bind fun y16 =>
       ((m_laws_heldVoteS (y16.2.2.2.2, IntKind.wrap .i64 ((IntKind.wrap .i64 ((IntKind.wrap .i64 ((IntKind.wrap .i64 ((IntKind.wrap .i64 (z9.1 + (1 : Int))) + (1 : Int))) + (1 : Int))) + (1 : Int))) + (1 : Int)))).bind fun r17 =>
       (cond (decide (r17 < (0 : Int)))
        (some (-1 : Int))
        (rec10 (r17, IntKind.wrap .i64 (z9.2 + (1 : Int)))))))))))))))))
  (some z9.1))) n z0)
def p_laws_heldSlotS (n : Nat) (x : ((List (Int × (Int × (Int × ((Int × Int) × (List (Int × Int))))))) × Int)) : Option Int :=
(l_laws_heldSlotS_1 n x.1 (x.2, (0 : Int)))
def m_laws_heldSlotS (x : ((List (Int × (Int × (Int × ((Int × Int) × (List (Int × Int))))))) × Int)) : Option Int := p_laws_heldSlotS FU x
def a_laws_heldSlotS : Ann := (.node .leaf (.node (.node .leaf (.loop [.slot 1 (.int .i64), .slot 5 (.int .i64)] [4, 6, 7, 8, 9, 10, 11, 12, 13, 14, 15, 16, 17, 18, 19, 20, 21, 22, 23, 24, 25, 26, 27, 28, 29, 30, 31, 32, 33, 34, 35, 36, 37, 38, 39, 40, 41, 42, 43, 44, 45, 46, 47, 48, 49, 50, 51, 52, 53, 54, 55, 56, 57, 58, 59, 60, 61, 62, 63, 64, 65, 66, 67] .leaf)) .leaf))
def S_laws_heldSlotS : FSpec := ⟨[.val (.sl none (.pair (.int .i64) (.pair (.int .i64) (.pair (.int .i64) (.pair (.pair (.int .i64) (.int .i64)) (.sl none (.pair (.int .i64) (.int .i64)))))))), .val (.int .i64)], [(.int .i64)], m_laws_heldSlotS⟩

/-! laws.heldAcceptorS -/
def l_laws_heldAcceptorS_1 (n : Nat) (x_1 : (List (List (Int × (Int × (Int × ((Int × Int) × (List (Int × Int))))))))) (z0 : (Int × Int)) : Option Int :=
(lp (fun rec5 (z4 : (Int × Int)) =>
 (cond (decide (z4.2 < (lenI x_1)))
  ((geti x_1 z4.2).bind fun y6 =>
  ((m_laws_heldSlotS (y6, z4.1)).bind fun r7 =>
  (cond (decide (r7 < (0 : Int)))
   (some (-1 : Int))
   (rec5 (r7, IntKind.wrap .i64 (z4.2 + (1 : Int)))))))
  (some z4.1))) n z0)
def p_laws_heldAcceptorS (n : Nat) (x : ((List (List (Int × (Int × (Int × ((Int × Int) × (List (Int × Int)))))))) × Int)) : Option Int :=
(l_laws_heldAcceptorS_1 n x.1 (x.2, (0 : Int)))
def m_laws_heldAcceptorS (x : ((List (List (Int × (Int × (Int × ((Int × Int) × (List (Int × Int)))))))) × Int)) : Option Int := p_laws_heldAcceptorS FU x
def a_laws_heldAcceptorS : Ann := (.node .leaf (.node (.node .leaf (.loop [.slot 1 (.int .i64), .slot 5 (.int .i64)] [4, 6, 7, 8, 9, 10, 11, 12, 13, 14, 15, 16, 17, 18, 19, 20] .leaf)) .leaf))
def S_laws_heldAcceptorS : FSpec := ⟨[.val (.sl none (.one (.sl none (.pair (.int .i64) (.pair (.int .i64) (.pair (.int .i64) (.pair (.pair (.int .i64) (.int .i64)) (.sl none (.pair (.int .i64) (.int .i64)))))))))), .val (.int .i64)], [(.int .i64)], m_laws_heldAcceptorS⟩

/-! laws.heldTryS -/
def l_laws_heldTryS_1 (n : Nat) (x_1 : (List (Int × (Int × (Int × (Int × ((List Int) × (List (Int × Int))))))))) (z0 : (Int × Int)) : Option Int :=
(lp (fun rec11 (z10 : (Int × Int)) =>
 (cond (decide (z10.2 < (lenI x_1)))
  ((geti x_1 z10.2).bind fun y12 =>
  (cond (!(y12.1 == z10.1))
   (some (-1 : Int))
   ((geti x_1 z10.2).bind fun y13 =>
   (cond (!(y13.2.1 == (IntKind.wrap .i64 (z10.1 + (1 : Int)))))
    (some (-1 : Int))
    ((geti x_1 z10.2).bind fun y14 =>
    (cond (!(y14.2.2.1 == (IntKind.wrap .i64 ((IntKind.wrap .i64 (z10.1 + (1 : Int))) + (1 : Int)))))
     (some (-1 : Int))
     ((geti x_1 z10.2).bind fun y15 =>
     (cond (!(y15.2.2.2.1 == (IntKind.wrap .i64 ((IntKind.wrap .i64 ((IntKind.wrap .i64 (z10.1 + (1 : Int))) + (1 : Int))) + (1 : Int)))))
      (some (-1 : Int))
      ((geti x_1 z10.2).bind fun y16 =>
      ((m_laws_heldInt64S (y16.2.2.2.2.1, IntKind.wrap .i64 ((IntKind.wrap .i64 ((IntKind.wrap .i64 ((IntKind.wrap .i64 (z10.1 + (1 : Int))) + (1 : Int))) + (1 : Int))) + (1 : Int)))).bind fun r17 =>
      (cond (decide (r17 < (0 : Int)))
       (some (-1 : Int))
       ((geti x_1 z10.2).bind fun y18 =>
       ((m_laws_heldVoteS (y18.2.2.2.2.2, r17)).bind fun r19 =>
       (cond (decide (r19 < (0 : Int)))
        (some (-1 : Int))
        (rec11 (r19, IntKind.wrap .i64 (z10.2 + (1 : Int))))))))))))))))))
  (some z10.1))) n z0)
def p_laws_heldTryS (n : Nat) (x : ((List (Int × (Int × (Int × (Int × ((List Int) × (List (Int × Int)))))))) × Int)) : Option Int :=
(l_laws_heldTryS_1 n x.1 (x.2, (0 : Int)))
def m_laws_heldTryS (x : ((List (Int × (Int × (Int × (Int × ((List Int) × (List (Int × Int)))))))) × Int)) : Option Int := p_laws_heldTryS FU x
def a_laws_heldTryS : Ann := (.node .leaf (.node (.node .leaf (.loop [.slot 1 (.int .i64), .slot 5 (.int .i64)] [4, 6, 7, 8, 9, 10, 11, 12, 13, 14, 15, 16, 17, 18, 19, 20, 21, 22, 23, 24, 25, 26, 27, 28, 29, 30, 31, 32, 33, 34, 35, 36, 37, 38, 39, 40, 41, 42, 43, 44, 45, 46, 47, 48, 49, 50, 51, 52, 53, 54, 55, 56, 57, 58, 59, 60, 61, 62, 63, 64, 65] .leaf)) .leaf))
def S_laws_heldTryS : FSpec := ⟨[.val (.sl none (.pair (.int .i64) (.pair (.int .i64) (.pair (.int .i64) (.pair (.int .i64) (.pair (.sl none (.int .i64)) (.sl none (.pair (.int .i64) (.int .i64))))))))), .val (.int .i64)], [(.int .i64)], m_laws_heldTryS⟩

/-! laws.heldHeardS -/
def l_laws_heldHeardS_1 (n : Nat) (x_1 : (List (Int × (Int × (Int × (Int × Int)))))) (z0 : (Int × Int)) : Option Int :=
(lp (fun rec8 (z7 : (Int × Int)) =>
 (cond (decide (z7.2 < (lenI x_1)))
  ((geti x_1 z7.2).bind fun y9 =>
  (cond (!(y9.1 == z7.1))
   (some (-1 : Int))
   ((geti x_1 z7.2).bind fun y10 =>
   (cond (!(y10.2.1 == (IntKind.wrap .i64 (z7.1 + (1 : Int)))))
    (some (-1 : Int))
    ((geti x_1 z7.2).bind fun y11 =>
    (cond (!(y11.2.2.1 == (IntKind.wrap .i64 ((IntKind.wrap .i64 (z7.1 + (1 : Int))) + (1 : Int)))))
     (some (-1 : Int))
     ((geti x_1 z7.2).bind fun y12 =>
     (cond (!(y12.2.2.2.1 == (IntKind.wrap .i64 ((IntKind.wrap .i64 ((IntKind.wrap .i64 (z7.1 + (1 : Int))) + (1 : Int))) + (1 : Int)))))
      (some (-1 : Int))
      ((geti x_1 z7.2).bind fun y13 =>
      (cond (!(y13.2.2.2.2 == (IntKind.wrap .i64 ((IntKind.wrap .i64 ((IntKind.wrap .i64 ((IntKind.wrap .i64 (z7.1 + (1 : Int))) + (1 : Int))) + (1 : Int))) + (1 : Int)))))
       (some (-1 : Int))
       (rec8 (IntKind.wrap .i64 ((IntKind.wrap .i64 ((IntKind.wrap .i64 ((IntKind.wrap .i64 ((IntKind.wrap .i64 (z7.1 + (1 : Int))) + (1 : Int))) + (1 : Int))) + (1 : Int))) + (1 : Int)), IntKind.wrap .i64 (z7.2 + (1 : Int))))))))))))))
  (some z7.1))) n z0)
def p_laws_heldHeardS (n : Nat) (x : ((List (Int × (Int × (Int × (Int × Int))))) × Int)) : Option Int :=
(l_laws_heldHeardS_1 n x.1 (x.2, (0 : Int)))
def m_laws_heldHeardS (x : ((List (Int × (Int × (Int × (Int × Int))))) × Int)) : Option Int := p_laws_heldHeardS FU x
def a_laws_heldHeardS : Ann := (.node .leaf (.node (.node .leaf (.loop [.slot 1 (.int .i64), .slot 5 (.int .i64)] [4, 6, 7, 8, 9, 10, 11, 12, 13, 14, 15, 16, 17, 18, 19, 20, 21, 22, 23, 24, 25, 26, 27, 28, 29, 30, 31, 32, 33, 34, 35, 36, 37, 38, 39, 40, 41, 42, 43, 44, 45, 46, 47, 48, 49, 50, 51, 52, 53, 54, 55, 56] .leaf)) .leaf))
def S_laws_heldHeardS : FSpec := ⟨[.val (.sl none (.pair (.int .i64) (.pair (.int .i64) (.pair (.int .i64) (.pair (.int .i64) (.int .i64)))))), .val (.int .i64)], [(.int .i64)], m_laws_heldHeardS⟩

/-! laws.heldLeaderS -/
def l_laws_heldLeaderS_1 (n : Nat) (x_1 : (List (Int × ((List (Int × (Int × (Int × (Int × ((List Int) × (List (Int × Int)))))))) × (List (Int × (Int × (Int × (Int × Int))))))))) (z0 : (Int × Int)) : Option Int :=
(lp (fun rec8 (z7 : (Int × Int)) =>
 (cond (decide (z7.2 < (lenI x_1)))
  ((geti x_1 z7.2).bind fun y9 =>
  (cond (!(y9.1 == z7.1))
   (some (-1 : Int))
   ((geti x_1 z7.2).bind fun y10 =>
   ((m_laws_heldTryS (y10.2.1, IntKind.wrap .i64 (z7.1 + (1 : Int)))).bind fun r11 =>
   (cond (decide (r11 < (0 : Int)))
    (some (-1 : Int))
    ((geti x_1 z7.2).bind fun y12 =>
    ((m_laws_heldHeardS (y12.2.2, r11)).bind fun r13 =>
    (cond (decide (r13 < (0 : Int)))
     (some (-1 : Int))
     (rec8 (r13, IntKind.wrap .i64 (z7.2 + (1 : Int))))))))))))
  (some z7.1))) n z0)
def p_laws_heldLeaderS (n : Nat) (x : ((List (Int × ((List (Int × (Int × (Int × (Int × ((List Int) × (List (Int × Int)))))))) × (List (Int × (Int × (Int × (Int × Int)))))))) × Int)) : Option Int :=
(l_laws_heldLeaderS_1 n x.1 (x.2, (0 : Int)))
def m_laws_heldLeaderS (x : ((List (Int × ((List (Int × (Int × (Int × (Int × ((List Int) × (List (Int × Int)))))))) × (List (Int × (Int × (Int × (Int × Int)))))))) × Int)) : Option Int := p_laws_heldLeaderS FU x
def a_laws_heldLeaderS : Ann := (.node .leaf (.node (.node .leaf (.loop [.slot 1 (.int .i64), .slot 5 (.int .i64)] [4, 6, 7, 8, 9, 10, 11, 12, 13, 14, 15, 16, 17, 18, 19, 20, 21, 22, 23, 24, 25, 26, 27, 28, 29, 30, 31, 32, 33, 34, 35, 36, 37, 38] .leaf)) .leaf))
def S_laws_heldLeaderS : FSpec := ⟨[.val (.sl none (.pair (.int .i64) (.pair (.sl none (.pair (.int .i64) (.pair (.int .i64) (.pair (.int .i64) (.pair (.int .i64) (.pair (.sl none (.int .i64)) (.sl none (.pair (.int .i64) (.int .i64))))))))) (.sl none (.pair (.int .i64) (.pair (.int .i64) (.pair (.int .i64) (.pair (.int .i64) (.int .i64))))))))), .val (.int .i64)], [(.int .i64)], m_laws_heldLeaderS⟩

/-! laws.heldMessageS -/
def l_laws_heldMessageS_1 (n : Nat) (x_1 : (List (Int × (Int × (Int × (Int × (Int × (Int × (Int × (Int × Int)))))))))) (z0 : (Int × Int)) : Option Int :=
(lp (fun rec12 (z11 : (Int × Int)) =>
 (cond (decide (z11.2 < (lenI x_1)))
  ((geti x_1 z11.2).bind fun y13 =>
  (cond (!(y13.1 == z11.1))
   (some (-1 : Int))
   ((geti x_1 z11.2).bind fun y14 =>
   (cond (!(y14.2.1 == (IntKind.wrap .i64 (z11.1 + (1 : Int)))))
    (some (-1 : Int))
    ((geti x_1 z11.2).bind fun y15 =>
    (cond (!(y15.2.2.1 == (IntKind.wrap .i64 ((IntKind.wrap .i64 (z11.1 + (1 : Int))) + (1 : Int)))))
     (some (-1 : Int))
     ((geti x_1 z11.2).bind fun y16 =>
     (cond (!(y16.2.2.2.1 == (IntKind.wrap .i64 ((IntKind.wrap .i64 ((IntKind.wrap .i64 (z11.1 + (1 : Int))) + (1 : Int))) + (1 : Int)))))
      (some (-1 : Int))
      ((geti x_1 z11.2).bind fun y17 =>
      (cond (!(y17.2.2.2.2.1 == (IntKind.wrap .i64 ((IntKind.wrap .i64 ((IntKind.wrap .i64 ((IntKind.wrap .i64 (z11.1 + (1 : Int))) + (1 : Int))) + (1 : Int))) + (1 : Int)))))
       (some (-1 : Int))
       ((geti x_1 z11.2).bind fun y18 =>
       (cond (!(y18.2.2.2.2.2.1 == (IntKind.wrap .i64 ((IntKind.wrap .i64 ((IntKind.wrap .i64 ((IntKind.wrap .i64 ((IntKind.wrap .i64 (z11.1 + (1 : Int))) + (1 : Int))) + (1 : Int))) + (1 : Int))) + (1 : Int)))))
        (some (-1 : Int))
        ((geti x_1 z11.2).bind fun y19 =>
        (cond (!(y19.2.2.2.2.2.2.1 == (IntKind.wrap .i64 ((IntKind.wrap .i64 ((IntKind.wrap .i64 ((IntKind.wrap .i64 ((IntKind.wrap .i64 ((IntKind.wrap .i64 (z11.1 + (1 : Int))) + (1 : Int))) + (1 : Int))) + (1 : Int))) + (1 : Int))) + (1 : Int)))))
         (some (-1 : Int))
         ((geti x_1 z11.2).bind fun y20 =>
         (cond (!(y20.2.2.2.2.2.2.2.1 == (IntKind.wrap .i64 ((IntKind.wrap .i64 ((IntKind.wrap .i64 ((IntKind.wrap .i64 ((IntKind.wrap .i64 ((IntKind.wrap .i64 ((IntKind.wrap .i64 (z11.1 + (1 : Int))) + (1 : Int))) + (1 : Int))) + (1 : Int))) + (1 : Int))) + (1 : Int))) + (1 : Int)))))
          (some (-1 : Int))
          ((geti x_1 z11.2).bind fun y21 =>
          (cond (!(y21.2.2.2.2.2.2.2.2 == (IntKind.wrap .i64 ((IntKind.wrap .i64 ((IntKind.wrap .i64 ((IntKind.wrap .i64 ((IntKind.wrap .i64 ((IntKind.wrap .i64 ((IntKind.wrap .i64 ((IntKind.wrap .i64 (z11.1 + (1 : Int))) + (1 : Int))) + (1 : Int))) + (1 : Int))) + (1 : Int))) + (1 : Int))) + (1 : Int))) + (1 : Int)))))
           (some (-1 : Int))
           (rec12 (IntKind.wrap .i64 ((IntKind.wrap .i64 ((IntKind.wrap .i64 ((IntKind.wrap .i64 ((IntKind.wrap .i64 ((IntKind.wrap .i64 ((IntKind.wrap .i64 ((IntKind.wrap .i64 ((IntKind.wrap .i64 (z11.1 + (1 : Int))) + (1 : Int))) + (1 : Int))) + (1 : Int))) + (1 : Int))) + (1 : Int))) + (1 : Int))) + (1 : Int))) + (1 : Int)), IntKind.wrap .i64 (z11.2 + (1 : Int))))))))))))))))))))))
  (some z11.1))) n z0)
def p_laws_heldMessageS (n : Nat) (x : ((List (Int × (Int × (Int × (Int × (Int × (Int × (Int × (Int × Int))))))))) × Int)) : Option Int :=
(l_laws_heldMessageS_1 n x.1 (x.2, (0 : Int)))
def m_laws_heldMessageS (x : ((List (Int × (Int × (Int × (Int × (Int × (Int × (Int × (Int × Int))))))))) × Int)) : Option Int := p_laws_heldMessageS FU x
def a_laws_heldMessageS : Ann := (.node .leaf (.node (.node .leaf (.loop [.slot 1 (.int .i64), .slot 5 (.int .i64)] [4, 6, 7, 8, 9, 10, 11, 12, 13, 14, 15, 16, 17, 18, 19, 20, 21, 22, 23, 24, 25, 26, 27, 28, 29, 30, 31, 32, 33, 34, 35, 36, 37, 38, 39, 40, 41, 42, 43, 44, 45, 46, 47, 48, 49, 50, 51, 52, 53, 54, 55, 56, 57, 58, 59, 60, 61, 62, 63, 64, 65, 66, 67, 68, 69, 70, 71, 72, 73, 74, 75, 76, 77, 78, 79, 80, 81, 82, 83, 84, 85, 86, 87, 88, 89, 90, 91, 92, 93, 94] .leaf)) .leaf))
def S_laws_heldMessageS : FSpec := ⟨[.val (.sl none (.pair (.int .i64) (.pair (.int .i64) (.pair (.int .i64) (.pair (.int .i64) (.pair (.int .i64) (.pair (.int .i64) (.pair (.int .i64) (.pair (.int .i64) (.int .i64)))))))))), .val (.int .i64)], [(.int .i64)], m_laws_heldMessageS⟩

/-! laws.heldCluster -/
def p_laws_heldCluster (n : Nat) (x : (((List (Int × (List (Int × (Int × (Int × Int)))))) × ((List (Int × ((List (Int × (Int × Int))) × ((List (Int × Int)) × ((List (Int × (List (Int × (Int × (Int × Int)))))) × ((List (Int × Int)) × (List Int))))))) × ((List (List (Int × (Int × (Int × ((Int × Int) × (List (Int × Int)))))))) × ((List (Int × ((List (Int × (Int × (Int × (Int × ((List Int) × (List (Int × Int)))))))) × (List (Int × (Int × (Int × (Int × Int)))))))) × (List (Int × (Int × (Int × (Int × (Int × (Int × (Int × (Int × Int))))))))))))) × Int)) : Option Int :=
((m_laws_heldContractS (x.1.1, x.2)).bind fun r1 =>
(cond (decide (r1 < (0 : Int)))
 (some (-1 : Int))
 ((m_laws_heldShardS (x.1.2.1, r1)).bind fun r2 =>
 (cond (decide (r2 < (0 : Int)))
  (some (-1 : Int))
  ((m_laws_heldAcceptorS (x.1.2.2.1, r2)).bind fun r3 =>
  (cond (decide (r3 < (0 : Int)))
   (some (-1 : Int))
   ((m_laws_heldLeaderS (x.1.2.2.2.1, r3)).bind fun r4 =>
   (cond (decide (r4 < (0 : Int)))
    (some (-1 : Int))
    ((m_laws_heldMessageS (x.1.2.2.2.2, r4)).bind fun r5 =>
    (cond (decide (r5 < (0 : Int)))
     (some (-1 : Int))
     (some r5)))))))))))
def m_laws_heldCluster (x : (((List (Int × (List (Int × (Int × (Int × Int)))))) × ((List (Int × ((List (Int × (Int × Int))) × ((List (Int × Int)) × ((List (Int × (List (Int × (Int × (Int × Int)))))) × ((List (Int × Int)) × (List Int))))))) × ((List (List (Int × (Int × (Int × ((Int × Int) × (List (Int × Int)))))))) × ((List (Int × ((List (Int × (Int × (Int × (Int × ((List Int) × (List (Int × Int)))))))) × (List (Int × (Int × (Int × (Int × Int)))))))) × (List (Int × (Int × (Int × (Int × (Int × (Int × (Int × (Int × Int))))))))))))) × Int)) : Option Int := p_laws_heldCluster FU x
def a_laws_heldCluster : Ann := .leaf
def S_laws_heldCluster : FSpec := ⟨[.val (.pair (.sl none (.pair (.int .i64) (.sl none (.pair (.int .i64) (.pair (.int .i64) (.pair (.int .i64) (.int .i64))))))) (.pair (.sl none (.pair (.int .i64) (.pair (.sl none (.pair (.int .i64) (.pair (.int .i64) (.int .i64)))) (.pair (.sl none (.pair (.int .i64) (.int .i64))) (.pair (.sl none (.pair (.int .i64) (.sl none (.pair (.int .i64) (.pair (.int .i64) (.pair (.int .i64) (.int .i64))))))) (.pair (.sl none (.pair (.int .i64) (.int .i64))) (.sl none (.int .i64)))))))) (.pair (.sl none (.one (.sl none (.pair (.int .i64) (.pair (.int .i64) (.pair (.int .i64) (.pair (.pair (.int .i64) (.int .i64)) (.sl none (.pair (.int .i64) (.int .i64)))))))))) (.pair (.sl none (.pair (.int .i64) (.pair (.sl none (.pair (.int .i64) (.pair (.int .i64) (.pair (.int .i64) (.pair (.int .i64) (.pair (.sl none (.int .i64)) (.sl none (.pair (.int .i64) (.int .i64))))))))) (.sl none (.pair (.int .i64) (.pair (.int .i64) (.pair (.int .i64) (.pair (.int .i64) (.int .i64))))))))) (.sl none (.pair (.int .i64) (.pair (.int .i64) (.pair (.int .i64) (.pair (.int .i64) (.pair (.int .i64) (.pair (.int .i64) (.pair (.int .i64) (.pair (.int .i64) (.int .i64)))))))))))))), .val (.int .i64)], [(.int .i64)], m_laws_heldCluster⟩

/-! laws.heldClusterResult -/
def p_laws_heldClusterResult (n : Nat) (x : ((Int × ((List (Int × (List (Int × (Int × (Int × Int)))))) × ((List (Int × ((List (Int × (Int × Int))) × ((List (Int × Int)) × ((List (Int × (List (Int × (Int × (Int × Int)))))) × ((List (Int × Int)) × (List Int))))))) × ((List (List (Int × (Int × (Int × ((Int × Int) × (List (Int × Int)))))))) × ((List (Int × ((List (Int × (Int × (Int × (Int × ((List Int) × (List (Int × Int)))))))) × (List (Int × (Int × (Int × (Int × Int)))))))) × (List (Int × (Int × (Int × (Int × (Int × (Int × (Int × (Int × Int)))))))))))))) × Int)) : Option Int :=
((m_laws_heldCluster (x.1.2, x.2)).bind fun r1 =>
(cond (decide (r1 < (0 : Int)))
 (some (-1 : Int))
 (some r1)))
def m_laws_heldClusterResult (x : ((Int × ((List (Int × (List (Int × (Int × (Int × Int)))))) × ((List (Int × ((List (Int × (Int × Int))) × ((List (Int × Int)) × ((List (Int × (List (Int × (Int × (Int × Int)))))) × ((List (Int × Int)) × (List Int))))))) × ((List (List (Int × (Int × (Int × ((Int × Int) × (List (Int × Int)))))))) × ((List (Int × ((List (Int × (Int × (Int × (Int × ((List Int) × (List (Int × Int)))))))) × (List (Int × (Int × (Int × (Int × Int)))))))) × (List (Int × (Int × (Int × (Int × (Int × (Int × (Int × (Int × Int)))))))))))))) × Int)) : Option Int := p_laws_heldClusterResult FU x
def a_laws_heldClusterResult : Ann := .leaf
def S_laws_heldClusterResult : FSpec := ⟨[.val (.pair (.int .i64) (.pair (.sl none (.pair (.int .i64) (.sl none (.pair (.int .i64) (.pair (.int .i64) (.pair (.int .i64) (.int .i64))))))) (.pair (.sl none (.pair (.int .i64) (.pair (.sl none (.pair (.int .i64) (.pair (.int .i64) (.int .i64)))) (.pair (.sl none (.pair (.int .i64) (.int .i64))) (.pair (.sl none (.pair (.int .i64) (.sl none (.pair (.int .i64) (.pair (.int .i64) (.pair (.int .i64) (.int .i64))))))) (.pair (.sl none (.pair (.int .i64) (.int .i64))) (.sl none (.int .i64)))))))) (.pair (.sl none (.one (.sl none (.pair (.int .i64) (.pair (.int .i64) (.pair (.int .i64) (.pair (.pair (.int .i64) (.int .i64)) (.sl none (.pair (.int .i64) (.int .i64)))))))))) (.pair (.sl none (.pair (.int .i64) (.pair (.sl none (.pair (.int .i64) (.pair (.int .i64) (.pair (.int .i64) (.pair (.int .i64) (.pair (.sl none (.int .i64)) (.sl none (.pair (.int .i64) (.int .i64))))))))) (.sl none (.pair (.int .i64) (.pair (.int .i64) (.pair (.int .i64) (.pair (.int .i64) (.int .i64))))))))) (.sl none (.pair (.int .i64) (.pair (.int .i64) (.pair (.int .i64) (.pair (.int .i64) (.pair (.int .i64) (.pair (.int .i64) (.pair (.int .i64) (.pair (.int .i64) (.int .i64))))))))))))))), .val (.int .i64)], [(.int .i64)], m_laws_heldClusterResult⟩

/-! laws.FnExactNewCluster -/
def p_laws_FnExactNewCluster (n : Nat) (x : ((List (List (Int × (Int × Int)))) × Int)) : Option Bool :=
((m_laws_szLedger (x.1, (1048576 : Int))).bind fun r1 =>
(cond (decide (r1 < (0 : Int)))
 (some true)
 ((m_laws_toLedger x.1).bind fun r2 =>
 ((m_spec_NewCluster (r2, x.2)).bind fun r3 =>
 ((m_laws_toLedger x.1).bind fun r4 =>
 ((m_impl_NewCluster (r4, x.2)).bind fun r5 =>
 ((m_laws_eqClusterResult (r5, r3)).bind fun r6 =>
 (cond (!r6)
  (some false)
  ((m_laws_toLedger x.1).bind fun r7 =>
  ((m_laws_eqLedger (r4, r7)).bind fun r8 =>
  (cond (!r8)
   (some false)
   ((m_laws_markBalanceSS (r4, (1 : Int))).bind fun r9 =>
   (Option.bind (α := Bool)
    (cond (decide (r9.1 < (0 : Int)))
     (some true)
     ((m_laws_eqClusterResult (r5, r3)).bind fun r11 =>
     some (!r11))) fun j12 =>
   (cond j12
    (some false)
    ((m_laws_markContractS (r5.2.1, (1 : Int))).bind fun r13 =>
    ((m_laws_markShardS (r5.2.2.1, r13.1)).bind fun r14 =>
    ((m_laws_markAcceptorS (r5.2.2.2.1, r14.1)).bind fun r15 =>
    ((m_laws_markLeaderS (r5.2.2.2.2.1, r15.1)).bind fun r16 =>
    ((m_laws_markMessageS (r5.2.2.2.2.2, r16.1)).bind fun r17 =>
    ((m_laws_heldClusterResult ((r5.1, (r13.2, (r14.2, (r15.2, (r16.2, r17.2))))), (1 : Int))).bind fun r18 =>
    (cond (decide (r18 < (0 : Int)))
     (some false)
     (cond (!(r18 == r17.1))
      (some false)
      ((m_laws_toLedger x.1).bind fun r19 =>
      ((m_impl_NewCluster (r19, x.2)).bind fun r20 =>
      ((m_laws_eqClusterResult (r20, r3)).bind fun r21 =>
      (cond (!r21)
       (some false)
       ((m_laws_heldClusterResult ((r5.1, (r13.2, (r14.2, (r15.2, (r16.2, r17.2))))), (1 : Int))).bind fun r22 =>
       (cond (decide (r22 < (0 : Int)))
        (some false)
        (cond (!(r22 == r17.1))
         (some false)
         (some true))))))))))))))))))))))))))))))
def m_laws_FnExactNewCluster (x : ((List (List (Int × (Int × Int)))) × Int)) : Option Bool := p_laws_FnExactNewCluster FU x
def a_laws_FnExactNewCluster : Ann := (.node .leaf (.node .leaf (.node .leaf (.node .leaf (.node .leaf (.node .leaf (.node .leaf (.node .leaf (.node .leaf (.node .leaf (.node .leaf (.node (.join [.slot 46 .bool] [39, 40, 41, 42, 43, 44, 45] .leaf .leaf) .leaf))))))))))))
def S_laws_FnExactNewCluster : FSpec := ⟨[.val (.one (.sl none (.sl none (.pair (.int .i64) (.pair (.int .i64) (.int .i64)))))), .val (.int .i64)], [.bool], m_laws_FnExactNewCluster⟩

def T : Tab := [
  (2, ⟨false, 1, 8, [], 0, [.int .i64 0], some (.int .i64), [0]⟩),
  (3, ⟨false, 1, 8, [], 0, [.int .i64 0], some (.int .i64), [0]⟩),
  (25, ⟨false, 1, 24, [], 80, [.nil], some (.sl none (.one (.sl none (.pair (.int .i64) (.pair (.int .i64) (.pair (.int .i64) (.pair (.pair (.int .i64) (.int .i64)) (.sl none (.pair (.int .i64) (.int .i64)))))))))), []⟩),
  (29, ⟨false, 1, 24, [], 2, [.nil], some (.sl none (.int .i64)), []⟩),
  (31, ⟨false, 1, 24, [], 73, [.nil], some (.sl none (.pair (.int .i64) (.pair (.int .i64) (.pair (.int .i64) (.pair (.pair (.int .i64) (.int .i64)) (.sl none (.pair (.int .i64) (.int .i64)))))))), []⟩),
  (45, ⟨false, 1, 24, [], 142, [.nil], some (.sl none (.sl none (.pair (.int .i64) (.pair (.int .i64) (.int .i64))))), []⟩),
  (47, ⟨true, 1, 24, [(0, 1, 45)], 0, [.nil], some (.one (.sl none (.sl none (.pair (.int .i64) (.pair (.int .i64) (.int .i64)))))), []⟩),
  (49, ⟨false, 1, 24, [], 187, [.nil], some (.sl none (.pair (.int .i64) (.sl none (.pair (.int .i64) (.pair (.int .i64) (.pair (.int .i64) (.int .i64))))))), []⟩),
  (50, ⟨false, 1, 24, [], 109, [.nil], some (.sl none (.pair (.int .i64) (.pair (.sl none (.pair (.int .i64) (.pair (.int .i64) (.int .i64)))) (.pair (.sl none (.pair (.int .i64) (.int .i64))) (.pair (.sl none (.pair (.int .i64) (.sl none (.pair (.int .i64) (.pair (.int .i64) (.pair (.int .i64) (.int .i64))))))) (.pair (.sl none (.pair (.int .i64) (.int .i64))) (.sl none (.int .i64)))))))), []⟩),
  (51, ⟨false, 1, 24, [], 193, [.nil], some (.sl none (.pair (.int .i64) (.pair (.sl none (.pair (.int .i64) (.pair (.int .i64) (.pair (.int .i64) (.pair (.int .i64) (.pair (.sl none (.int .i64)) (.sl none (.pair (.int .i64) (.int .i64))))))))) (.sl none (.pair (.int .i64) (.pair (.int .i64) (.pair (.int .i64) (.pair (.int .i64) (.int .i64))))))))), []⟩),
  (52, ⟨false, 1, 24, [], 196, [.nil], some (.sl none (.pair (.int .i64) (.pair (.int .i64) (.pair (.int .i64) (.pair (.int .i64) (.pair (.int .i64) (.pair (.int .i64) (.pair (.int .i64) (.pair (.int .i64) (.int .i64)))))))))), []⟩),
  (54, ⟨true, 5, 120, [(0, 1, 49), (1, 1, 50), (2, 1, 25), (3, 1, 51), (4, 1, 52)], 0, [.nil, .nil, .nil, .nil, .nil], some (.pair (.sl none (.pair (.int .i64) (.sl none (.pair (.int .i64) (.pair (.int .i64) (.pair (.int .i64) (.int .i64))))))) (.pair (.sl none (.pair (.int .i64) (.pair (.sl none (.pair (.int .i64) (.pair (.int .i64) (.int .i64)))) (.pair (.sl none (.pair (.int .i64) (.int .i64))) (.pair (.sl none (.pair (.int .i64) (.sl none (.pair (.int .i64) (.pair (.int .i64) (.pair (.int .i64) (.int .i64))))))) (.pair (.sl none (.pair (.int .i64) (.int .i64))) (.sl none (.int .i64)))))))) (.pair (.sl none (.one (.sl none (.pair (.int .i64) (.pair (.int .i64) (.pair (.int .i64) (.pair (.pair (.int .i64) (.int .i64)) (.sl none (.pair (.int .i64) (.int .i64)))))))))) (.pair (.sl none (.pair (.int .i64) (.pair (.sl none (.pair (.int .i64) (.pair (.int .i64) (.pair (.int .i64) (.pair (.int .i64) (.pair (.sl none (.int .i64)) (.sl none (.pair (.int .i64) (.int .i64))))))))) (.sl none (.pair (.int .i64) (.pair (.int .i64) (.pair (.int .i64) (.pair (.int .i64) (.int .i64))))))))) (.sl none (.pair (.int .i64) (.pair (.int .i64) (.pair (.int .i64) (.pair (.int .i64) (.pair (.int .i64) (.pair (.int .i64) (.pair (.int .i64) (.pair (.int .i64) (.int .i64)))))))))))))), []⟩),
  (56, ⟨true, 6, 128, [(0, 1, 2), (1, 5, 54)], 0, [.int .i64 0, .nil, .nil, .nil, .nil, .nil], some (.pair (.int .i64) (.pair (.sl none (.pair (.int .i64) (.sl none (.pair (.int .i64) (.pair (.int .i64) (.pair (.int .i64) (.int .i64))))))) (.pair (.sl none (.pair (.int .i64) (.pair (.sl none (.pair (.int .i64) (.pair (.int .i64) (.int .i64)))) (.pair (.sl none (.pair (.int .i64) (.int .i64))) (.pair (.sl none (.pair (.int .i64) (.sl none (.pair (.int .i64) (.pair (.int .i64) (.pair (.int .i64) (.int .i64))))))) (.pair (.sl none (.pair (.int .i64) (.int .i64))) (.sl none (.int .i64)))))))) (.pair (.sl none (.one (.sl none (.pair (.int .i64) (.pair (.int .i64) (.pair (.int .i64) (.pair (.pair (.int .i64) (.int .i64)) (.sl none (.pair (.int .i64) (.int .i64)))))))))) (.pair (.sl none (.pair (.int .i64) (.pair (.sl none (.pair (.int .i64) (.pair (.int .i64) (.pair (.int .i64) (.pair (.int .i64) (.pair (.sl none (.int .i64)) (.sl none (.pair (.int .i64) (.int .i64))))))))) (.sl none (.pair (.int .i64) (.pair (.int .i64) (.pair (.int .i64) (.pair (.int .i64) (.int .i64))))))))) (.sl none (.pair (.int .i64) (.pair (.int .i64) (.pair (.int .i64) (.pair (.int .i64) (.pair (.int .i64) (.pair (.int .i64) (.pair (.int .i64) (.pair (.int .i64) (.int .i64))))))))))))))), []⟩),
  (58, ⟨false, 1, 24, [], 106, [.nil], some (.sl none (.sl none (.pair (.int .i64) (.pair (.int .i64) (.int .i64))))), []⟩),
  (60, ⟨true, 1, 24, [(0, 1, 58)], 0, [.nil], some (.one (.sl none (.sl none (.pair (.int .i64) (.pair (.int .i64) (.int .i64)))))), []⟩),
  (70, ⟨true, 2, 16, [(0, 1, 2), (1, 1, 2)], 0, [.int .i64 0, .int .i64 0], some (.pair (.int .i64) (.int .i64)), [0, 0]⟩),
  (71, ⟨false, 1, 24, [], 70, [.nil], some (.sl none (.pair (.int .i64) (.int .i64))), []⟩),
  (73, ⟨true, 6, 64, [(0, 1, 2), (1, 1, 2), (2, 1, 2), (3, 2, 70), (5, 1, 71)], 0, [.int .i64 0, .int .i64 0, .int .i64 0, .int .i64 0, .int .i64 0, .nil], some (.pair (.int .i64) (.pair (.int .i64) (.pair (.int .i64) (.pair (.pair (.int .i64) (.int .i64)) (.sl none (.pair (.int .i64) (.int .i64))))))), []⟩),
  (80, ⟨true, 1, 24, [(0, 1, 31)], 0, [.nil], some (.one (.sl none (.pair (.int .i64) (.pair (.int .i64) (.pair (.int .i64) (.pair (.pair (.int .i64) (.int .i64)) (.sl none (.pair (.int .i64) (.int .i64))))))))), []⟩),
  (106, ⟨false, 1, 24, [], 116, [.nil], some (.sl none (.pair (.int .i64) (.pair (.int .i64) (.int .i64)))), []⟩),
  (107, ⟨false, 1, 24, [], 232, [.nil], some (.sl none (.pair (.int .i64) (.int .i64))), []⟩),
  (109, ⟨true, 6, 128, [(0, 1, 2), (1, 1, 106), (2, 1, 107), (3, 1, 49), (4, 1, 107), (5, 1, 29)], 0, [.int .i64 0, .nil, .nil, .nil, .nil, .nil], some (.pair (.int .i64) (.pair (.sl none (.pair (.int .i64) (.pair (.int .i64) (.int .i64)))) (.pair (.sl none (.pair (.int .i64) (.int .i64))) (.pair (.sl none (.pair (.int .i64) (.sl none (.pair (.int .i64) (.pair (.int .i64) (.pair (.int .i64) (.int .i64))))))) (.pair (.sl none (.pair (.int .i64) (.int .i64))) (.sl none (.int .i64))))))), []⟩),
  (111, ⟨true, 8, 144, [(0, 1, 2), (1, 1, 2), (2, 6, 109)], 0, [.int .i64 0, .int .i64 0, .int .i64 0, .nil, .nil, .nil, .nil, .nil], some (.pair (.int .i64) (.pair (.int .i64) (.pair (.int .i64) (.pair (.sl none (.pair (.int .i64) (.pair (.int .i64) (.int .i64)))) (.pair (.sl none (.pair (.int .i64) (.int .i64))) (.pair (.sl none (.pair (.int .i64) (.sl none (.pair (.int .i64) (.pair (.int .i64) (.pair (.int .i64) (.int .i64))))))) (.pair (.sl none (.pair (.int .i64) (.int .i64))) (.sl none (.int .i64))))))))), []⟩),
  (116, ⟨true, 3, 24, [(0, 1, 2), (1, 1, 2), (2, 1, 2)], 0, [.int .i64 0, .int .i64 0, .int .i64 0], some (.pair (.int .i64) (.pair (.int .i64) (.int .i64))), [0, 0, 0]⟩),
  (142, ⟨false, 1, 24, [], 182, [.nil], some (.sl none (.pair (.int .i64) (.pair (.int .i64) (.int .i64)))), []⟩),
  (182, ⟨true, 3, 24, [(0, 1, 2), (1, 1, 2), (2, 1, 2)], 0, [.int .i64 0, .int .i64 0, .int .i64 0], some (.pair (.int .i64) (.pair (.int .i64) (.int .i64))), [0, 0, 0]⟩),
  (185, ⟨false, 1, 24, [], 230, [.nil], some (.sl none (.pair (.int .i64) (.pair (.int .i64) (.pair (.int .i64) (.int .i64))))), []⟩),
  (187, ⟨true, 2, 32, [(0, 1, 2), (1, 1, 185)], 0, [.int .i64 0, .nil], some (.pair (.int .i64) (.sl none (.pair (.int .i64) (.pair (.int .i64) (.pair (.int .i64) (.int .i64)))))), []⟩),
  (190, ⟨false, 1, 24, [], 235, [.nil], some (.sl none (.pair (.int .i64) (.pair (.int .i64) (.pair (.int .i64) (.pair (.int .i64) (.pair (.sl none (.int .i64)) (.sl none (.pair (.int .i64) (.int .i64))))))))), []⟩),
  (191, ⟨false, 1, 24, [], 237, [.nil], some (.sl none (.pair (.int .i64) (.pair (.int .i64) (.pair (.int .i64) (.pair (.int .i64) (.int .i64)))))), []⟩),
  (193, ⟨true, 3, 56, [(0, 1, 2), (1, 1, 190), (2, 1, 191)], 0, [.int .i64 0, .nil, .nil], some (.pair (.int .i64) (.pair (.sl none (.pair (.int .i64) (.pair (.int .i64) (.pair (.int .i64) (.pair (.int .i64) (.pair (.sl none (.int .i64)) (.sl none (.pair (.int .i64) (.int .i64))))))))) (.sl none (.pair (.int .i64) (.pair (.int .i64) (.pair (.int .i64) (.pair (.int .i64) (.int .i64)))))))), []⟩),
  (196, ⟨true, 9, 72, [(0, 1, 2), (1, 1, 2), (2, 1, 2), (3, 1, 2), (4, 1, 2), (5, 1, 2), (6, 1, 2), (7, 2, 70)], 0, [.int .i64 0, .int .i64 0, .int .i64 0, .int .i64 0, .int .i64 0, .int .i64 0, .int .i64 0, .int .i64 0, .int .i64 0], some (.pair (.int .i64) (.pair (.int .i64) (.pair (.int .i64) (.pair (.int .i64) (.pair (.int .i64) (.pair (.int .i64) (.pair (.int .i64) (.pair (.int .i64) (.int .i64))))))))), [0, 0, 0, 0, 0, 0, 0, 0, 0]⟩),
  (230, ⟨true, 4, 32, [(0, 1, 2), (1, 1, 2), (2, 1, 2), (3, 1, 2)], 0, [.int .i64 0, .int .i64 0, .int .i64 0, .int .i64 0], some (.pair (.int .i64) (.pair (.int .i64) (.pair (.int .i64) (.int .i64)))), [0, 0, 0, 0]⟩),
  (232, ⟨true, 2, 16, [(0, 1, 2), (1, 1, 2)], 0, [.int .i64 0, .int .i64 0], some (.pair (.int .i64) (.int .i64)), [0, 0]⟩),
  (235, ⟨true, 6, 80, [(0, 1, 2), (1, 1, 2), (2, 1, 2), (3, 1, 2), (4, 1, 29), (5, 1, 71)], 0, [.int .i64 0, .int .i64 0, .int .i64 0, .int .i64 0, .nil, .nil], some (.pair (.int .i64) (.pair (.int .i64) (.pair (.int .i64) (.pair (.int .i64) (.pair (.sl none (.int .i64)) (.sl none (.pair (.int .i64) (.int .i64)))))))), []⟩),
  (237, ⟨true, 5, 40, [(0, 1, 2), (1, 1, 2), (2, 1, 2), (3, 1, 2), (4, 1, 2)], 0, [.int .i64 0, .int .i64 0, .int .i64 0, .int .i64 0, .int .i64 0], some (.pair (.int .i64) (.pair (.int .i64) (.pair (.int .i64) (.pair (.int .i64) (.int .i64))))), [0, 0, 0, 0, 0]⟩),
  (238, ⟨false, 1, 24, [], 3, [.nil], some (.sl none (.int .i64)), []⟩)]
def G_laws_szBalanceS : Env := (95, S_laws_szBalanceS) :: []
def G_laws_szBalanceSS : Env := (50, S_laws_szBalanceSS) :: G_laws_szBalanceS
def G_laws_szLedger : Env := (18, S_laws_szLedger) :: G_laws_szBalanceSS
def G_laws_toBalance : Env := (137, S_laws_toBalance) :: G_laws_szLedger
def G_laws_toBalanceS : Env := (98, S_laws_toBalanceS) :: G_laws_toBalance
def G_laws_toBalanceSS : Env := (54, S_laws_toBalanceSS) :: G_laws_toBalanceS
def G_laws_toLedger : Env := (20, S_laws_toLedger) :: G_laws_toBalanceSS
def G_spec_l1In : Env := (52, S_spec_l1In) :: G_laws_toLedger
def G_spec_l2Key : Env := (136, S_spec_l2Key) :: G_spec_l1In
def G_spec_BalancesFault : Env := (96, S_spec_BalancesFault) :: G_spec_l2Key
def G_spec_LedgerFault : Env := (51, S_spec_LedgerFault) :: G_spec_BalancesFault
def G_spec_l10Base : Env := (97, S_spec_l10Base) :: G_spec_LedgerFault
def G_spec_NewShard : Env := (53, S_spec_NewShard) :: G_spec_l10Base
def G_spec_NewCluster : Env := (19, S_spec_NewCluster) :: G_spec_NewShard
def G_impl_size_impl_Balance : Env := (99, S_impl_size_impl_Balance) :: G_spec_NewCluster
def G_impl_within : Env := (56, S_impl_within) :: G_impl_size_impl_Balance
def G_impl_isAsset : Env := (181, S_impl_isAsset) :: G_impl_within
def G_impl_isPlace : Env := (138, S_impl_isPlace) :: G_impl_isAsset
def G_cmp_isNaN_int64 : Env := (189, S_cmp_isNaN_int64) :: G_impl_isPlace
def G_cmp_Compare_int64 : Env := (159, S_cmp_Compare_int64) :: G_cmp_isNaN_int64
def G_cmp_Or_int : Env := (158, S_cmp_Or_int) :: G_cmp_Compare_int64
def G_impl_comparePlaces : Env := (139, S_impl_comparePlaces) :: G_cmp_Or_int
def G_impl_BalancesFault : Env := (100, S_impl_BalancesFault) :: G_impl_comparePlaces
def G_impl_LedgerFault : Env := (55, S_impl_LedgerFault) :: G_impl_BalancesFault
def G_slices_Clone_impl_Balance_impl_Balance : Env := (57, S_slices_Clone_impl_Balance_impl_Balance) :: G_impl_LedgerFault
def G_impl_NewCluster : Env := (21, S_impl_NewCluster) :: G_slices_Clone_impl_Balance_impl_Balance
def G_laws_eqLeg : Env := (199, S_laws_eqLeg) :: G_impl_NewCluster
def G_laws_eqLegS : Env := (182, S_laws_eqLegS) :: G_laws_eqLeg
def G_laws_eqContract : Env := (140, S_laws_eqContract) :: G_laws_eqLegS
def G_laws_eqContractS : Env := (101, S_laws_eqContractS) :: G_laws_eqContract
def G_laws_eqBalance : Env := (144, S_laws_eqBalance) :: G_laws_eqContractS
def G_laws_eqBalanceS : Env := (105, S_laws_eqBalanceS) :: G_laws_eqBalance
def G_laws_eqMark : Env := (200, S_laws_eqMark) :: G_laws_eqBalanceS
def G_laws_eqMarkS : Env := (183, S_laws_eqMarkS) :: G_laws_eqMark
def G_laws_eqInt64S : Env := (184, S_laws_eqInt64S) :: G_laws_eqMarkS
def G_laws_eqShard : Env := (141, S_laws_eqShard) :: G_laws_eqInt64S
def G_laws_eqShardS : Env := (102, S_laws_eqShardS) :: G_laws_eqShard
def G_laws_eqVote : Env := (179, S_laws_eqVote) :: G_laws_eqShardS
def G_laws_eqVoteS : Env := (180, S_laws_eqVoteS) :: G_laws_eqVote
def G_laws_eqSlot : Env := (135, S_laws_eqSlot) :: G_laws_eqVoteS
def G_laws_eqSlotS : Env := (94, S_laws_eqSlotS) :: G_laws_eqSlot
def G_laws_eqAcceptor : Env := (49, S_laws_eqAcceptor) :: G_laws_eqSlotS
def G_laws_eqAcceptorS : Env := (17, S_laws_eqAcceptorS) :: G_laws_eqAcceptor
def G_laws_eqTry : Env := (201, S_laws_eqTry) :: G_laws_eqAcceptorS
def G_laws_eqTryS : Env := (185, S_laws_eqTryS) :: G_laws_eqTry
def G_laws_eqHeard : Env := (202, S_laws_eqHeard) :: G_laws_eqTryS
def G_laws_eqHeardS : Env := (186, S_laws_eqHeardS) :: G_laws_eqHeard
def G_laws_eqLeader : Env := (142, S_laws_eqLeader) :: G_laws_eqHeardS
def G_laws_eqLeaderS : Env := (103, S_laws_eqLeaderS) :: G_laws_eqLeader
def G_laws_eqMessage : Env := (143, S_laws_eqMessage) :: G_laws_eqLeaderS
def G_laws_eqMessageS : Env := (104, S_laws_eqMessageS) :: G_laws_eqMessage
def G_laws_eqCluster : Env := (58, S_laws_eqCluster) :: G_laws_eqMessageS
def G_laws_eqClusterResult : Env := (22, S_laws_eqClusterResult) :: G_laws_eqCluster
def G_laws_eqBalanceSS : Env := (59, S_laws_eqBalanceSS) :: G_laws_eqClusterResult
def G_laws_eqLedger : Env := (23, S_laws_eqLedger) :: G_laws_eqBalanceSS
def G_laws_markBalanceS : Env := (106, S_laws_markBalanceS) :: G_laws_eqLedger
def G_laws_markBalanceSS : Env := (60, S_laws_markBalanceSS) :: G_laws_markBalanceS
def G_laws_markLegS : Env := (145, S_laws_markLegS) :: G_laws_markBalanceSS
def G_laws_markContractS : Env := (107, S_laws_markContractS) :: G_laws_markLegS
def G_laws_markMarkS : Env := (146, S_laws_markMarkS) :: G_laws_markContractS
def G_laws_markInt64S : Env := (147, S_laws_markInt64S) :: G_laws_markMarkS
def G_laws_markShardS : Env := (108, S_laws_markShardS) :: G_laws_markInt64S
def G_laws_markVoteS : Env := (187, S_laws_markVoteS) :: G_laws_markShardS
def G_laws_markSlotS : Env := (148, S_laws_markSlotS) :: G_laws_markVoteS
def G_laws_markAcceptorS : Env := (109, S_laws_markAcceptorS) :: G_laws_markSlotS
def G_laws_markTryS : Env := (149, S_laws_markTryS) :: G_laws_markAcceptorS
def G_laws_markHeardS : Env := (150, S_laws_markHeardS) :: G_laws_markTryS
def G_laws_markLeaderS : Env := (110, S_laws_markLeaderS) :: G_laws_markHeardS
def G_laws_markMessageS : Env := (111, S_laws_markMessageS) :: G_laws_markLeaderS
def G_laws_heldLegS : Env := (151, S_laws_heldLegS) :: G_laws_markMessageS
def G_laws_heldContractS : Env := (112, S_laws_heldContractS) :: G_laws_heldLegS
def G_laws_heldBalanceS : Env := (152, S_laws_heldBalanceS) :: G_laws_heldContractS
def G_laws_heldMarkS : Env := (153, S_laws_heldMarkS) :: G_laws_heldBalanceS
def G_laws_heldInt64S : Env := (154, S_laws_heldInt64S) :: G_laws_heldMarkS
def G_laws_heldShardS : Env := (113, S_laws_heldShardS) :: G_laws_heldInt64S
def G_laws_heldVoteS : Env := (188, S_laws_heldVoteS) :: G_laws_heldShardS
def G_laws_heldSlotS : Env := (155, S_laws_heldSlotS) :: G_laws_heldVoteS
def G_laws_heldAcceptorS : Env := (114, S_laws_heldAcceptorS) :: G_laws_heldSlotS
def G_laws_heldTryS : Env := (156, S_laws_heldTryS) :: G_laws_heldAcceptorS
def G_laws_heldHeardS : Env := (157, S_laws_heldHeardS) :: G_laws_heldTryS
def G_laws_heldLeaderS : Env := (115, S_laws_heldLeaderS) :: G_laws_heldHeardS
def G_laws_heldMessageS : Env := (116, S_laws_heldMessageS) :: G_laws_heldLeaderS
def G_laws_heldCluster : Env := (62, S_laws_heldCluster) :: G_laws_heldMessageS
def G_laws_heldClusterResult : Env := (26, S_laws_heldClusterResult) :: G_laws_heldCluster
def G_laws_FnExactNewCluster : Env := (5, S_laws_FnExactNewCluster) :: G_laws_heldClusterResult
end
end Go.RvP
