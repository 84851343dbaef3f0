/- The plain functions that the evaluator comes to, for FnExactNewShard. No condition. -/
import Derived.Test.YtlpfmkjihbancaaRvL
namespace Go.RvP
open Go Go.Rv
noncomputable section
/-! laws.szBalanceS -/
def p_laws_szBalanceS (n : Nat) (x : ((List (Int × (Int × Int))) × Int)) : Option Int :=
(cond (decide ((IntKind.wrap .i64 (x.2 - (lenI x.1))) < (0 : Int)))
 (some (-1 : Int))
 (some (IntKind.wrap .i64 (x.2 - (lenI x.1)))))
def m_laws_szBalanceS (x : ((List (Int × (Int × Int))) × Int)) : Option Int := p_laws_szBalanceS FU x
def a_laws_szBalanceS : Ann := .leaf
def S_laws_szBalanceS : FSpec := ⟨[.val (.sl none (.pair (.int .i64) (.pair (.int .i64) (.int .i64)))), .val (.int .i64)], [(.int .i64)], m_laws_szBalanceS⟩

/-! laws.toBalance -/
def p_laws_toBalance (n : Nat) (x : (Int × (Int × Int))) : Option (Int × (Int × Int)) :=
some x
def m_laws_toBalance (x : (Int × (Int × Int))) : Option (Int × (Int × Int)) := p_laws_toBalance FU x
def a_laws_toBalance : Ann := .leaf
def S_laws_toBalance : FSpec := ⟨[.val (.pair (.int .i64) (.pair (.int .i64) (.int .i64)))], [(.pair (.int .i64) (.pair (.int .i64) (.int .i64)))], m_laws_toBalance⟩

/-! laws.toBalanceS -/
def l_laws_toBalanceS_1 (n : Nat) (x : (List (Int × (Int × Int)))) (z0 : (Int × (List (Int × (Int × Int))))) : Option (List (Int × (Int × Int))) :=
(lp (fun rec10 (z9 : (Int × (List (Int × (Int × Int))))) =>
 (cond (decide (z9.1 < (lenI x)))
  ((geti x z9.1).bind fun y11 =>
  ((m_laws_toBalance y11).bind fun r12 =>
  ((geti z9.2 z9.1).bind fun _ =>
  ((z9.2[z9.1.toNat]?).bind fun y13 =>
  rec10 (IntKind.wrap .i64 (z9.1 + (1 : Int)), (z9.2.set z9.1.toNat r12))))))
  (some z9.2))) n z0)
def p_laws_toBalanceS (n : Nat) (x : (List (Int × (Int × Int)))) : Option (List (Int × (Int × Int))) :=
(if (lenI x) = (lenI x) then (if 0 ≤ (lenI x) then chk (Nat.ble (24 * (lenI x).toNat) maxBytes)
(l_laws_toBalanceS_1 n x ((0 : Int), (List.replicate (lenI x).toNat ((0 : Int), ((0 : Int), (0 : Int)))))) else none) else none)
def m_laws_toBalanceS (x : (List (Int × (Int × Int)))) : Option (List (Int × (Int × Int))) := p_laws_toBalanceS FU x
def a_laws_toBalanceS : Ann := (.node .leaf (.node .leaf (.node (.node .leaf (.loop [.slot 4 (.int .i64), .row 0 97 (.pair (.int .i64) (.pair (.int .i64) (.int .i64)))] [8, 9, 10, 11, 12, 13, 14, 15, 16, 17, 18, 19, 20, 21] .leaf)) .leaf)))
def S_laws_toBalanceS : FSpec := ⟨[.val (.sl none (.pair (.int .i64) (.pair (.int .i64) (.int .i64))))], [(.sl (some 97) (.pair (.int .i64) (.pair (.int .i64) (.int .i64))))], m_laws_toBalanceS⟩

/-! spec.l1In -/
def p_spec_l1In (n : Nat) (x : (Int × (Int × Int))) : Option Bool :=
(cond (decide (x.1 ≥ x.2.1))
 (some (decide (x.1 ≤ x.2.2)))
 (some false))
def m_spec_l1In (x : (Int × (Int × Int))) : Option Bool := p_spec_l1In FU x
def a_spec_l1In : Ann := .leaf
def S_spec_l1In : FSpec := ⟨[.val (.int .i64), .val (.int .i64), .val (.int .i64)], [.bool], m_spec_l1In⟩

/-! spec.l2Key -/
def p_spec_l2Key (n : Nat) (x : (Int × Int)) : Option Bool :=
((m_spec_l1In (x.1, (0 : Int), (5 : Int))).bind fun r1 =>
(cond r1
 ((m_spec_l1In (x.2, (0 : Int), (2 : Int))).bind fun r2 =>
 some r2)
 (some false)))
def m_spec_l2Key (x : (Int × Int)) : Option Bool := p_spec_l2Key FU x
def a_spec_l2Key : Ann := .leaf
def S_spec_l2Key : FSpec := ⟨[.val (.int .i64), .val (.int .i64)], [.bool], m_spec_l2Key⟩

/-! spec.BalancesFault -/
def l_spec_BalancesFault_1 (n : Nat) (x : (List (Int × (Int × Int)))) (z0 : Int) : Option Int :=
(lp (fun rec14 (z13 : Int) =>
 (cond (decide (z13 < (lenI x)))
  ((geti x z13).bind fun y15 =>
  (Option.bind (α := Bool)
   ((m_spec_l2Key (y15.1, y15.2.1)).bind fun r18 =>
   (cond (!r18)
    (some true)
    ((m_spec_l1In (y15.2.2, (1 : Int), (1000000000000 : Int))).bind fun r19 =>
    some (!r19)))) fun j20 =>
  (cond j20
   (some (3 : Int))
   (Option.bind (α := Bool)
    (cond (decide (z13 > (0 : Int)))
     ((geti x (IntKind.wrap .i64 (z13 - (1 : Int)))).bind fun y23 =>
     ((geti x (IntKind.wrap .i64 (z13 - (1 : Int)))).bind fun y24 =>
     some (decide ((IntKind.wrap .i64 ((IntKind.wrap .i64 (y15.1 * (3 : Int))) + y15.2.1)) ≤ (IntKind.wrap .i64 ((IntKind.wrap .i64 (y23.1 * (3 : Int))) + y24.2.1))))))
     (some false)) fun j25 =>
   (cond j25
    (some (1 : Int))
    (rec14 (IntKind.wrap .i64 (z13 + (1 : Int)))))))))
  (some (0 : Int)))) n z0)
def p_spec_BalancesFault (n : Nat) (x : (List (Int × (Int × Int)))) : Option Int :=
(cond (decide ((lenI x) > (18 : Int)))
 (some (2 : Int))
 (l_spec_BalancesFault_1 n x (0 : Int)))
def m_spec_BalancesFault (x : (List (Int × (Int × Int)))) : Option Int := p_spec_BalancesFault FU x
def a_spec_BalancesFault : Ann := (.node .leaf (.node .leaf (.node (.node .leaf (.loop [.slot 3 (.int .i64)] [2, 4, 8, 9, 10, 11, 12, 13, 14, 15, 16, 17, 18, 19, 20, 21, 22, 23, 24, 25, 26, 27, 28, 29, 30, 31, 32, 33, 34, 35, 36, 37, 38, 39, 40, 41, 42, 43, 44, 45, 46, 47, 48, 49, 50, 51, 52, 53, 54] (.node .leaf (.node (.node .leaf (.node (.join [.slot 29 .bool] [18, 19, 20, 21, 22, 23, 24, 25, 26, 27, 28] .leaf .leaf) (.join [.slot 54 .bool] [30, 31, 32, 33, 34, 35, 36, 37, 38, 39, 40, 41, 42, 43, 44, 45, 46, 47, 48, 49, 50, 51, 52, 53] .leaf .leaf))) .leaf)))) .leaf)))
def S_spec_BalancesFault : FSpec := ⟨[.val (.sl none (.pair (.int .i64) (.pair (.int .i64) (.int .i64))))], [(.int .i64)], m_spec_BalancesFault⟩

/-! spec.l10Base -/
def p_spec_l10Base (n : Nat) (x : (Int × (List (Int × (Int × Int))))) : Option Int :=
((m_spec_l1In (x.1, (0 : Int), (2 : Int))).bind fun r1 =>
(cond (!r1)
 (some (3 : Int))
 ((m_spec_BalancesFault x.2).bind fun r2 =>
 some r2)))
def m_spec_l10Base (x : (Int × (List (Int × (Int × Int))))) : Option Int := p_spec_l10Base FU x
def a_spec_l10Base : Ann := .leaf
def S_spec_l10Base : FSpec := ⟨[.val (.int .i64), .val (.sl none (.pair (.int .i64) (.pair (.int .i64) (.int .i64))))], [(.int .i64)], m_spec_l10Base⟩

/-! spec.NewShard -/
def p_spec_NewShard (n : Nat) (x : (Int × (List (Int × (Int × Int))))) : Option (Int × (Int × (Int × ((List (Int × (Int × Int))) × ((List (Int × Int)) × ((List (Int × (List (Int × (Int × (Int × Int)))))) × ((List (Int × Int)) × (List Int)))))))) :=
((m_spec_l10Base (x.1, x.2)).bind fun r1 =>
(cond (!(r1 == (0 : Int)))
 (some (r1, ((0 : Int), ((0 : Int), ([], ([], ([], ([], []))))))))
 (chk (Nat.ble ((([] : List (Int × (Int × Int))).length + x.2.length) * 24) maxBytes)
 (some ((0 : Int), ((0 : Int), (x.1, ((([] : List (Int × (Int × Int))) ++ x.2), ([], ([], ([], [])))))))))))
def m_spec_NewShard (x : (Int × (List (Int × (Int × Int))))) : Option (Int × (Int × (Int × ((List (Int × (Int × Int))) × ((List (Int × Int)) × ((List (Int × (List (Int × (Int × (Int × Int)))))) × ((List (Int × Int)) × (List Int)))))))) := p_spec_NewShard FU x
def a_spec_NewShard : Ann := .leaf
def S_spec_NewShard : FSpec := ⟨[.val (.int .i64), .val (.sl none (.pair (.int .i64) (.pair (.int .i64) (.int .i64))))], [(.pair (.int .i64) (.pair (.int .i64) (.pair (.int .i64) (.pair (.sl (some 97) (.pair (.int .i64) (.pair (.int .i64) (.int .i64)))) (.pair (.sl (some 193) (.pair (.int .i64) (.int .i64))) (.pair (.sl (some 197) (.pair (.int .i64) (.sl none (.pair (.int .i64) (.pair (.int .i64) (.pair (.int .i64) (.int .i64))))))) (.pair (.sl (some 193) (.pair (.int .i64) (.int .i64))) (.sl (some 2) (.int .i64)))))))))], m_spec_NewShard⟩

/-! impl.within -/
def p_impl_within (n : Nat) (x : (Int × (Int × Int))) : Option Bool :=
(cond (decide (x.1 ≥ x.2.1))
 (some (decide (x.1 ≤ x.2.2)))
 (some false))
def m_impl_within (x : (Int × (Int × Int))) : Option Bool := p_impl_within FU x
def a_impl_within : Ann := .leaf
def S_impl_within : FSpec := ⟨[.val (.int .i64), .val (.int .i64), .val (.int .i64)], [.bool], m_impl_within⟩

/-! impl.isShard -/
def p_impl_isShard (n : Nat) (x : Int) : Option Bool :=
((m_impl_within (x, (0 : Int), (2 : Int))).bind fun r1 =>
some r1)
def m_impl_isShard (x : Int) : Option Bool := p_impl_isShard FU x
def a_impl_isShard : Ann := .leaf
def S_impl_isShard : FSpec := ⟨[.val (.int .i64)], [.bool], m_impl_isShard⟩

/-! impl.isAsset -/
def p_impl_isAsset (n : Nat) (x : Int) : Option Bool :=
((m_impl_within (x, (0 : Int), (2 : Int))).bind fun r1 =>
some r1)
def m_impl_isAsset (x : Int) : Option Bool := p_impl_isAsset FU x
def a_impl_isAsset : Ann := .leaf
def S_impl_isAsset : FSpec := ⟨[.val (.int .i64)], [.bool], m_impl_isAsset⟩

/-! impl.isPlace -/
def p_impl_isPlace (n : Nat) (x : (Int × Int)) : Option Bool :=
((m_impl_within (x.1, (0 : Int), (5 : Int))).bind fun r1 =>
(cond r1
 ((m_impl_isAsset x.2).bind fun r2 =>
 some r2)
 (some false)))
def m_impl_isPlace (x : (Int × Int)) : Option Bool := p_impl_isPlace FU x
def a_impl_isPlace : Ann := .leaf
def S_impl_isPlace : FSpec := ⟨[.val (.int .i64), .val (.int .i64)], [.bool], m_impl_isPlace⟩

/-! cmp.isNaN[int64] -/
def p_cmp_isNaN_int64 (n : Nat) (x : Int) : Option Bool :=
some (!(x == x))
def m_cmp_isNaN_int64 (x : Int) : Option Bool := p_cmp_isNaN_int64 FU x
def a_cmp_isNaN_int64 : Ann := .leaf
def S_cmp_isNaN_int64 : FSpec := ⟨[.val (.int .i64)], [.bool], m_cmp_isNaN_int64⟩

/-! cmp.Compare[int64] -/
def p_cmp_Compare_int64 (n : Nat) (x : (Int × Int)) : Option Int :=
((m_cmp_isNaN_int64 x.1).bind fun r1 =>
((m_cmp_isNaN_int64 x.2).bind fun r2 =>
(cond r1
 (cond r2
  (some (0 : Int))
  (some (-1 : Int)))
 (cond r2
  (some (1 : Int))
  (cond (decide (x.1 < x.2))
   (some (-1 : Int))
   (cond (decide (x.1 > x.2))
    (some (1 : Int))
    (some (0 : Int))))))))
def m_cmp_Compare_int64 (x : (Int × Int)) : Option Int := p_cmp_Compare_int64 FU x
def a_cmp_Compare_int64 : Ann := .leaf
def S_cmp_Compare_int64 : FSpec := ⟨[.val (.int .i64), .val (.int .i64)], [(.int .i64)], m_cmp_Compare_int64⟩

/-! cmp.Or[int] -/
def l_cmp_Or_int_1 (n : Nat) (x : (List Int)) (z0 : Int) : Option Int :=
(lp (fun rec4 (z3 : Int) =>
 (cond (decide (z3 < (lenI x)))
  ((geti x z3).bind fun y5 =>
  (cond (!(y5 == (0 : Int)))
   (some y5)
   (rec4 (IntKind.wrap .i64 (z3 + (1 : Int))))))
  (some (0 : Int)))) n z0)
def p_cmp_Or_int (n : Nat) (x : (List Int)) : Option Int :=
(l_cmp_Or_int_1 n x (0 : Int))
def m_cmp_Or_int (x : (List Int)) : Option Int := p_cmp_Or_int FU x
def a_cmp_Or_int : Ann := (.node .leaf (.node .leaf (.node (.node .leaf (.loop [.slot 8 (.int .i64)] [2, 5, 9, 10, 11, 12, 13, 14, 15, 16] .leaf)) .leaf)))
def S_cmp_Or_int : FSpec := ⟨[.val (.sl none (.int .i64))], [(.int .i64)], m_cmp_Or_int⟩

/-! impl.comparePlaces -/
def p_impl_comparePlaces (n : Nat) (x : ((Int × (Int × Int)) × (Int × (Int × Int)))) : Option Int :=
((m_cmp_Compare_int64 (x.1.1, x.2.1)).bind fun r1 =>
((m_cmp_Compare_int64 (x.1.2.1, x.2.2.1)).bind fun r2 =>
((m_cmp_Or_int [r1, r2]).bind fun r3 =>
some r3)))
def m_impl_comparePlaces (x : ((Int × (Int × Int)) × (Int × (Int × Int)))) : Option Int := p_impl_comparePlaces FU x
def a_impl_comparePlaces : Ann := (.node .leaf (.node (.lazy 15 .leaf) .leaf))
def S_impl_comparePlaces : FSpec := ⟨[.val (.pair (.int .i64) (.pair (.int .i64) (.int .i64))), .val (.pair (.int .i64) (.pair (.int .i64) (.int .i64)))], [(.int .i64)], m_impl_comparePlaces⟩

/-! impl.BalancesFault -/
def l_impl_BalancesFault_1 (n : Nat) (x : (List (Int × (Int × Int)))) (z0 : Int) : Option Int :=
(lp (fun rec14 (z13 : Int) =>
 (cond (decide (z13 < (lenI x)))
  ((geti x z13).bind fun y15 =>
  (Option.bind (α := Bool)
   ((m_impl_isPlace (y15.1, y15.2.1)).bind fun r18 =>
   (cond (!r18)
    (some true)
    ((m_impl_within (y15.2.2, (1 : Int), (1000000000000 : Int))).bind fun r19 =>
    some (!r19)))) fun j20 =>
  (cond j20
   (some (3 : Int))
   (Option.bind (α := Bool)
    (cond (decide (z13 > (0 : Int)))
     ((geti x (IntKind.wrap .i64 (z13 - (1 : Int)))).bind fun y23 =>
     ((m_impl_comparePlaces (y23, y15)).bind fun r24 =>
     some (decide (r24 ≥ (0 : Int)))))
     (some false)) fun j25 =>
   (cond j25
    (some (1 : Int))
    (rec14 (IntKind.wrap .i64 (z13 + (1 : Int)))))))))
  (some (0 : Int)))) n z0)
def p_impl_BalancesFault (n : Nat) (x : (List (Int × (Int × Int)))) : Option Int :=
(cond (decide ((lenI x) > (18 : Int)))
 (some (2 : Int))
 (l_impl_BalancesFault_1 n x (0 : Int)))
def m_impl_BalancesFault (x : (List (Int × (Int × Int)))) : Option Int := p_impl_BalancesFault FU x
def a_impl_BalancesFault : Ann := (.node .leaf (.node .leaf (.node (.node .leaf (.loop [.slot 10 (.int .i64)] [2, 3, 4, 11, 12, 13, 14, 15, 16, 17, 18, 19, 20, 21, 22, 23, 24, 25, 26, 27, 28, 29, 30, 31, 32, 33, 34, 35, 36, 37, 38, 39, 40, 41] (.node .leaf (.node .leaf (.node (.node .leaf (.join [.slot 15 .bool] [16, 17, 18, 19, 20, 21, 22, 23, 24, 25, 26, 27] .leaf (.node .leaf (.join [.slot 28 .bool] [29, 30, 31, 32, 33, 34, 35, 36, 37, 38, 39, 40] .leaf .leaf)))) .leaf))))) .leaf)))
def S_impl_BalancesFault : FSpec := ⟨[.val (.sl none (.pair (.int .i64) (.pair (.int .i64) (.int .i64))))], [(.int .i64)], m_impl_BalancesFault⟩

/-! impl.Balance] -/
def p_slices_Clone_impl_Balance_impl_Balance (n : Nat) (x : (List (Int × (Int × Int)))) : Option (List (Int × (Int × Int))) :=
(cond (List.isEmpty x)
 (same
  (some [])
  (chk (Nat.ble ((([] : List (Int × (Int × Int))).length + x.length) * 24) maxBytes)
  (some (([] : List (Int × (Int × Int))) ++ x))))
 (chk (Nat.ble ((([] : List (Int × (Int × Int))).length + x.length) * 24) maxBytes)
 (some (([] : List (Int × (Int × Int))) ++ x))))
def m_slices_Clone_impl_Balance_impl_Balance (x : (List (Int × (Int × Int)))) : Option (List (Int × (Int × Int))) := p_slices_Clone_impl_Balance_impl_Balance FU x
def a_slices_Clone_impl_Balance_impl_Balance : Ann := .leaf
def S_slices_Clone_impl_Balance_impl_Balance : FSpec := ⟨[.val (.sl none (.pair (.int .i64) (.pair (.int .i64) (.int .i64))))], [(.sl (some 97) (.pair (.int .i64) (.pair (.int .i64) (.int .i64))))], m_slices_Clone_impl_Balance_impl_Balance⟩

/-! impl.NewShard -/
def p_impl_NewShard (n : Nat) (x : (Int × (List (Int × (Int × Int))))) : Option (Int × (Int × (Int × ((List (Int × (Int × Int))) × ((List (Int × Int)) × ((List (Int × (List (Int × (Int × (Int × Int)))))) × ((List (Int × Int)) × (List Int)))))))) :=
((m_impl_isShard x.1).bind fun r1 =>
(cond (!r1)
 (some ((3 : Int), ((0 : Int), ((0 : Int), ([], ([], ([], ([], []))))))))
 ((m_impl_BalancesFault x.2).bind fun r2 =>
 (cond (!(r2 == (0 : Int)))
  (some (r2, ((0 : Int), ((0 : Int), ([], ([], ([], ([], []))))))))
  ((m_slices_Clone_impl_Balance_impl_Balance x.2).bind fun r3 =>
  some ((0 : Int), ((0 : Int), (x.1, (r3, ([], ([], ([], []))))))))))))
def m_impl_NewShard (x : (Int × (List (Int × (Int × Int))))) : Option (Int × (Int × (Int × ((List (Int × (Int × Int))) × ((List (Int × Int)) × ((List (Int × (List (Int × (Int × (Int × Int)))))) × ((List (Int × Int)) × (List Int)))))))) := p_impl_NewShard FU x
def a_impl_NewShard : Ann := .leaf
def S_impl_NewShard : FSpec := ⟨[.val (.int .i64), .val (.sl none (.pair (.int .i64) (.pair (.int .i64) (.int .i64))))], [(.pair (.int .i64) (.pair (.int .i64) (.pair (.int .i64) (.pair (.sl (some 97) (.pair (.int .i64) (.pair (.int .i64) (.int .i64)))) (.pair (.sl (some 193) (.pair (.int .i64) (.int .i64))) (.pair (.sl (some 197) (.pair (.int .i64) (.sl (some 234) (.pair (.int .i64) (.pair (.int .i64) (.pair (.int .i64) (.int .i64))))))) (.pair (.sl (some 193) (.pair (.int .i64) (.int .i64))) (.sl (some 2) (.int .i64)))))))))], m_impl_NewShard⟩

/-! laws.eqBalance -/
def p_laws_eqBalance (n : Nat) (x : ((Int × (Int × Int)) × (Int × (Int × Int)))) : Option Bool :=
(cond (!(x.1.1 == x.2.1))
 (some false)
 (cond (!(x.1.2.1 == x.2.2.1))
  (some false)
  (cond (!(x.1.2.2 == x.2.2.2))
   (some false)
   (some true))))
def m_laws_eqBalance (x : ((Int × (Int × Int)) × (Int × (Int × Int)))) : Option Bool := p_laws_eqBalance FU x
def a_laws_eqBalance : Ann := .leaf
def S_laws_eqBalance : FSpec := ⟨[.val (.pair (.int .i64) (.pair (.int .i64) (.int .i64))), .val (.pair (.int .i64) (.pair (.int .i64) (.int .i64)))], [.bool], m_laws_eqBalance⟩

/-! laws.eqBalanceS -/
def l_laws_eqBalanceS_1 (n : Nat) (x_1 : (List (Int × (Int × Int)))) (x_2 : (List (Int × (Int × Int)))) (z0 : Int) : Option Bool :=
(lp (fun rec6 (z5 : Int) =>
 (cond (decide (z5 < (lenI x_1)))
  ((geti x_1 z5).bind fun y7 =>
  ((geti x_2 z5).bind fun y8 =>
  ((m_laws_eqBalance (y7, y8)).bind fun r9 =>
  (cond (!r9)
   (some false)
   (rec6 (IntKind.wrap .i64 (z5 + (1 : Int))))))))
  (some true))) n z0)
def p_laws_eqBalanceS (n : Nat) (x : ((List (Int × (Int × Int))) × (List (Int × (Int × Int))))) : Option Bool :=
(cond (!((lenI x.1) == (lenI x.2)))
 (some false)
 (l_laws_eqBalanceS_1 n x.1 x.2 (0 : Int)))
def m_laws_eqBalanceS (x : ((List (Int × (Int × Int))) × (List (Int × (Int × Int))))) : Option Bool := p_laws_eqBalanceS FU x
def a_laws_eqBalanceS : Ann := (.node .leaf (.node .leaf (.node (.node .leaf (.loop [.slot 5 (.int .i64)] [4, 11, 12, 13, 14, 15, 16, 17, 18, 19, 20, 21, 22, 23, 24, 25, 26] .leaf)) .leaf)))
def S_laws_eqBalanceS : FSpec := ⟨[.val (.sl none (.pair (.int .i64) (.pair (.int .i64) (.int .i64)))), .val (.sl none (.pair (.int .i64) (.pair (.int .i64) (.int .i64))))], [.bool], m_laws_eqBalanceS⟩

/-! laws.eqMark -/
def p_laws_eqMark (n : Nat) (x : ((Int × Int) × (Int × Int))) : Option Bool :=
(cond (!(x.1.1 == x.2.1))
 (some false)
 (cond (!(x.1.2 == x.2.2))
  (some false)
  (some true)))
def m_laws_eqMark (x : ((Int × Int) × (Int × Int))) : Option Bool := p_laws_eqMark FU x
def a_laws_eqMark : Ann := .leaf
def S_laws_eqMark : FSpec := ⟨[.val (.pair (.int .i64) (.int .i64)), .val (.pair (.int .i64) (.int .i64))], [.bool], m_laws_eqMark⟩

/-! laws.eqMarkS -/
def l_laws_eqMarkS_1 (n : Nat) (x_1 : (List (Int × Int))) (x_2 : (List (Int × Int))) (z0 : Int) : Option Bool :=
(lp (fun rec6 (z5 : Int) =>
 (cond (decide (z5 < (lenI x_1)))
  ((geti x_1 z5).bind fun y7 =>
  ((geti x_2 z5).bind fun y8 =>
  ((m_laws_eqMark (y7, y8)).bind fun r9 =>
  (cond (!r9)
   (some false)
   (rec6 (IntKind.wrap .i64 (z5 + (1 : Int))))))))
  (some true))) n z0)
def p_laws_eqMarkS (n : Nat) (x : ((List (Int × Int)) × (List (Int × Int)))) : Option Bool :=
(cond (!((lenI x.1) == (lenI x.2)))
 (some false)
 (l_laws_eqMarkS_1 n x.1 x.2 (0 : Int)))
def m_laws_eqMarkS (x : ((List (Int × Int)) × (List (Int × Int)))) : Option Bool := p_laws_eqMarkS FU x
def a_laws_eqMarkS : Ann := (.node .leaf (.node .leaf (.node (.node .leaf (.loop [.slot 5 (.int .i64)] [4, 11, 12, 13, 14, 15, 16, 17, 18, 19, 20, 21, 22, 23, 24, 25, 26] .leaf)) .leaf)))
def S_laws_eqMarkS : FSpec := ⟨[.val (.sl none (.pair (.int .i64) (.int .i64))), .val (.sl none (.pair (.int .i64) (.int .i64)))], [.bool], m_laws_eqMarkS⟩

/-! laws.eqLeg -/
def p_laws_eqLeg (n : Nat) (x : ((Int × (Int × (Int × Int))) × (Int × (Int × (Int × Int))))) : Option Bool :=
(cond (!(x.1.1 == x.2.1))
 (some false)
 (cond (!(x.1.2.1 == x.2.2.1))
  (some false)
  (cond (!(x.1.2.2.1 == x.2.2.2.1))
   (some false)
   (cond (!(x.1.2.2.2 == x.2.2.2.2))
    (some false)
    (some true)))))
def m_laws_eqLeg (x : ((Int × (Int × (Int × Int))) × (Int × (Int × (Int × Int))))) : Option Bool := p_laws_eqLeg FU x
def a_laws_eqLeg : Ann := .leaf
def S_laws_eqLeg : FSpec := ⟨[.val (.pair (.int .i64) (.pair (.int .i64) (.pair (.int .i64) (.int .i64)))), .val (.pair (.int .i64) (.pair (.int .i64) (.pair (.int .i64) (.int .i64))))], [.bool], m_laws_eqLeg⟩

/-! laws.eqLegS -/
def l_laws_eqLegS_1 (n : Nat) (x_1 : (List (Int × (Int × (Int × Int))))) (x_2 : (List (Int × (Int × (Int × Int))))) (z0 : Int) : Option Bool :=
(lp (fun rec6 (z5 : Int) =>
 (cond (decide (z5 < (lenI x_1)))
  ((geti x_1 z5).bind fun y7 =>
  ((geti x_2 z5).bind fun y8 =>
  ((m_laws_eqLeg (y7, y8)).bind fun r9 =>
  (cond (!r9)
   (some false)
   (rec6 (IntKind.wrap .i64 (z5 + (1 : Int))))))))
  (some true))) n z0)
def p_laws_eqLegS (n : Nat) (x : ((List (Int × (Int × (Int × Int)))) × (List (Int × (Int × (Int × Int)))))) : Option Bool :=
(cond (!((lenI x.1) == (lenI x.2)))
 (some false)
 (l_laws_eqLegS_1 n x.1 x.2 (0 : Int)))
def m_laws_eqLegS (x : ((List (Int × (Int × (Int × Int)))) × (List (Int × (Int × (Int × Int)))))) : Option Bool := p_laws_eqLegS FU x
def a_laws_eqLegS : Ann := (.node .leaf (.node .leaf (.node (.node .leaf (.loop [.slot 5 (.int .i64)] [4, 11, 12, 13, 14, 15, 16, 17, 18, 19, 20, 21, 22, 23, 24, 25, 26] .leaf)) .leaf)))
def S_laws_eqLegS : FSpec := ⟨[.val (.sl none (.pair (.int .i64) (.pair (.int .i64) (.pair (.int .i64) (.int .i64))))), .val (.sl none (.pair (.int .i64) (.pair (.int .i64) (.pair (.int .i64) (.int .i64)))))], [.bool], m_laws_eqLegS⟩

/-! laws.eqContract -/
def p_laws_eqContract (n : Nat) (x : ((Int × (List (Int × (Int × (Int × Int))))) × (Int × (List (Int × (Int × (Int × Int))))))) : Option Bool :=
(cond (!(x.1.1 == x.2.1))
 (some false)
 ((m_laws_eqLegS (x.1.2, x.2.2)).bind fun r1 =>
 (cond (!r1)
  (some false)
  (some true))))
def m_laws_eqContract (x : ((Int × (List (Int × (Int × (Int × Int))))) × (Int × (List (Int × (Int × (Int × Int))))))) : Option Bool := p_laws_eqContract FU x
def a_laws_eqContract : Ann := .leaf
def S_laws_eqContract : FSpec := ⟨[.val (.pair (.int .i64) (.sl none (.pair (.int .i64) (.pair (.int .i64) (.pair (.int .i64) (.int .i64)))))), .val (.pair (.int .i64) (.sl none (.pair (.int .i64) (.pair (.int .i64) (.pair (.int .i64) (.int .i64))))))], [.bool], m_laws_eqContract⟩

/-! laws.eqContractS -/
def l_laws_eqContractS_1 (n : Nat) (x_1 : (List (Int × (List (Int × (Int × (Int × Int))))))) (x_2 : (List (Int × (List (Int × (Int × (Int × Int))))))) (z0 : Int) : Option Bool :=
(lp (fun rec6 (z5 : Int) =>
 (cond (decide (z5 < (lenI x_1)))
  ((geti x_1 z5).bind fun y7 =>
  ((geti x_2 z5).bind fun y8 =>
  ((m_laws_eqContract (y7, y8)).bind fun r9 =>
  (cond (!r9)
   (some false)
   (rec6 (IntKind.wrap .i64 (z5 + (1 : Int))))))))
  (some true))) n z0)
def p_laws_eqContractS (n : Nat) (x : ((List (Int × (List (Int × (Int × (Int × Int)))))) × (List (Int × (List (Int × (Int × (Int × Int)))))))) : Option Bool :=
(cond (!((lenI x.1) == (lenI x.2)))
 (some false)
 (l_laws_eqContractS_1 n x.1 x.2 (0 : Int)))
def m_laws_eqContractS (x : ((List (Int × (List (Int × (Int × (Int × Int)))))) × (List (Int × (List (Int × (Int × (Int × Int)))))))) : Option Bool := p_laws_eqContractS FU x
def a_laws_eqContractS : Ann := (.node .leaf (.node .leaf (.node (.node .leaf (.loop [.slot 5 (.int .i64)] [4, 11, 12, 13, 14, 15, 16, 17, 18, 19, 20, 21, 22, 23, 24, 25, 26] .leaf)) .leaf)))
def S_laws_eqContractS : FSpec := ⟨[.val (.sl none (.pair (.int .i64) (.sl none (.pair (.int .i64) (.pair (.int .i64) (.pair (.int .i64) (.int .i64))))))), .val (.sl none (.pair (.int .i64) (.sl none (.pair (.int .i64) (.pair (.int .i64) (.pair (.int .i64) (.int .i64)))))))], [.bool], m_laws_eqContractS⟩

/-! laws.eqInt64S -/
def l_laws_eqInt64S_1 (n : Nat) (x_1 : (List Int)) (x_2 : (List Int)) (z0 : Int) : Option Bool :=
(lp (fun rec5 (z4 : Int) =>
 (cond (decide (z4 < (lenI x_1)))
  ((geti x_1 z4).bind fun y6 =>
  ((geti x_2 z4).bind fun y7 =>
  (cond (!(y6 == y7))
   (some false)
   (rec5 (IntKind.wrap .i64 (z4 + (1 : Int)))))))
  (some true))) n z0)
def p_laws_eqInt64S (n : Nat) (x : ((List Int) × (List Int))) : Option Bool :=
(cond (!((lenI x.1) == (lenI x.2)))
 (some false)
 (l_laws_eqInt64S_1 n x.1 x.2 (0 : Int)))
def m_laws_eqInt64S (x : ((List Int) × (List Int))) : Option Bool := p_laws_eqInt64S FU x
def a_laws_eqInt64S : Ann := (.node .leaf (.node .leaf (.node (.node .leaf (.loop [.slot 5 (.int .i64)] [4, 11, 12, 13, 14, 15, 16, 17, 18, 19, 20, 21, 22, 23, 24, 25] .leaf)) .leaf)))
def S_laws_eqInt64S : FSpec := ⟨[.val (.sl none (.int .i64)), .val (.sl none (.int .i64))], [.bool], m_laws_eqInt64S⟩

/-! laws.eqShard -/
def p_laws_eqShard (n : Nat) (x : ((Int × ((List (Int × (Int × Int))) × ((List (Int × Int)) × ((List (Int × (List (Int × (Int × (Int × Int)))))) × ((List (Int × Int)) × (List Int)))))) × (Int × ((List (Int × (Int × Int))) × ((List (Int × Int)) × ((List (Int × (List (Int × (Int × (Int × Int)))))) × ((List (Int × Int)) × (List Int)))))))) : Option Bool :=
(cond (!(x.1.1 == x.2.1))
 (some false)
 ((m_laws_eqBalanceS (x.1.2.1, x.2.2.1)).bind fun r1 =>
 (cond (!r1)
  (some false)
  ((m_laws_eqMarkS (x.1.2.2.1, x.2.2.2.1)).bind fun r2 =>
  (cond (!r2)
   (some false)
   ((m_laws_eqContractS (x.1.2.2.2.1, x.2.2.2.2.1)).bind fun r3 =>
   (cond (!r3)
    (some false)
    ((m_laws_eqMarkS (x.1.2.2.2.2.1, x.2.2.2.2.2.1)).bind fun r4 =>
    (cond (!r4)
     (some false)
     ((m_laws_eqInt64S (x.1.2.2.2.2.2, x.2.2.2.2.2.2)).bind fun r5 =>
     (cond (!r5)
      (some false)
      (some true))))))))))))
def m_laws_eqShard (x : ((Int × ((List (Int × (Int × Int))) × ((List (Int × Int)) × ((List (Int × (List (Int × (Int × (Int × Int)))))) × ((List (Int × Int)) × (List Int)))))) × (Int × ((List (Int × (Int × Int))) × ((List (Int × Int)) × ((List (Int × (List (Int × (Int × (Int × Int)))))) × ((List (Int × Int)) × (List Int)))))))) : Option Bool := p_laws_eqShard FU x
def a_laws_eqShard : Ann := .leaf
def S_laws_eqShard : FSpec := ⟨[.val (.pair (.int .i64) (.pair (.sl none (.pair (.int .i64) (.pair (.int .i64) (.int .i64)))) (.pair (.sl none (.pair (.int .i64) (.int .i64))) (.pair (.sl none (.pair (.int .i64) (.sl none (.pair (.int .i64) (.pair (.int .i64) (.pair (.int .i64) (.int .i64))))))) (.pair (.sl none (.pair (.int .i64) (.int .i64))) (.sl none (.int .i64))))))), .val (.pair (.int .i64) (.pair (.sl none (.pair (.int .i64) (.pair (.int .i64) (.int .i64)))) (.pair (.sl none (.pair (.int .i64) (.int .i64))) (.pair (.sl none (.pair (.int .i64) (.sl none (.pair (.int .i64) (.pair (.int .i64) (.pair (.int .i64) (.int .i64))))))) (.pair (.sl none (.pair (.int .i64) (.int .i64))) (.sl none (.int .i64)))))))], [.bool], m_laws_eqShard⟩

/-! laws.eqShardResult -/
def p_laws_eqShardResult (n : Nat) (x : ((Int × (Int × (Int × ((List (Int × (Int × Int))) × ((List (Int × Int)) × ((List (Int × (List (Int × (Int × (Int × Int)))))) × ((List (Int × Int)) × (List Int)))))))) × (Int × (Int × (Int × ((List (Int × (Int × Int))) × ((List (Int × Int)) × ((List (Int × (List (Int × (Int × (Int × Int)))))) × ((List (Int × Int)) × (List Int)))))))))) : Option Bool :=
(cond (!(x.1.1 == x.2.1))
 (some false)
 (cond (!(x.1.2.1 == x.2.2.1))
  (some false)
  ((m_laws_eqShard (x.1.2.2, x.2.2.2)).bind fun r1 =>
  (cond (!r1)
   (some false)
   (some true)))))
def m_laws_eqShardResult (x : ((Int × (Int × (Int × ((List (Int × (Int × Int))) × ((List (Int × Int)) × ((List (Int × (List (Int × (Int × (Int × Int)))))) × ((List (Int × Int)) × (List Int)))))))) × (Int × (Int × (Int × ((List (Int × (Int × Int))) × ((List (Int × Int)) × ((List (Int × (List (Int × (Int × (Int × Int)))))) × ((List (Int × Int)) × (List Int)))))))))) : Option Bool := p_laws_eqShardResult FU x
def a_laws_eqShardResult : Ann := .leaf
def S_laws_eqShardResult : FSpec := ⟨[.val (.pair (.int .i64) (.pair (.int .i64) (.pair (.int .i64) (.pair (.sl none (.pair (.int .i64) (.pair (.int .i64) (.int .i64)))) (.pair (.sl none (.pair (.int .i64) (.int .i64))) (.pair (.sl none (.pair (.int .i64) (.sl none (.pair (.int .i64) (.pair (.int .i64) (.pair (.int .i64) (.int .i64))))))) (.pair (.sl none (.pair (.int .i64) (.int .i64))) (.sl none (.int .i64))))))))), .val (.pair (.int .i64) (.pair (.int .i64) (.pair (.int .i64) (.pair (.sl none (.pair (.int .i64) (.pair (.int .i64) (.int .i64)))) (.pair (.sl none (.pair (.int .i64) (.int .i64))) (.pair (.sl none (.pair (.int .i64) (.sl none (.pair (.int .i64) (.pair (.int .i64) (.pair (.int .i64) (.int .i64))))))) (.pair (.sl none (.pair (.int .i64) (.int .i64))) (.sl none (.int .i64)))))))))], [.bool], m_laws_eqShardResult⟩

/-! laws.markBalanceS -/
def l_laws_markBalanceS_1 (n : Nat)  (z0 : (Int × (Int × (List (Int × (Int × Int)))))) : Option (Int × (List (Int × (Int × Int)))) :=
(lp (fun rec10 (z9 : (Int × (Int × (List (Int × (Int × Int)))))) =>
 (cond (decide (z9.2.1 < (lenI z9.2.2)))
  ((geti z9.2.2 z9.2.1).bind fun _ =>
  ((z9.2.2[z9.2.1.toNat]?).bind fun y11 =>
  ((geti (z9.2.2.set z9.2.1.toNat (z9.1, y11.2)) z9.2.1).bind fun _ =>
  (((z9.2.2.set z9.2.1.toNat (z9.1, y11.2))[z9.2.1.toNat]?).bind fun y12 =>
  ((geti ((z9.2.2.set z9.2.1.toNat (z9.1, y11.2)).set z9.2.1.toNat (y12.1, (IntKind.wrap .i64 (z9.1 + (1 : Int)), y12.2.2))) z9.2.1).bind fun _ =>
  ((((z9.2.2.set z9.2.1.toNat (z9.1, y11.2)).set z9.2.1.toNat (y12.1, (IntKind.wrap .i64 (z9.1 + (1 : Int)), y12.2.2)))[z9.2.1.toNat]?).bind fun y13 =>
  rec10 (IntKind.wrap .i64 ((IntKind.wrap .i64 ((IntKind.wrap .i64 (z9.1 + (1 : Int))) + (1 : Int))) + (1 : Int)), IntKind.wrap .i64 (z9.2.1 + (1 : Int)), (((z9.2.2.set z9.2.1.toNat (z9.1, y11.2)).set z9.2.1.toNat (y12.1, (IntKind.wrap .i64 (z9.1 + (1 : Int)), y12.2.2))).set z9.2.1.toNat (y13.1, (y13.2.1, IntKind.wrap .i64 ((IntKind.wrap .i64 (z9.1 + (1 : Int))) + (1 : Int))))))))))))
  (some (z9.1, z9.2.2)))) n z0)
def p_laws_markBalanceS (n : Nat) (x : ((List (Int × (Int × Int))) × Int)) : Option (Int × (List (Int × (Int × Int)))) :=
(l_laws_markBalanceS_1 n  (x.2, (0 : Int), x.1))
def m_laws_markBalanceS (x : ((List (Int × (Int × Int))) × Int)) : Option (Int × (List (Int × (Int × Int)))) := p_laws_markBalanceS FU x
def a_laws_markBalanceS : Ann := (.node .leaf (.node (.node .leaf (.loop [.slot 1 (.int .i64), .slot 5 (.int .i64), .row 0 97 (.pair (.int .i64) (.pair (.int .i64) (.int .i64)))] [6, 7, 8, 9, 10, 11, 12, 13, 14, 15, 16, 17, 18, 19, 20, 21, 22, 23, 24, 25, 26, 27, 28, 29, 30, 31, 32] .leaf)) .leaf))
def S_laws_markBalanceS : FSpec := ⟨[.row 97 (.pair (.int .i64) (.pair (.int .i64) (.int .i64))), .val (.int .i64)], [(.int .i64)], m_laws_markBalanceS⟩

/-! laws.markMarkS -/
def l_laws_markMarkS_1 (n : Nat)  (z0 : (Int × (Int × (List (Int × Int))))) : Option (Int × (List (Int × Int))) :=
(lp (fun rec8 (z7 : (Int × (Int × (List (Int × Int))))) =>
 (cond (decide (z7.2.1 < (lenI z7.2.2)))
  ((geti z7.2.2 z7.2.1).bind fun _ =>
  ((z7.2.2[z7.2.1.toNat]?).bind fun y9 =>
  ((geti (z7.2.2.set z7.2.1.toNat (z7.1, y9.2)) z7.2.1).bind fun _ =>
  (((z7.2.2.set z7.2.1.toNat (z7.1, y9.2))[z7.2.1.toNat]?).bind fun y10 =>
  rec8 (IntKind.wrap .i64 ((IntKind.wrap .i64 (z7.1 + (1 : Int))) + (1 : Int)), IntKind.wrap .i64 (z7.2.1 + (1 : Int)), ((z7.2.2.set z7.2.1.toNat (z7.1, y9.2)).set z7.2.1.toNat (y10.1, IntKind.wrap .i64 (z7.1 + (1 : Int)))))))))
  (some (z7.1, z7.2.2)))) n z0)
def p_laws_markMarkS (n : Nat) (x : ((List (Int × Int)) × Int)) : Option (Int × (List (Int × Int))) :=
(l_laws_markMarkS_1 n  (x.2, (0 : Int), x.1))
def m_laws_markMarkS (x : ((List (Int × Int)) × Int)) : Option (Int × (List (Int × Int))) := p_laws_markMarkS FU x
def a_laws_markMarkS : Ann := (.node .leaf (.node (.node .leaf (.loop [.slot 1 (.int .i64), .slot 5 (.int .i64), .row 0 193 (.pair (.int .i64) (.int .i64))] [6, 7, 8, 9, 10, 11, 12, 13, 14, 15, 16, 17, 18, 19, 20, 21, 22, 23, 24, 25] .leaf)) .leaf))
def S_laws_markMarkS : FSpec := ⟨[.row 193 (.pair (.int .i64) (.int .i64)), .val (.int .i64)], [(.int .i64)], m_laws_markMarkS⟩

/-! laws.markLegS -/
def l_laws_markLegS_1 (n : Nat)  (z0 : (Int × (Int × (List (Int × (Int × (Int × Int))))))) : Option (Int × (List (Int × (Int × (Int × Int))))) :=
(lp (fun rec12 (z11 : (Int × (Int × (List (Int × (Int × (Int × Int))))))) =>
 (cond (decide (z11.2.1 < (lenI z11.2.2)))
  ((geti z11.2.2 z11.2.1).bind fun _ =>
  ((z11.2.2[z11.2.1.toNat]?).bind fun y13 =>
  ((geti (z11.2.2.set z11.2.1.toNat (z11.1, y13.2)) z11.2.1).bind fun _ =>
  (((z11.2.2.set z11.2.1.toNat (z11.1, y13.2))[z11.2.1.toNat]?).bind fun y14 =>
  ((geti ((z11.2.2.set z11.2.1.toNat (z11.1, y13.2)).set z11.2.1.toNat (y14.1, (IntKind.wrap .i64 (z11.1 + (1 : Int)), y14.2.2))) z11.2.1).bind fun _ =>
  ((((z11.2.2.set z11.2.1.toNat (z11.1, y13.2)).set z11.2.1.toNat (y14.1, (IntKind.wrap .i64 (z11.1 + (1 : Int)), y14.2.2)))[z11.2.1.toNat]?).bind fun y15 =>
  ((geti (((z11.2.2.set z11.2.1.toNat (z11.1, y13.2)).set z11.2.1.toNat (y14.1, (IntKind.wrap .i64 (z11.1 + (1 : Int)), y14.2.2))).set z11.2.1.toNat (y15.1, (y15.2.1, (IntKind.wrap .i64 ((IntKind.wrap .i64 (z11.1 + (1 : Int))) + (1 : Int)), y15.2.2.2)))) z11.2.1).bind fun _ =>
  (((((z11.2.2.set z11.2.1.toNat (z11.1, y13.2)).set z11.2.1.toNat (y14.1, (IntKind.wrap .i64 (z11.1 + (1 : Int)), y14.2.2))).set z11.2.1.toNat (y15.1, (y15.2.1, (IntKind.wrap .i64 ((IntKind.wrap .i64 (z11.1 + (1 : Int))) + (1 : Int)), y15.2.2.2))))[z11.2.1.toNat]?).bind fun y16 =>
  rec12 (IntKind.wrap .i64 ((IntKind.wrap .i64 ((IntKind.wrap .i64 ((IntKind.wrap .i64 (z11.1 + (1 : Int))) + (1 : Int))) + (1 : Int))) + (1 : Int)), IntKind.wrap .i64 (z11.2.1 + (1 : Int)), ((((z11.2.2.set z11.2.1.toNat (z11.1, y13.2)).set z11.2.1.toNat (y14.1, (IntKind.wrap .i64 (z11.1 + (1 : Int)), y14.2.2))).set z11.2.1.toNat (y15.1, (y15.2.1, (IntKind.wrap .i64 ((IntKind.wrap .i64 (z11.1 + (1 : Int))) + (1 : Int)), y15.2.2.2)))).set z11.2.1.toNat (y16.1, (y16.2.1, (y16.2.2.1, IntKind.wrap .i64 ((IntKind.wrap .i64 ((IntKind.wrap .i64 (z11.1 + (1 : Int))) + (1 : Int))) + (1 : Int)))))))))))))))
  (some (z11.1, z11.2.2)))) n z0)
def p_laws_markLegS (n : Nat) (x : ((List (Int × (Int × (Int × Int)))) × Int)) : Option (Int × (List (Int × (Int × (Int × Int))))) :=
(l_laws_markLegS_1 n  (x.2, (0 : Int), x.1))
def m_laws_markLegS (x : ((List (Int × (Int × (Int × Int)))) × Int)) : Option (Int × (List (Int × (Int × (Int × Int))))) := p_laws_markLegS FU x
def a_laws_markLegS : Ann := (.node .leaf (.node (.node .leaf (.loop [.slot 1 (.int .i64), .slot 5 (.int .i64), .row 0 234 (.pair (.int .i64) (.pair (.int .i64) (.pair (.int .i64) (.int .i64))))] [6, 7, 8, 9, 10, 11, 12, 13, 14, 15, 16, 17, 18, 19, 20, 21, 22, 23, 24, 25, 26, 27, 28, 29, 30, 31, 32, 33, 34, 35, 36, 37, 38, 39] .leaf)) .leaf))
def S_laws_markLegS : FSpec := ⟨[.row 234 (.pair (.int .i64) (.pair (.int .i64) (.pair (.int .i64) (.int .i64)))), .val (.int .i64)], [(.int .i64)], m_laws_markLegS⟩

/-! laws.markContractS -/
def l_laws_markContractS_1 (n : Nat)  (z0 : (Int × (Int × (List (Int × (List (Int × (Int × (Int × Int))))))))) : Option (Int × (List (Int × (List (Int × (Int × (Int × Int))))))) :=
(lp (fun rec12 (z11 : (Int × (Int × (List (Int × (List (Int × (Int × (Int × Int))))))))) =>
 (cond (decide (z11.2.1 < (lenI z11.2.2)))
  ((geti z11.2.2 z11.2.1).bind fun _ =>
  ((z11.2.2[z11.2.1.toNat]?).bind fun y13 =>
  ((geti (z11.2.2.set z11.2.1.toNat (z11.1, y13.2)) z11.2.1).bind fun _ =>
  (((z11.2.2.set z11.2.1.toNat (z11.1, y13.2))[z11.2.1.toNat]?).bind fun y14 =>
  (((z11.2.2.set z11.2.1.toNat (z11.1, y13.2))[z11.2.1.toNat]?).bind fun y15 =>
  ((m_laws_markLegS (y15.2, IntKind.wrap .i64 (z11.1 + (1 : Int)))).bind fun r16 =>
  rec12 (r16.1, IntKind.wrap .i64 (z11.2.1 + (1 : Int)), ((z11.2.2.set z11.2.1.toNat (z11.1, y13.2)).set z11.2.1.toNat (y15.1, r16.2)))))))))
  (some (z11.1, z11.2.2)))) n z0)
def p_laws_markContractS (n : Nat) (x : ((List (Int × (List (Int × (Int × (Int × Int)))))) × Int)) : Option (Int × (List (Int × (List (Int × (Int × (Int × Int))))))) :=
(l_laws_markContractS_1 n  (x.2, (0 : Int), x.1))
def m_laws_markContractS (x : ((List (Int × (List (Int × (Int × (Int × Int)))))) × Int)) : Option (Int × (List (Int × (List (Int × (Int × (Int × Int))))))) := p_laws_markContractS FU x
def a_laws_markContractS : Ann := (.node .leaf (.node (.node .leaf (.loop [.slot 1 (.int .i64), .slot 5 (.int .i64), .row 0 197 (.pair (.int .i64) (.sl (some 234) (.pair (.int .i64) (.pair (.int .i64) (.pair (.int .i64) (.int .i64))))))] [6, 7, 8, 9, 10, 11, 12, 13, 14, 15, 16, 17, 18, 19, 20, 21, 22, 23, 24, 25] .leaf)) .leaf))
def S_laws_markContractS : FSpec := ⟨[.row 197 (.pair (.int .i64) (.sl (some 234) (.pair (.int .i64) (.pair (.int .i64) (.pair (.int .i64) (.int .i64)))))), .val (.int .i64)], [(.int .i64)], m_laws_markContractS⟩

/-! laws.markInt64S -/
def l_laws_markInt64S_1 (n : Nat)  (z0 : (Int × (Int × (List Int)))) : Option (Int × (List Int)) :=
(lp (fun rec6 (z5 : (Int × (Int × (List Int)))) =>
 (cond (decide (z5.2.1 < (lenI z5.2.2)))
  ((geti z5.2.2 z5.2.1).bind fun _ =>
  ((z5.2.2[z5.2.1.toNat]?).bind fun y7 =>
  rec6 (IntKind.wrap .i64 (z5.1 + (1 : Int)), IntKind.wrap .i64 (z5.2.1 + (1 : Int)), (z5.2.2.set z5.2.1.toNat z5.1))))
  (some (z5.1, z5.2.2)))) n z0)
def p_laws_markInt64S (n : Nat) (x : ((List Int) × Int)) : Option (Int × (List Int)) :=
(l_laws_markInt64S_1 n  (x.2, (0 : Int), x.1))
def m_laws_markInt64S (x : ((List Int) × Int)) : Option (Int × (List Int)) := p_laws_markInt64S FU x
def a_laws_markInt64S : Ann := (.node .leaf (.node (.node .leaf (.loop [.slot 1 (.int .i64), .slot 5 (.int .i64), .row 0 2 (.int .i64)] [6, 7, 8, 9, 10, 11, 12, 13, 14, 15, 16, 17] .leaf)) .leaf))
def S_laws_markInt64S : FSpec := ⟨[.row 2 (.int .i64), .val (.int .i64)], [(.int .i64)], m_laws_markInt64S⟩

/-! laws.heldBalanceS -/
def l_laws_heldBalanceS_1 (n : Nat) (x_1 : (List (Int × (Int × Int)))) (z0 : (Int × Int)) : Option Int :=
(lp (fun rec6 (z5 : (Int × Int)) =>
 (cond (decide (z5.2 < (lenI x_1)))
  ((geti x_1 z5.2).bind fun y7 =>
  (cond (!(y7.1 == z5.1))
   (some (-1 : Int))
   ((geti x_1 z5.2).bind fun y8 =>
   (cond (!(y8.2.1 == (IntKind.wrap .i64 (z5.1 + (1 : Int)))))
    (some (-1 : Int))
    ((geti x_1 z5.2).bind fun y9 =>
    (cond (!(y9.2.2 == (IntKind.wrap .i64 ((IntKind.wrap .i64 (z5.1 + (1 : Int))) + (1 : Int)))))
     (some (-1 : Int))
     (rec6 (IntKind.wrap .i64 ((IntKind.wrap .i64 ((IntKind.wrap .i64 (z5.1 + (1 : Int))) + (1 : Int))) + (1 : Int)), IntKind.wrap .i64 (z5.2 + (1 : Int))))))))))
  (some z5.1))) n z0)
def p_laws_heldBalanceS (n : Nat) (x : ((List (Int × (Int × Int))) × Int)) : Option Int :=
(l_laws_heldBalanceS_1 n x.1 (x.2, (0 : Int)))
def m_laws_heldBalanceS (x : ((List (Int × (Int × Int))) × Int)) : Option Int := p_laws_heldBalanceS FU x
def a_laws_heldBalanceS : Ann := (.node .leaf (.node (.node .leaf (.loop [.slot 1 (.int .i64), .slot 5 (.int .i64)] [4, 6, 7, 8, 9, 10, 11, 12, 13, 14, 15, 16, 17, 18, 19, 20, 21, 22, 23, 24, 25, 26, 27, 28, 29, 30, 31, 32, 33, 34, 35, 36, 37, 38] .leaf)) .leaf))
def S_laws_heldBalanceS : FSpec := ⟨[.val (.sl none (.pair (.int .i64) (.pair (.int .i64) (.int .i64)))), .val (.int .i64)], [(.int .i64)], m_laws_heldBalanceS⟩

/-! laws.heldMarkS -/
def l_laws_heldMarkS_1 (n : Nat) (x_1 : (List (Int × Int))) (z0 : (Int × Int)) : Option Int :=
(lp (fun rec5 (z4 : (Int × Int)) =>
 (cond (decide (z4.2 < (lenI x_1)))
  ((geti x_1 z4.2).bind fun y6 =>
  (cond (!(y6.1 == z4.1))
   (some (-1 : Int))
   ((geti x_1 z4.2).bind fun y7 =>
   (cond (!(y7.2 == (IntKind.wrap .i64 (z4.1 + (1 : Int)))))
    (some (-1 : Int))
    (rec5 (IntKind.wrap .i64 ((IntKind.wrap .i64 (z4.1 + (1 : Int))) + (1 : Int)), IntKind.wrap .i64 (z4.2 + (1 : Int))))))))
  (some z4.1))) n z0)
def p_laws_heldMarkS (n : Nat) (x : ((List (Int × Int)) × Int)) : Option Int :=
(l_laws_heldMarkS_1 n x.1 (x.2, (0 : Int)))
def m_laws_heldMarkS (x : ((List (Int × Int)) × Int)) : Option Int := p_laws_heldMarkS FU x
def a_laws_heldMarkS : Ann := (.node .leaf (.node (.node .leaf (.loop [.slot 1 (.int .i64), .slot 5 (.int .i64)] [4, 6, 7, 8, 9, 10, 11, 12, 13, 14, 15, 16, 17, 18, 19, 20, 21, 22, 23, 24, 25, 26, 27, 28, 29] .leaf)) .leaf))
def S_laws_heldMarkS : FSpec := ⟨[.val (.sl none (.pair (.int .i64) (.int .i64))), .val (.int .i64)], [(.int .i64)], m_laws_heldMarkS⟩

/-! laws.heldLegS -/
def l_laws_heldLegS_1 (n : Nat) (x_1 : (List (Int × (Int × (Int × Int))))) (z0 : (Int × Int)) : Option Int :=
(lp (fun rec7 (z6 : (Int × Int)) =>
 (cond (decide (z6.2 < (lenI x_1)))
  ((geti x_1 z6.2).bind fun y8 =>
  (cond (!(y8.1 == z6.1))
   (some (-1 : Int))
   ((geti x_1 z6.2).bind fun y9 =>
   (cond (!(y9.2.1 == (IntKind.wrap .i64 (z6.1 + (1 : Int)))))
    (some (-1 : Int))
    ((geti x_1 z6.2).bind fun y10 =>
    (cond (!(y10.2.2.1 == (IntKind.wrap .i64 ((IntKind.wrap .i64 (z6.1 + (1 : Int))) + (1 : Int)))))
     (some (-1 : Int))
     ((geti x_1 z6.2).bind fun y11 =>
     (cond (!(y11.2.2.2 == (IntKind.wrap .i64 ((IntKind.wrap .i64 ((IntKind.wrap .i64 (z6.1 + (1 : Int))) + (1 : Int))) + (1 : Int)))))
      (some (-1 : Int))
      (rec7 (IntKind.wrap .i64 ((IntKind.wrap .i64 ((IntKind.wrap .i64 ((IntKind.wrap .i64 (z6.1 + (1 : Int))) + (1 : Int))) + (1 : Int))) + (1 : Int)), IntKind.wrap .i64 (z6.2 + (1 : Int))))))))))))
  (some z6.1))) n z0)
def p_laws_heldLegS (n : Nat) (x : ((List (Int × (Int × (Int × Int)))) × Int)) : Option Int :=
(l_laws_heldLegS_1 n x.1 (x.2, (0 : Int)))
def m_laws_heldLegS (x : ((List (Int × (Int × (Int × Int)))) × Int)) : Option Int := p_laws_heldLegS FU x
def a_laws_heldLegS : Ann := (.node .leaf (.node (.node .leaf (.loop [.slot 1 (.int .i64), .slot 5 (.int .i64)] [4, 6, 7, 8, 9, 10, 11, 12, 13, 14, 15, 16, 17, 18, 19, 20, 21, 22, 23, 24, 25, 26, 27, 28, 29, 30, 31, 32, 33, 34, 35, 36, 37, 38, 39, 40, 41, 42, 43, 44, 45, 46, 47] .leaf)) .leaf))
def S_laws_heldLegS : FSpec := ⟨[.val (.sl none (.pair (.int .i64) (.pair (.int .i64) (.pair (.int .i64) (.int .i64))))), .val (.int .i64)], [(.int .i64)], m_laws_heldLegS⟩

/-! laws.heldContractS -/
def l_laws_heldContractS_1 (n : Nat) (x_1 : (List (Int × (List (Int × (Int × (Int × Int))))))) (z0 : (Int × Int)) : Option Int :=
(lp (fun rec6 (z5 : (Int × Int)) =>
 (cond (decide (z5.2 < (lenI x_1)))
  ((geti x_1 z5.2).bind fun y7 =>
  (cond (!(y7.1 == z5.1))
   (some (-1 : Int))
   ((geti x_1 z5.2).bind fun y8 =>
   ((m_laws_heldLegS (y8.2, IntKind.wrap .i64 (z5.1 + (1 : Int)))).bind fun r9 =>
   (cond (decide (r9 < (0 : Int)))
    (some (-1 : Int))
    (rec6 (r9, IntKind.wrap .i64 (z5.2 + (1 : Int)))))))))
  (some z5.1))) n z0)
def p_laws_heldContractS (n : Nat) (x : ((List (Int × (List (Int × (Int × (Int × Int)))))) × Int)) : Option Int :=
(l_laws_heldContractS_1 n x.1 (x.2, (0 : Int)))
def m_laws_heldContractS (x : ((List (Int × (List (Int × (Int × (Int × Int)))))) × Int)) : Option Int := p_laws_heldContractS FU x
def a_laws_heldContractS : Ann := (.node .leaf (.node (.node .leaf (.loop [.slot 1 (.int .i64), .slot 5 (.int .i64)] [4, 6, 7, 8, 9, 10, 11, 12, 13, 14, 15, 16, 17, 18, 19, 20, 21, 22, 23, 24, 25, 26, 27, 28, 29] .leaf)) .leaf))
def S_laws_heldContractS : FSpec := ⟨[.val (.sl none (.pair (.int .i64) (.sl none (.pair (.int .i64) (.pair (.int .i64) (.pair (.int .i64) (.int .i64))))))), .val (.int .i64)], [(.int .i64)], m_laws_heldContractS⟩

/-! laws.heldInt64S -/
def l_laws_heldInt64S_1 (n : Nat) (x_1 : (List Int)) (z0 : (Int × Int)) : Option Int :=
(lp (fun rec4 (z3 : (Int × Int)) =>
 (cond (decide (z3.2 < (lenI x_1)))
  ((geti x_1 z3.2).bind fun y5 =>
  (cond (!(y5 == z3.1))
   (some (-1 : Int))
   (rec4 (IntKind.wrap .i64 (z3.1 + (1 : Int)), IntKind.wrap .i64 (z3.2 + (1 : Int))))))
  (some z3.1))) n z0)
def p_laws_heldInt64S (n : Nat) (x : ((List Int) × Int)) : Option Int :=
(l_laws_heldInt64S_1 n x.1 (x.2, (0 : Int)))
def m_laws_heldInt64S (x : ((List Int) × Int)) : Option Int := p_laws_heldInt64S FU x
def a_laws_heldInt64S : Ann := (.node .leaf (.node (.node .leaf (.loop [.slot 1 (.int .i64), .slot 5 (.int .i64)] [4, 6, 7, 8, 9, 10, 11, 12, 13, 14, 15, 16, 17, 18, 19] .leaf)) .leaf))
def S_laws_heldInt64S : FSpec := ⟨[.val (.sl none (.int .i64)), .val (.int .i64)], [(.int .i64)], m_laws_heldInt64S⟩

/-! laws.heldShard -/
def p_laws_heldShard (n : Nat) (x : ((Int × ((List (Int × (Int × Int))) × ((List (Int × Int)) × ((List (Int × (List (Int × (Int × (Int × Int)))))) × ((List (Int × Int)) × (List Int)))))) × Int)) : Option Int :=
((m_laws_heldBalanceS (x.1.2.1, x.2)).bind fun r1 =>
(cond (decide (r1 < (0 : Int)))
 (some (-1 : Int))
 ((m_laws_heldMarkS (x.1.2.2.1, r1)).bind fun r2 =>
 (cond (decide (r2 < (0 : Int)))
  (some (-1 : Int))
  ((m_laws_heldContractS (x.1.2.2.2.1, r2)).bind fun r3 =>
  (cond (decide (r3 < (0 : Int)))
   (some (-1 : Int))
   ((m_laws_heldMarkS (x.1.2.2.2.2.1, r3)).bind fun r4 =>
   (cond (decide (r4 < (0 : Int)))
    (some (-1 : Int))
    ((m_laws_heldInt64S (x.1.2.2.2.2.2, r4)).bind fun r5 =>
    (cond (decide (r5 < (0 : Int)))
     (some (-1 : Int))
     (some r5)))))))))))
def m_laws_heldShard (x : ((Int × ((List (Int × (Int × Int))) × ((List (Int × Int)) × ((List (Int × (List (Int × (Int × (Int × Int)))))) × ((List (Int × Int)) × (List Int)))))) × Int)) : Option Int := p_laws_heldShard FU x
def a_laws_heldShard : Ann := .leaf
def S_laws_heldShard : FSpec := ⟨[.val (.pair (.int .i64) (.pair (.sl none (.pair (.int .i64) (.pair (.int .i64) (.int .i64)))) (.pair (.sl none (.pair (.int .i64) (.int .i64))) (.pair (.sl none (.pair (.int .i64) (.sl none (.pair (.int .i64) (.pair (.int .i64) (.pair (.int .i64) (.int .i64))))))) (.pair (.sl none (.pair (.int .i64) (.int .i64))) (.sl none (.int .i64))))))), .val (.int .i64)], [(.int .i64)], m_laws_heldShard⟩

/-! laws.heldShardResult -/
def p_laws_heldShardResult (n : Nat) (x : ((Int × (Int × (Int × ((List (Int × (Int × Int))) × ((List (Int × Int)) × ((List (Int × (List (Int × (Int × (Int × Int)))))) × ((List (Int × Int)) × (List Int)))))))) × Int)) : Option Int :=
((m_laws_heldShard (x.1.2.2, x.2)).bind fun r1 =>
(cond (decide (r1 < (0 : Int)))
 (some (-1 : Int))
 (some r1)))
def m_laws_heldShardResult (x : ((Int × (Int × (Int × ((List (Int × (Int × Int))) × ((List (Int × Int)) × ((List (Int × (List (Int × (Int × (Int × Int)))))) × ((List (Int × Int)) × (List Int)))))))) × Int)) : Option Int := p_laws_heldShardResult FU x
def a_laws_heldShardResult : Ann := .leaf
def S_laws_heldShardResult : FSpec := ⟨[.val (.pair (.int .i64) (.pair (.int .i64) (.pair (.int .i64) (.pair (.sl none (.pair (.int .i64) (.pair (.int .i64) (.int .i64)))) (.pair (.sl none (.pair (.int .i64) (.int .i64))) (.pair (.sl none (.pair (.int .i64) (.sl none (.pair (.int .i64) (.pair (.int .i64) (.pair (.int .i64) (.int .i64))))))) (.pair (.sl none (.pair (.int .i64) (.int .i64))) (.sl none (.int .i64))))))))), .val (.int .i64)], [(.int .i64)], m_laws_heldShardResult⟩

/-! laws.FnExactNewShard -/
def p_laws_FnExactNewShard (n : Nat) (x : (Int × (List (Int × (Int × Int))))) : Option Bool :=
((m_laws_szBalanceS (x.2, (1048576 : Int))).bind fun r1 =>
(cond (decide (r1 < (0 : Int)))
 (some true)
 ((m_laws_toBalanceS x.2).bind fun r2 =>
 ((m_spec_NewShard (x.1, r2)).bind fun r3 =>
 ((m_laws_toBalanceS x.2).bind fun r4 =>
 ((m_impl_NewShard (x.1, r4)).bind fun r5 =>
 ((m_laws_eqShardResult (r5, r3)).bind fun r6 =>
 (cond (!r6)
  (some false)
  ((m_laws_toBalanceS x.2).bind fun r7 =>
  ((m_laws_eqBalanceS (r4, r7)).bind fun r8 =>
  (cond (!r8)
   (some false)
   ((m_laws_markBalanceS (r4, (1 : Int))).bind fun r9 =>
   (Option.bind (α := Bool)
    (cond (decide (r9.1 < (0 : Int)))
     (some true)
     ((m_laws_eqShardResult (r5, r3)).bind fun r11 =>
     some (!r11))) fun j12 =>
   (cond j12
    (some false)
    ((m_laws_markBalanceS (r5.2.2.2.1, (1 : Int))).bind fun r13 =>
    ((m_laws_markMarkS (r5.2.2.2.2.1, r13.1)).bind fun r14 =>
    ((m_laws_markContractS (r5.2.2.2.2.2.1, r14.1)).bind fun r15 =>
    ((m_laws_markMarkS (r5.2.2.2.2.2.2.1, r15.1)).bind fun r16 =>
    ((m_laws_markInt64S (r5.2.2.2.2.2.2.2, r16.1)).bind fun r17 =>
    ((m_laws_heldShardResult ((r5.1, (r5.2.1, (r5.2.2.1, (r13.2, (r14.2, (r15.2, (r16.2, r17.2))))))), (1 : Int))).bind fun r18 =>
    (cond (decide (r18 < (0 : Int)))
     (some false)
     (cond (!(r18 == r17.1))
      (some false)
      ((m_laws_toBalanceS x.2).bind fun r19 =>
      ((m_impl_NewShard (x.1, r19)).bind fun r20 =>
      ((m_laws_eqShardResult (r20, r3)).bind fun r21 =>
      (cond (!r21)
       (some false)
       ((m_laws_heldShardResult ((r5.1, (r5.2.1, (r5.2.2.1, (r13.2, (r14.2, (r15.2, (r16.2, r17.2))))))), (1 : Int))).bind fun r22 =>
       (cond (decide (r22 < (0 : Int)))
        (some false)
        (cond (!(r22 == r17.1))
         (some false)
         (some true))))))))))))))))))))))))))))))
def m_laws_FnExactNewShard (x : (Int × (List (Int × (Int × Int))))) : Option Bool := p_laws_FnExactNewShard FU x
def a_laws_FnExactNewShard : Ann := (.node .leaf (.node .leaf (.node .leaf (.node .leaf (.node .leaf (.node .leaf (.node .leaf (.node .leaf (.node .leaf (.node .leaf (.node .leaf (.node (.join [.slot 46 .bool] [39, 40, 41, 42, 43, 44, 45] .leaf .leaf) .leaf))))))))))))
def S_laws_FnExactNewShard : FSpec := ⟨[.val (.int .i64), .val (.sl none (.pair (.int .i64) (.pair (.int .i64) (.int .i64))))], [.bool], m_laws_FnExactNewShard⟩

def T : Tab := [
  (2, ⟨false, 1, 8, [], 0, [.int .i64 0], some (.int .i64), [0]⟩),
  (3, ⟨false, 1, 8, [], 0, [.int .i64 0], some (.int .i64), [0]⟩),
  (23, ⟨false, 1, 24, [], 2, [.nil], some (.sl none (.int .i64)), []⟩),
  (34, ⟨false, 1, 24, [], 99, [.nil], some (.sl none (.pair (.int .i64) (.pair (.int .i64) (.int .i64)))), []⟩),
  (36, ⟨false, 1, 24, [], 97, [.nil], some (.sl none (.pair (.int .i64) (.pair (.int .i64) (.int .i64)))), []⟩),
  (37, ⟨false, 1, 24, [], 193, [.nil], some (.sl none (.pair (.int .i64) (.int .i64))), []⟩),
  (38, ⟨false, 1, 24, [], 197, [.nil], some (.sl none (.pair (.int .i64) (.sl none (.pair (.int .i64) (.pair (.int .i64) (.pair (.int .i64) (.int .i64))))))), []⟩),
  (40, ⟨true, 6, 128, [(0, 1, 2), (1, 1, 36), (2, 1, 37), (3, 1, 38), (4, 1, 37), (5, 1, 23)], 0, [.int .i64 0, .nil, .nil, .nil, .nil, .nil], some (.pair (.int .i64) (.pair (.sl none (.pair (.int .i64) (.pair (.int .i64) (.int .i64)))) (.pair (.sl none (.pair (.int .i64) (.int .i64))) (.pair (.sl none (.pair (.int .i64) (.sl none (.pair (.int .i64) (.pair (.int .i64) (.pair (.int .i64) (.int .i64))))))) (.pair (.sl none (.pair (.int .i64) (.int .i64))) (.sl none (.int .i64))))))), []⟩),
  (42, ⟨true, 8, 144, [(0, 1, 2), (1, 1, 2), (2, 6, 40)], 0, [.int .i64 0, .int .i64 0, .int .i64 0, .nil, .nil, .nil, .nil, .nil], some (.pair (.int .i64) (.pair (.int .i64) (.pair (.int .i64) (.pair (.sl none (.pair (.int .i64) (.pair (.int .i64) (.int .i64)))) (.pair (.sl none (.pair (.int .i64) (.int .i64))) (.pair (.sl none (.pair (.int .i64) (.sl none (.pair (.int .i64) (.pair (.int .i64) (.pair (.int .i64) (.int .i64))))))) (.pair (.sl none (.pair (.int .i64) (.int .i64))) (.sl none (.int .i64))))))))), []⟩),
  (97, ⟨true, 3, 24, [(0, 1, 2), (1, 1, 2), (2, 1, 2)], 0, [.int .i64 0, .int .i64 0, .int .i64 0], some (.pair (.int .i64) (.pair (.int .i64) (.int .i64))), [0, 0, 0]⟩),
  (99, ⟨true, 3, 24, [(0, 1, 2), (1, 1, 2), (2, 1, 2)], 0, [.int .i64 0, .int .i64 0, .int .i64 0], some (.pair (.int .i64) (.pair (.int .i64) (.int .i64))), [0, 0, 0]⟩),
  (193, ⟨true, 2, 16, [(0, 1, 2), (1, 1, 2)], 0, [.int .i64 0, .int .i64 0], some (.pair (.int .i64) (.int .i64)), [0, 0]⟩),
  (195, ⟨false, 1, 24, [], 234, [.nil], some (.sl none (.pair (.int .i64) (.pair (.int .i64) (.pair (.int .i64) (.int .i64))))), []⟩),
  (197, ⟨true, 2, 32, [(0, 1, 2), (1, 1, 195)], 0, [.int .i64 0, .nil], some (.pair (.int .i64) (.sl none (.pair (.int .i64) (.pair (.int .i64) (.pair (.int .i64) (.int .i64)))))), []⟩),
  (230, ⟨false, 1, 24, [], 3, [.nil], some (.sl none (.int .i64)), []⟩),
  (234, ⟨true, 4, 32, [(0, 1, 2), (1, 1, 2), (2, 1, 2), (3, 1, 2)], 0, [.int .i64 0, .int .i64 0, .int .i64 0, .int .i64 0], some (.pair (.int .i64) (.pair (.int .i64) (.pair (.int .i64) (.int .i64)))), [0, 0, 0, 0]⟩)]
def G_laws_szBalanceS : Env := (16, S_laws_szBalanceS) :: []
def G_laws_toBalance : Env := (65, S_laws_toBalance) :: G_laws_szBalanceS
def G_laws_toBalanceS : Env := (18, S_laws_toBalanceS) :: G_laws_toBalance
def G_spec_l1In : Env := (116, S_spec_l1In) :: G_laws_toBalanceS
def G_spec_l2Key : Env := (180, S_spec_l2Key) :: G_spec_l1In
def G_spec_BalancesFault : Env := (128, S_spec_BalancesFault) :: G_spec_l2Key
def G_spec_l10Base : Env := (64, S_spec_l10Base) :: G_spec_BalancesFault
def G_spec_NewShard : Env := (17, S_spec_NewShard) :: G_spec_l10Base
def G_impl_within : Env := (129, S_impl_within) :: G_spec_NewShard
def G_impl_isShard : Env := (66, S_impl_isShard) :: G_impl_within
def G_impl_isAsset : Env := (181, S_impl_isAsset) :: G_impl_isShard
def G_impl_isPlace : Env := (130, S_impl_isPlace) :: G_impl_isAsset
def G_cmp_isNaN_int64 : Env := (230, S_cmp_isNaN_int64) :: G_impl_isPlace
def G_cmp_Compare_int64 : Env := (177, S_cmp_Compare_int64) :: G_cmp_isNaN_int64
def G_cmp_Or_int : Env := (175, S_cmp_Or_int) :: G_cmp_Compare_int64
def G_impl_comparePlaces : Env := (131, S_impl_comparePlaces) :: G_cmp_Or_int
def G_impl_BalancesFault : Env := (67, S_impl_BalancesFault) :: G_impl_comparePlaces
def G_slices_Clone_impl_Balance_impl_Balance : Env := (68, S_slices_Clone_impl_Balance_impl_Balance) :: G_impl_BalancesFault
def G_impl_NewShard : Env := (19, S_impl_NewShard) :: G_slices_Clone_impl_Balance_impl_Balance
def G_laws_eqBalance : Env := (70, S_laws_eqBalance) :: G_impl_NewShard
def G_laws_eqBalanceS : Env := (21, S_laws_eqBalanceS) :: G_laws_eqBalance
def G_laws_eqMark : Env := (182, S_laws_eqMark) :: G_laws_eqBalanceS
def G_laws_eqMarkS : Env := (132, S_laws_eqMarkS) :: G_laws_eqMark
def G_laws_eqLeg : Env := (247, S_laws_eqLeg) :: G_laws_eqMarkS
def G_laws_eqLegS : Env := (232, S_laws_eqLegS) :: G_laws_eqLeg
def G_laws_eqContract : Env := (183, S_laws_eqContract) :: G_laws_eqLegS
def G_laws_eqContractS : Env := (133, S_laws_eqContractS) :: G_laws_eqContract
def G_laws_eqInt64S : Env := (63, S_laws_eqInt64S) :: G_laws_eqContractS
def G_laws_eqShard : Env := (69, S_laws_eqShard) :: G_laws_eqInt64S
def G_laws_eqShardResult : Env := (20, S_laws_eqShardResult) :: G_laws_eqShard
def G_laws_markBalanceS : Env := (22, S_laws_markBalanceS) :: G_laws_eqShardResult
def G_laws_markMarkS : Env := (134, S_laws_markMarkS) :: G_laws_markBalanceS
def G_laws_markLegS : Env := (184, S_laws_markLegS) :: G_laws_markMarkS
def G_laws_markContractS : Env := (135, S_laws_markContractS) :: G_laws_markLegS
def G_laws_markInt64S : Env := (75, S_laws_markInt64S) :: G_laws_markContractS
def G_laws_heldBalanceS : Env := (136, S_laws_heldBalanceS) :: G_laws_markInt64S
def G_laws_heldMarkS : Env := (137, S_laws_heldMarkS) :: G_laws_heldBalanceS
def G_laws_heldLegS : Env := (185, S_laws_heldLegS) :: G_laws_heldMarkS
def G_laws_heldContractS : Env := (138, S_laws_heldContractS) :: G_laws_heldLegS
def G_laws_heldInt64S : Env := (76, S_laws_heldInt64S) :: G_laws_heldContractS
def G_laws_heldShard : Env := (72, S_laws_heldShard) :: G_laws_heldInt64S
def G_laws_heldShardResult : Env := (24, S_laws_heldShardResult) :: G_laws_heldShard
def G_laws_FnExactNewShard : Env := (4, S_laws_FnExactNewShard) :: G_laws_heldShardResult
end
end Go.RvP
