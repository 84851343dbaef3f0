/- The plain functions that the evaluator comes to, for FnOutcomes. No condition. -/
import Derived.Test.YtccghpomkikjoaaGreatRvL
import Derived.Test.YtccghpomkikjoaaGreatRvY
import Derived.Test.YtccghpomkikjoaaGreatRvS
import Derived.Test.YtccghpomkikjoaaGreatRvT
namespace Go.RvP
open Go Go.Rv
noncomputable section
abbrev Kd20 : Kd := (.sl none (.int .i64))
abbrev Kd19 : Kd := (.sl (some 2) (.int .i64))
abbrev Kd18 : Kd := (.pair (.int .i64) (.int .i64))
abbrev Kd17 : Kd := (.pair (.sl none (.int .u8)) (.int .i64))
abbrev Kd16 : Kd := (.sl none Kd18)
abbrev Kd15 : Kd := (.sl (some 79) Kd18)
abbrev Kd14 : Kd := (.pair (.int .i64) (.pair (.int .i64) Kd18))
abbrev Kd13 : Kd := (.sl none Kd14)
abbrev Kd12 : Kd := (.pair (.int .i64) Kd13)
abbrev Kd11 : Kd := (.pair (.int .i64) (.sl (some 194) Kd14))
abbrev Kd10 : Kd := (.pair (.int .i64) (.pair (.int .i64) (.pair (.int .i64) (.pair Kd18 Kd16))))
abbrev Kd9 : Kd := (.pair (.int .i64) (.pair (.int .i64) (.pair (.int .i64) (.pair Kd18 Kd15))))
abbrev Kd8 : Kd := (.sl none Kd10)
abbrev Kd7 : Kd := (.one Kd8)
abbrev Kd6 : Kd := (.sl (some 135) Kd9)
abbrev Kd5 : Kd := (.one Kd6)
abbrev Kd4 : Kd := (.sl none Kd7)
abbrev Kd3 : Kd := (.sl (some 124) Kd5)
abbrev Kd2 : Kd := (.pair (.int .i64) (.pair Kd18 Kd9))
abbrev Kd1 : Kd := (.pair (.int .i64) (.pair Kd18 Kd5))
/-! laws.lwBig -/
def p_laws_lwBig (n : Nat) (x : (List Int)) : Option Bool :=
some (decide ((lenI x) > (1048576 : Int)))
def m_laws_lwBig (x : (List Int)) : Option Bool := p_laws_lwBig FU x
def a_laws_lwBig : Ann := .leaf
def S_laws_lwBig : FSpec := ⟨[.val (.sl none (.int .u8))], [.bool], m_laws_lwBig⟩

/-! spec.l1Next -/
def p_spec_l1Next (n : Nat) (x : (((List Int) × Int) × Int)) : Option (Int × ((List Int) × Int)) :=
(cond (decide (x.2 < (1 : Int)))
 (some ((0 : Int), (x.1.1, IntKind.wrap .i64 (x.1.2 + (1 : Int)))))
 (cond ((lenI x.1.1) == (0 : Int))
  (cond (x.2 == 0) none
   (some (Int.tmod (IntKind.wrap .i64 ((IntKind.wrap .i64 ((IntKind.wrap .i64 (x.1.2 + (1 : Int))) - (1 : Int))) * (7 : Int))) x.2, (x.1.1, IntKind.wrap .i64 (x.1.2 + (1 : Int))))))
  (cond ((lenI x.1.1) == 0) none
   ((geti x.1.1 (Int.tmod (IntKind.wrap .i64 ((IntKind.wrap .i64 (x.1.2 + (1 : Int))) - (1 : Int))) (lenI x.1.1))).bind fun y1 =>
   (cond ((lenI x.1.1) == 0) none
    (cond (decide (x.2 > (200 : Int)))
     (cond ((lenI x.1.1) == 0) none
      ((geti x.1.1 (Int.tmod (IntKind.wrap .i64 ((IntKind.wrap .i64 ((IntKind.wrap .i64 (x.1.2 + (1 : Int))) - (1 : Int))) + (1 : Int))) (lenI x.1.1))).bind fun y2 =>
      (cond (x.2 == 0) none
       (some (Int.tmod (IntKind.wrap .i64 ((IntKind.wrap .i64 ((IntKind.wrap .i64 ((IntKind.wrap .i64 ((IntKind.wrap .i64 y1) + (IntKind.wrap .i64 ((IntKind.wrap .i64 (Int.tdiv (IntKind.wrap .i64 ((IntKind.wrap .i64 (x.1.2 + (1 : Int))) - (1 : Int))) (lenI x.1.1))) * (37 : Int))))) * (251 : Int))) + (IntKind.wrap .i64 ((IntKind.wrap .i64 y2) * (13 : Int))))) + (IntKind.wrap .i64 ((IntKind.wrap .i64 (x.1.2 + (1 : Int))) - (1 : Int))))) x.2, (x.1.1, IntKind.wrap .i64 (x.1.2 + (1 : Int))))))))
     (cond (x.2 == 0) none
      (some (Int.tmod (IntKind.wrap .i64 ((IntKind.wrap .i64 y1) + (IntKind.wrap .i64 ((IntKind.wrap .i64 (Int.tdiv (IntKind.wrap .i64 ((IntKind.wrap .i64 (x.1.2 + (1 : Int))) - (1 : Int))) (lenI x.1.1))) * (37 : Int))))) x.2, (x.1.1, IntKind.wrap .i64 (x.1.2 + (1 : Int))))))))))))
def m_spec_l1Next (x : (((List Int) × Int) × Int)) : Option (Int × ((List Int) × Int)) := p_spec_l1Next FU x
def a_spec_l1Next : Ann := .leaf
def S_spec_l1Next : FSpec := ⟨[.box Kd17, .val (.int .i64)], [(.int .i64)], m_spec_l1Next⟩

/-! spec.l1In -/
def p_spec_l1In (n : Nat) (x : (Int × (Int × Int))) : Option Bool :=
(cond (decide (x.1 ≥ x.2.1))
 (some (decide (x.1 ≤ x.2.2)))
 (some false))
def m_spec_l1In (x : (Int × (Int × Int))) : Option Bool := p_spec_l1In FU x
def a_spec_l1In : Ann := .leaf
def S_spec_l1In : FSpec := ⟨[.val (.int .i64), .val (.int .i64), .val (.int .i64)], [.bool], m_spec_l1In⟩

/-! spec.l1Id -/
def p_spec_l1Id (n : Nat) (x : Int) : Option Bool :=
((m_spec_l1In (x, (1 : Int), (1000000000 : Int))).bind fun r1 =>
some r1)
def m_spec_l1Id (x : Int) : Option Bool := p_spec_l1Id FU x
def a_spec_l1Id : Ann := .leaf
def S_spec_l1Id : FSpec := ⟨[.val (.int .i64)], [.bool], m_spec_l1Id⟩

/-! spec.LegFault -/
def p_spec_LegFault (n : Nat) (x : (Int × (Int × (Int × Int)))) : Option Int :=
(Option.bind (α := Bool)
 ((m_spec_l1In (x.1, (0 : Int), (2 : Int))).bind fun r5 =>
 (cond (!r5)
  (some true)
  ((m_spec_l1In (x.2.1, (0 : Int), (5 : Int))).bind fun r6 =>
  (cond (!r6)
   (some true)
   ((m_spec_l1In (x.2.2.1, (0 : Int), (2 : Int))).bind fun r7 =>
   (cond (!r7)
    (some true)
    ((m_spec_l1In (x.2.2.2, (-1000000000000 : Int), (1000000000000 : Int))).bind fun r8 =>
    some (!r8)))))))) fun j9 =>
(cond j9
 (some (3 : Int))
 (cond (x.2.2.2 == (0 : Int))
  (some (1 : Int))
  (some (0 : Int)))))
def m_spec_LegFault (x : (Int × (Int × (Int × Int)))) : Option Int := p_spec_LegFault FU x
def a_spec_LegFault : Ann := (.node .leaf (.node (.join [.slot 24 .bool] [3, 4, 5, 6, 7, 8, 9, 10, 11, 12, 13, 14, 15, 16, 17, 18, 19, 20, 21, 22, 23] .leaf .leaf) .leaf))
def S_spec_LegFault : FSpec := ⟨[.val Kd14], [(.int .i64)], m_spec_LegFault⟩

/-! spec.ContractFault -/
def l_spec_ContractFault_1 (n : Nat) (z225_1 : Int) (x_2 : (List (Int × (Int × (Int × Int))))) (y248_1 : Int) (y248_2_1 : Int) (y248_2_2_1 : Int) (z0 : Int) : Option (Unit ⊕ ((List Int) ⊕ ((List Int) ⊕ Int))) :=
(lp (fun rec262 (z261 : Int) =>
 (cond (decide (z261 < z225_1))
  ((geti x_2 z261).bind fun y263 =>
  (Option.bind (α := Bool)
   (cond (y263.1 == y248_1)
    (cond (y263.2.1 == y248_2_1)
     (some (y263.2.2.1 == y248_2_2_1))
     (some false))
    (some false)) fun j264 =>
  (cond j264
   (some (Sum.inr (Sum.inr (Sum.inr (7 : Int)))))
   (rec262 (IntKind.wrap .i64 (z261 + (1 : Int)))))))
  (some (Sum.inl ())))) n z0)
def l_spec_ContractFault_2 (n : Nat) (x_2 : (List (Int × (Int × (Int × Int))))) (z0 : (Int × (List Int))) : Option ((List Int) ⊕ Int) :=
(lp (fun rec226 (z225 : (Int × (List Int))) =>
 (cond (decide (z225.1 < (lenI x_2)))
  (Option.bind (α := ((List Int) ⊕ ((List Int) ⊕ Int)))
   ((geti x_2 z225.1).bind fun y248 =>
   ((m_spec_LegFault y248).bind fun r249 =>
   (cond (!(r249 == (0 : Int)))
    (some (Sum.inr (Sum.inr r249)))
    (Option.bind (α := (Unit ⊕ ((List Int) ⊕ ((List Int) ⊕ Int))))
     (l_spec_ContractFault_1 n z225.1 x_2 y248.1 y248.2.1 y248.2.2.1 (0 : Int))
     (Sum.elim (fun j266 =>
    ((geti z225.2 y248.2.2.1).bind fun _ =>
    ((z225.2[y248.2.2.1.toNat]?).bind fun y267 =>
    ((geti z225.2 y248.2.2.1).bind fun _ =>
    ((z225.2[y248.2.2.1.toNat]?).bind fun y268 =>
    some (Sum.inl (z225.2.set y248.2.2.1.toNat (IntKind.wrap .i64 (y267 + y248.2.2.2))))))))) some)))))
   (Sum.elim (fun j269 =>
  rec226 (IntKind.wrap .i64 (z225.1 + (1 : Int)), j269)) some))
  (some (Sum.inl z225.2)))) n z0)
def l_spec_ContractFault_3 (n : Nat) (j271 : (List Int)) (z0 : Int) : Option Int :=
(lp (fun rec275 (z274 : Int) =>
 (cond (decide (z274 < (lenI j271)))
  ((geti j271 z274).bind fun _ =>
  ((j271[z274.toNat]?).bind fun y276 =>
  (cond (!(y276 == (0 : Int)))
   (some (1 : Int))
   (rec275 (IntKind.wrap .i64 (z274 + (1 : Int)))))))
  (some (0 : Int)))) n z0)
def p_spec_ContractFault (n : Nat) (x : (Int × (List (Int × (Int × (Int × Int)))))) : Option Int :=
((m_spec_l1Id x.1).bind fun r1 =>
(cond (!r1)
 (some (3 : Int))
 (Option.bind (α := Bool)
  (cond (decide ((lenI x.2) < (2 : Int)))
   (some true)
   (some (decide ((lenI x.2) > (8 : Int))))) fun j2 =>
 (cond j2
  (some (2 : Int))
  (if (3 : Int) = (3 : Int) then (if 0 ≤ (3 : Int) then chk (Nat.ble (8 * (3 : Int).toNat) maxBytes)
  (Option.bind (α := ((List Int) ⊕ Int))
   (l_spec_ContractFault_2 n x.2 ((0 : Int), (List.replicate (3 : Int).toNat (0 : Int))))
   (Sum.elim (fun j271 =>
  (l_spec_ContractFault_3 n j271 (0 : Int))) some)) else none) else none)))))
def m_spec_ContractFault (x : (Int × (List (Int × (Int × (Int × Int)))))) : Option Int := p_spec_ContractFault FU x
def a_spec_ContractFault : Ann := (.node .leaf (.node .leaf (.node (.join [.slot 23 .bool] [14, 15, 16, 17, 18, 19, 20, 21, 22] .leaf .leaf) (.node .leaf (.joinx [.row 1 2 (.int .i64)] [2, 4, 5, 6, 7, 8, 25, 26, 27, 28, 29, 30, 31, 32, 33, 34, 35, 36, 37, 38, 39, 40, 41, 42, 43, 44, 45, 46, 47, 48, 49, 50, 51, 52, 53, 54, 55, 56, 57, 58, 59, 60, 61, 62, 63, 64, 65, 66, 67, 68, 69, 70, 71, 72, 73, 74, 75, 76, 77, 78, 79, 80, 81, 82] (.node .leaf (.loop [.slot 4 (.int .i64), .row 1 2 (.int .i64)] [2, 5, 6, 7, 8, 25, 26, 27, 28, 29, 30, 31, 32, 33, 34, 35, 36, 37, 38, 39, 40, 41, 42, 43, 44, 45, 46, 47, 48, 49, 50, 51, 52, 53, 54, 55, 56, 57, 58, 59, 60, 61, 62, 63, 64, 65, 66, 67, 68, 69, 70, 71, 72, 73, 74, 75, 76, 77, 78, 79, 80, 81, 82] (.node .leaf (.joinx [.row 1 2 (.int .i64)] [2, 5, 6, 7, 8, 32, 33, 34, 35, 36, 37, 38, 39, 40, 42, 43, 44, 45, 46, 47, 48, 49, 50, 51, 52, 53, 54, 55, 56, 57, 58, 59, 60, 61, 62, 63, 64, 65, 66, 67, 68, 69, 70, 71, 72, 73, 74, 75, 76, 77, 78, 79, 80, 81, 82] (.node .leaf (.node .leaf (.joinx [] [2, 7, 8, 42, 43, 44, 45, 46, 47, 48, 49, 50, 51, 52, 53, 54, 55, 56, 57, 58, 59, 60, 61, 62, 63, 64, 65, 66, 67, 68, 69, 70] (.node .leaf (.loop [.slot 7 (.int .i64)] [2, 8, 42, 43, 44, 45, 46, 47, 48, 49, 50, 51, 52, 53, 54, 55, 56, 57, 58, 59, 60, 61, 62, 63, 64, 65, 66, 67, 68, 69, 70] (.node .leaf (.node (.node .leaf (.join [.slot 70 .bool] [52, 53, 54, 55, 56, 57, 58, 59, 60, 61, 62, 63, 64, 65, 66, 67, 68, 69] .leaf .leaf)) .leaf)))) .leaf))) .leaf)))) (.node (.node .leaf (.loop [.slot 9 (.int .i64)] [2, 83, 84, 85, 86, 87, 88, 89, 90, 91, 92, 93] .leaf)) .leaf))))))
def S_spec_ContractFault : FSpec := ⟨[.val Kd12], [(.int .i64)], m_spec_ContractFault⟩

/-! spec.l1Draw -/
def l_spec_l1Draw_1 (n : Nat) (x_2 : Int) (z0 : (Int × (((List Int) × Int) × (Int × (List (Int × (Int × (Int × Int)))))))) : Option (((List Int) × Int) × (Int × (List (Int × (Int × (Int × Int)))))) :=
(lp (fun rec46 (z45 : (Int × (((List Int) × Int) × (Int × (List (Int × (Int × (Int × Int)))))))) =>
 (cond (decide (z45.1 > (0 : Int)))
  ((m_spec_l1Next (z45.2.1, (3 : Int))).bind fun r47 =>
  ((m_spec_l1Next (r47.2, (40 : Int))).bind fun r48 =>
  ((m_spec_l1Next (r48.2, (3 : Int))).bind fun r49 =>
  ((m_spec_l1Next (r49.2, (4 : Int))).bind fun r50 =>
  ((m_spec_l1Next (r50.2, (3 : Int))).bind fun r51 =>
  ((m_spec_l1Next (r51.2, (4 : Int))).bind fun r52 =>
  (same
   (chk (Nat.ble (z45.2.2.2.length * 32) maxBytes)
   (dup 1
    (chk (Nat.ble ((z45.2.2.2.length + [(r49.1, (r50.1, (r47.1, IntKind.wrap .i64 (-(IntKind.wrap .i64 ((1 : Int) + r48.1)))))), (r51.1, (r52.1, (r47.1, IntKind.wrap .i64 ((1 : Int) + r48.1))))].length) * 32) maxBytes)
    ((m_spec_ContractFault (x_2, (z45.2.2.2 ++ [(r49.1, (r50.1, (r47.1, IntKind.wrap .i64 (-(IntKind.wrap .i64 ((1 : Int) + r48.1)))))), (r51.1, (r52.1, (r47.1, IntKind.wrap .i64 ((1 : Int) + r48.1))))]))).bind fun r53 =>
    (cond (r53 == (0 : Int))
     (rec46 (IntKind.wrap .i64 (z45.1 - (1 : Int)), r52.2, (x_2, (z45.2.2.2 ++ [(r49.1, (r50.1, (r47.1, IntKind.wrap .i64 (-(IntKind.wrap .i64 ((1 : Int) + r48.1)))))), (r51.1, (r52.1, (r47.1, IntKind.wrap .i64 ((1 : Int) + r48.1))))]))))
     (rec46 (IntKind.wrap .i64 (z45.1 - (1 : Int)), r52.2, z45.2.2)))))))
   (chk (Nat.ble (z45.2.2.2.length * 32) maxBytes)
   (chk (Nat.ble ((z45.2.2.2.length + [(r49.1, (r50.1, (r47.1, IntKind.wrap .i64 (-(IntKind.wrap .i64 ((1 : Int) + r48.1)))))), (r51.1, (r52.1, (r47.1, IntKind.wrap .i64 ((1 : Int) + r48.1))))].length) * 32) maxBytes)
   ((m_spec_ContractFault (x_2, (z45.2.2.2 ++ [(r49.1, (r50.1, (r47.1, IntKind.wrap .i64 (-(IntKind.wrap .i64 ((1 : Int) + r48.1)))))), (r51.1, (r52.1, (r47.1, IntKind.wrap .i64 ((1 : Int) + r48.1))))]))).bind fun r53 =>
   (cond (r53 == (0 : Int))
    (rec46 (IntKind.wrap .i64 (z45.1 - (1 : Int)), r52.2, (x_2, (z45.2.2.2 ++ [(r49.1, (r50.1, (r47.1, IntKind.wrap .i64 (-(IntKind.wrap .i64 ((1 : Int) + r48.1)))))), (r51.1, (r52.1, (r47.1, IntKind.wrap .i64 ((1 : Int) + r48.1))))]))))
    (rec46 (IntKind.wrap .i64 (z45.1 - (1 : Int)), r52.2, z45.2.2)))))))))))))
  (some (z45.2.1, z45.2.2)))) n z0)
def p_spec_l1Draw (n : Nat) (x : (((List Int) × Int) × Int)) : Option ((Int × (List (Int × (Int × (Int × Int))))) × ((List Int) × Int)) :=
(Option.bind (α := (((List Int) × Int) × (Int × (List (Int × (Int × (Int × Int)))))))
 ((m_spec_l1Next (x.1, (2 : Int))).bind fun r28 =>
 (l_spec_l1Draw_1 n x.2 (IntKind.wrap .i64 ((1 : Int) + r28.1), r28.2, (x.2, [])))) fun j55 =>
(cond ((lenI j55.2.2) == (0 : Int))
 (some ((j55.2.1, [((0 : Int), ((0 : Int), ((0 : Int), (-5 : Int)))), ((1 : Int), ((0 : Int), ((0 : Int), (5 : Int))))]), j55.1))
 (some (j55.2, j55.1))))
def m_spec_l1Draw (x : (((List Int) × Int) × Int)) : Option ((Int × (List (Int × (Int × (Int × Int))))) × ((List Int) × Int)) := p_spec_l1Draw FU x
def a_spec_l1Draw : Ann := (.node .leaf (.node .leaf (.join [.box 0 Kd17, .box 1000005 Kd11] [6, 7, 8, 9, 10, 11, 14, 15, 16, 17, 18, 19, 20, 21, 22, 23, 24, 25, 26, 27, 28, 29, 30, 31, 32, 33, 34, 35, 36, 37, 38, 39, 40, 41, 42, 43, 44, 45, 46, 47, 48, 49, 50, 51, 52, 53, 54] (.node .leaf (.loop [.slot 6 (.int .i64), .box 0 Kd17, .box 1000005 Kd11] [7, 8, 9, 10, 11, 17, 18, 19, 20, 21, 22, 23, 24, 25, 26, 27, 28, 29, 30, 31, 32, 33, 34, 35, 36, 37, 38, 39, 40, 41, 42, 43, 44, 45, 46, 47, 48, 49, 50, 51, 52, 53, 54] (.node .leaf (.node (.node .leaf (.node .leaf (.node .leaf (.node .leaf (.node (.lazy 48 (.lazy 42 .leaf)) .leaf))))) .leaf)))) .leaf)))
def S_spec_l1Draw : FSpec := ⟨[.box Kd17, .val (.int .i64)], [Kd11], m_spec_l1Draw⟩

/-! spec.DrawRightContract -/
def p_spec_DrawRightContract (n : Nat) (x : ((List Int) × Int)) : Option (Int × (List (Int × (Int × (Int × Int))))) :=
(chk (Nat.ble (([IntKind.wrap .u8 x.2].length + x.1.length) * 1) maxBytes)
((m_spec_l1Draw ((([IntKind.wrap .u8 x.2] ++ x.1), (0 : Int)), x.2)).bind fun r1 =>
some r1.1))
def m_spec_DrawRightContract (x : ((List Int) × Int)) : Option (Int × (List (Int × (Int × (Int × Int))))) := p_spec_DrawRightContract FU x
def a_spec_DrawRightContract : Ann := .leaf
def S_spec_DrawRightContract : FSpec := ⟨[.val (.sl none (.int .u8)), .val (.int .i64)], [Kd11], m_spec_DrawRightContract⟩

/-! impl.within -/
def p_impl_within (n : Nat) (x : (Int × (Int × Int))) : Option Bool :=
(cond (decide (x.1 ≥ x.2.1))
 (some (decide (x.1 ≤ x.2.2)))
 (some false))
def m_impl_within (x : (Int × (Int × Int))) : Option Bool := p_impl_within FU x
def a_impl_within : Ann := .leaf
def S_impl_within : FSpec := ⟨[.val (.int .i64), .val (.int .i64), .val (.int .i64)], [.bool], m_impl_within⟩

/-! impl.isId -/
def p_impl_isId (n : Nat) (x : Int) : Option Bool :=
((m_impl_within (x, (1 : Int), (1000000000 : Int))).bind fun r1 =>
some r1)
def m_impl_isId (x : Int) : Option Bool := p_impl_isId FU x
def a_impl_isId : Ann := .leaf
def S_impl_isId : FSpec := ⟨[.val (.int .i64)], [.bool], m_impl_isId⟩

/-! impl.Leg] -/
def p_impl_size_impl_Leg (n : Nat) (x : (List (Int × (Int × (Int × Int))))) : Option Int :=
some (lenI x)
def m_impl_size_impl_Leg (x : (List (Int × (Int × (Int × Int))))) : Option Int := p_impl_size_impl_Leg FU x
def a_impl_size_impl_Leg : Ann := .leaf
def S_impl_size_impl_Leg : FSpec := ⟨[.val Kd13], [(.int .i64)], m_impl_size_impl_Leg⟩

/-! impl.isShard -/
def p_impl_isShard (n : Nat) (x : Int) : Option Bool :=
((m_impl_within (x, (0 : Int), (2 : Int))).bind fun r1 =>
some r1)
def m_impl_isShard (x : Int) : Option Bool := p_impl_isShard FU x
def a_impl_isShard : Ann := .leaf
def S_impl_isShard : FSpec := ⟨[.val (.int .i64)], [.bool], m_impl_isShard⟩

/-! impl.isAsset -/
def p_impl_isAsset (n : Nat) (x : Int) : Option Bool :=
((m_impl_within (x, (0 : Int), (2 : Int))).bind fun r1 =>
some r1)
def m_impl_isAsset (x : Int) : Option Bool := p_impl_isAsset FU x
def a_impl_isAsset : Ann := .leaf
def S_impl_isAsset : FSpec := ⟨[.val (.int .i64)], [.bool], m_impl_isAsset⟩

/-! impl.isPlace -/
def p_impl_isPlace (n : Nat) (x : (Int × Int)) : Option Bool :=
((m_impl_within (x.1, (0 : Int), (5 : Int))).bind fun r1 =>
(cond r1
 ((m_impl_isAsset x.2).bind fun r2 =>
 some r2)
 (some false)))
def m_impl_isPlace (x : (Int × Int)) : Option Bool := p_impl_isPlace FU x
def a_impl_isPlace : Ann := .leaf
def S_impl_isPlace : FSpec := ⟨[.val (.int .i64), .val (.int .i64)], [.bool], m_impl_isPlace⟩

/-! impl.LegFault -/
def p_impl_LegFault (n : Nat) (x : (Int × (Int × (Int × Int)))) : Option Int :=
(Option.bind (α := Bool)
 ((m_impl_isShard x.1).bind fun r4 =>
 (cond (!r4)
  (some true)
  ((m_impl_isPlace (x.2.1, x.2.2.1)).bind fun r5 =>
  (cond (!r5)
   (some true)
   ((m_impl_within (x.2.2.2, (-1000000000000 : Int), (1000000000000 : Int))).bind fun r6 =>
   some (!r6)))))) fun j7 =>
(cond j7
 (some (3 : Int))
 (cond (x.2.2.2 == (0 : Int))
  (some (1 : Int))
  (some (0 : Int)))))
def m_impl_LegFault (x : (Int × (Int × (Int × Int)))) : Option Int := p_impl_LegFault FU x
def a_impl_LegFault : Ann := (.node .leaf (.node (.join [.slot 3 .bool] [4, 5, 6, 7, 8, 9, 10, 11, 12, 13, 14, 15, 16, 17, 18, 19, 20, 21] .leaf .leaf) .leaf))
def S_impl_LegFault : FSpec := ⟨[.val Kd14], [(.int .i64)], m_impl_LegFault⟩

/-! impl.samePlace -/
def p_impl_samePlace (n : Nat) (x : ((Int × (Int × (Int × Int))) × (Int × (Int × (Int × Int))))) : Option Bool :=
(cond (x.1.1 == x.2.1)
 (cond (x.1.2.1 == x.2.2.1)
  (some (x.1.2.2.1 == x.2.2.2.1))
  (some false))
 (some false))
def m_impl_samePlace (x : ((Int × (Int × (Int × Int))) × (Int × (Int × (Int × Int))))) : Option Bool := p_impl_samePlace FU x
def a_impl_samePlace : Ann := .leaf
def S_impl_samePlace : FSpec := ⟨[.val Kd14, .val Kd14], [.bool], m_impl_samePlace⟩

/-! impl.ContractFault -/
def l_impl_ContractFault_1 (n : Nat) (z106_1 : Int) (x_2 : (List (Int × (Int × (Int × Int))))) (y108 : (Int × (Int × (Int × Int)))) (z0 : Int) : Option Int :=
(lp (fun rec122 (z121 : Int) =>
 (cond (decide (z121 < (lenI (cutL none (some z106_1) x_2))))
  ((geti (cutL none (some z106_1) x_2) z121).bind fun y123 =>
  ((m_impl_samePlace (y123, y108)).bind fun r124 =>
  (cond r124
   (some z121)
   (rec122 (IntKind.wrap .i64 (z121 + (1 : Int)))))))
  (some (-1 : Int)))) n z0)
def l_impl_ContractFault_2 (n : Nat) (x_2 : (List (Int × (Int × (Int × Int))))) (z0 : (Int × (List (Int × Int)))) : Option ((List (Int × Int)) ⊕ Int) :=
(lp (fun rec107 (z106 : (Int × (List (Int × Int)))) =>
 (cond (decide (z106.1 < (lenI x_2)))
  ((geti x_2 z106.1).bind fun y108 =>
  ((m_impl_LegFault y108).bind fun r109 =>
  (cond (!(r109 == (0 : Int)))
   (some (Sum.inr r109))
   (chk (bndB none (some z106.1) none x_2.length)
    (Option.bind (α := Int)
     (l_impl_ContractFault_1 n z106.1 x_2 y108 (0 : Int)) fun j126 =>
    (cond (decide (j126 ≥ (0 : Int)))
     (some (Sum.inr (7 : Int)))
     (rec107 (IntKind.wrap .i64 (z106.1 + (1 : Int)), (mupd (.int .i64) z106.2 y108.2.2.1 (IntKind.wrap .i64 ((mlook (.int .i64) z106.2 y108.2.2.1) + y108.2.2.2)))))))))))
  (some (Sum.inl z106.2)))) n z0)
def l_impl_ContractFault_3 (n : Nat) (j128 : (List (Int × Int))) (z0 : (Int × (List Int))) : Option Int :=
(lp (fun rec140 (z139 : (Int × (List Int))) =>
 (chk (z139.1 == lenI j128)
 (drawM (leftM z139.1 z139.2) (fun y141 =>
 ((geti j128 y141).bind fun y142 =>
 (chk (z139.1 == lenI j128)
 (((z139.2 ++ [y141]).getLast?).bind fun y143 =>
 ((geti j128 y143).bind fun y144 =>
 (cond (!(y144.2 == (0 : Int)))
  (some (1 : Int))
  (rec140 (z139.1, (z139.2 ++ [y141])))))))))
  (some (0 : Int))))) n z0)
def p_impl_ContractFault (n : Nat) (x : (Int × (List (Int × (Int × (Int × Int)))))) : Option Int :=
((m_impl_isId x.1).bind fun r1 =>
(cond (!r1)
 (some (3 : Int))
 ((m_impl_size_impl_Leg x.2).bind fun r2 =>
 ((m_impl_within (r2, (2 : Int), (8 : Int))).bind fun r3 =>
 (cond (!r3)
  (some (2 : Int))
  (Option.bind (α := ((List (Int × Int)) ⊕ Int))
   (l_impl_ContractFault_2 n x.2 ((0 : Int), ([] : List (Int × Int))))
   (Sum.elim (fun j128 =>
  (l_impl_ContractFault_3 n j128 ((lenI j128), ([] : List Int)))) some)))))))
def m_impl_ContractFault (x : (Int × (List (Int × (Int × (Int × Int)))))) : Option Int := p_impl_ContractFault FU x
def a_impl_ContractFault : Ann := (.node .leaf (.node .leaf (.node .leaf (.joinx [.map 1 (.int .i64) .i64] [2, 4, 5, 6, 21, 22, 23, 24, 25, 26, 27, 28, 29, 30, 31, 32, 33, 34, 35, 36, 37, 38, 39, 40, 41, 42, 43, 44, 45, 46, 47] (.node .leaf (.loop [.slot 24 (.int .i64), .map 1 (.int .i64) .i64] [2, 4, 5, 6, 25, 26, 27, 28, 29, 30, 31, 32, 33, 34, 35, 36, 37, 38, 39, 40, 41, 42, 43, 44, 45, 46, 47] (.node .leaf (.node .leaf (.node (.node .leaf (.node .leaf (.node (.node (.reg 39 (.node .leaf (.node (.regj 7 [.slot 7 (.int .i64)] [] (.node .leaf (.node (.node .leaf (.loop [.slot 8 (.int .i64)] [4, 5, 9, 10, 11, 12, 13, 14, 15, 16, 17, 18] .leaf)) .leaf)) .leaf) .leaf)) .leaf) .leaf) .leaf))) .leaf))))) (.node (.node .leaf (.loop [.iter 2 1] [2, 8, 50, 51, 52, 53, 54, 55] .leaf)) .leaf)))))
def S_impl_ContractFault : FSpec := ⟨[.val Kd12], [(.int .i64)], m_impl_ContractFault⟩

/-! slices.Sort[[]int64,int64] -/
def p_slices_Sort_int64_int64 (n : Nat) (x : (List Int)) : Option (List Int) :=
sortIRun x
def m_slices_Sort_int64_int64 (x : (List Int)) : Option (List Int) := p_slices_Sort_int64_int64 FU x
def a_slices_Sort_int64_int64 : Ann := .leaf
def S_slices_Sort_int64_int64 : FSpec := ⟨[.row 2 (.int .i64)], [], m_slices_Sort_int64_int64⟩

/-! slices.Compact[[]int64,int64] -/
def l_slices_Compact_int64_int64_1 (n : Nat) (x : (List Int)) (z77 : Int) (z0 : (Int × (Int × (List Int)))) : Option (Int × (List Int)) :=
(lp (fun rec146 (z145 : (Int × (Int × (List Int)))) =>
 (cond (decide (z145.2.1 < (((x.length - z77.toNat) : Nat) : Int)))
  ((geti ((z145.2.2.drop z77.toNat).take (x.length - z77.toNat)) z145.2.1).bind fun _ =>
  ((z145.2.2[(z77.toNat + z145.2.1.toNat)]?).bind fun y147 =>
  ((geti ((z145.2.2.drop z77.toNat).take (x.length - z77.toNat)) (IntKind.wrap .i64 (z145.2.1 - (1 : Int)))).bind fun _ =>
  ((z145.2.2[(z77.toNat + (IntKind.wrap .i64 (z145.2.1 - (1 : Int))).toNat)]?).bind fun y148 =>
  (cond (!(y147 == y148))
   ((geti ((z145.2.2.drop z77.toNat).take (x.length - z77.toNat)) z145.2.1).bind fun _ =>
   ((z145.2.2[(z77.toNat + z145.2.1.toNat)]?).bind fun y149 =>
   ((geti z145.2.2 z145.1).bind fun _ =>
   ((z145.2.2[z145.1.toNat]?).bind fun y150 =>
   rec146 (IntKind.wrap .i64 (z145.1 + (1 : Int)), IntKind.wrap .i64 (z145.2.1 + (1 : Int)), (z145.2.2.set z145.1.toNat y149))))))
   (rec146 (z145.1, IntKind.wrap .i64 (z145.2.1 + (1 : Int)), z145.2.2)))))))
  (some (z145.1, z145.2.2)))) n z0)
def l_slices_Compact_int64_int64_2 (n : Nat) (x : (List Int)) (z0 : Int) : Option ((List Int) × Bool) :=
(lp (fun rec78 (z77 : Int) =>
 (cond (decide (z77 < (lenI x)))
  (Option.bind (α := (Unit ⊕ ((List Int) × Bool)))
   ((geti x z77).bind fun _ =>
   ((x[z77.toNat]?).bind fun y116 =>
   ((geti x (IntKind.wrap .i64 (z77 - (1 : Int)))).bind fun _ =>
   ((x[(IntKind.wrap .i64 (z77 - (1 : Int))).toNat]?).bind fun y117 =>
   (cond (y116 == y117)
    (chk (bndB (some z77) none none x.length)
     (Option.bind (α := (Int × (List Int)))
      (l_slices_Compact_int64_int64_1 n x z77 (z77, (1 : Int), x)) fun j152 =>
     (chk (bndB (some j152.1) none none j152.2.length)
      (chk (bndB none (some j152.1) none (j152.2.take j152.1.toNat ++ List.replicate (j152.2.length - j152.1.toNat) (0 : Int) ++ j152.2.drop (j152.1.toNat + (j152.2.length - j152.1.toNat))).length)
       (some (Sum.inr (((j152.2.take j152.1.toNat ++ List.replicate (j152.2.length - j152.1.toNat) (0 : Int) ++ j152.2.drop (j152.1.toNat + (j152.2.length - j152.1.toNat))).take j152.1.toNat), true)))))))
    (some (Sum.inl ())))))))
   (Sum.elim (fun j153 =>
  rec78 (IntKind.wrap .i64 (z77 + (1 : Int)))) some))
  (some (x, true)))) n z0)
def p_slices_Compact_int64_int64 (n : Nat) (x : (List Int)) : Option ((List Int) × Bool) :=
(cond (decide ((lenI x) < (2 : Int)))
 (some (x, true))
 (l_slices_Compact_int64_int64_2 n x (1 : Int)))
def m_slices_Compact_int64_int64 (x : (List Int)) : Option ((List Int) × Bool) := p_slices_Compact_int64_int64 FU x
def a_slices_Compact_int64_int64 : Ann := (.node .leaf (.node .leaf (.node (.node .leaf (.loop [.slot 3 (.int .i64)] [2, 4, 5, 10, 11, 12, 13, 14, 15, 16, 17, 18, 19, 20, 21, 22, 23, 24, 25, 26, 27, 28, 29, 30, 31, 32, 33, 34, 35, 36, 37, 38, 39, 40, 41, 42, 43, 44, 45, 46, 47, 48, 49, 50, 51, 52, 53, 54, 55, 56, 57, 58, 59] (.node .leaf (.joinx [] [16, 17, 18, 19, 20, 21, 22, 23, 24, 25] (.node .leaf (.node (.node .leaf (.join [.slot 3 (.int .i64), .row 0 2 (.int .i64)] [5, 29, 30, 31, 32, 33, 34, 35, 36, 37, 38, 39, 40, 41, 42, 43, 44, 45, 46, 47, 48, 49, 50, 51, 52, 53] (.node .leaf (.loop [.slot 3 (.int .i64), .slot 5 (.int .i64), .row 0 2 (.int .i64)] [29, 30, 31, 32, 33, 34, 35, 36, 37, 38, 39, 40, 41, 42, 43, 44, 45, 46, 47, 48, 49, 50, 51, 52, 53] .leaf)) (.node .leaf (.node (.own 59 (.int .i64) .leaf) .leaf)))) .leaf)) .leaf)))) .leaf)))
def S_slices_Compact_int64_int64 : FSpec := ⟨[.own 2 (.int .i64)], [Kd19], m_slices_Compact_int64_int64⟩

/-! impl.shardsOf -/
def l_impl_shardsOf_1 (n : Nat) (x_2 : (List (Int × (Int × (Int × Int))))) (z0 : ((List Int) × Int)) : Option (List Int) :=
(lp (fun rec10 (z9 : ((List Int) × Int)) =>
 (cond (decide (z9.2 < (lenI x_2)))
  ((geti x_2 z9.2).bind fun y11 =>
  (chk (Nat.ble ((z9.1.length + [y11.1].length) * 8) maxBytes)
  (rec10 ((z9.1 ++ [y11.1]), IntKind.wrap .i64 (z9.2 + (1 : Int))))))
  (some z9.1))) n z0)
def p_impl_shardsOf (n : Nat) (x : (Int × (List (Int × (Int × (Int × Int)))))) : Option (List Int) :=
(Option.bind (α := (List Int))
 (l_impl_shardsOf_1 n x.2 (([] : List Int), (0 : Int))) fun j13 =>
((m_slices_Sort_int64_int64 j13).bind fun r14 =>
((m_slices_Compact_int64_int64 r14).bind fun r15 =>
some r15.1)))
def m_impl_shardsOf (x : (Int × (List (Int × (Int × (Int × Int)))))) : Option (List Int) := p_impl_shardsOf FU x
def a_impl_shardsOf : Ann := (.node .leaf (.node .leaf (.join [.slot 3 Kd19] [5, 7, 8, 9, 10, 11, 12, 13, 14, 15, 16, 17, 18, 19] (.node .leaf (.loop [.slot 3 Kd19, .slot 10 (.int .i64)] [5, 11, 12, 13, 14, 15, 16, 17, 18, 19] .leaf)) .leaf)))
def S_impl_shardsOf : FSpec := ⟨[.val Kd12], [Kd19], m_impl_shardsOf⟩

/-! impl.ShardsOf -/
def p_impl_ShardsOf (n : Nat) (x : (Int × (List (Int × (Int × (Int × Int)))))) : Option (Int × (List Int)) :=
((m_impl_ContractFault x).bind fun r1 =>
(cond (!(r1 == (0 : Int)))
 (some (r1, []))
 ((m_impl_shardsOf x).bind fun r2 =>
 some ((0 : Int), r2))))
def m_impl_ShardsOf (x : (Int × (List (Int × (Int × (Int × Int)))))) : Option (Int × (List Int)) := p_impl_ShardsOf FU x
def a_impl_ShardsOf : Ann := .leaf
def S_impl_ShardsOf : FSpec := ⟨[.val Kd12], [(.pair (.int .i64) Kd19)], m_impl_ShardsOf⟩

/-! laws.lwAt -/
def p_laws_lwAt (n : Nat) (x : ((List Int) × (Int × Int))) : Option Int :=
(cond (decide (x.2.2 ≤ (1 : Int)))
 (some (0 : Int))
 (cond ((lenI x.1) == (0 : Int))
  (cond (x.2.2 == 0) none
   (some (Int.tmod (IntKind.wrap .i64 (x.2.1 * (7 : Int))) x.2.2)))
  (cond ((lenI x.1) == 0) none
   ((geti x.1 (Int.tmod x.2.1 (lenI x.1))).bind fun y1 =>
   (cond ((lenI x.1) == 0) none
    (cond (decide (x.2.2 > (200 : Int)))
     (cond ((lenI x.1) == 0) none
      ((geti x.1 (Int.tmod (IntKind.wrap .i64 (x.2.1 + (1 : Int))) (lenI x.1))).bind fun y2 =>
      (cond (x.2.2 == 0) none
       (some (Int.tmod (IntKind.wrap .i64 ((IntKind.wrap .i64 ((IntKind.wrap .i64 ((IntKind.wrap .i64 y1) + (IntKind.wrap .i64 ((IntKind.wrap .i64 (Int.tdiv x.2.1 (lenI x.1))) * (3 : Int))))) * (251 : Int))) + (IntKind.wrap .i64 y2))) x.2.2)))))
     (cond (x.2.2 == 0) none
      (some (Int.tmod (IntKind.wrap .i64 ((IntKind.wrap .i64 y1) + (IntKind.wrap .i64 ((IntKind.wrap .i64 (Int.tdiv x.2.1 (lenI x.1))) * (3 : Int))))) x.2.2)))))))))
def m_laws_lwAt (x : ((List Int) × (Int × Int))) : Option Int := p_laws_lwAt FU x
def a_laws_lwAt : Ann := .leaf
def S_laws_lwAt : FSpec := ⟨[.val (.sl none (.int .u8)), .val (.int .i64), .val (.int .i64)], [(.int .i64)], m_laws_lwAt⟩

/-! laws.lwReached -/
def l_laws_lwReached_1 (n : Nat) (x_1 : (List Int)) (x_2_1 : Int) (x_2_2 : Int) (z0 : ((List Int) × Int)) : Option (List Int) :=
(lp (fun rec4 (z3 : ((List Int) × Int)) =>
 (cond (decide (z3.2 < x_2_2))
  ((m_laws_lwAt (x_1, IntKind.wrap .i64 ((IntKind.wrap .i64 (x_2_1 * (7 : Int))) + z3.2), (3 : Int))).bind fun r5 =>
  (cond (decide (r5 > (0 : Int)))
   (chk (Nat.ble ((z3.1.length + [z3.2].length) * 8) maxBytes)
   (rec4 ((z3.1 ++ [z3.2]), IntKind.wrap .i64 (z3.2 + (1 : Int)))))
   (rec4 (z3.1, IntKind.wrap .i64 (z3.2 + (1 : Int))))))
  (some z3.1))) n z0)
def p_laws_lwReached (n : Nat) (x : ((List Int) × (Int × Int))) : Option (List Int) :=
(l_laws_lwReached_1 n x.1 x.2.1 x.2.2 (([] : List Int), (0 : Int)))
def m_laws_lwReached (x : ((List Int) × (Int × Int))) : Option (List Int) := p_laws_lwReached FU x
def a_laws_lwReached : Ann := (.node .leaf (.node .leaf (.node (.node .leaf (.loop [.slot 7 Kd19, .slot 8 (.int .i64)] [10, 11, 12, 13, 14, 15, 16, 17, 18, 19, 20, 21, 22, 23, 24, 25] .leaf)) .leaf)))
def S_laws_lwReached : FSpec := ⟨[.val (.sl none (.int .u8)), .val (.int .i64), .val (.int .i64)], [Kd19], m_laws_lwReached⟩

/-! impl.Acceptor] -/
def p_impl_size_impl_Acceptor (n : Nat) (x : (List (List (Int × (Int × (Int × ((Int × Int) × (List (Int × Int))))))))) : Option Int :=
some (lenI x)
def m_impl_size_impl_Acceptor (x : (List (List (Int × (Int × (Int × ((Int × Int) × (List (Int × Int))))))))) : Option Int := p_impl_size_impl_Acceptor FU x
def a_impl_size_impl_Acceptor : Ann := .leaf
def S_impl_size_impl_Acceptor : FSpec := ⟨[.val Kd4], [(.int .i64)], m_impl_size_impl_Acceptor⟩

/-! impl.isBallot -/
def p_impl_isBallot (n : Nat) (x : Int) : Option Bool :=
((m_impl_within (x, (0 : Int), (1000 : Int))).bind fun r1 =>
some r1)
def m_impl_isBallot (x : Int) : Option Bool := p_impl_isBallot FU x
def a_impl_isBallot : Ann := .leaf
def S_impl_isBallot : FSpec := ⟨[.val (.int .i64)], [.bool], m_impl_isBallot⟩

/-! impl.isValue -/
def p_impl_isValue (n : Nat) (x : Int) : Option Bool :=
(cond (x == (1 : Int))
 (some true)
 (some (x == (2 : Int))))
def m_impl_isValue (x : Int) : Option Bool := p_impl_isValue FU x
def a_impl_isValue : Ann := .leaf
def S_impl_isValue : FSpec := ⟨[.val (.int .i64)], [.bool], m_impl_isValue⟩

/-! impl.isVote -/
def p_impl_isVote (n : Nat) (x : (Int × Int)) : Option Bool :=
((m_impl_isBallot x.1).bind fun r1 =>
(cond r1
 ((m_impl_isValue x.2).bind fun r2 =>
 some r2)
 (some false)))
def m_impl_isVote (x : (Int × Int)) : Option Bool := p_impl_isVote FU x
def a_impl_isVote : Ann := .leaf
def S_impl_isVote : FSpec := ⟨[.val Kd18], [.bool], m_impl_isVote⟩

/-! impl.castFault -/
def l_impl_castFault_1 (n : Nat) (x : (List (Int × Int))) (z0 : Int) : Option Int :=
(lp (fun rec12 (z11 : Int) =>
 (cond (decide (z11 < (lenI x)))
  ((geti x z11).bind fun y13 =>
  ((m_impl_isVote y13).bind fun r14 =>
  (cond (!r14)
   (some (3 : Int))
   (Option.bind (α := Bool)
    (cond (decide (z11 > (0 : Int)))
     ((geti x (IntKind.wrap .i64 (z11 - (1 : Int)))).bind fun y18 =>
     (cond (decide (y13.1 < y18.1))
      (some true)
      ((geti x (IntKind.wrap .i64 (z11 - (1 : Int)))).bind fun y19 =>
      (cond (y13.1 == y19.1)
       ((geti x (IntKind.wrap .i64 (z11 - (1 : Int)))).bind fun y20 =>
       some (!(y13.2 == y20.2)))
       (some false)))))
     (some false)) fun j21 =>
   (cond j21
    (some (1 : Int))
    (rec12 (IntKind.wrap .i64 (z11 + (1 : Int)))))))))
  (some (0 : Int)))) n z0)
def p_impl_castFault (n : Nat) (x : (List (Int × Int))) : Option Int :=
(l_impl_castFault_1 n x (0 : Int))
def m_impl_castFault (x : (List (Int × Int))) : Option Int := p_impl_castFault FU x
def a_impl_castFault : Ann := (.node .leaf (.node (.node .leaf (.loop [.slot 7 (.int .i64)] [2, 3, 4, 8, 9, 10, 11, 12, 13, 14, 15, 16, 17, 18, 19, 20, 21, 22, 23, 24, 25, 26, 27, 28, 29, 30, 31, 32, 33, 34, 35, 36, 37, 38, 39, 40, 41, 42, 43, 44, 45, 46, 47, 48, 49, 50, 51, 52] (.node .leaf (.node .leaf (.node (.node .leaf (.node .leaf (.node .leaf (.join [.slot 16 .bool] [17, 18, 19, 20, 21, 22, 23, 24, 25, 26, 27, 28, 29, 30, 31, 32, 33, 34, 35, 36, 37, 38, 39, 40, 41, 42, 43, 44, 45, 46, 47, 48, 49, 50, 51] .leaf .leaf)))) .leaf))))) .leaf))
def S_impl_castFault : FSpec := ⟨[.val Kd16], [(.int .i64)], m_impl_castFault⟩

/-! impl.noVote -/
def p_impl_noVote (n : Nat) (x : Unit) : Option (Int × Int) :=
some ((-1 : Int), (0 : Int))
def m_impl_noVote (x : Unit) : Option (Int × Int) := p_impl_noVote FU x
def a_impl_noVote : Ann := .leaf
def S_impl_noVote : FSpec := ⟨[], [Kd18], m_impl_noVote⟩

/-! impl.lastCast -/
def p_impl_lastCast (n : Nat) (x : (List (Int × Int))) : Option (Int × Int) :=
(cond ((lenI x) == (0 : Int))
 ((m_impl_noVote ()).bind fun r1 =>
 some r1)
 ((geti x (IntKind.wrap .i64 ((lenI x) - (1 : Int)))).bind fun y2 =>
 some y2))
def m_impl_lastCast (x : (List (Int × Int))) : Option (Int × Int) := p_impl_lastCast FU x
def a_impl_lastCast : Ann := .leaf
def S_impl_lastCast : FSpec := ⟨[.val Kd16], [Kd18], m_impl_lastCast⟩

/-! impl.SlotFault -/
def p_impl_SlotFault (n : Nat) (x : (Int × (Int × (Int × ((Int × Int) × (List (Int × Int))))))) : Option Int :=
(Option.bind (α := Bool)
 ((m_impl_isId x.1).bind fun r4 =>
 (cond (!r4)
  (some true)
  ((m_impl_isShard x.2.1).bind fun r5 =>
  (cond (!r5)
   (some true)
   ((m_impl_within (x.2.2.1, (-1 : Int), (1000 : Int))).bind fun r6 =>
   some (!r6)))))) fun j7 =>
(cond j7
 (some (3 : Int))
 (cond (decide ((lenI x.2.2.2.2) > (60 : Int)))
  (some (2 : Int))
  ((m_impl_castFault x.2.2.2.2).bind fun r8 =>
  (cond (!(r8 == (0 : Int)))
   (some r8)
   (Option.bind (α := Bool)
    ((m_impl_lastCast x.2.2.2.2).bind fun r10 =>
    (cond (!((x.2.2.2.1.1 == r10.1) && ((x.2.2.2.1.2 == r10.2) && true)))
     (some true)
     (some (decide (x.2.2.2.1.1 > x.2.2.1))))) fun j11 =>
   (cond j11
    (some (1 : Int))
    (some (0 : Int)))))))))
def m_impl_SlotFault (x : (Int × (Int × (Int × ((Int × Int) × (List (Int × Int))))))) : Option Int := p_impl_SlotFault FU x
def a_impl_SlotFault : Ann := (.node .leaf (.node (.join [.slot 4 .bool] [5, 6, 7, 8, 9, 10, 11, 12, 13, 14, 15, 16, 17, 18, 19, 20] .leaf .leaf) (.node .leaf (.node (.join [.slot 45 .bool] [32, 33, 34, 35, 36, 37, 38, 39, 40, 41, 42, 43, 44] .leaf .leaf) .leaf))))
def S_impl_SlotFault : FSpec := ⟨[.val Kd10], [(.int .i64)], m_impl_SlotFault⟩

/-! cmp.isNaN[int64] -/
def p_cmp_isNaN_int64 (n : Nat) (x : Int) : Option Bool :=
some (!(x == x))
def m_cmp_isNaN_int64 (x : Int) : Option Bool := p_cmp_isNaN_int64 FU x
def a_cmp_isNaN_int64 : Ann := .leaf
def S_cmp_isNaN_int64 : FSpec := ⟨[.val (.int .i64)], [.bool], m_cmp_isNaN_int64⟩

/-! cmp.Compare[int64] -/
def p_cmp_Compare_int64 (n : Nat) (x : (Int × Int)) : Option Int :=
((m_cmp_isNaN_int64 x.1).bind fun r1 =>
((m_cmp_isNaN_int64 x.2).bind fun r2 =>
(cond r1
 (cond r2
  (some (0 : Int))
  (some (-1 : Int)))
 (cond r2
  (some (1 : Int))
  (cond (decide (x.1 < x.2))
   (some (-1 : Int))
   (cond (decide (x.1 > x.2))
    (some (1 : Int))
    (some (0 : Int))))))))
def m_cmp_Compare_int64 (x : (Int × Int)) : Option Int := p_cmp_Compare_int64 FU x
def a_cmp_Compare_int64 : Ann := .leaf
def S_cmp_Compare_int64 : FSpec := ⟨[.val (.int .i64), .val (.int .i64)], [(.int .i64)], m_cmp_Compare_int64⟩

/-! cmp.Or[int] -/
def l_cmp_Or_int_1 (n : Nat) (x : (List Int)) (z0 : Int) : Option Int :=
(lp (fun rec4 (z3 : Int) =>
 (cond (decide (z3 < (lenI x)))
  ((geti x z3).bind fun y5 =>
  (cond (!(y5 == (0 : Int)))
   (some y5)
   (rec4 (IntKind.wrap .i64 (z3 + (1 : Int))))))
  (some (0 : Int)))) n z0)
def p_cmp_Or_int (n : Nat) (x : (List Int)) : Option Int :=
(l_cmp_Or_int_1 n x (0 : Int))
def m_cmp_Or_int (x : (List Int)) : Option Int := p_cmp_Or_int FU x
def a_cmp_Or_int : Ann := (.node .leaf (.node .leaf (.node (.node .leaf (.loop [.slot 8 (.int .i64)] [2, 5, 9, 10, 11, 12, 13, 14, 15, 16] .leaf)) .leaf)))
def S_cmp_Or_int : FSpec := ⟨[.val Kd20], [(.int .i64)], m_cmp_Or_int⟩

/-! impl.compareSlots -/
def p_impl_compareSlots (n : Nat) (x : ((Int × (Int × (Int × ((Int × Int) × (List (Int × Int)))))) × (Int × (Int × (Int × ((Int × Int) × (List (Int × Int)))))))) : Option Int :=
((m_cmp_Compare_int64 (x.1.1, x.2.1)).bind fun r1 =>
((m_cmp_Compare_int64 (x.1.2.1, x.2.2.1)).bind fun r2 =>
((m_cmp_Or_int [r1, r2]).bind fun r3 =>
some r3)))
def m_impl_compareSlots (x : ((Int × (Int × (Int × ((Int × Int) × (List (Int × Int)))))) × (Int × (Int × (Int × ((Int × Int) × (List (Int × Int)))))))) : Option Int := p_impl_compareSlots FU x
def a_impl_compareSlots : Ann := (.node .leaf (.node (.lazy 15 .leaf) .leaf))
def S_impl_compareSlots : FSpec := ⟨[.val Kd10, .val Kd10], [(.int .i64)], m_impl_compareSlots⟩

/-! impl.AcceptorFault -/
def l_impl_AcceptorFault_1 (n : Nat) (x : (List (Int × (Int × (Int × ((Int × Int) × (List (Int × Int)))))))) (z0 : Int) : Option Int :=
(lp (fun rec10 (z9 : Int) =>
 (cond (decide (z9 < (lenI x)))
  ((geti x z9).bind fun y11 =>
  ((m_impl_SlotFault y11).bind fun r12 =>
  (cond (!(r12 == (0 : Int)))
   (some r12)
   (Option.bind (α := Bool)
    (cond (decide (z9 > (0 : Int)))
     ((geti x (IntKind.wrap .i64 (z9 - (1 : Int)))).bind fun y15 =>
     ((m_impl_compareSlots (y15, y11)).bind fun r16 =>
     some (decide (r16 ≥ (0 : Int)))))
     (some false)) fun j17 =>
   (cond j17
    (some (1 : Int))
    (rec10 (IntKind.wrap .i64 (z9 + (1 : Int)))))))))
  (some (0 : Int)))) n z0)
def p_impl_AcceptorFault (n : Nat) (x : (List (Int × (Int × (Int × ((Int × Int) × (List (Int × Int)))))))) : Option Int :=
(cond (decide ((lenI x) > (60 : Int)))
 (some (2 : Int))
 (l_impl_AcceptorFault_1 n x (0 : Int)))
def m_impl_AcceptorFault (x : (List (Int × (Int × (Int × ((Int × Int) × (List (Int × Int)))))))) : Option Int := p_impl_AcceptorFault FU x
def a_impl_AcceptorFault : Ann := (.node .leaf (.node .leaf (.node (.node .leaf (.loop [.slot 13 (.int .i64)] [2, 3, 4, 5, 14, 15, 16, 17, 18, 19, 20, 21, 22, 23, 24, 25, 26, 27, 28, 29, 30, 31, 32, 33, 34, 35, 36] (.node .leaf (.node .leaf (.node (.node .leaf (.node .leaf (.join [.slot 35 .bool] [23, 24, 25, 26, 27, 28, 29, 30, 31, 32, 33, 34] .leaf .leaf))) .leaf))))) .leaf)))
def S_impl_AcceptorFault : FSpec := ⟨[.val Kd7], [(.int .i64)], m_impl_AcceptorFault⟩

/-! impl.listFault -/
def l_impl_listFault_1 (n : Nat) (x : (List (List (Int × (Int × (Int × ((Int × Int) × (List (Int × Int))))))))) (z0 : Int) : Option Int :=
(lp (fun rec7 (z6 : Int) =>
 (cond (decide (z6 < (lenI x)))
  ((geti x z6).bind fun y8 =>
  ((m_impl_AcceptorFault y8).bind fun r9 =>
  (cond (!(r9 == (0 : Int)))
   (some r9)
   (rec7 (IntKind.wrap .i64 (z6 + (1 : Int)))))))
  (some (0 : Int)))) n z0)
def p_impl_listFault (n : Nat) (x : (List (List (Int × (Int × (Int × ((Int × Int) × (List (Int × Int))))))))) : Option Int :=
((m_impl_size_impl_Acceptor x).bind fun r1 =>
((m_impl_within (r1, (1 : Int), (5 : Int))).bind fun r2 =>
(cond (!r2)
 (some (2 : Int))
 (l_impl_listFault_1 n x (0 : Int)))))
def m_impl_listFault (x : (List (List (Int × (Int × (Int × ((Int × Int) × (List (Int × Int))))))))) : Option Int := p_impl_listFault FU x
def a_impl_listFault : Ann := (.node .leaf (.node .leaf (.node (.node .leaf (.loop [.slot 12 (.int .i64)] [2, 4, 5, 13, 14, 15, 16, 17, 18, 19, 20, 21] .leaf)) .leaf)))
def S_impl_listFault : FSpec := ⟨[.val Kd4], [(.int .i64)], m_impl_listFault⟩

/-! impl.newSlot -/
def p_impl_newSlot (n : Nat) (x : (Int × Int)) : Option (Int × (Int × (Int × ((Int × Int) × (List (Int × Int)))))) :=
((m_impl_noVote ()).bind fun r1 =>
some (x.1, (x.2, ((-1 : Int), (r1, [])))))
def m_impl_newSlot (x : (Int × Int)) : Option (Int × (Int × (Int × ((Int × Int) × (List (Int × Int)))))) := p_impl_newSlot FU x
def a_impl_newSlot : Ann := .leaf
def S_impl_newSlot : FSpec := ⟨[.val (.int .i64), .val (.int .i64)], [Kd9], m_impl_newSlot⟩

/-! impl.NewSlot -/
def p_impl_NewSlot (n : Nat) (x : (Int × Int)) : Option (Int × ((Int × Int) × (Int × (Int × (Int × ((Int × Int) × (List (Int × Int)))))))) :=
(Option.bind (α := Bool)
 ((m_impl_isId x.1).bind fun r3 =>
 (cond (!r3)
  (some true)
  ((m_impl_isShard x.2).bind fun r4 =>
  some (!r4)))) fun j5 =>
(cond j5
 (some ((3 : Int), (((0 : Int), (0 : Int)), ((0 : Int), ((0 : Int), ((0 : Int), (((0 : Int), (0 : Int)), [])))))))
 ((m_impl_newSlot (x.1, x.2)).bind fun r6 =>
 some ((0 : Int), (((0 : Int), (0 : Int)), r6)))))
def m_impl_NewSlot (x : (Int × Int)) : Option (Int × ((Int × Int) × (Int × (Int × (Int × ((Int × Int) × (List (Int × Int)))))))) := p_impl_NewSlot FU x
def a_impl_NewSlot : Ann := (.node .leaf (.node (.join [.slot 12 .bool] [5, 6, 7, 8, 9, 10, 11] .leaf .leaf) .leaf))
def S_impl_NewSlot : FSpec := ⟨[.val (.int .i64), .val (.int .i64)], [Kd2], m_impl_NewSlot⟩

/-! impl.firstOf -/
def l_impl_firstOf_1 (n : Nat) (x : (List Int)) (z0 : Int) : Option Int :=
(lp (fun rec4 (z3 : Int) =>
 (cond (decide (z3 < (lenI x)))
  ((geti x z3).bind fun y5 =>
  (cond (!(y5 == (0 : Int)))
   (some y5)
   (rec4 (IntKind.wrap .i64 (z3 + (1 : Int))))))
  (some (0 : Int)))) n z0)
def p_impl_firstOf (n : Nat) (x : (List Int)) : Option Int :=
(l_impl_firstOf_1 n x (0 : Int))
def m_impl_firstOf (x : (List Int)) : Option Int := p_impl_firstOf FU x
def a_impl_firstOf : Ann := (.node .leaf (.node (.node .leaf (.loop [.slot 7 (.int .i64)] [2, 4, 8, 9, 10, 11, 12, 13, 14] .leaf)) .leaf))
def S_impl_firstOf : FSpec := ⟨[.val Kd20], [(.int .i64)], m_impl_firstOf⟩

/-! impl.reachedFault -/
def l_impl_reachedFault_1 (n : Nat) (x_1 : (List Int)) (x_2 : Int) (z0 : Int) : Option Int :=
(lp (fun rec13 (z12 : Int) =>
 (cond (decide (z12 < (lenI x_1)))
  ((geti x_1 z12).bind fun y14 =>
  ((m_impl_within (y14, (0 : Int), IntKind.wrap .i64 (x_2 - (1 : Int)))).bind fun r15 =>
  (cond (!r15)
   (some z12)
   (rec13 (IntKind.wrap .i64 (z12 + (1 : Int)))))))
  (some (-1 : Int)))) n z0)
def l_impl_reachedFault_2 (n : Nat) (x_1 : (List Int)) (z0 : Int) : Option Int :=
(lp (fun rec22 (z21 : Int) =>
 (cond (decide (z21 < (lenI x_1)))
  ((geti x_1 (IntKind.wrap .i64 (z21 - (1 : Int)))).bind fun y23 =>
  ((geti x_1 z21).bind fun y24 =>
  (cond (decide (y23 ≥ y24))
   (some (7 : Int))
   (rec22 (IntKind.wrap .i64 (z21 + (1 : Int)))))))
  (some (0 : Int)))) n z0)
def p_impl_reachedFault (n : Nat) (x : ((List Int) × Int)) : Option Int :=
(Option.bind (α := Int)
 (l_impl_reachedFault_1 n x.1 x.2 (0 : Int)) fun j17 =>
(cond (decide (j17 ≥ (0 : Int)))
 (some (3 : Int))
 (l_impl_reachedFault_2 n x.1 (1 : Int))))
def m_impl_reachedFault (x : ((List Int) × Int)) : Option Int := p_impl_reachedFault FU x
def a_impl_reachedFault : Ann := (.node .leaf (.node (.node (.reg 8 (.node .leaf (.node (.regj 7 [.slot 7 (.int .i64)] [] (.node .leaf (.node (.node .leaf (.loop [.slot 8 (.int .i64)] [4, 5, 9, 10, 11, 12, 13, 14, 15, 16, 17, 18] .leaf)) .leaf)) .leaf) .leaf)) .leaf) .leaf) (.node (.node .leaf (.loop [.slot 5 (.int .i64)] [4, 9, 10, 11, 12, 13, 14, 15, 16, 17, 18, 19, 20, 21, 22, 23, 24] .leaf)) .leaf)))
def S_impl_reachedFault : FSpec := ⟨[.val Kd20, .val (.int .i64)], [(.int .i64)], m_impl_reachedFault⟩

/-! impl.Vote] -/
def p_slices_Clone_impl_Vote_impl_Vote (n : Nat) (x : (List (Int × Int))) : Option (List (Int × Int)) :=
(cond (List.isEmpty x)
 (same
  (some [])
  (chk (Nat.ble ((([] : List (Int × Int)).length + x.length) * 16) maxBytes)
  (some (([] : List (Int × Int)) ++ x))))
 (chk (Nat.ble ((([] : List (Int × Int)).length + x.length) * 16) maxBytes)
 (some (([] : List (Int × Int)) ++ x))))
def m_slices_Clone_impl_Vote_impl_Vote (x : (List (Int × Int))) : Option (List (Int × Int)) := p_slices_Clone_impl_Vote_impl_Vote FU x
def a_slices_Clone_impl_Vote_impl_Vote : Ann := .leaf
def S_slices_Clone_impl_Vote_impl_Vote : FSpec := ⟨[.val Kd16], [Kd15], m_slices_Clone_impl_Vote_impl_Vote⟩

/-! impl.copySlot -/
def p_impl_copySlot (n : Nat) (x : (Int × (Int × (Int × ((Int × Int) × (List (Int × Int))))))) : Option (Int × (Int × (Int × ((Int × Int) × (List (Int × Int)))))) :=
((m_slices_Clone_impl_Vote_impl_Vote x.2.2.2.2).bind fun r1 =>
some (x.1, (x.2.1, (x.2.2.1, (x.2.2.2.1, r1)))))
def m_impl_copySlot (x : (Int × (Int × (Int × ((Int × Int) × (List (Int × Int))))))) : Option (Int × (Int × (Int × ((Int × Int) × (List (Int × Int)))))) := p_impl_copySlot FU x
def a_impl_copySlot : Ann := .leaf
def S_impl_copySlot : FSpec := ⟨[.val Kd10], [Kd9], m_impl_copySlot⟩

/-! impl.copyAcceptor -/
def l_impl_copyAcceptor_1 (n : Nat) (x : (List (Int × (Int × (Int × ((Int × Int) × (List (Int × Int)))))))) (z0 : (Int × (List (Int × (Int × (Int × ((Int × Int) × (List (Int × Int))))))))) : Option (List (Int × (Int × (Int × ((Int × Int) × (List (Int × Int))))))) :=
(lp (fun rec8 (z7 : (Int × (List (Int × (Int × (Int × ((Int × Int) × (List (Int × Int))))))))) =>
 (cond (decide (z7.1 < (lenI x)))
  ((geti x z7.1).bind fun y9 =>
  ((m_impl_copySlot y9).bind fun r10 =>
  (chk (Nat.ble ((z7.2.length + [r10].length) * 64) maxBytes)
  (rec8 (IntKind.wrap .i64 (z7.1 + (1 : Int)), (z7.2 ++ [r10]))))))
  (some z7.2))) n z0)
def p_impl_copyAcceptor (n : Nat) (x : (List (Int × (Int × (Int × ((Int × Int) × (List (Int × Int)))))))) : Option (List (Int × (Int × (Int × ((Int × Int) × (List (Int × Int))))))) :=
(l_impl_copyAcceptor_1 n x ((0 : Int), []))
def m_impl_copyAcceptor (x : (List (Int × (Int × (Int × ((Int × Int) × (List (Int × Int)))))))) : Option (List (Int × (Int × (Int × ((Int × Int) × (List (Int × Int))))))) := p_impl_copyAcceptor FU x
def a_impl_copyAcceptor : Ann := (.node .leaf (.node .leaf (.node (.node .leaf (.loop [.slot 10 (.int .i64), .box 2 Kd5] [5, 11, 12, 13, 14, 15, 16, 17, 18, 19, 20, 21] (.node .leaf (.node .leaf (.node (.node .leaf (.own 18 Kd9 .leaf)) .leaf))))) .leaf)))
def S_impl_copyAcceptor : FSpec := ⟨[.val Kd7], [Kd5], m_impl_copyAcceptor⟩

/-! impl.copyAcceptors -/
def l_impl_copyAcceptors_1 (n : Nat) (x : (List (List (Int × (Int × (Int × ((Int × Int) × (List (Int × Int))))))))) (z0 : ((List (List (Int × (Int × (Int × ((Int × Int) × (List (Int × Int)))))))) × Int)) : Option (List (List (Int × (Int × (Int × ((Int × Int) × (List (Int × Int)))))))) :=
(lp (fun rec5 (z4 : ((List (List (Int × (Int × (Int × ((Int × Int) × (List (Int × Int)))))))) × Int)) =>
 (cond (decide (z4.2 < (lenI x)))
  ((geti x z4.2).bind fun y6 =>
  ((m_impl_copyAcceptor y6).bind fun r7 =>
  (chk (Nat.ble ((z4.1.length + [r7].length) * 24) maxBytes)
  (rec5 ((z4.1 ++ [r7]), IntKind.wrap .i64 (z4.2 + (1 : Int)))))))
  (some z4.1))) n z0)
def p_impl_copyAcceptors (n : Nat) (x : (List (List (Int × (Int × (Int × ((Int × Int) × (List (Int × Int))))))))) : Option (List (List (Int × (Int × (Int × ((Int × Int) × (List (Int × Int)))))))) :=
(l_impl_copyAcceptors_1 n x (([] : List (List (Int × (Int × (Int × ((Int × Int) × (List (Int × Int)))))))), (0 : Int)))
def m_impl_copyAcceptors (x : (List (List (Int × (Int × (Int × ((Int × Int) × (List (Int × Int))))))))) : Option (List (List (Int × (Int × (Int × ((Int × Int) × (List (Int × Int)))))))) := p_impl_copyAcceptors FU x
def a_impl_copyAcceptors : Ann := (.node .leaf (.node (.own 6 Kd5 .leaf) (.node (.node .leaf (.loop [.slot 3 Kd3, .slot 9 (.int .i64)] [5, 10, 11, 12, 13, 14, 15, 16, 17, 18] (.node .leaf (.node .leaf (.node (.node .leaf (.own 16 Kd5 .leaf)) .leaf))))) .leaf)))
def S_impl_copyAcceptors : FSpec := ⟨[.val Kd4], [Kd3], m_impl_copyAcceptors⟩

/-! impl.Acceptor).slotAt -/
def l_impl_Acceptor_slotAt_1 (n : Nat) (x_1 : (List (Int × (Int × (Int × ((Int × Int) × (List (Int × Int)))))))) (x_2_1 : Int) (x_2_2 : Int) (z0 : (Int × Int)) : Option Int :=
(lp (fun rec13 (z12 : (Int × Int)) =>
 (cond (decide (z12.1 < z12.2))
  (chk (decide (0 ≤ (1 : Int)))
   ((geti x_1 (IntKind.wrap .i64 (Int.fdiv (IntKind.wrap .u64 (IntKind.wrap .i64 (z12.1 + z12.2))) (2 ^ (min (1 : Int).toNat 64))))).bind fun y14 =>
   ((m_impl_compareSlots (y14, (x_2_1, (x_2_2, ((0 : Int), (((0 : Int), (0 : Int)), [])))))).bind fun r15 =>
   (cond (decide (r15 < (0 : Int)))
    (rec13 (IntKind.wrap .i64 ((IntKind.wrap .i64 (Int.fdiv (IntKind.wrap .u64 (IntKind.wrap .i64 (z12.1 + z12.2))) (2 ^ (min (1 : Int).toNat 64)))) + (1 : Int)), z12.2))
    (rec13 (z12.1, IntKind.wrap .i64 (Int.fdiv (IntKind.wrap .u64 (IntKind.wrap .i64 (z12.1 + z12.2))) (2 ^ (min (1 : Int).toNat 64)))))))))
  (some z12.1))) n z0)
def p_impl_Acceptor_slotAt (n : Nat) (x : ((List (Int × (Int × (Int × ((Int × Int) × (List (Int × Int))))))) × (Int × Int))) : Option (Int × Bool) :=
(Option.bind (α := Int)
 (l_impl_Acceptor_slotAt_1 n x.1 x.2.1 x.2.2 ((0 : Int), lenI x.1)) fun j17 =>
(cond (decide (j17 < (lenI x.1)))
 ((geti x.1 j17).bind fun y18 =>
 ((m_impl_compareSlots (y18, (x.2.1, (x.2.2, ((0 : Int), (((0 : Int), (0 : Int)), [])))))).bind fun r19 =>
 some (j17, (r19 == (0 : Int)))))
 (some (j17, false))))
def m_impl_Acceptor_slotAt (x : ((List (Int × (Int × (Int × ((Int × Int) × (List (Int × Int))))))) × (Int × Int))) : Option (Int × Bool) := p_impl_Acceptor_slotAt FU x
def a_impl_Acceptor_slotAt : Ann := (.node .leaf (.node (.reg 13 (.node .leaf (.node .leaf (.node .leaf (.join [.slot 9 (.int .i64)] [10, 11, 15, 16, 17, 18, 19, 20, 21, 22, 23, 24, 25, 26, 27, 28, 29, 30, 31, 32, 33, 34] (.loop [.slot 9 (.int .i64), .slot 10 (.int .i64)] [11, 15, 16, 17, 18, 19, 20, 21, 22, 23, 24, 25, 26, 27, 28, 29, 30, 31, 32, 33, 34] .leaf) .leaf)))) .leaf) .leaf))
def S_impl_Acceptor_slotAt : FSpec := ⟨[.val Kd7, .val (.int .i64), .val (.int .i64)], [(.int .i64), .bool], m_impl_Acceptor_slotAt⟩

/-! impl.Acceptor).slot -/
def p_impl_Acceptor_slot (n : Nat) (x : ((List (Int × (Int × (Int × ((Int × Int) × (List (Int × Int))))))) × (Int × Int))) : Option (Int × (Int × (Int × ((Int × Int) × (List (Int × Int)))))) :=
((m_impl_Acceptor_slotAt (x.1, x.2.1, x.2.2)).bind fun r1 =>
(cond (!r1.2)
 ((m_impl_newSlot (x.2.1, x.2.2)).bind fun r2 =>
 some r2)
 ((geti x.1 r1.1).bind fun y3 =>
 ((m_impl_copySlot y3).bind fun r4 =>
 some r4))))
def m_impl_Acceptor_slot (x : ((List (Int × (Int × (Int × ((Int × Int) × (List (Int × Int))))))) × (Int × Int))) : Option (Int × (Int × (Int × ((Int × Int) × (List (Int × Int)))))) := p_impl_Acceptor_slot FU x
def a_impl_Acceptor_slot : Ann := .leaf
def S_impl_Acceptor_slot : FSpec := ⟨[.val Kd7, .val (.int .i64), .val (.int .i64)], [Kd9], m_impl_Acceptor_slot⟩

/-! impl.PromiseSlot -/
def p_impl_PromiseSlot (n : Nat) (x : ((Int × (Int × (Int × ((Int × Int) × (List (Int × Int)))))) × Int)) : Option (Int × ((Int × Int) × (Int × (Int × (Int × ((Int × Int) × (List (Int × Int)))))))) :=
((m_impl_SlotFault x.1).bind fun r1 =>
(cond (!(r1 == (0 : Int)))
 (some (r1, (((0 : Int), (0 : Int)), ((0 : Int), ((0 : Int), ((0 : Int), (((0 : Int), (0 : Int)), [])))))))
 ((m_impl_isBallot x.2).bind fun r2 =>
 (cond (!r2)
  (some ((3 : Int), (((0 : Int), (0 : Int)), ((0 : Int), ((0 : Int), ((0 : Int), (((0 : Int), (0 : Int)), [])))))))
  (cond (decide (x.2 < x.1.2.2.1))
   (some ((8 : Int), (((0 : Int), (0 : Int)), ((0 : Int), ((0 : Int), ((0 : Int), (((0 : Int), (0 : Int)), [])))))))
   ((m_impl_copySlot x.1).bind fun r3 =>
   some ((0 : Int), (x.1.2.2.2.1, (r3.1, (r3.2.1, (x.2, r3.2.2.2)))))))))))
def m_impl_PromiseSlot (x : ((Int × (Int × (Int × ((Int × Int) × (List (Int × Int)))))) × Int)) : Option (Int × ((Int × Int) × (Int × (Int × (Int × ((Int × Int) × (List (Int × Int)))))))) := p_impl_PromiseSlot FU x
def a_impl_PromiseSlot : Ann := .leaf
def S_impl_PromiseSlot : FSpec := ⟨[.val Kd10, .val (.int .i64)], [Kd2], m_impl_PromiseSlot⟩

/-! impl.Slot] -/
def p_slices_Insert_impl_Slot_impl_Slot (n : Nat) (x : ((List (Int × (Int × (Int × ((Int × Int) × (List (Int × Int))))))) × (Int × (List (Int × (Int × (Int × ((Int × Int) × (List (Int × Int)))))))))) : Option ((List (Int × (Int × (Int × ((Int × Int) × (List (Int × Int))))))) × (Bool × Bool)) :=
(insRun 64 x).map fun y => (y, (true, true))
def m_slices_Insert_impl_Slot_impl_Slot (x : ((List (Int × (Int × (Int × ((Int × Int) × (List (Int × Int))))))) × (Int × (List (Int × (Int × (Int × ((Int × Int) × (List (Int × Int)))))))))) : Option ((List (Int × (Int × (Int × ((Int × Int) × (List (Int × Int))))))) × (Bool × Bool)) := p_slices_Insert_impl_Slot_impl_Slot FU x
def a_slices_Insert_impl_Slot_impl_Slot : Ann := .leaf
def S_slices_Insert_impl_Slot_impl_Slot : FSpec := ⟨[.own 135 Kd9, .val (.int .i64), .own 135 Kd9], [Kd6], m_slices_Insert_impl_Slot_impl_Slot⟩

/-! impl.Acceptor).promise -/
def p_impl_Acceptor_promise (n : Nat) (x : ((List (Int × (Int × (Int × ((Int × Int) × (List (Int × Int))))))) × (Int × (Int × Int)))) : Option (Int × ((Int × Int) × (List (Int × (Int × (Int × ((Int × Int) × (List (Int × Int))))))))) :=
(Option.bind (α := (Int × ((Int × Int) × (List (Int × (Int × (Int × ((Int × Int) × (List (Int × Int))))))))))
 ((m_impl_Acceptor_slot (x.1, x.2.1, x.2.2.1)).bind fun r6 =>
 ((m_impl_PromiseSlot (r6, x.2.2.2)).bind fun r7 =>
 (cond (!(r7.1 == (0 : Int)))
  (some (r7.1, (((0 : Int), (0 : Int)), [])))
  ((m_impl_copyAcceptor x.1).bind fun r8 =>
  ((m_impl_Acceptor_slotAt (r8, x.2.1, x.2.2.1)).bind fun r9 =>
  (cond r9.2
   ((geti r8 r9.1).bind fun _ =>
   ((r8[r9.1.toNat]?).bind fun _ =>
   some ((0 : Int), (r7.2.1, (r8.set r9.1.toNat r7.2.2)))))
   (cond ((lenI r8) == (60 : Int))
    (some ((2 : Int), (((0 : Int), (0 : Int)), [])))
    ((m_slices_Insert_impl_Slot_impl_Slot (r8, r9.1, [r7.2.2])).bind fun r10 =>
    some ((0 : Int), (r7.2.1, r10.1)))))))))) fun j11 =>
some j11)
def m_impl_Acceptor_promise (x : ((List (Int × (Int × (Int × ((Int × Int) × (List (Int × Int))))))) × (Int × (Int × Int)))) : Option (Int × ((Int × Int) × (List (Int × (Int × (Int × ((Int × Int) × (List (Int × Int))))))))) := p_impl_Acceptor_promise FU x
def a_impl_Acceptor_promise : Ann := (.node .leaf (.node (.regj 13 [.slot 13 Kd1] [] (.node .leaf (.node .leaf (.node .leaf (.node .leaf (.node .leaf (.node (.node .leaf (.node .leaf (.node .leaf (.node .leaf (.own 39 Kd9 .leaf))))) .leaf)))))) .leaf) .leaf))
def S_impl_Acceptor_promise : FSpec := ⟨[.val Kd7, .val (.int .i64), .val (.int .i64), .val (.int .i64)], [Kd1], m_impl_Acceptor_promise⟩

/-! impl.quorum -/
def p_impl_quorum (n : Nat) (x : Int) : Option Int :=
(cond ((2 : Int) == 0) none
 (some (IntKind.wrap .i64 ((IntKind.wrap .i64 (Int.tdiv x (2 : Int))) + (1 : Int)))))
def m_impl_quorum (x : Int) : Option Int := p_impl_quorum FU x
def a_impl_quorum : Ann := .leaf
def S_impl_quorum : FSpec := ⟨[.val (.int .i64)], [(.int .i64)], m_impl_quorum⟩

/-! impl.PickValue$1 -/
def p_impl_PickValue_1 (n : Nat) (x : (Int × Int)) : Option Bool :=
((m_impl_noVote ()).bind fun r1 =>
(cond (!((x.1 == r1.1) && ((x.2 == r1.2) && true)))
 ((m_impl_isVote x).bind fun r2 =>
 some (!r2))
 (some false)))
def m_impl_PickValue_1 (x : (Int × Int)) : Option Bool := p_impl_PickValue_1 FU x
def a_impl_PickValue_1 : Ann := .leaf
def S_impl_PickValue_1 : FSpec := ⟨[.val Kd18], [.bool], m_impl_PickValue_1⟩

/-! impl.PickValue -/
def l_impl_PickValue_1 (n : Nat) (x_1 : (List (Int × Int))) (z0 : Int) : Option Int :=
(lp (fun rec31 (z30 : Int) =>
 (cond (decide (z30 < (lenI x_1)))
  ((geti x_1 z30).bind fun y32 =>
  ((m_impl_PickValue_1 y32).bind fun r33 =>
  (cond r33
   (some z30)
   (rec31 (IntKind.wrap .i64 (z30 + (1 : Int)))))))
  (some (-1 : Int)))) n z0)
def l_impl_PickValue_2 (n : Nat) (x_1 : (List (Int × Int))) (z0 : (Int × (Int × Int))) : Option (Int × Int) :=
(lp (fun rec43 (z42 : (Int × (Int × Int))) =>
 (cond (decide (z42.1 < (lenI x_1)))
  ((geti x_1 z42.1).bind fun y44 =>
  (cond (decide (y44.1 > z42.2.1))
   (rec43 (IntKind.wrap .i64 (z42.1 + (1 : Int)), y44))
   (rec43 (IntKind.wrap .i64 (z42.1 + (1 : Int)), z42.2))))
  (some ((0 : Int), z42.2.2)))) n z0)
def p_impl_PickValue (n : Nat) (x : ((List (Int × Int)) × Int)) : Option (Int × Int) :=
(cond (decide ((lenI x.1) > (9 : Int)))
 (some ((2 : Int), (0 : Int)))
 (Option.bind (α := Bool)
  (Option.bind (α := Int)
   (l_impl_PickValue_1 n x.1 (0 : Int)) fun j35 =>
  (cond (decide (j35 ≥ (0 : Int)))
   (some true)
   ((m_impl_isValue x.2).bind fun r36 =>
   some (!r36)))) fun j37 =>
 (cond j37
  (some ((3 : Int), (0 : Int)))
  (l_impl_PickValue_2 n x.1 ((0 : Int), ((-1 : Int), x.2))))))
def m_impl_PickValue (x : ((List (Int × Int)) × Int)) : Option (Int × Int) := p_impl_PickValue FU x
def a_impl_PickValue : Ann := (.node .leaf (.node (.node .leaf (.node .leaf (.join [.slot 13 .bool] [14, 15, 16, 17, 18, 19, 20] (.reg 15 (.node .leaf (.node (.regj 7 [.slot 7 (.int .i64)] [] (.node .leaf (.node (.node .leaf (.loop [.slot 8 (.int .i64)] [4, 5, 9, 10, 11, 12, 13, 14, 15, 16, 17, 18] .leaf)) .leaf)) .leaf) .leaf)) .leaf) .leaf))) (.node .leaf (.node (.node .leaf (.loop [.slot 26 (.int .i64), .box 1 Kd18] [7, 27, 28, 29, 30, 31, 32, 33, 34, 35, 36] .leaf)) .leaf))))
def S_impl_PickValue : FSpec := ⟨[.val Kd16, .val (.int .i64)], [Kd18], m_impl_PickValue⟩

/-! impl.AcceptSlot -/
def p_impl_AcceptSlot (n : Nat) (x : ((Int × (Int × (Int × ((Int × Int) × (List (Int × Int)))))) × (Int × Int))) : Option (Int × ((Int × Int) × (Int × (Int × (Int × ((Int × Int) × (List (Int × Int)))))))) :=
((m_impl_SlotFault x.1).bind fun r1 =>
(cond (!(r1 == (0 : Int)))
 (some (r1, (((0 : Int), (0 : Int)), ((0 : Int), ((0 : Int), ((0 : Int), (((0 : Int), (0 : Int)), [])))))))
 ((m_impl_isVote x.2).bind fun r2 =>
 (cond (!r2)
  (some ((3 : Int), (((0 : Int), (0 : Int)), ((0 : Int), ((0 : Int), ((0 : Int), (((0 : Int), (0 : Int)), [])))))))
  (cond (decide (x.2.1 < x.1.2.2.1))
   (some ((8 : Int), (((0 : Int), (0 : Int)), ((0 : Int), ((0 : Int), ((0 : Int), (((0 : Int), (0 : Int)), [])))))))
   (Option.bind (α := Bool)
    (cond (x.2.1 == x.1.2.2.2.1.1)
     (some (!(x.2.2 == x.1.2.2.2.1.2)))
     (some false)) fun j3 =>
   (cond j3
    (some ((7 : Int), (((0 : Int), (0 : Int)), ((0 : Int), ((0 : Int), ((0 : Int), (((0 : Int), (0 : Int)), [])))))))
    (Option.bind (α := Bool)
     (cond (!((x.2.1 == x.1.2.2.2.1.1) && ((x.2.2 == x.1.2.2.2.1.2) && true)))
      (some ((lenI x.1.2.2.2.2) == (60 : Int)))
      (some false)) fun j4 =>
    (cond j4
     (some ((2 : Int), (((0 : Int), (0 : Int)), ((0 : Int), ((0 : Int), ((0 : Int), (((0 : Int), (0 : Int)), [])))))))
     ((m_impl_copySlot x.1).bind fun r5 =>
     (Option.bind (α := (Int × (Int × (Int × ((Int × Int) × (List (Int × Int)))))))
      (cond (!((x.2.1 == x.1.2.2.2.1.1) && ((x.2.2 == x.1.2.2.2.1.2) && true)))
       (chk (Nat.ble ((r5.2.2.2.2.length + [x.2].length) * 16) maxBytes)
       (some (r5.1, (r5.2.1, (x.2.1, (x.2, (r5.2.2.2.2 ++ [x.2])))))))
       (some (r5.1, (r5.2.1, (x.2.1, (x.2, r5.2.2.2.2)))))) fun j6 =>
     some ((0 : Int), (x.1.2.2.2.1, j6)))))))))))))
def m_impl_AcceptSlot (x : ((Int × (Int × (Int × ((Int × Int) × (List (Int × Int)))))) × (Int × Int))) : Option (Int × ((Int × Int) × (Int × (Int × (Int × ((Int × Int) × (List (Int × Int)))))))) := p_impl_AcceptSlot FU x
def a_impl_AcceptSlot : Ann := (.node .leaf (.node .leaf (.node .leaf (.node (.node .leaf (.node .leaf (.node .leaf (.node .leaf (.join [.slot 30 .bool] [31, 32, 33, 34, 35, 36, 37, 38, 39, 40, 41, 42] .leaf (.node .leaf (.join [.slot 44 .bool] [45, 46, 47, 48, 49, 50, 51, 52, 53, 54] .leaf .leaf))))))) (.node .leaf (.join [.box 4 Kd9] [58, 59, 60, 61, 62, 63, 64, 65, 66, 67, 68, 69, 70, 71] .leaf .leaf))))))
def S_impl_AcceptSlot : FSpec := ⟨[.val Kd10, .val (.int .i64), .val (.int .i64)], [Kd2], m_impl_AcceptSlot⟩

/-! impl.Acceptor).accept -/
def p_impl_Acceptor_accept (n : Nat) (x : ((List (Int × (Int × (Int × ((Int × Int) × (List (Int × Int))))))) × (Int × (Int × (Int × Int))))) : Option (Int × ((Int × Int) × (List (Int × (Int × (Int × ((Int × Int) × (List (Int × Int))))))))) :=
(Option.bind (α := (Int × ((Int × Int) × (List (Int × (Int × (Int × ((Int × Int) × (List (Int × Int))))))))))
 ((m_impl_Acceptor_slot (x.1, x.2.1, x.2.2.1)).bind fun r6 =>
 ((m_impl_AcceptSlot (r6, x.2.2.2.1, x.2.2.2.2)).bind fun r7 =>
 (cond (!(r7.1 == (0 : Int)))
  (some (r7.1, (((0 : Int), (0 : Int)), [])))
  ((m_impl_copyAcceptor x.1).bind fun r8 =>
  ((m_impl_Acceptor_slotAt (r8, x.2.1, x.2.2.1)).bind fun r9 =>
  (cond r9.2
   ((geti r8 r9.1).bind fun _ =>
   ((r8[r9.1.toNat]?).bind fun _ =>
   some ((0 : Int), (r7.2.1, (r8.set r9.1.toNat r7.2.2)))))
   (cond ((lenI r8) == (60 : Int))
    (some ((2 : Int), (((0 : Int), (0 : Int)), [])))
    ((m_slices_Insert_impl_Slot_impl_Slot (r8, r9.1, [r7.2.2])).bind fun r10 =>
    some ((0 : Int), (r7.2.1, r10.1)))))))))) fun j11 =>
some j11)
def m_impl_Acceptor_accept (x : ((List (Int × (Int × (Int × ((Int × Int) × (List (Int × Int))))))) × (Int × (Int × (Int × Int))))) : Option (Int × ((Int × Int) × (List (Int × (Int × (Int × ((Int × Int) × (List (Int × Int))))))))) := p_impl_Acceptor_accept FU x
def a_impl_Acceptor_accept : Ann := (.node .leaf (.node (.regj 15 [.slot 15 Kd1] [] (.node .leaf (.node .leaf (.node .leaf (.node .leaf (.node .leaf (.node (.node .leaf (.node .leaf (.node .leaf (.node .leaf (.own 39 Kd9 .leaf))))) .leaf)))))) .leaf) .leaf))
def S_impl_Acceptor_accept : FSpec := ⟨[.val Kd7, .val (.int .i64), .val (.int .i64), .val (.int .i64), .val (.int .i64)], [Kd1], m_impl_Acceptor_accept⟩

/-! impl.RunBallot -/
def l_impl_RunBallot_1 (n : Nat) (x_2_1 : (List Int)) (x_2_2_1 : Int) (x_2_2_2_1 : Int) (x_2_2_2_2_1 : Int) (z0 : ((List Int) × ((List (Int × Int)) × (Int × (List (List (Int × (Int × (Int × ((Int × Int) × (List (Int × Int)))))))))))) : Option ((List Int) × ((List (Int × Int)) × (List (List (Int × (Int × (Int × ((Int × Int) × (List (Int × Int)))))))))) :=
(lp (fun rec40 (z39 : ((List Int) × ((List (Int × Int)) × (Int × (List (List (Int × (Int × (Int × ((Int × Int) × (List (Int × Int)))))))))))) =>
 (cond (decide (z39.2.2.1 < (lenI x_2_1)))
  ((geti x_2_1 z39.2.2.1).bind fun y41 =>
  ((geti z39.2.2.2 y41).bind fun _ =>
  ((z39.2.2.2[y41.toNat]?).bind fun y42 =>
  ((z39.2.2.2[y41.toNat]?).bind fun y43 =>
  ((m_impl_Acceptor_promise (y43, x_2_2_1, x_2_2_2_1, x_2_2_2_2_1)).bind fun r44 =>
  (cond (r44.1 == (0 : Int))
   (chk (Nat.ble ((z39.1.length + [y41].length) * 8) maxBytes)
   (chk (Nat.ble ((z39.2.1.length + [r44.2.1].length) * 16) maxBytes)
   ((geti z39.2.2.2 y41).bind fun _ =>
   ((z39.2.2.2[y41.toNat]?).bind fun _ =>
   rec40 ((z39.1 ++ [y41]), (z39.2.1 ++ [r44.2.1]), IntKind.wrap .i64 (z39.2.2.1 + (1 : Int)), (z39.2.2.2.set y41.toNat r44.2.2))))))
   (rec40 (z39.1, z39.2.1, IntKind.wrap .i64 (z39.2.2.1 + (1 : Int)), z39.2.2.2))))))))
  (some (z39.1, z39.2.1, z39.2.2.2)))) n z0)
def l_impl_RunBallot_2 (n : Nat) (j46_1 : (List Int)) (x_2_2_1 : Int) (x_2_2_2_1 : Int) (x_2_2_2_2_1 : Int) (r48_2 : Int) (z0 : (Int × (List (List (Int × (Int × (Int × ((Int × Int) × (List (Int × Int)))))))))) : Option (Int × (Int × (List (List (Int × (Int × (Int × ((Int × Int) × (List (Int × Int)))))))))) :=
(lp (fun rec60 (z59 : (Int × (List (List (Int × (Int × (Int × ((Int × Int) × (List (Int × Int)))))))))) =>
 (cond (decide (z59.1 < (lenI j46_1)))
  ((geti j46_1 z59.1).bind fun _ =>
  ((j46_1[z59.1.toNat]?).bind fun y61 =>
  ((geti z59.2 y61).bind fun _ =>
  ((z59.2[y61.toNat]?).bind fun y62 =>
  ((z59.2[y61.toNat]?).bind fun y63 =>
  ((m_impl_Acceptor_accept (y63, x_2_2_1, x_2_2_2_1, x_2_2_2_2_1, r48_2)).bind fun r64 =>
  (cond (r64.1 == (0 : Int))
   ((geti z59.2 y61).bind fun _ =>
   ((z59.2[y61.toNat]?).bind fun _ =>
   rec60 (IntKind.wrap .i64 (z59.1 + (1 : Int)), (z59.2.set y61.toNat r64.2.2))))
   (rec60 (IntKind.wrap .i64 (z59.1 + (1 : Int)), z59.2)))))))))
  (some ((0 : Int), (r48_2, z59.2))))) n z0)
def p_impl_RunBallot (n : Nat) (x : ((List (List (Int × (Int × (Int × ((Int × Int) × (List (Int × Int)))))))) × ((List Int) × (Int × (Int × (Int × Int)))))) : Option (Int × (Int × (List (List (Int × (Int × (Int × ((Int × Int) × (List (Int × Int)))))))))) :=
((m_impl_listFault x.1).bind fun r1 =>
((m_impl_NewSlot (x.2.2.1, x.2.2.2.1)).bind fun r2 =>
((m_impl_firstOf [r1, r2.1]).bind fun r3 =>
(cond (!(r3 == (0 : Int)))
 (some (r3, ((0 : Int), [])))
 (Option.bind (α := Bool)
  ((m_impl_isBallot x.2.2.2.2.1).bind fun r6 =>
  (cond (!r6)
   (some true)
   ((m_impl_isValue x.2.2.2.2.2).bind fun r7 =>
   some (!r7)))) fun j8 =>
 (cond j8
  (some ((3 : Int), ((0 : Int), [])))
  ((m_impl_size_impl_Acceptor x.1).bind fun r9 =>
  ((m_impl_reachedFault (x.2.1, r9)).bind fun r10 =>
  (cond (!(r10 == (0 : Int)))
   (some (r10, ((0 : Int), [])))
   ((m_impl_copyAcceptors x.1).bind fun r11 =>
   (Option.bind (α := ((List Int) × ((List (Int × Int)) × (List (List (Int × (Int × (Int × ((Int × Int) × (List (Int × Int)))))))))))
    (l_impl_RunBallot_1 n x.2.1 x.2.2.1 x.2.2.2.1 x.2.2.2.2.1 (([] : List Int), ([] : List (Int × Int)), (0 : Int), r11)) fun j46 =>
   ((m_impl_quorum (lenI x.1)).bind fun r47 =>
   (cond (decide ((lenI j46.1) < r47))
    (some ((4 : Int), ((0 : Int), j46.2.2)))
    ((m_impl_PickValue (j46.2.1, x.2.2.2.2.2)).bind fun r48 =>
    (l_impl_RunBallot_2 n j46.1 x.2.2.1 x.2.2.2.1 x.2.2.2.2.1 r48.2 ((0 : Int), j46.2.2))))))))))))))))
def m_impl_RunBallot (x : ((List (List (Int × (Int × (Int × ((Int × Int) × (List (Int × Int)))))))) × ((List Int) × (Int × (Int × (Int × Int)))))) : Option (Int × (Int × (List (List (Int × (Int × (Int × ((Int × Int) × (List (Int × Int)))))))))) := p_impl_RunBallot FU x
def a_impl_RunBallot : Ann := (.node .leaf (.node .leaf (.node (.join [.slot 44 .bool] [37, 38, 39, 40, 41, 42, 43] .leaf .leaf) (.node .leaf (.node .leaf (.join [.slot 16 Kd19, .slot 17 Kd15, .row 3 124 Kd5] [19, 20, 58, 59, 60, 61, 62, 63, 64, 65, 66, 67, 68, 69, 70, 71, 72, 73, 74, 75, 76, 77, 78, 79, 80, 81, 82, 83, 84, 85, 86, 87, 88, 89] (.node .leaf (.loop [.slot 16 Kd19, .slot 17 Kd15, .slot 60 (.int .i64), .row 3 124 Kd5] [19, 20, 61, 62, 63, 64, 65, 66, 67, 68, 69, 70, 71, 72, 73, 74, 75, 76, 77, 78, 79, 80, 81, 82, 83, 84, 85, 86, 87, 88, 89] (.node .leaf (.node .leaf (.node (.node .leaf (.node .leaf (.node .leaf (.node (.lazy 86 (.lazy 81 .leaf)) .leaf)))) .leaf))))) (.node .leaf (.node .leaf (.node (.node .leaf (.loop [.slot 104 (.int .i64), .row 3 124 Kd5] [23, 24, 105, 106, 107, 108, 109, 110, 111, 112, 113, 114, 115, 116, 117, 118, 119, 120, 121, 122, 123, 124, 125] .leaf)) .leaf)))))))))
def S_impl_RunBallot : FSpec := ⟨[.val Kd4, .val Kd20, .val (.int .i64), .val (.int .i64), .val (.int .i64), .val (.int .i64)], [(.pair (.int .i64) (.pair (.int .i64) Kd3))], m_impl_RunBallot⟩

/-! impl.slotsFor -/
def l_impl_slotsFor_1 (n : Nat) (x_1 : (List (List (Int × (Int × (Int × ((Int × Int) × (List (Int × Int))))))))) (x_2_1 : Int) (x_2_2 : Int) (z0 : ((List (Int × (Int × (Int × ((Int × Int) × (List (Int × Int))))))) × Int)) : Option (List (Int × (Int × (Int × ((Int × Int) × (List (Int × Int))))))) :=
(lp (fun rec5 (z4 : ((List (Int × (Int × (Int × ((Int × Int) × (List (Int × Int))))))) × Int)) =>
 (cond (decide (z4.2 < (lenI x_1)))
  ((geti x_1 z4.2).bind fun y6 =>
  ((m_impl_Acceptor_slot (y6, x_2_1, x_2_2)).bind fun r7 =>
  (chk (Nat.ble ((z4.1.length + [r7].length) * 64) maxBytes)
  (rec5 ((z4.1 ++ [r7]), IntKind.wrap .i64 (z4.2 + (1 : Int)))))))
  (some z4.1))) n z0)
def p_impl_slotsFor (n : Nat) (x : ((List (List (Int × (Int × (Int × ((Int × Int) × (List (Int × Int)))))))) × (Int × Int))) : Option (List (Int × (Int × (Int × ((Int × Int) × (List (Int × Int))))))) :=
(l_impl_slotsFor_1 n x.1 x.2.1 x.2.2 (([] : List (Int × (Int × (Int × ((Int × Int) × (List (Int × Int))))))), (0 : Int)))
def m_impl_slotsFor (x : ((List (List (Int × (Int × (Int × ((Int × Int) × (List (Int × Int)))))))) × (Int × Int))) : Option (List (Int × (Int × (Int × ((Int × Int) × (List (Int × Int))))))) := p_impl_slotsFor FU x
def a_impl_slotsFor : Ann := (.node .leaf (.node (.own 10 Kd9 .leaf) (.node (.node .leaf (.loop [.slot 7 Kd6, .slot 13 (.int .i64)] [9, 14, 15, 16, 17, 18, 19, 20, 21, 22, 23, 24] (.node .leaf (.node .leaf (.node (.node .leaf (.own 22 Kd9 .leaf)) .leaf))))) .leaf)))
def S_impl_slotsFor : FSpec := ⟨[.val Kd4, .val (.int .i64), .val (.int .i64)], [Kd6], m_impl_slotsFor⟩

/-! impl.Slot] -/
def p_impl_size_impl_Slot (n : Nat) (x : (List (Int × (Int × (Int × ((Int × Int) × (List (Int × Int)))))))) : Option Int :=
some (lenI x)
def m_impl_size_impl_Slot (x : (List (Int × (Int × (Int × ((Int × Int) × (List (Int × Int)))))))) : Option Int := p_impl_size_impl_Slot FU x
def a_impl_size_impl_Slot : Ann := .leaf
def S_impl_size_impl_Slot : FSpec := ⟨[.val Kd8], [(.int .i64)], m_impl_size_impl_Slot⟩

/-! impl.slotsFault -/
def l_impl_slotsFault_1 (n : Nat) (x : (List (Int × (Int × (Int × ((Int × Int) × (List (Int × Int)))))))) (z0 : Int) : Option (Unit ⊕ Int) :=
(lp (fun rec13 (z12 : Int) =>
 (cond (decide (z12 < (lenI x)))
  ((geti x z12).bind fun y14 =>
  ((m_impl_SlotFault y14).bind fun r15 =>
  (cond (!(r15 == (0 : Int)))
   (some (Sum.inr r15))
   (rec13 (IntKind.wrap .i64 (z12 + (1 : Int)))))))
  (some (Sum.inl ())))) n z0)
def l_impl_slotsFault_2 (n : Nat) (x : (List (Int × (Int × (Int × ((Int × Int) × (List (Int × Int)))))))) (z0 : Int) : Option Int :=
(lp (fun rec44 (z43 : Int) =>
 (cond (decide (z43 < (lenI x)))
  ((geti x z43).bind fun y45 =>
  (Option.bind (α := Bool)
   ((geti x (0 : Int)).bind fun y48 =>
   (cond (!(y45.1 == y48.1))
    (some true)
    ((geti x (0 : Int)).bind fun y49 =>
    some (!(y45.2.1 == y49.2.1))))) fun j50 =>
  (cond j50
   (some z43)
   (rec44 (IntKind.wrap .i64 (z43 + (1 : Int)))))))
  (some (-1 : Int)))) n z0)
def p_impl_slotsFault (n : Nat) (x : (List (Int × (Int × (Int × ((Int × Int) × (List (Int × Int)))))))) : Option Int :=
(Option.bind (α := (Unit ⊕ Int))
 (l_impl_slotsFault_1 n x (0 : Int))
 (Sum.elim (fun j17 =>
((m_impl_size_impl_Slot x).bind fun r18 =>
((m_impl_within (r18, (1 : Int), (9 : Int))).bind fun r19 =>
(cond (!r19)
 (some (2 : Int))
 (Option.bind (α := Int)
  (l_impl_slotsFault_2 n x (0 : Int)) fun j52 =>
 (cond (decide (j52 ≥ (0 : Int)))
  (some (1 : Int))
  (some (0 : Int)))))))) some))
def m_impl_slotsFault (x : (List (Int × (Int × (Int × ((Int × Int) × (List (Int × Int)))))))) : Option Int := p_impl_slotsFault FU x
def a_impl_slotsFault : Ann := (.node .leaf (.joinx [] [2, 4, 5, 6, 7, 8, 9, 10, 11, 12, 13, 14, 15, 16, 17] (.node .leaf (.loop [.slot 8 (.int .i64)] [2, 4, 5, 9, 10, 11, 12, 13, 14, 15, 16, 17] .leaf)) (.node .leaf (.node (.node (.reg 24 (.node .leaf (.node (.regj 7 [.slot 7 (.int .i64)] [] (.node .leaf (.node (.node .leaf (.loop [.slot 8 (.int .i64)] [4, 5, 9, 10, 11, 12, 13, 14, 15, 16, 17, 18] (.node .leaf (.node .leaf (.node (.node .leaf (.node (.regj 16 [.slot 16 .bool] [] .leaf .leaf) .leaf)) .leaf))))) .leaf)) .leaf) .leaf)) .leaf) .leaf) .leaf))))
def S_impl_slotsFault : FSpec := ⟨[.val Kd8], [(.int .i64)], m_impl_slotsFault⟩

/-! impl.Vote] -/
def l_slices_Compact_impl_Vote_impl_Vote_1 (n : Nat) (x : (List (Int × Int))) (z77 : Int) (z0 : (Int × (Int × (List (Int × Int))))) : Option (Int × (List (Int × Int))) :=
(lp (fun rec146 (z145 : (Int × (Int × (List (Int × Int))))) =>
 (cond (decide (z145.2.1 < (((x.length - z77.toNat) : Nat) : Int)))
  ((geti ((z145.2.2.drop z77.toNat).take (x.length - z77.toNat)) z145.2.1).bind fun _ =>
  ((z145.2.2[(z77.toNat + z145.2.1.toNat)]?).bind fun y147 =>
  ((geti ((z145.2.2.drop z77.toNat).take (x.length - z77.toNat)) (IntKind.wrap .i64 (z145.2.1 - (1 : Int)))).bind fun _ =>
  ((z145.2.2[(z77.toNat + (IntKind.wrap .i64 (z145.2.1 - (1 : Int))).toNat)]?).bind fun y148 =>
  (cond (!((y147.1 == y148.1) && ((y147.2 == y148.2) && true)))
   ((geti ((z145.2.2.drop z77.toNat).take (x.length - z77.toNat)) z145.2.1).bind fun _ =>
   ((z145.2.2[(z77.toNat + z145.2.1.toNat)]?).bind fun y149 =>
   ((geti z145.2.2 z145.1).bind fun _ =>
   ((z145.2.2[z145.1.toNat]?).bind fun y150 =>
   rec146 (IntKind.wrap .i64 (z145.1 + (1 : Int)), IntKind.wrap .i64 (z145.2.1 + (1 : Int)), (z145.2.2.set z145.1.toNat y149))))))
   (rec146 (z145.1, IntKind.wrap .i64 (z145.2.1 + (1 : Int)), z145.2.2)))))))
  (some (z145.1, z145.2.2)))) n z0)
def l_slices_Compact_impl_Vote_impl_Vote_2 (n : Nat) (x : (List (Int × Int))) (z0 : Int) : Option ((List (Int × Int)) × Bool) :=
(lp (fun rec78 (z77 : Int) =>
 (cond (decide (z77 < (lenI x)))
  (Option.bind (α := (Unit ⊕ ((List (Int × Int)) × Bool)))
   ((geti x z77).bind fun _ =>
   ((x[z77.toNat]?).bind fun y116 =>
   ((geti x (IntKind.wrap .i64 (z77 - (1 : Int)))).bind fun _ =>
   ((x[(IntKind.wrap .i64 (z77 - (1 : Int))).toNat]?).bind fun y117 =>
   (cond ((y116.1 == y117.1) && ((y116.2 == y117.2) && true))
    (chk (bndB (some z77) none none x.length)
     (Option.bind (α := (Int × (List (Int × Int))))
      (l_slices_Compact_impl_Vote_impl_Vote_1 n x z77 (z77, (1 : Int), x)) fun j152 =>
     (chk (bndB (some j152.1) none none j152.2.length)
      (chk (bndB none (some j152.1) none (j152.2.take j152.1.toNat ++ List.replicate (j152.2.length - j152.1.toNat) ((0 : Int), (0 : Int)) ++ j152.2.drop (j152.1.toNat + (j152.2.length - j152.1.toNat))).length)
       (some (Sum.inr (((j152.2.take j152.1.toNat ++ List.replicate (j152.2.length - j152.1.toNat) ((0 : Int), (0 : Int)) ++ j152.2.drop (j152.1.toNat + (j152.2.length - j152.1.toNat))).take j152.1.toNat), true)))))))
    (some (Sum.inl ())))))))
   (Sum.elim (fun j153 =>
  rec78 (IntKind.wrap .i64 (z77 + (1 : Int)))) some))
  (some (x, true)))) n z0)
def p_slices_Compact_impl_Vote_impl_Vote (n : Nat) (x : (List (Int × Int))) : Option ((List (Int × Int)) × Bool) :=
(cond (decide ((lenI x) < (2 : Int)))
 (some (x, true))
 (l_slices_Compact_impl_Vote_impl_Vote_2 n x (1 : Int)))
def m_slices_Compact_impl_Vote_impl_Vote (x : (List (Int × Int))) : Option ((List (Int × Int)) × Bool) := p_slices_Compact_impl_Vote_impl_Vote FU x
def a_slices_Compact_impl_Vote_impl_Vote : Ann := (.node .leaf (.node .leaf (.node (.node .leaf (.loop [.slot 3 (.int .i64)] [2, 4, 5, 10, 11, 12, 13, 14, 15, 16, 17, 18, 19, 20, 21, 22, 23, 24, 25, 26, 27, 28, 29, 30, 31, 32, 33, 34, 35, 36, 37, 38, 39, 40, 41, 42, 43, 44, 45, 46, 47, 48, 49, 50, 51, 52, 53, 54, 55, 56, 57, 58, 59] (.node .leaf (.joinx [] [16, 17, 18, 19, 20, 21, 22, 23, 24, 25] (.node .leaf (.node (.node .leaf (.join [.slot 3 (.int .i64), .row 0 79 Kd18] [5, 29, 30, 31, 32, 33, 34, 35, 36, 37, 38, 39, 40, 41, 42, 43, 44, 45, 46, 47, 48, 49, 50, 51, 52, 53] (.node .leaf (.loop [.slot 3 (.int .i64), .slot 5 (.int .i64), .row 0 79 Kd18] [29, 30, 31, 32, 33, 34, 35, 36, 37, 38, 39, 40, 41, 42, 43, 44, 45, 46, 47, 48, 49, 50, 51, 52, 53] .leaf)) (.node .leaf (.node (.own 59 Kd18 .leaf) .leaf)))) .leaf)) .leaf)))) .leaf)))
def S_slices_Compact_impl_Vote_impl_Vote : FSpec := ⟨[.own 79 Kd18], [Kd15], m_slices_Compact_impl_Vote_impl_Vote⟩

/-! impl.Vote] -/
def p_slices_SortFunc_impl_Vote_impl_Vote (n : Nat) (x : ((List (Int × Int)) × Bool)) : Option (List (Int × Int)) :=
sortRun okVote ((0 : Int), (0 : Int)) rfl cfVote x.1
def m_slices_SortFunc_impl_Vote_impl_Vote (x : ((List (Int × Int)) × Bool)) : Option (List (Int × Int)) := p_slices_SortFunc_impl_Vote_impl_Vote FU x
def a_slices_SortFunc_impl_Vote_impl_Vote : Ann := .leaf
def S_slices_SortFunc_impl_Vote_impl_Vote : FSpec := ⟨[.row 79 Kd18, .fn 317], [], m_slices_SortFunc_impl_Vote_impl_Vote⟩

/-! impl.chosen -/
def l_impl_chosen_1 (n : Nat) (r171_1 : (List (Int × Int))) (x : (List (Int × (Int × (Int × ((Int × Int) × (List (Int × Int)))))))) (z0 : ((List (Int × Int)) × (Int × (List ((Int × Int) × Int))))) : Option ((List (Int × Int)) × (List ((Int × Int) × Int))) :=
(lp (fun rec179 (z178 : ((List (Int × Int)) × (Int × (List ((Int × Int) × Int))))) =>
 (cond (decide (z178.2.1 < (lenI r171_1)))
  ((geti r171_1 z178.2.1).bind fun _ =>
  ((r171_1[z178.2.1.toNat]?).bind fun y180 =>
  ((geti (mput Kd18 z178.2.2 y180) ((mfind Kd18 z178.2.2 y180 : Nat) : Int)).bind fun _ =>
  ((m_impl_quorum (lenI x)).bind fun r181 =>
  (cond ((mlook Kd18 (mset Kd18 (mput Kd18 z178.2.2 y180) ((mfind Kd18 z178.2.2 y180 : Nat) : Int).toNat (IntKind.wrap .i64 ((mlook Kd18 z178.2.2 y180) + (1 : Int)))) y180) == r181)
   (chk (Nat.ble ((z178.1.length + [y180].length) * 16) maxBytes)
   (rec179 ((z178.1 ++ [y180]), IntKind.wrap .i64 (z178.2.1 + (1 : Int)), (mset Kd18 (mput Kd18 z178.2.2 y180) ((mfind Kd18 z178.2.2 y180 : Nat) : Int).toNat (IntKind.wrap .i64 ((mlook Kd18 z178.2.2 y180) + (1 : Int)))))))
   (rec179 (z178.1, IntKind.wrap .i64 (z178.2.1 + (1 : Int)), (mset Kd18 (mput Kd18 z178.2.2 y180) ((mfind Kd18 z178.2.2 y180 : Nat) : Int).toNat (IntKind.wrap .i64 ((mlook Kd18 z178.2.2 y180) + (1 : Int)))))))))))
  (some (z178.1, z178.2.2)))) n z0)
def l_impl_chosen_2 (n : Nat) (x : (List (Int × (Int × (Int × ((Int × Int) × (List (Int × Int)))))))) (z0 : ((List (Int × Int)) × (Int × (List ((Int × Int) × Int))))) : Option ((List (Int × Int)) × (List ((Int × Int) × Int))) :=
(lp (fun rec154 (z153 : ((List (Int × Int)) × (Int × (List ((Int × Int) × Int))))) =>
 (cond (decide (z153.2.1 < (lenI x)))
  (Option.bind (α := ((List (Int × Int)) × (List ((Int × Int) × Int))))
   ((geti x z153.2.1).bind fun y169 =>
   ((m_slices_Clone_impl_Vote_impl_Vote y169.2.2.2.2).bind fun r170 =>
   ((m_slices_Compact_impl_Vote_impl_Vote r170).bind fun r171 =>
   (l_impl_chosen_1 n r171.1 x (z153.1, (0 : Int), z153.2.2))))) fun j183 =>
  rec154 (j183.1, IntKind.wrap .i64 (z153.2.1 + (1 : Int)), j183.2))
  (some (z153.1, z153.2.2)))) n z0)
def p_impl_chosen (n : Nat) (x : (List (Int × (Int × (Int × ((Int × Int) × (List (Int × Int)))))))) : Option (List (Int × Int)) :=
(Option.bind (α := ((List (Int × Int)) × (List ((Int × Int) × Int))))
 (l_impl_chosen_2 n x (([] : List (Int × Int)), (0 : Int), ([] : List ((Int × Int) × Int)))) fun j185 =>
((m_slices_SortFunc_impl_Vote_impl_Vote (j185.1, true)).bind fun r186 =>
some r186))
def m_impl_chosen (x : (List (Int × (Int × (Int × ((Int × Int) × (List (Int × Int)))))))) : Option (List (Int × Int)) := p_impl_chosen FU x
def a_impl_chosen : Ann := (.node .leaf (.node .leaf (.join [.slot 4 Kd15, .map 0 Kd18 .i64] [6, 8, 11, 12, 13, 14, 15, 16, 17, 18, 19, 20, 21, 22, 23, 24, 25, 26, 27, 28, 29, 30, 31, 32, 33, 34, 35, 36, 37, 38, 39, 40, 41, 42, 43, 44] (.node .leaf (.loop [.slot 4 Kd15, .slot 13 (.int .i64), .map 0 Kd18 .i64] [6, 8, 14, 15, 16, 17, 18, 19, 20, 21, 22, 23, 24, 25, 26, 27, 28, 29, 30, 31, 32, 33, 34, 35, 36, 37, 38, 39, 40, 41, 42, 43, 44] (.node .leaf (.node .leaf (.join [.slot 4 Kd15, .map 0 Kd18 .i64] [6, 8, 15, 16, 17, 18, 19, 20, 21, 22, 23, 24, 25, 26, 27, 28, 29, 30, 31, 32, 33, 34, 35, 36, 37, 38, 39, 40, 41, 42, 43] (.node .leaf (.node .leaf (.loop [.slot 4 Kd15, .slot 22 (.int .i64), .map 0 Kd18 .i64] [8, 23, 24, 25, 26, 27, 28, 29, 30, 31, 32, 33, 34, 35, 36, 37, 38, 39, 40, 41, 42, 43] .leaf))) .leaf))))) .leaf)))
def S_impl_chosen : FSpec := ⟨[.val Kd8], [Kd15], m_impl_chosen⟩

/-! impl.ChosenIn -/
def p_impl_ChosenIn (n : Nat) (x : (List (Int × (Int × (Int × ((Int × Int) × (List (Int × Int)))))))) : Option (Int × (Int × Int)) :=
((m_impl_slotsFault x).bind fun r1 =>
(cond (!(r1 == (0 : Int)))
 (some (r1, ((0 : Int), (0 : Int))))
 ((m_impl_chosen x).bind fun r2 =>
 (cond ((lenI r2) == (0 : Int))
  (some ((4 : Int), ((0 : Int), (0 : Int))))
  ((geti r2 (0 : Int)).bind fun _ =>
  ((r2[(0 : Int).toNat]?).bind fun y3 =>
  some ((0 : Int), y3)))))))
def m_impl_ChosenIn (x : (List (Int × (Int × (Int × ((Int × Int) × (List (Int × Int)))))))) : Option (Int × (Int × Int)) := p_impl_ChosenIn FU x
def a_impl_ChosenIn : Ann := .leaf
def S_impl_ChosenIn : FSpec := ⟨[.val Kd8], [(.pair (.int .i64) Kd18)], m_impl_ChosenIn⟩

/-! impl.outcomeOf -/
def l_impl_outcomeOf_1 (n : Nat) (r12 : (List Int)) (x_1 : (List (List (Int × (Int × (Int × ((Int × Int) × (List (Int × Int))))))))) (x_2_1 : Int) (z0 : (Bool × Int)) : Option (Bool ⊕ Int) :=
(lp (fun rec18 (z17 : (Bool × Int)) =>
 (cond (decide (z17.2 < (lenI r12)))
  ((geti r12 z17.2).bind fun _ =>
  ((r12[z17.2.toNat]?).bind fun y19 =>
  ((m_impl_slotsFor (x_1, x_2_1, y19)).bind fun r20 =>
  ((m_impl_ChosenIn r20).bind fun r21 =>
  (cond (r21.2.2 == (2 : Int))
   (some (Sum.inr (2 : Int)))
   (cond (r21.2.2 == (0 : Int))
    (rec18 (false, IntKind.wrap .i64 (z17.2 + (1 : Int))))
    (rec18 (z17.1, IntKind.wrap .i64 (z17.2 + (1 : Int))))))))))
  (some (Sum.inl z17.1)))) n z0)
def p_impl_outcomeOf (n : Nat) (x : ((List (List (Int × (Int × (Int × ((Int × Int) × (List (Int × Int)))))))) × (Int × (List (Int × (Int × (Int × Int))))))) : Option Int :=
(Option.bind (α := (Bool ⊕ Int))
 ((m_impl_shardsOf x.2).bind fun r12 =>
 (l_impl_outcomeOf_1 n r12 x.1 x.2.1 (true, (0 : Int))))
 (Sum.elim (fun j23 =>
(cond j23
 (some (1 : Int))
 (some (0 : Int)))) some))
def m_impl_outcomeOf (x : ((List (List (Int × (Int × (Int × ((Int × Int) × (List (Int × Int)))))))) × (Int × (List (Int × (Int × (Int × Int))))))) : Option Int := p_impl_outcomeOf FU x
def a_impl_outcomeOf : Ann := (.node .leaf (.node .leaf (.joinx [.slot 5 .bool] [4, 7, 8, 9, 10, 11, 12, 13, 14, 15, 16, 17, 18, 19, 20, 21, 22, 23, 24, 25, 26, 27] (.node .leaf (.loop [.slot 5 .bool, .slot 11 (.int .i64)] [4, 7, 12, 13, 14, 15, 16, 17, 18, 19, 20, 21, 22, 23, 24, 25, 26, 27] .leaf)) .leaf)))
def S_impl_outcomeOf : FSpec := ⟨[.val Kd4, .val Kd12], [(.int .i64)], m_impl_outcomeOf⟩

/-! impl.OutcomeOf -/
def p_impl_OutcomeOf (n : Nat) (x : ((List (List (Int × (Int × (Int × ((Int × Int) × (List (Int × Int)))))))) × (Int × (List (Int × (Int × (Int × Int))))))) : Option (Int × Int) :=
((m_impl_listFault x.1).bind fun r1 =>
((m_impl_ContractFault x.2).bind fun r2 =>
((m_impl_firstOf [r1, r2]).bind fun r3 =>
(cond (!(r3 == (0 : Int)))
 (some (r3, (0 : Int)))
 ((m_impl_outcomeOf (x.1, x.2)).bind fun r4 =>
 some ((0 : Int), r4))))))
def m_impl_OutcomeOf (x : ((List (List (Int × (Int × (Int × ((Int × Int) × (List (Int × Int)))))))) × (Int × (List (Int × (Int × (Int × Int))))))) : Option (Int × Int) := p_impl_OutcomeOf FU x
def a_impl_OutcomeOf : Ann := (.node .leaf (.node (.node (.lazy 10 .leaf) .leaf) .leaf))
def S_impl_OutcomeOf : FSpec := ⟨[.val Kd4, .val Kd12], [Kd18], m_impl_OutcomeOf⟩

/-! laws.FnOutcomes -/
def l_laws_FnOutcomes_1 (n : Nat) (x : (List Int)) (r3_2 : (List Int)) (r2 : (Int × (List (Int × (Int × (Int × Int)))))) (z0 : ((List (List (Int × (Int × (Int × ((Int × Int) × (List (Int × Int)))))))) × (Int × Int))) : Option Bool :=
(lp (fun rec13 (z12 : ((List (List (Int × (Int × (Int × ((Int × Int) × (List (Int × Int)))))))) × (Int × Int))) =>
 (cond (decide (z12.2.2 < (12 : Int)))
  (same
   ((m_laws_lwReached (x, z12.2.2, (3 : Int))).bind fun r14 =>
   (same
    ((m_laws_lwAt (x, IntKind.wrap .i64 (z12.2.2 + (30 : Int)), lenI r3_2)).bind fun r15 =>
    ((geti r3_2 r15).bind fun _ =>
    ((r3_2[r15.toNat]?).bind fun y16 =>
    (same
     ((m_laws_lwAt (x, IntKind.wrap .i64 (z12.2.2 + (60 : Int)), (4 : Int))).bind fun r17 =>
     (cond ((3 : Int) == 0) none
      (dup 1
       ((m_impl_RunBallot (z12.1, r14, r2.1, y16, z12.2.2, IntKind.wrap .i64 ((1 : Int) + (IntKind.wrap .i64 (Int.tdiv r17 (3 : Int)))))).bind fun r18 =>
       (cond (!((lenI r18.2.2) == (3 : Int)))
        (some false)
        ((m_impl_OutcomeOf (r18.2.2, r2)).bind fun r19 =>
        (Option.bind (α := Bool)
         (cond (!(r19.1 == (0 : Int)))
          (some true)
          (cond (!(z12.2.1 == (0 : Int)))
           (some (!(r19.2 == z12.2.1)))
           (some false))) fun j20 =>
        (cond j20
         (some false)
         (rec13 (r18.2.2, r19.2, IntKind.wrap .i64 (z12.2.2 + (1 : Int))))))))))))
     ((m_laws_lwAt (x, IntKind.wrap .i64 (z12.2.2 + (60 : Int)), (4 : Int))).bind fun r17 =>
     (cond ((3 : Int) == 0) none
      ((m_impl_RunBallot (z12.1, r14, r2.1, y16, z12.2.2, IntKind.wrap .i64 ((1 : Int) + (IntKind.wrap .i64 (Int.tdiv r17 (3 : Int)))))).bind fun r18 =>
      (cond (!((lenI r18.2.2) == (3 : Int)))
       (some false)
       ((m_impl_OutcomeOf (r18.2.2, r2)).bind fun r19 =>
       (Option.bind (α := Bool)
        (cond (!(r19.1 == (0 : Int)))
         (some true)
         (cond (!(z12.2.1 == (0 : Int)))
          (some (!(r19.2 == z12.2.1)))
          (some false))) fun j20 =>
       (cond j20
        (some false)
        (rec13 (r18.2.2, r19.2, IntKind.wrap .i64 (z12.2.2 + (1 : Int)))))))))))))))
    ((m_laws_lwAt (x, IntKind.wrap .i64 (z12.2.2 + (30 : Int)), lenI r3_2)).bind fun r15 =>
    ((geti r3_2 r15).bind fun _ =>
    ((r3_2[r15.toNat]?).bind fun y16 =>
    ((m_laws_lwAt (x, IntKind.wrap .i64 (z12.2.2 + (60 : Int)), (4 : Int))).bind fun r17 =>
    (cond ((3 : Int) == 0) none
     ((m_impl_RunBallot (z12.1, r14, r2.1, y16, z12.2.2, IntKind.wrap .i64 ((1 : Int) + (IntKind.wrap .i64 (Int.tdiv r17 (3 : Int)))))).bind fun r18 =>
     (cond (!((lenI r18.2.2) == (3 : Int)))
      (some false)
      ((m_impl_OutcomeOf (r18.2.2, r2)).bind fun r19 =>
      (Option.bind (α := Bool)
       (cond (!(r19.1 == (0 : Int)))
        (some true)
        (cond (!(z12.2.1 == (0 : Int)))
         (some (!(r19.2 == z12.2.1)))
         (some false))) fun j20 =>
      (cond j20
       (some false)
       (rec13 (r18.2.2, r19.2, IntKind.wrap .i64 (z12.2.2 + (1 : Int))))))))))))))))
   ((m_laws_lwReached (x, z12.2.2, (3 : Int))).bind fun r14 =>
   ((m_laws_lwAt (x, IntKind.wrap .i64 (z12.2.2 + (30 : Int)), lenI r3_2)).bind fun r15 =>
   ((geti r3_2 r15).bind fun _ =>
   ((r3_2[r15.toNat]?).bind fun y16 =>
   ((m_laws_lwAt (x, IntKind.wrap .i64 (z12.2.2 + (60 : Int)), (4 : Int))).bind fun r17 =>
   (cond ((3 : Int) == 0) none
    ((m_impl_RunBallot (z12.1, r14, r2.1, y16, z12.2.2, IntKind.wrap .i64 ((1 : Int) + (IntKind.wrap .i64 (Int.tdiv r17 (3 : Int)))))).bind fun r18 =>
    (cond (!((lenI r18.2.2) == (3 : Int)))
     (some false)
     ((m_impl_OutcomeOf (r18.2.2, r2)).bind fun r19 =>
     (Option.bind (α := Bool)
      (cond (!(r19.1 == (0 : Int)))
       (some true)
       (cond (!(z12.2.1 == (0 : Int)))
        (some (!(r19.2 == z12.2.1)))
        (some false))) fun j20 =>
     (cond j20
      (some false)
      (rec13 (r18.2.2, r19.2, IntKind.wrap .i64 (z12.2.2 + (1 : Int))))))))))))))))
  (some true))) n z0)
def p_laws_FnOutcomes (n : Nat) (x : (List Int)) : Option Bool :=
((m_laws_lwBig x).bind fun r1 =>
(cond r1
 (some true)
 ((m_spec_DrawRightContract (x, (9 : Int))).bind fun r2 =>
 ((m_impl_ShardsOf r2).bind fun r3 =>
 (if (3 : Int) = (3 : Int) then (if 0 ≤ (3 : Int) then chk (Nat.ble (24 * (3 : Int).toNat) maxBytes)
 (cond ((lenI r3.2) == (0 : Int))
  (some false)
  (l_laws_FnOutcomes_1 n x r3.2 r2 ((List.replicate (3 : Int).toNat []), (0 : Int), (0 : Int)))) else none) else none)))))
def m_laws_FnOutcomes (x : (List Int)) : Option Bool := p_laws_FnOutcomes FU x
def a_laws_FnOutcomes : Ann := (.node .leaf (.node .leaf (.node .leaf (.node .leaf (.node (.own 17 Kd5 .leaf) (.node .leaf (.node .leaf (.node (.node .leaf (.loop [.slot 5 Kd3, .slot 6 (.int .i64), .slot 7 (.int .i64)] [2, 8, 9, 21, 22, 23, 24, 25, 26, 27, 28, 29, 30, 31, 32, 33, 34, 35, 36, 37, 38, 39, 40, 41, 42, 43, 44, 45, 46, 47, 48, 49, 50, 51, 52, 53, 54, 55, 56, 57, 58, 59, 60, 61, 62, 63, 64, 65, 66, 67, 68, 69, 70, 71] (.node .leaf (.node (.node .leaf (.node .leaf (.node .leaf (.node .leaf (.node (.join [.slot 69 .bool] [57, 58, 59, 60, 61, 62, 63, 64, 65, 66, 67, 68] .leaf .leaf) .leaf))))) .leaf)))) .leaf))))))))
def S_laws_FnOutcomes : FSpec := ⟨[.val (.sl none (.int .u8))], [.bool], m_laws_FnOutcomes⟩

def T : Tab := [
  (2, ⟨false, 1, 8, [], 0, [.int .i64 0], some (.int .i64), [0]⟩),
  (3, ⟨false, 1, 8, [], 0, [.int .i64 0], some (.int .i64), [0]⟩),
  (5, ⟨false, 1, 1, [], 0, [.int .u8 0], some (.int .u8), [0]⟩),
  (23, ⟨false, 1, 24, [], 2, [.nil], some Kd20, []⟩),
  (25, ⟨false, 1, 24, [], 124, [.nil], some Kd4, []⟩),
  (27, ⟨true, 3, 40, [(0, 1, 2), (1, 1, 2), (2, 1, 25)], 0, [.int .i64 0, .int .i64 0, .nil], some (.pair (.int .i64) (.pair (.int .i64) Kd4)), []⟩),
  (43, ⟨true, 2, 16, [(0, 1, 2), (1, 1, 2)], 0, [.int .i64 0, .int .i64 0], some Kd18, [0, 0]⟩),
  (45, ⟨false, 1, 24, [], 194, [.nil], some Kd13, []⟩),
  (47, ⟨true, 2, 32, [(0, 1, 2), (1, 1, 45)], 0, [.int .i64 0, .nil], some Kd12, []⟩),
  (52, ⟨false, 1, 24, [], 5, [.nil], some (.sl none (.int .u8)), []⟩),
  (56, ⟨true, 2, 32, [(0, 1, 2), (1, 1, 23)], 0, [.int .i64 0, .nil], some (.pair (.int .i64) Kd20), []⟩),
  (79, ⟨true, 2, 16, [(0, 1, 2), (1, 1, 2)], 0, [.int .i64 0, .int .i64 0], some Kd18, [0, 0]⟩),
  (115, ⟨false, 1, 24, [], 135, [.nil], some Kd8, []⟩),
  (122, ⟨false, 1, 24, [], 79, [.nil], some Kd16, []⟩),
  (124, ⟨true, 1, 24, [(0, 1, 115)], 0, [.nil], some Kd7, []⟩),
  (126, ⟨true, 4, 48, [(0, 1, 2), (1, 2, 79), (3, 1, 124)], 0, [.int .i64 0, .int .i64 0, .int .i64 0, .nil], some (.pair (.int .i64) (.pair Kd18 Kd7)), []⟩),
  (135, ⟨true, 6, 64, [(0, 1, 2), (1, 1, 2), (2, 1, 2), (3, 2, 79), (5, 1, 122)], 0, [.int .i64 0, .int .i64 0, .int .i64 0, .int .i64 0, .int .i64 0, .nil], some Kd10, []⟩),
  (137, ⟨true, 9, 88, [(0, 1, 2), (1, 2, 79), (3, 6, 135)], 0, [.int .i64 0, .int .i64 0, .int .i64 0, .int .i64 0, .int .i64 0, .int .i64 0, .int .i64 0, .int .i64 0, .nil], some (.pair (.int .i64) (.pair Kd18 Kd10)), []⟩),
  (194, ⟨true, 4, 32, [(0, 1, 2), (1, 1, 2), (2, 1, 2), (3, 1, 2)], 0, [.int .i64 0, .int .i64 0, .int .i64 0, .int .i64 0], some Kd14, [0, 0, 0, 0]⟩),
  (226, ⟨false, 1, 8, [(2, 0, 2)], 0, [.undef], none, []⟩),
  (231, ⟨true, 3, 24, [(0, 1, 2), (1, 2, 79)], 0, [.int .i64 0, .int .i64 0, .int .i64 0], some (.pair (.int .i64) Kd18), [0, 0, 0]⟩),
  (235, ⟨true, 2, 32, [(0, 1, 52), (1, 1, 2)], 0, [.nil, .int .i64 0], some Kd17, []⟩),
  (309, ⟨false, 1, 8, [], 0, [.int .u64 0], some (.int .u64), [0]⟩),
  (344, ⟨false, 1, 8, [(79, 0, 3)], 0, [.undef], none, []⟩),
  (370, ⟨false, 1, 24, [], 3, [.nil], some Kd20, []⟩)]
def G_laws_lwBig : Env := (29, S_laws_lwBig) :: []
def G_spec_l1Next : Env := (194, S_spec_l1Next) :: G_laws_lwBig
def G_spec_l1In : Env := (63, S_spec_l1In) :: G_spec_l1Next
def G_spec_l1Id : Env := (181, S_spec_l1Id) :: G_spec_l1In
def G_spec_LegFault : Env := (182, S_spec_LegFault) :: G_spec_l1Id
def G_spec_ContractFault : Env := (87, S_spec_ContractFault) :: G_spec_LegFault
def G_spec_l1Draw : Env := (93, S_spec_l1Draw) :: G_spec_ContractFault
def G_spec_DrawRightContract : Env := (30, S_spec_DrawRightContract) :: G_spec_l1Draw
def G_impl_within : Env := (106, S_impl_within) :: G_spec_DrawRightContract
def G_impl_isId : Env := (163, S_impl_isId) :: G_impl_within
def G_impl_size_impl_Leg : Env := (186, S_impl_size_impl_Leg) :: G_impl_isId
def G_impl_isShard : Env := (124, S_impl_isShard) :: G_impl_size_impl_Leg
def G_impl_isAsset : Env := (233, S_impl_isAsset) :: G_impl_isShard
def G_impl_isPlace : Env := (139, S_impl_isPlace) :: G_impl_isAsset
def G_impl_LegFault : Env := (187, S_impl_LegFault) :: G_impl_isPlace
def G_impl_samePlace : Env := (190, S_impl_samePlace) :: G_impl_LegFault
def G_impl_ContractFault : Env := (90, S_impl_ContractFault) :: G_impl_samePlace
def G_slices_Sort_int64_int64 : Env := (195, S_slices_Sort_int64_int64) :: G_impl_ContractFault
def G_slices_Compact_int64_int64 : Env := (196, S_slices_Compact_int64_int64) :: G_slices_Sort_int64_int64
def G_impl_shardsOf : Env := (95, S_impl_shardsOf) :: G_slices_Compact_int64_int64
def G_impl_ShardsOf : Env := (31, S_impl_ShardsOf) :: G_impl_shardsOf
def G_laws_lwAt : Env := (33, S_laws_lwAt) :: G_impl_ShardsOf
def G_laws_lwReached : Env := (32, S_laws_lwReached) :: G_laws_lwAt
def G_impl_size_impl_Acceptor : Env := (76, S_impl_size_impl_Acceptor) :: G_laws_lwReached
def G_impl_isBallot : Env := (73, S_impl_isBallot) :: G_impl_size_impl_Acceptor
def G_impl_isValue : Env := (74, S_impl_isValue) :: G_impl_isBallot
def G_impl_isVote : Env := (174, S_impl_isVote) :: G_impl_isValue
def G_impl_castFault : Env := (304, S_impl_castFault) :: G_impl_isVote
def G_impl_noVote : Env := (173, S_impl_noVote) :: G_impl_castFault
def G_impl_lastCast : Env := (305, S_impl_lastCast) :: G_impl_noVote
def G_impl_SlotFault : Env := (253, S_impl_SlotFault) :: G_impl_lastCast
def G_cmp_isNaN_int64 : Env := (334, S_cmp_isNaN_int64) :: G_impl_SlotFault
def G_cmp_Compare_int64 : Env := (282, S_cmp_Compare_int64) :: G_cmp_isNaN_int64
def G_cmp_Or_int : Env := (281, S_cmp_Or_int) :: G_cmp_Compare_int64
def G_impl_compareSlots : Env := (254, S_impl_compareSlots) :: G_cmp_Or_int
def G_impl_AcceptorFault : Env := (162, S_impl_AcceptorFault) :: G_impl_compareSlots
def G_impl_listFault : Env := (71, S_impl_listFault) :: G_impl_AcceptorFault
def G_impl_newSlot : Env := (164, S_impl_newSlot) :: G_impl_listFault
def G_impl_NewSlot : Env := (72, S_impl_NewSlot) :: G_impl_newSlot
def G_impl_firstOf : Env := (70, S_impl_firstOf) :: G_impl_NewSlot
def G_impl_reachedFault : Env := (75, S_impl_reachedFault) :: G_impl_firstOf
def G_slices_Clone_impl_Vote_impl_Vote : Env := (306, S_slices_Clone_impl_Vote_impl_Vote) :: G_impl_reachedFault
def G_impl_copySlot : Env := (256, S_impl_copySlot) :: G_slices_Clone_impl_Vote_impl_Vote
def G_impl_copyAcceptor : Env := (167, S_impl_copyAcceptor) :: G_impl_copySlot
def G_impl_copyAcceptors : Env := (77, S_impl_copyAcceptors) :: G_impl_copyAcceptor
def G_impl_Acceptor_slotAt : Env := (258, S_impl_Acceptor_slotAt) :: G_impl_copyAcceptors
def G_impl_Acceptor_slot : Env := (257, S_impl_Acceptor_slot) :: G_impl_Acceptor_slotAt
def G_impl_PromiseSlot : Env := (170, S_impl_PromiseSlot) :: G_impl_Acceptor_slot
def G_slices_Insert_impl_Slot_impl_Slot : Env := (259, S_slices_Insert_impl_Slot_impl_Slot) :: G_impl_PromiseSlot
def G_impl_Acceptor_promise : Env := (78, S_impl_Acceptor_promise) :: G_slices_Insert_impl_Slot_impl_Slot
def G_impl_quorum : Env := (79, S_impl_quorum) :: G_impl_Acceptor_promise
def G_impl_PickValue_1 : Env := (172, S_impl_PickValue_1) :: G_impl_quorum
def G_impl_PickValue : Env := (80, S_impl_PickValue) :: G_impl_PickValue_1
def G_impl_AcceptSlot : Env := (176, S_impl_AcceptSlot) :: G_impl_PickValue
def G_impl_Acceptor_accept : Env := (81, S_impl_Acceptor_accept) :: G_impl_AcceptSlot
def G_impl_RunBallot : Env := (15, S_impl_RunBallot) :: G_impl_Acceptor_accept
def G_impl_slotsFor : Env := (192, S_impl_slotsFor) :: G_impl_RunBallot
def G_impl_size_impl_Slot : Env := (312, S_impl_size_impl_Slot) :: G_impl_slotsFor
def G_impl_slotsFault : Env := (267, S_impl_slotsFault) :: G_impl_size_impl_Slot
def G_slices_Compact_impl_Vote_impl_Vote : Env := (315, S_slices_Compact_impl_Vote_impl_Vote) :: G_impl_slotsFault
def G_slices_SortFunc_impl_Vote_impl_Vote : Env := (316, S_slices_SortFunc_impl_Vote_impl_Vote) :: G_slices_Compact_impl_Vote_impl_Vote
def G_impl_chosen : Env := (268, S_impl_chosen) :: G_slices_SortFunc_impl_Vote_impl_Vote
def G_impl_ChosenIn : Env := (191, S_impl_ChosenIn) :: G_impl_chosen
def G_impl_outcomeOf : Env := (91, S_impl_outcomeOf) :: G_impl_ChosenIn
def G_impl_OutcomeOf : Env := (26, S_impl_OutcomeOf) :: G_impl_outcomeOf
def G_laws_FnOutcomes : Env := (5, S_laws_FnOutcomes) :: G_impl_OutcomeOf
end
end Go.RvP
