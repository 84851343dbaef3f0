/- The plain law: spec and program answer alike, for FnExactSlotFault. Condition: the data are such as can come in. -/
import Derived.Test.YtekndmbpphncmaaRvP7
import Derived.Test.YtekndmbpphncmaaRvL
namespace Go.RvP
open Go.Rv

def bal (y : Int) : Bool := decide (0 ≤ y) && decide (y ≤ 1000)
def vlu (y : Int) : Bool := (y == 1) || (y == 2)

theorem t63 (a b c : Int) : m63 (a, b, c) = some (decide (b ≤ a) && decide (a ≤ c)) := by
  show p63 FU _ = _
  unfold p63
  by_cases h : b ≤ a <;> simp [h]
theorem t65 (a b c : Int) : m65 (a, b, c) = some (decide (b ≤ a) && decide (a ≤ c)) := t63 a b c
theorem t77 (a : Int) : m77 a = some (bal a) := by
  show p77 FU _ = _
  unfold p77 bal
  rw [t63]; rfl
theorem t91 (a : Int) : m91 a = some (bal a) := t77 a
theorem t78 (a : Int) : m78 a = some (vlu a) := by
  show p78 FU _ = _
  unfold p78 vlu
  cases h : (a == (1 : Int)) <;> simp
theorem t76 (a : Int) : m76 a = some (vlu a) := t78 a
theorem t75 (a : Int × Int) : m75 a = some (bal a.1 && vlu a.2) := by
  show p75 FU _ = _
  unfold p75
  rw [t91, t76]
  cases bal a.1 <;> rfl
theorem t82 (a : Int) : m82 a = m83 a := rfl

/-- The list's first fault. -/
theorem loops (xs : List (Int × Int)) (tail : Option Int) (n : Nat) (z : Int) :
    (lp (fun rec12 (z11 : Int) =>
     (cond (decide (z11 < (lenI xs)))
      ((geti xs z11).bind fun y13 =>
      ((m77 y13.1).bind fun r14 =>
      (cond (!r14)
       (some (3 : Int))
       ((m78 y13.2).bind fun r15 =>
       (cond (!r15)
        (some (3 : Int))
        (cond (decide (z11 > (0 : Int)))
         ((geti xs (IntKind.wrap .i64 (z11 - (1 : Int)))).bind fun y16 =>
         (cond (decide (y13.1 < y16.1))
          (some (1 : Int))
          ((geti xs (IntKind.wrap .i64 (z11 - (1 : Int)))).bind fun y17 =>
          (cond (y13.1 == y17.1)
           ((geti xs (IntKind.wrap .i64 (z11 - (1 : Int)))).bind fun y18 =>
           (cond (!(y13.2 == y18.2))
            (some (1 : Int))
            (rec12 (IntKind.wrap .i64 (z11 + (1 : Int))))))
           (rec12 (IntKind.wrap .i64 (z11 + (1 : Int))))))))
         (rec12 (IntKind.wrap .i64 (z11 + (1 : Int)))))))))) tail)) n z) = (lp (fun rec8 (z7 : Int) =>
 (cond (decide (z7 < (lenI xs)))
  ((geti xs z7).bind fun y9 =>
  ((m75 y9).bind fun r10 =>
  (cond (!r10)
   (some (3 : Int))
   (cond (decide (z7 > (0 : Int)))
    ((geti xs (IntKind.wrap .i64 (z7 - (1 : Int)))).bind fun y11 =>
    (cond (decide (y9.1 < y11.1))
     (some (1 : Int))
     ((geti xs (IntKind.wrap .i64 (z7 - (1 : Int)))).bind fun y12 =>
     (cond (y9.1 == y12.1)
      ((geti xs (IntKind.wrap .i64 (z7 - (1 : Int)))).bind fun y13 =>
      (cond (!(y9.2 == y13.2))
       (some (1 : Int))
       (rec8 (IntKind.wrap .i64 (z7 + (1 : Int))))))
      (rec8 (IntKind.wrap .i64 (z7 + (1 : Int))))))))
    (rec8 (IntKind.wrap .i64 (z7 + (1 : Int))))))))
  (some (0 : Int)))) n z).bind fun r => cond (!(r == (0 : Int))) (some r) tail := by
  refine lp_bind _ (fun z rec rec' hr => ?_) n z
  cases decide (z < lenI xs) with
  | false => rfl
  | true =>
    simp only [cond_true]
    cases geti xs z with
    | none => rfl
    | some y =>
      simp only [Option.bind_some, t77, t78, t75]
      cases bal y.1 with
      | false => rfl
      | true =>
        cases vlu y.2 with
        | false => rfl
        | true =>
          simp only [Bool.not_true, cond_false, Bool.and_self]
          cases decide (z > 0) with
          | false => exact hr _
          | true =>
            simp only [cond_true]
            cases geti xs (IntKind.wrap .i64 (z - 1)) with
            | none => rfl
            | some u =>
              simp only [Option.bind_some]
              cases decide (y.1 < u.1) with
              | true => rfl
              | false =>
                simp only [cond_false]
                cases (y.1 == u.1) with
                | false => exact hr _
                | true =>
                  simp only [cond_true]
                  cases (y.2 == u.2) with
                  | false => rfl
                  | true => exact hr _

theorem t88 (xs : List (Int × Int)) (h : xs.length ≤ 60) : ∃ r, m88 xs = some r := by
  have : (m88 xs).isSome = true := by
    show (p88 FU xs).isSome = true
    unfold p88
    refine lp_for (fun r => r.isSome = true) (fun i z => z = (i : Int)) xs.length (fun i z hi hz => ?_) (fun z hz rec => ?_) FU 0 (FU_gt (by omega)) rfl
    · subst hz
      have hw : IntKind.wrap .i64 ((i : Int) + 1) = ((i + 1 : Nat) : Int) := by rw [wrap64 (by omega) (by omega)]; omega
      have hlt : decide ((i : Int) < lenI xs) = true := by simp [lenI_eq, hi]
      simp only [hlt, cond_true, geti_lt xs i hi, Option.bind_some, t75]
      cases (bal xs[i].1 && vlu xs[i].2) with
      | false => exact .inl fun rec => rfl
      | true =>
        simp only [Bool.not_true, cond_false]
        by_cases h0 : 0 < i
        · have hw2 : IntKind.wrap .i64 ((i : Int) - 1) = ((i - 1 : Nat) : Int) := by rw [wrap64 (by omega) (by omega)]; omega
          have hd : decide ((i : Int) > 0) = true := by simp; omega
          simp only [hd, cond_true, hw2, geti_lt xs (i - 1) (by omega), Option.bind_some]
          cases decide (xs[i].1 < (xs[i - 1]'(by omega)).1) with
          | true => exact .inl fun rec => rfl
          | false =>
            simp only [cond_false]
            cases (xs[i].1 == (xs[i - 1]'(by omega)).1) with
            | false => exact .inr ⟨_, hw, fun rec => rfl⟩
            | true =>
              simp only [cond_true]
              cases (xs[i].2 == (xs[i - 1]'(by omega)).2) with
              | false => exact .inl fun rec => rfl
              | true => exact .inr ⟨_, hw, fun rec => rfl⟩
        · have hd : decide ((i : Int) > 0) = false := by simp; omega
          simp only [hd, cond_false]
          exact .inr ⟨_, hw, fun rec => rfl⟩
    · subst hz
      have hlt : decide ((xs.length : Int) < lenI xs) = false := by simp [lenI_eq]
      simp only [hlt, cond_false]
      rfl
  cases hm : m88 xs with
  | none => rw [hm] at this; cases this
  | some r => exact ⟨r, rfl⟩

theorem t80 (a : Int × Int) : m80 a = some a := rfl

theorem set_step {α : Type} (xs : List α) (d : α) (i : Nat) (h : i < xs.length) : (xs.take i ++ List.replicate (xs.length - i) d).set i xs[i] = xs.take (i + 1) ++ List.replicate (xs.length - (i + 1)) d := by
  have e1 : xs.length - i = (xs.length - (i + 1)) + 1 := by omega
  rw [e1, List.replicate_succ, List.set_append, if_neg (by simp only [List.length_take]; omega), List.length_take, show i - min i xs.length = 0 from by omega, List.set_cons_zero, List.take_succ_eq_append_getElem h, List.append_assoc]
  rfl

theorem t23 (xs : List (Int × Int)) (h : xs.length ≤ 1048576) : m23 xs = some xs := by
  show p23 FU xs = _
  unfold p23
  rw [if_pos rfl, if_pos (by simp [lenI_eq])]
  have hb : Nat.ble (16 * (lenI xs).toNat) maxBytes = true := by rw [Nat.ble_eq]; simp only [lenI_eq, Int.toNat_natCast, maxBytes]; omega
  simp only [hb, chk, cond_true]
  refine lp_for (fun r => r = some xs) (fun i z => z = (xs.take i ++ List.replicate (xs.length - i) ((0 : Int), (0 : Int)), (i : Int))) xs.length (fun i z hi hz => ?_) (fun z hz rec => ?_) FU _ (FU_gt h) (by simp [lenI_eq])
  · subst hz
    have hw : IntKind.wrap .i64 ((i : Int) + 1) = ((i + 1 : Nat) : Int) := by rw [wrap64 (by omega) (by omega)]; omega
    have hlt : decide ((i : Int) < lenI xs) = true := by simp [lenI_eq, hi]
    have hl : i < (xs.take i ++ List.replicate (xs.length - i) ((0 : Int), (0 : Int))).length := by simp; omega
    simp only [hlt, cond_true, geti_lt xs i hi, Option.bind_some, t80, geti_lt _ i hl, Int.toNat_natCast, List.getElem?_eq_getElem hl]
    exact .inr ⟨_, by rw [set_step xs _ i hi, hw], fun rec => rfl⟩
  · subst hz
    have hlt : decide ((xs.length : Int) < lenI xs) = false := by simp [lenI_eq]
    simp only [hlt, cond_false]
    simp

theorem t81 (a : Int × Int) : m81 (a, a) = some true := by
  show p81 FU _ = _
  unfold p81
  simp

theorem t24 (xs : List (Int × Int)) (h : xs.length ≤ 1048576) : m24 (xs, xs) = some true := by
  show p24 FU _ = _
  unfold p24
  simp only [beq_self_eq_true, Bool.not_true, cond_false]
  refine lp_for (fun r => r = some true) (fun i z => z = (i : Int)) xs.length (fun i z hi hz => ?_) (fun z hz rec => ?_) FU _ (FU_gt h) rfl
  · subst hz
    have hw : IntKind.wrap .i64 ((i : Int) + 1) = ((i + 1 : Nat) : Int) := by rw [wrap64 (by omega) (by omega)]; omega
    have hlt : decide ((i : Int) < lenI xs) = true := by simp [lenI_eq, hi]
    simp only [hlt, cond_true, geti_lt xs i hi, Option.bind_some, t81, Bool.not_true, cond_false]
    exact .inr ⟨_, hw, fun rec => rfl⟩
  · subst hz
    have hlt : decide ((xs.length : Int) < lenI xs) = false := by simp [lenI_eq]
    simp only [hlt, cond_false]

abbrev SlotT := Int × (Int × (Int × ((Int × Int) × (List (Int × Int)))))

theorem t32 (x : SlotT) (h : x.2.2.2.2.length ≤ 1048576) : m32 x = some x := by
  show p32 FU _ = _
  unfold p32
  simp only [t80, Option.bind_some, t23 _ h]

theorem t34 (x : SlotT) (h : x.2.2.2.2.length ≤ 1048576) : m34 (x, x) = some true := by
  show p34 FU _ = _
  unfold p34
  simp only [beq_self_eq_true, Bool.not_true, cond_false, t81, t24 _ h, Option.bind_some]

theorem t89 (x : SlotT) : m89 x.2.2.2.2 = m87 x := rfl

theorem t22 (xs : List (Int × Int)) (h : (xs.length : Int) ≤ 9223372036854775807) : m22 (xs, 1048576) = some (if 1048576 - (xs.length : Int) < 0 then -1 else 1048576 - (xs.length : Int)) := by
  show p22 FU _ = _
  unfold p22
  have hw : IntKind.wrap .i64 (1048576 - (xs.length : Int)) = 1048576 - (xs.length : Int) := wrap64 (by omega) (by omega)
  simp only [lenI_eq, hw]
  by_cases hh : (1048576 : Int) - (xs.length : Int) < 0 <;> simp [hh]

/-- Spec and program name the same fault. -/
theorem t31 (x : SlotT) : m31 x = m33 x := by
  show p31 FU x = p33 FU x
  unfold p31 p33
  rw [t82]
  cases h1 : m83 x.1 with
  | none => rfl
  | some b1 =>
    cases b1 with
    | false => rfl
    | true =>
      have e84 : m84 x.2.1 = some (decide (0 ≤ x.2.1) && decide (x.2.1 ≤ 2)) := by
        show p84 FU _ = _
        unfold p84
        rw [t65]; rfl
      simp only [Option.bind_some, Bool.not_true, cond_false, e84, t63, t65]
      cases (decide (0 ≤ x.2.1) && decide (x.2.1 ≤ 2)) with
      | false => rfl
      | true =>
        simp only [Option.bind_some, Bool.not_true, cond_false]
        cases (decide (-1 ≤ x.2.2.1) && decide (x.2.2.1 ≤ 1000)) with
        | false => rfl
        | true =>
          simp only [Option.bind_some, Bool.not_true, cond_false]
          cases decide (lenI x.2.2.2.2 > 60) with
          | true => rfl
          | false =>
            simp only [cond_false]
            exact loops x.2.2.2.2 _ FU 0

theorem t33 (x : SlotT) : ∃ r, m33 x = some r := by
  show ∃ r, p33 FU x = some r
  unfold p33
  have e83 : m83 x.1 = some (decide (1 ≤ x.1) && decide (x.1 ≤ 1000000000)) := by
    show p83 FU _ = _
    unfold p83
    rw [t65]; rfl
  have e84 : m84 x.2.1 = some (decide (0 ≤ x.2.1) && decide (x.2.1 ≤ 2)) := by
    show p84 FU _ = _
    unfold p84
    rw [t65]; rfl
  simp only [e83, e84, t65, Option.bind_some]
  cases (decide (1 ≤ x.1) && decide (x.1 ≤ 1000000000)) with
  | false => exact ⟨_, rfl⟩
  | true =>
    cases (decide (0 ≤ x.2.1) && decide (x.2.1 ≤ 2)) with
    | false => exact ⟨_, rfl⟩
    | true =>
      cases (decide (-1 ≤ x.2.2.1) && decide (x.2.2.1 ≤ 1000)) with
      | false => exact ⟨_, rfl⟩
      | true =>
        simp only [Bool.not_true, cond_false, Option.bind_some]
        by_cases hl : lenI x.2.2.2.2 > 60
        · simp only [hl, decide_true, cond_true]; exact ⟨_, rfl⟩
        · simp only [hl, decide_false, cond_false]
          obtain ⟨r, hr⟩ := t88 x.2.2.2.2 (by simp only [lenI_eq] at hl; omega)
          rw [hr]
          simp only [Option.bind_some]
          cases (r == 0) with
          | false => exact ⟨_, rfl⟩
          | true =>
            simp only [Bool.not_true, cond_false]
            have : ∃ q, m89 x.2.2.2.2 = some q := by
              show ∃ q, p89 FU _ = some q
              unfold p89
              by_cases h0 : x.2.2.2.2.length = 0
              · have : (lenI x.2.2.2.2 == 0) = true := by simp [lenI_eq, h0]
                rw [this]; exact ⟨_, rfl⟩
              · have : (lenI x.2.2.2.2 == 0) = false := by simp [lenI_eq, h0]
                rw [this]
                simp only [lenI_eq] at hl ⊢
                rw [wrap64 (by omega) (by omega), show ((x.2.2.2.2.length : Int) - 1) = ((x.2.2.2.2.length - 1 : Nat) : Int) from by omega, geti_lt _ _ (by omega)]
                exact ⟨_, rfl⟩
            obtain ⟨q, hq⟩ := this
            rw [hq]
            simp only [Option.bind_some]
            cases (x.2.2.2.1.1 == q.1 && (x.2.2.2.1.2 == q.2 && true)) with
            | false => exact ⟨_, rfl⟩
            | true =>
              cases decide (x.2.2.2.1.1 > x.2.2.1) <;> exact ⟨_, rfl⟩

theorem pure7 (x : SlotT) (h : (x.2.2.2.2.length : Int) ≤ 9223372036854775807) : m7 x = some true := by
  show p7 FU x = _
  unfold p7
  have h30 : m30 (x, 1048576) = some (if 1048576 - (x.2.2.2.2.length : Int) < 0 then -1 else 1048576 - (x.2.2.2.2.length : Int)) := by
    show p30 FU _ = _
    unfold p30
    rw [t22 _ h]
    by_cases hh : (1048576 : Int) - (x.2.2.2.2.length : Int) < 0 <;> simp [hh]
  rw [h30]
  by_cases hh : (1048576 : Int) - (x.2.2.2.2.length : Int) < 0
  · simp [hh]
  · have hl : x.2.2.2.2.length ≤ 1048576 := by omega
    obtain ⟨r, hr⟩ := t33 x
    simp only [hh, if_false, Option.bind_some, decide_false, cond_false, t32 x hl, t31, hr, beq_self_eq_true, Bool.not_true, t34 x hl]
end Go.RvP
namespace Go.RvP
open Go.Rv
theorem law7 (x : SlotT) (h : WFs S7.ps x) : m7 x = some true := by
  obtain ⟨_, _, _, _, hl, _⟩ := h
  have : maxLen = 9223372036854775807 := rfl
  exact pure7 x (by omega)
end Go.RvP
