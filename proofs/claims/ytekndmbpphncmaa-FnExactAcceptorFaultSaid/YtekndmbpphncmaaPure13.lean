/- The plain law: spec and program answer alike, for FnExactAcceptorFault. Condition: the data are such as can come in. -/
import Derived.Test.YtekndmbpphncmaaRvP13
import Derived.Test.YtekndmbpphncmaaRvL
namespace Go.RvP
open Go.Rv
theorem t_laws_szVoteS (xs : List (Int × Int)) (h : (xs.length : Int) ≤ 9223372036854775807) : m_laws_szVoteS (xs, 1048576) = some (if 1048576 - (xs.length : Int) < 0 then -1 else 1048576 - (xs.length : Int)) := by
  show p_laws_szVoteS FU _ = _
  unfold p_laws_szVoteS
  have hw : IntKind.wrap .i64 (1048576 - (xs.length : Int)) = 1048576 - (xs.length : Int) := wrap64 (by omega) (by omega)
  simp only [lenI_eq, hw]
  by_cases hh : (1048576 : Int) - (xs.length : Int) < 0 <;> simp [hh]

theorem sz_laws_szSlot (x : SlotT) (h : x.2.2.2.2.length ≤ maxLen) : SZ m_laws_szSlot (fun x => x.2.2.2.2.length) x := by
  intro left h0 h1
  have hm : maxLen = 9223372036854775807 := rfl
  show p_laws_szSlot FU _ = _ ∨ (p_laws_szSlot FU _ = _ ∧ _)
  unfold p_laws_szSlot
  have e : m_laws_szVoteS (x.2.2.2.2, left) = some (if left - (x.2.2.2.2.length : Int) < 0 then -1 else left - (x.2.2.2.2.length : Int)) := by
    show p_laws_szVoteS FU _ = _
    unfold p_laws_szVoteS
    have hw : IntKind.wrap .i64 (left - (x.2.2.2.2.length : Int)) = left - (x.2.2.2.2.length : Int) := wrap64 (by omega) (by omega)
    simp only [lenI_eq, hw]
    by_cases hh : left - (x.2.2.2.2.length : Int) < 0 <;> simp [hh]
  rw [e]
  by_cases hh : left - (x.2.2.2.2.length : Int) < 0
  · simp [hh]
  · right
    simp [hh]
    omega

def wSlots (xs : List SlotT) : Nat := xs.length + (xs.map fun x => x.2.2.2.2.length).sum

theorem sz_laws_szSlotS (xs : List SlotT) (hl : xs.length ≤ maxLen) (h : ∀ x ∈ xs, x.2.2.2.2.length ≤ maxLen) : SZ m_laws_szSlotS wSlots xs := by
  intro left h0 h1
  have hm : maxLen = 9223372036854775807 := rfl
  show p_laws_szSlotS FU _ = _ ∨ (p_laws_szSlotS FU _ = _ ∧ _)
  unfold p_laws_szSlotS wSlots
  have hw : IntKind.wrap .i64 (left - (xs.length : Int)) = left - (xs.length : Int) := wrap64 (by omega) (by omega)
  simp only [lenI_eq, hw]
  by_cases hh : left - (xs.length : Int) < 0
  · left; simp [hh]
  · have := sz_loop xs m_laws_szSlot (fun x => x.2.2.2.2.length) (fun x hx => sz_laws_szSlot x (h x hx)) (by omega) (left - (xs.length : Int)) (by omega) (by omega)
    simp only [hh, decide_false, cond_false]
    rcases this with h2 | ⟨h2, h3⟩
    · exact .inl h2
    · right
      refine ⟨?_, by omega⟩
      rw [show left - ((xs.length + (xs.map fun x => x.2.2.2.2.length).sum : Nat) : Int) = left - (xs.length : Int) - (((xs.map fun x => x.2.2.2.2.length).sum : Nat) : Int) from by omega]
      exact h2

theorem t_laws_toVote (a : Int × Int) : m_laws_toVote a = some a := rfl

theorem t_laws_toVoteS (xs : List (Int × Int)) (h : xs.length ≤ 1048576) : m_laws_toVoteS xs = some xs := by
  show p_laws_toVoteS FU xs = _
  unfold p_laws_toVoteS
  rw [if_pos rfl, if_pos (by simp [lenI_eq])]
  have hb : Nat.ble (16 * (lenI xs).toNat) maxBytes = true := by rw [Nat.ble_eq]; simp only [lenI_eq, Int.toNat_natCast, maxBytes]; omega
  simp only [hb, chk, cond_true]
  refine lp_for (fun r => r = some xs) (fun i z => z = (xs.take i ++ List.replicate (xs.length - i) ((0 : Int), (0 : Int)), (i : Int))) xs.length (fun i z hi hz => ?_) (fun z hz rec => ?_) FU _ (FU_gt h) (by simp [lenI_eq])
  · subst hz
    have hw : IntKind.wrap .i64 ((i : Int) + 1) = ((i + 1 : Nat) : Int) := by rw [wrap64 (by omega) (by omega)]; omega
    have hlt : decide ((i : Int) < lenI xs) = true := by simp [lenI_eq, hi]
    have hl : i < (xs.take i ++ List.replicate (xs.length - i) ((0 : Int), (0 : Int))).length := by simp; omega
    simp only [hlt, cond_true, geti_lt xs i hi, Option.bind_some, t_laws_toVote, geti_lt _ i hl, Int.toNat_natCast, List.getElem?_eq_getElem hl]
    exact .inr ⟨_, by rw [set_step xs _ i hi, hw], fun rec => rfl⟩
  · subst hz
    have hlt : decide ((xs.length : Int) < lenI xs) = false := by simp [lenI_eq]
    simp only [hlt, cond_false]
    simp

theorem t_laws_toSlot (x : SlotT) (h : x.2.2.2.2.length ≤ 1048576) : m_laws_toSlot x = some x := by
  show p_laws_toSlot FU _ = _
  unfold p_laws_toSlot
  simp only [t_laws_toVote, Option.bind_some, t_laws_toVoteS _ h]

theorem t_laws_toSlotS (xs : List SlotT) (hl : xs.length ≤ 1048576) (h : ∀ x ∈ xs, x.2.2.2.2.length ≤ 1048576) : m_laws_toSlotS xs = some xs := by
  show p_laws_toSlotS FU xs = _
  unfold p_laws_toSlotS
  rw [if_pos rfl, if_pos (by simp [lenI_eq])]
  have hb : Nat.ble (64 * (lenI xs).toNat) maxBytes = true := by rw [Nat.ble_eq]; simp only [lenI_eq, Int.toNat_natCast, maxBytes]; omega
  simp only [hb, chk, cond_true]
  exact copy_loop xs _ m_laws_toSlot (fun x hx => t_laws_toSlot x (h x hx)) hl

theorem t_spec_l1In (a b c : Int) : m_spec_l1In (a, b, c) = some (decide (b ≤ a) && decide (a ≤ c)) := by
  show p_spec_l1In FU _ = _
  unfold p_spec_l1In
  by_cases h : b ≤ a <;> simp [h]

theorem t_spec_l8Ballot (a : Int) : m_spec_l8Ballot a = some (bal a) := by
  show p_spec_l8Ballot FU _ = _
  unfold p_spec_l8Ballot bal
  rw [t_spec_l1In]; rfl

theorem t_spec_l8Value (a : Int) : m_spec_l8Value a = some (vlu a) := by
  show p_spec_l8Value FU _ = _
  unfold p_spec_l8Value vlu
  cases h : (a == (1 : Int)) <;> simp



theorem t_impl_within (a b c : Int) : m_impl_within (a, b, c) = some (decide (b ≤ a) && decide (a ≤ c)) := t_spec_l1In a b c

theorem t_spec_l1Id (a : Int) : m_spec_l1Id a = m_impl_isId a := rfl

theorem t_impl_isBallot (a : Int) : m_impl_isBallot a = some (bal a) := t_spec_l8Ballot a

theorem t_impl_isValue (a : Int) : m_impl_isValue a = some (vlu a) := t_spec_l8Value a

theorem t_impl_isVote (a : Int × Int) : m_impl_isVote a = some (bal a.1 && vlu a.2) := by
  show p_impl_isVote FU _ = _
  unfold p_impl_isVote
  rw [t_impl_isBallot, t_impl_isValue]
  cases bal a.1 <;> rfl

/-- The list's first fault. -/
theorem loops_castFault (xs : List (Int × Int)) (tail : Option Int) (n : Nat) (z : Int) :
    (lp (fun rec12 (z11 : Int) =>
     (cond (decide (z11 < (lenI xs)))
      ((geti xs z11).bind fun y13 =>
      ((m_spec_l8Ballot y13.1).bind fun r14 =>
      (cond (!r14)
       (some (3 : Int))
       ((m_spec_l8Value y13.2).bind fun r15 =>
       (cond (!r15)
        (some (3 : Int))
        (cond (decide (z11 > (0 : Int)))
         ((geti xs (IntKind.wrap .i64 (z11 - (1 : Int)))).bind fun y16 =>
         (cond (decide (y13.1 < y16.1))
          (some (1 : Int))
          ((geti xs (IntKind.wrap .i64 (z11 - (1 : Int)))).bind fun y17 =>
          (cond (y13.1 == y17.1)
           ((geti xs (IntKind.wrap .i64 (z11 - (1 : Int)))).bind fun y18 =>
           (cond (!(y13.2 == y18.2))
            (some (1 : Int))
            (rec12 (IntKind.wrap .i64 (z11 + (1 : Int))))))
           (rec12 (IntKind.wrap .i64 (z11 + (1 : Int))))))))
         (rec12 (IntKind.wrap .i64 (z11 + (1 : Int)))))))))) tail)) n z) = (lp (fun rec8 (z7 : Int) =>
 (cond (decide (z7 < (lenI xs)))
  ((geti xs z7).bind fun y9 =>
  ((m_impl_isVote y9).bind fun r10 =>
  (cond (!r10)
   (some (3 : Int))
   (cond (decide (z7 > (0 : Int)))
    ((geti xs (IntKind.wrap .i64 (z7 - (1 : Int)))).bind fun y11 =>
    (cond (decide (y9.1 < y11.1))
     (some (1 : Int))
     ((geti xs (IntKind.wrap .i64 (z7 - (1 : Int)))).bind fun y12 =>
     (cond (y9.1 == y12.1)
      ((geti xs (IntKind.wrap .i64 (z7 - (1 : Int)))).bind fun y13 =>
      (cond (!(y9.2 == y13.2))
       (some (1 : Int))
       (rec8 (IntKind.wrap .i64 (z7 + (1 : Int))))))
      (rec8 (IntKind.wrap .i64 (z7 + (1 : Int))))))))
    (rec8 (IntKind.wrap .i64 (z7 + (1 : Int))))))))
  (some (0 : Int)))) n z).bind fun r => cond (!(r == (0 : Int))) (some r) tail := by
  refine lp_bind _ (fun z rec rec' hr => ?_) n z
  cases decide (z < lenI xs) with
  | false => rfl
  | true =>
    simp only [cond_true]
    cases geti xs z with
    | none => rfl
    | some y =>
      simp only [Option.bind_some, t_spec_l8Ballot, t_spec_l8Value, t_impl_isVote]
      cases bal y.1 with
      | false => rfl
      | true =>
        cases vlu y.2 with
        | false => rfl
        | true =>
          simp only [Bool.not_true, cond_false, Bool.and_self]
          cases decide (z > 0) with
          | false => exact hr _
          | true =>
            simp only [cond_true]
            cases geti xs (IntKind.wrap .i64 (z - 1)) with
            | none => rfl
            | some u =>
              simp only [Option.bind_some]
              cases decide (y.1 < u.1) with
              | true => rfl
              | false =>
                simp only [cond_false]
                cases (y.1 == u.1) with
                | false => exact hr _
                | true =>
                  simp only [cond_true]
                  cases (y.2 == u.2) with
                  | false => rfl
                  | true => exact hr _

theorem t_impl_castFault (xs : List (Int × Int)) (h : xs.length ≤ 60) : ∃ r, m_impl_castFault xs = some r := by
  have : (m_impl_castFault xs).isSome = true := by
    show (p_impl_castFault FU xs).isSome = true
    unfold p_impl_castFault
    refine lp_for (fun r => r.isSome = true) (fun i z => z = (i : Int)) xs.length (fun i z hi hz => ?_) (fun z hz rec => ?_) FU 0 (FU_gt (by omega)) rfl
    · subst hz
      have hw : IntKind.wrap .i64 ((i : Int) + 1) = ((i + 1 : Nat) : Int) := by rw [wrap64 (by omega) (by omega)]; omega
      have hlt : decide ((i : Int) < lenI xs) = true := by simp [lenI_eq, hi]
      simp only [hlt, cond_true, geti_lt xs i hi, Option.bind_some, t_impl_isVote]
      cases (bal xs[i].1 && vlu xs[i].2) with
      | false => exact .inl fun rec => rfl
      | true =>
        simp only [Bool.not_true, cond_false]
        by_cases h0 : 0 < i
        · have hw2 : IntKind.wrap .i64 ((i : Int) - 1) = ((i - 1 : Nat) : Int) := by rw [wrap64 (by omega) (by omega)]; omega
          have hd : decide ((i : Int) > 0) = true := by simp; omega
          simp only [hd, cond_true, hw2, geti_lt xs (i - 1) (by omega), Option.bind_some]
          cases decide (xs[i].1 < (xs[i - 1]'(by omega)).1) with
          | true => exact .inl fun rec => rfl
          | false =>
            simp only [cond_false]
            cases (xs[i].1 == (xs[i - 1]'(by omega)).1) with
            | false => exact .inr ⟨_, hw, fun rec => rfl⟩
            | true =>
              simp only [cond_true]
              cases (xs[i].2 == (xs[i - 1]'(by omega)).2) with
              | false => exact .inl fun rec => rfl
              | true => exact .inr ⟨_, hw, fun rec => rfl⟩
        · have hd : decide ((i : Int) > 0) = false := by simp; omega
          simp only [hd, cond_false]
          exact .inr ⟨_, hw, fun rec => rfl⟩
    · subst hz
      have hlt : decide ((xs.length : Int) < lenI xs) = false := by simp [lenI_eq]
      simp only [hlt, cond_false]
      rfl
  cases hm : m_impl_castFault xs with
  | none => rw [hm] at this; cases this
  | some r => exact ⟨r, rfl⟩

theorem t_impl_lastCast (x : SlotT) : m_impl_lastCast x.2.2.2.2 = m_spec_l8Last x := rfl

/-- Spec and program name the same fault. -/
theorem t_spec_SlotFault (x : SlotT) : m_spec_SlotFault x = m_impl_SlotFault x := by
  show p_spec_SlotFault FU x = p_impl_SlotFault FU x
  unfold p_spec_SlotFault p_impl_SlotFault
  rw [t_spec_l1Id]
  cases h1 : m_impl_isId x.1 with
  | none => rfl
  | some b1 =>
    cases b1 with
    | false => rfl
    | true =>
      have e84 : m_impl_isShard x.2.1 = some (decide (0 ≤ x.2.1) && decide (x.2.1 ≤ 2)) := by
        show p_impl_isShard FU _ = _
        unfold p_impl_isShard
        rw [t_impl_within]; rfl
      simp only [Option.bind_some, Bool.not_true, cond_false, e84, t_spec_l1In, t_impl_within]
      cases (decide (0 ≤ x.2.1) && decide (x.2.1 ≤ 2)) with
      | false => rfl
      | true =>
        simp only [Option.bind_some, Bool.not_true, cond_false]
        cases (decide (-1 ≤ x.2.2.1) && decide (x.2.2.1 ≤ 1000)) with
        | false => rfl
        | true =>
          simp only [Option.bind_some, Bool.not_true, cond_false]
          cases decide (lenI x.2.2.2.2 > 60) with
          | true => rfl
          | false =>
            simp only [cond_false]
            exact loops_castFault x.2.2.2.2 _ FU 0

theorem s_impl_SlotFault (x : SlotT) : ∃ r, m_impl_SlotFault x = some r := by
  show ∃ r, p_impl_SlotFault FU x = some r
  unfold p_impl_SlotFault
  have e83 : m_impl_isId x.1 = some (decide (1 ≤ x.1) && decide (x.1 ≤ 1000000000)) := by
    show p_impl_isId FU _ = _
    unfold p_impl_isId
    rw [t_impl_within]; rfl
  have e84 : m_impl_isShard x.2.1 = some (decide (0 ≤ x.2.1) && decide (x.2.1 ≤ 2)) := by
    show p_impl_isShard FU _ = _
    unfold p_impl_isShard
    rw [t_impl_within]; rfl
  simp only [e83, e84, t_impl_within, Option.bind_some]
  cases (decide (1 ≤ x.1) && decide (x.1 ≤ 1000000000)) with
  | false => exact ⟨_, rfl⟩
  | true =>
    cases (decide (0 ≤ x.2.1) && decide (x.2.1 ≤ 2)) with
    | false => exact ⟨_, rfl⟩
    | true =>
      cases (decide (-1 ≤ x.2.2.1) && decide (x.2.2.1 ≤ 1000)) with
      | false => exact ⟨_, rfl⟩
      | true =>
        simp only [Bool.not_true, cond_false, Option.bind_some]
        by_cases hl : lenI x.2.2.2.2 > 60
        · simp only [hl, decide_true, cond_true]; exact ⟨_, rfl⟩
        · simp only [hl, decide_false, cond_false]
          obtain ⟨r, hr⟩ := t_impl_castFault x.2.2.2.2 (by simp only [lenI_eq] at hl; omega)
          rw [hr]
          simp only [Option.bind_some]
          cases (r == 0) with
          | false => exact ⟨_, rfl⟩
          | true =>
            simp only [Bool.not_true, cond_false]
            have : ∃ q, m_impl_lastCast x.2.2.2.2 = some q := by
              show ∃ q, p_impl_lastCast FU _ = some q
              unfold p_impl_lastCast
              by_cases h0 : x.2.2.2.2.length = 0
              · have : (lenI x.2.2.2.2 == 0) = true := by simp [lenI_eq, h0]
                rw [this]; exact ⟨_, rfl⟩
              · have : (lenI x.2.2.2.2 == 0) = false := by simp [lenI_eq, h0]
                rw [this]
                simp only [lenI_eq] at hl ⊢
                rw [wrap64 (by omega) (by omega), show ((x.2.2.2.2.length : Int) - 1) = ((x.2.2.2.2.length - 1 : Nat) : Int) from by omega, geti_lt _ _ (by omega)]
                exact ⟨_, rfl⟩
            obtain ⟨q, hq⟩ := this
            rw [hq]
            simp only [Option.bind_some]
            cases (x.2.2.2.1.1 == q.1 && (x.2.2.2.1.2 == q.2 && true)) with
            | false => exact ⟨_, rfl⟩
            | true =>
              cases decide (x.2.2.2.1.1 > x.2.2.1) <;> exact ⟨_, rfl⟩

theorem t_cmp_Compare_int64 (a b : Int) : m_cmp_Compare_int64 (a, b) = some (if a < b then -1 else if a > b then 1 else 0) := by
  show p_cmp_Compare_int64 FU _ = _
  unfold p_cmp_Compare_int64
  have e : ∀ a : Int, m_cmp_isNaN_int64 a = some false := fun a => by
    show p_cmp_isNaN_int64 FU a = _
    unfold p_cmp_isNaN_int64
    simp
  simp only [e, Option.bind_some, cond_false]
  by_cases h1 : a < b
  · simp [h1]
  · by_cases h2 : a > b <;> simp [h1, h2]

theorem t_cmp_Or_int (a b : Int) : m_cmp_Or_int [a, b] = some (if a = 0 then b else a) := by
  show p_cmp_Or_int FU _ = _
  unfold p_cmp_Or_int
  obtain ⟨m, hm⟩ : ∃ m, FU = m + 1 + 1 + 1 := ⟨18446744073709551613, rfl⟩
  rw [hm]
  have w1 : IntKind.wrap .i64 1 = 1 := rfl
  have w2 : IntKind.wrap .i64 2 = 2 := rfl
  by_cases h1 : a = 0
  · by_cases h2 : b = 0
    · simp [lp, geti, lenI, h1, h2, w1, w2]
    · have hb : (b == 0) = false := by simp [h2]
      simp [lp, geti, lenI, h1, hb, w1, w2]
  · have hb : (a == 0) = false := by simp [h1]
    simp [lp, geti, lenI, h1, hb]

theorem t_impl_compareSlots (a b : SlotT) : ∃ r, m_impl_compareSlots (a, b) = some r ∧ m_spec_l9Ahead (a, b) = some (decide (r < 0)) := by
  have e : m_impl_compareSlots (a, b) = some (if (if a.1 < b.1 then (-1 : Int) else if a.1 > b.1 then 1 else 0) = 0 then (if a.2.1 < b.2.1 then -1 else if a.2.1 > b.2.1 then 1 else 0) else (if a.1 < b.1 then -1 else if a.1 > b.1 then 1 else 0)) := by
    show p_impl_compareSlots FU _ = _
    unfold p_impl_compareSlots
    simp only [t_cmp_Compare_int64, t_cmp_Or_int, Option.bind_some]
  refine ⟨_, e, ?_⟩
  show p_spec_l9Ahead FU _ = _
  unfold p_spec_l9Ahead
  by_cases h : a.1 = b.1
  · by_cases h1 : a.2.1 < b.2.1
    · simp [h, h1]
    · by_cases h2 : a.2.1 > b.2.1 <;> simp [h, h1, h2]
  · have hb : (a.1 == b.1) = false := by simp [h]
    by_cases h1 : a.1 < b.1
    · simp [hb, h1]
    · have : a.1 > b.1 := by omega
      simp [hb, h1, this]

theorem t_spec_AcceptorFault (xs : List SlotT) : m_spec_AcceptorFault xs = m_impl_AcceptorFault xs := by
  have key : ∀ n, p_spec_AcceptorFault n xs = p_impl_AcceptorFault n xs := by
    intro n
    unfold p_spec_AcceptorFault p_impl_AcceptorFault
    cases decide (lenI xs > 60) with
    | true => rfl
    | false =>
      simp only [cond_false]
      refine lp_eq (fun z rec rec' hr' => ?_) n 0
      cases decide (z < lenI xs) with
      | false => rfl
      | true =>
        simp only [cond_true]
        cases hz : geti xs z with
        | none => rfl
        | some y =>
          simp only [Option.bind_some, t_spec_SlotFault]
          cases m_impl_SlotFault y with
          | none => rfl
          | some r =>
            simp only [Option.bind_some]
            cases (r == 0) with
            | false => rfl
            | true =>
              simp only [Bool.not_true, cond_false]
              cases decide (z > 0) with
              | false => exact hr' _
              | true =>
                simp only [cond_true]
                cases geti xs (IntKind.wrap .i64 (z - 1)) with
                | none => rfl
                | some u =>
                  simp only [Option.bind_some]
                  obtain ⟨q, h1, h2⟩ := t_impl_compareSlots u y
                  rw [h1, h2]
                  simp only [Option.bind_some]
                  by_cases hq : q < 0
                  · have : decide (q ≥ 0) = false := decide_eq_false (by omega)
                    simp only [hq, decide_true, Bool.not_true, cond_false, this]
                    exact hr' _
                  · have : decide (q ≥ 0) = true := decide_eq_true (by omega)
                    simp only [hq, decide_false, Bool.not_false, cond_true, this]
  exact key FU

theorem s_impl_AcceptorFault (xs : List SlotT) : ∃ r, m_impl_AcceptorFault xs = some r := by
  have : (m_impl_AcceptorFault xs).isSome = true := by
    show (p_impl_AcceptorFault FU xs).isSome = true
    unfold p_impl_AcceptorFault
    by_cases hl : lenI xs > 60
    · simp [hl]
    · simp only [hl, decide_false, cond_false]
      have h60 : xs.length ≤ 60 := by simp only [lenI_eq] at hl; omega
      refine lp_for (fun r => r.isSome = true) (fun i z => z = (i : Int)) xs.length (fun i z hi hz => ?_) (fun z hz rec => ?_) FU 0 (FU_gt (by omega)) rfl
      · subst hz
        have hw := wrap_next hi (by omega : xs.length ≤ 1048576)
        obtain ⟨r, hr⟩ := s_impl_SlotFault xs[i]
        simp only [lt_lenI hi, cond_true, geti_lt xs i hi, Option.bind_some, hr]
        cases (r == 0) with
        | false => exact .inl fun rec => rfl
        | true =>
          simp only [Bool.not_true, cond_false]
          by_cases h0 : 0 < i
          · have hw2 : IntKind.wrap .i64 ((i : Int) - 1) = ((i - 1 : Nat) : Int) := by rw [wrap64 (by omega) (by omega)]; omega
            have hd : decide ((i : Int) > 0) = true := by simp; omega
            obtain ⟨q, h1, _⟩ := t_impl_compareSlots (xs[i - 1]'(by omega)) xs[i]
            simp only [hd, cond_true, hw2, geti_lt xs (i - 1) (by omega), Option.bind_some, h1]
            cases decide (q ≥ 0) with
            | true => exact .inl fun rec => rfl
            | false => exact .inr ⟨_, hw, fun rec => rfl⟩
          · have hd : decide ((i : Int) > 0) = false := by simp; omega
            simp only [hd, cond_false]
            exact .inr ⟨_, hw, fun rec => rfl⟩
      · subst hz
        simp only [ge_lenI, cond_false]
        rfl
  cases hm : m_impl_AcceptorFault xs with
  | none => rw [hm] at this; cases this
  | some r => exact ⟨r, rfl⟩

theorem t_laws_eqVote (a : Int × Int) : m_laws_eqVote (a, a) = some true := by
  show p_laws_eqVote FU _ = _
  unfold p_laws_eqVote
  simp

theorem t_laws_eqVoteS (xs : List (Int × Int)) (h : xs.length ≤ 1048576) : m_laws_eqVoteS (xs, xs) = some true := by
  show p_laws_eqVoteS FU _ = _
  unfold p_laws_eqVoteS
  simp only [beq_self_eq_true, Bool.not_true, cond_false]
  refine lp_for (fun r => r = some true) (fun i z => z = (i : Int)) xs.length (fun i z hi hz => ?_) (fun z hz rec => ?_) FU _ (FU_gt h) rfl
  · subst hz
    have hw : IntKind.wrap .i64 ((i : Int) + 1) = ((i + 1 : Nat) : Int) := by rw [wrap64 (by omega) (by omega)]; omega
    have hlt : decide ((i : Int) < lenI xs) = true := by simp [lenI_eq, hi]
    simp only [hlt, cond_true, geti_lt xs i hi, Option.bind_some, t_laws_eqVote, Bool.not_true, cond_false]
    exact .inr ⟨_, hw, fun rec => rfl⟩
  · subst hz
    have hlt : decide ((xs.length : Int) < lenI xs) = false := by simp [lenI_eq]
    simp only [hlt, cond_false]

theorem t_laws_eqSlot (x : SlotT) (h : x.2.2.2.2.length ≤ 1048576) : m_laws_eqSlot (x, x) = some true := by
  show p_laws_eqSlot FU _ = _
  unfold p_laws_eqSlot
  simp only [beq_self_eq_true, Bool.not_true, cond_false, t_laws_eqVote, t_laws_eqVoteS _ h, Option.bind_some]

theorem t_laws_eqSlotS (xs : List SlotT) (hl : xs.length ≤ 1048576) (h : ∀ x ∈ xs, x.2.2.2.2.length ≤ 1048576) : m_laws_eqSlotS (xs, xs) = some true := by
  show p_laws_eqSlotS FU _ = _
  unfold p_laws_eqSlotS
  simp only [beq_self_eq_true, Bool.not_true, cond_false]
  exact eq_loop xs m_laws_eqSlot (fun x hx => t_laws_eqSlot x (h x hx)) hl

theorem law_laws_FnExactAcceptorFault (xs : List SlotT) (h : WFs S_laws_FnExactAcceptorFault.ps xs) : m_laws_FnExactAcceptorFault xs = some true := by
  have hm : maxLen = 9223372036854775807 := rfl
  obtain ⟨hl, hx⟩ := h
  have hx : ∀ x ∈ xs, x.2.2.2.2.length ≤ maxLen := fun x hxm => (hx x hxm).2.2.2.2.1
  show p_laws_FnExactAcceptorFault FU xs = _
  unfold p_laws_FnExactAcceptorFault
  have e1 : m_laws_szAcceptor (xs, 1048576) = some (-1) ∨ (m_laws_szAcceptor (xs, 1048576) = some (1048576 - (wSlots xs : Int)) ∧ (wSlots xs : Int) ≤ 1048576) := by
    have := sz_laws_szSlotS xs hl hx 1048576 (by omega) (by omega)
    show p_laws_szAcceptor FU _ = _ ∨ (p_laws_szAcceptor FU _ = _ ∧ _)
    unfold p_laws_szAcceptor
    rcases this with h | ⟨h, h'⟩
    · left; simp [h]
    · right
      refine ⟨?_, h'⟩
      simp only [h, Option.bind_some]
      have : decide ((1048576 : Int) - (wSlots xs : Int) < 0) = false := decide_eq_false (by omega)
      rw [this]; rfl
  rcases e1 with e1 | ⟨e1, e2⟩
  · rw [e1]; rfl
  · rw [e1]
    have hs : wSlots xs ≤ 1048576 := by omega
    have hl2 : xs.length ≤ 1048576 := by unfold wSlots at hs; omega
    have hx2 : ∀ x ∈ xs, x.2.2.2.2.length ≤ 1048576 := by
      intro x hxm
      have : x.2.2.2.2.length ≤ (xs.map fun x => x.2.2.2.2.length).sum := le_sum _ _ (List.mem_map.2 ⟨x, hxm, rfl⟩)
      unfold wSlots at hs; omega
    have t1 : m_laws_toAcceptor xs = some xs := by
      show p_laws_toAcceptor FU xs = _
      unfold p_laws_toAcceptor
      rw [t_laws_toSlotS xs hl2 hx2]; rfl
    have t2 : m_laws_eqAcceptor (xs, xs) = some true := by
      show p_laws_eqAcceptor FU _ = _
      unfold p_laws_eqAcceptor
      rw [t_laws_eqSlotS xs hl2 hx2]; rfl
    obtain ⟨r, hr⟩ := s_impl_AcceptorFault xs
    have : decide ((1048576 : Int) - (wSlots xs : Int) < 0) = false := decide_eq_false (by omega)
    simp only [Option.bind_some, this, cond_false, t1, t_spec_AcceptorFault, hr, beq_self_eq_true, Bool.not_true, t2]
end Go.RvP
