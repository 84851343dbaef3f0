/- The plain law: spec and program answer alike, for FnAgrees. Condition: the data are such as can come in. -/
import Derived.Test.YtccghpomkikjoaaRvP3
import Derived.Test.YtccghpomkikjoaaRvG
import Derived.Test.YtccghpomkikjoaaRvM
import Derived.Test.YtccghpomkikjoaaRvV
namespace Go.RvP
open Go.Rv


theorem t_laws_lwBig (x : List Int) : m_laws_lwBig x = some (decide ((x.length : Int) > 1048576)) := rfl

theorem tmod_rng {a m : Int} (ha : 0 ≤ a) (hm : 0 < m) : 0 ≤ Int.tmod a m ∧ Int.tmod a m < m := ⟨Int.tmod_nonneg m ha, Int.tmod_lt_of_pos a hm⟩
/-- A number drawn from the code: in its range. -/
theorem t_laws_lwAt (x : List Int) (k m : Int) (hl : x.length ≤ 1048576) (hb : ∀ b ∈ x, 0 ≤ b ∧ b ≤ 255) (hk0 : 0 ≤ k) (hk : k ≤ 1000000) (hm1 : 1 < m) (hm : m ≤ 200) : ∃ r, m_laws_lwAt (x, k, m) = some r ∧ 0 ≤ r ∧ r < m := by
  show ∃ r, p_laws_lwAt FU _ = some r ∧ _
  unfold p_laws_lwAt
  have d1 : decide (m ≤ (1 : Int)) = false := decide_eq_false (by omega)
  have d2 : (m == 0) = false := by rw [beq_eq_false_iff_ne]; omega
  have d3 : decide (m > (200 : Int)) = false := decide_eq_false (by omega)
  simp only [d1, cond_false, d2, d3]
  by_cases h0 : x.length = 0
  · have e : (lenI x == (0 : Int)) = true := by rw [lenI_eq, h0]; rfl
    simp only [e, cond_true]
    have w : IntKind.wrap .i64 (k * (7 : Int)) = k * 7 := wrap64 (by omega) (by omega)
    rw [w]
    exact ⟨_, rfl, tmod_rng (by omega) (by omega)⟩
  · have e : (lenI x == (0 : Int)) = false := by rw [lenI_eq, beq_eq_false_iff_ne]; omega
    simp only [e, cond_false]
    have hr := tmod_rng (a := k) (m := (x.length : Int)) hk0 (by omega)
    obtain ⟨j, hj⟩ := Int.eq_ofNat_of_zero_le hr.1
    have hjl : j < x.length := by omega
    have hx := hb _ (List.getElem_mem hjl)
    rw [show lenI x = (x.length : Int) from lenI_eq x, hj, geti_lt x j hjl]
    simp only [Option.bind_some]
    have hq0 : 0 ≤ Int.tdiv k (x.length : Int) := Int.tdiv_nonneg hk0 (by omega)
    have hq1 : Int.tdiv k (x.length : Int) ≤ k := Int.tdiv_le_self _ hk0
    rw [wrap64 (show (-9223372036854775808 : Int) ≤ x[j] by omega) (by omega), wrap64 (show (-9223372036854775808 : Int) ≤ Int.tdiv k (x.length : Int) by omega) (by omega), wrap64 (show (-9223372036854775808 : Int) ≤ Int.tdiv k (x.length : Int) * 3 by omega) (by omega), wrap64 (by omega) (by omega)]
    exact ⟨_, rfl, tmod_rng (by omega) (by omega)⟩

theorem upI_snoc {rs : List Int} {y : Int} (h : upI rs) (hy : ∀ z ∈ rs, z < y) : upI (rs ++ [y]) := by
  intro i hi
  simp only [List.length_append, List.length_cons, List.length_nil] at hi
  rcases Nat.lt_or_ge (i + 1) rs.length with h1 | h1
  · rw [List.getElem_append_left h1, List.getElem_append_left (show i < rs.length by omega)]
    exact h i h1
  · rw [List.getElem_append_left (show i < rs.length by omega), List.getElem_append_right h1]
    simp only [List.getElem_singleton]
    exact hy _ (List.getElem_mem _)
theorem t_laws_lwReached (x : List Int) (k : Int) (N : Nat) (hl : x.length ≤ 1048576) (hb : ∀ b ∈ x, 0 ≤ b ∧ b ≤ 255) (hk0 : 0 ≤ k) (hk : k ≤ 1000) (hN : N ≤ 5) : ∃ rs, m_laws_lwReached (x, k, (N : Int)) = some rs ∧ upI rs ∧ (∀ y ∈ rs, 0 ≤ y ∧ y < (N : Int)) ∧ rs.length ≤ N := by
  show ∃ rs, p_laws_lwReached FU _ = some rs ∧ _
  unfold p_laws_lwReached l_laws_lwReached_1
  simp only
  refine lp_for (fun r => ∃ rs, r = some rs ∧ upI rs ∧ (∀ y ∈ rs, 0 ≤ y ∧ y < (N : Int)) ∧ rs.length ≤ N) (fun i z => ∃ rs, z = (rs, (i : Int)) ∧ upI rs ∧ (∀ y ∈ rs, 0 ≤ y ∧ y < (i : Int)) ∧ rs.length ≤ i) N (fun i z hi hz => ?_) (fun z hz rec => ?_) FU _ (FUb (by unfold B36; omega)) ⟨[], rfl, (fun i hi => by simp at hi), (fun y hy => by cases hy), Nat.le_refl _⟩
  · obtain ⟨rs, rfl, h1, h2, h3⟩ := hz
    have hw : IntKind.wrap .i64 ((i : Int) + 1) = ((i + 1 : Nat) : Int) := by rw [wrap64 (by omega) (by omega)]; omega
    have hw1 : IntKind.wrap .i64 (k * (7 : Int)) = k * 7 := wrap64 (by omega) (by omega)
    have hw2 : IntKind.wrap .i64 (k * 7 + (i : Int)) = k * 7 + (i : Int) := wrap64 (by omega) (by omega)
    have hd : decide ((i : Int) < (N : Int)) = true := decide_eq_true (by omega)
    obtain ⟨r, e, _, _⟩ := t_laws_lwAt x (k * 7 + (i : Int)) 3 hl hb (by omega) (by omega) (by omega) (by omega)
    have hc : Nat.ble ((rs.length + [((i : Nat) : Int)].length) * 8) maxBytes = true := by rw [Nat.ble_eq]; simp only [List.length_cons, List.length_nil, maxBytes]; omega
    cases hr : decide (r > (0 : Int)) with
    | true =>
      refine .inr ⟨_, ⟨rs ++ [(i : Int)], rfl, upI_snoc h1 (fun z hz => (h2 z hz).2), fun y hy => ?_, by simp; omega⟩, fun rec => ?_⟩
      · rcases List.mem_append.1 hy with hy | hy
        · have := h2 y hy; omega
        · rw [List.mem_singleton.1 hy]; omega
      · simp only [hd, cond_true, hw1, hw2, e, Option.bind_some, hr, chk, hc, hw]
    | false =>
      refine .inr ⟨_, ⟨rs, rfl, h1, fun y hy => by have := h2 y hy; omega, by omega⟩, fun rec => ?_⟩
      simp only [hd, cond_true, hw1, hw2, e, Option.bind_some, hr, cond_false, hw]
  · obtain ⟨rs, rfl, h1, h2, h3⟩ := hz
    have hd : decide ((N : Int) < (N : Int)) = false := decide_eq_false (by omega)
    simp only [hd, cond_false]
    exact ⟨rs, rfl, h1, h2, h3⟩

theorem t_impl_within (a b c : Int) : m_impl_within (a, b, c) = some (inB a b c) := by
  show p_impl_within FU _ = _
  unfold p_impl_within inB
  by_cases h : b ≤ a <;> simp [h]

theorem t_impl_isId (a : Int) : m_impl_isId a = some (idB a) := by
  show p_impl_isId FU _ = _
  unfold p_impl_isId idB
  rw [t_impl_within]; rfl

theorem t_impl_isShard (a : Int) : m_impl_isShard a = some (shB a) := by
  show p_impl_isShard FU _ = _
  unfold p_impl_isShard shB
  rw [t_impl_within]; rfl

theorem t_impl_isBallot (a : Int) : m_impl_isBallot a = some (bal a) := by
  show p_impl_isBallot FU _ = _
  unfold p_impl_isBallot bal
  rw [t_impl_within]; rfl

theorem t_impl_isValue (a : Int) : m_impl_isValue a = some (vlu a) := by
  show p_impl_isValue FU _ = _
  unfold p_impl_isValue vlu
  cases h : (a == (1 : Int)) <;> simp

theorem t_impl_isVote (a : Int × Int) : m_impl_isVote a = some (votB a) := by
  show p_impl_isVote FU _ = _
  unfold p_impl_isVote votB
  rw [t_impl_isBallot, t_impl_isValue]
  cases bal a.1 <;> rfl

theorem t_impl_castFault (xs : List (Int × Int)) (h : xs.length ≤ 60) : m_impl_castFault xs = some (castGo none xs) := by
  show p_impl_castFault FU _ = _
  unfold p_impl_castFault l_impl_castFault_1
  rw [← cast_all]
  refine (lp_fst xs (castF xs) (some 0) (by unfold B36; omega) (fun i hi rec hw => ?_) (fun rec => ?_)).trans (by cases fstI (castF xs) 0 xs <;> rfl)
  · simp only [lt_lenI hi, cond_true, geti_lt xs i hi, Option.bind_some, t_impl_isVote, castF, hw]
    cases votB xs[i] with
    | false => rfl
    | true =>
      simp only [Bool.not_true, cond_false]
      by_cases h0 : 0 < i
      · have hd : decide ((i : Int) > 0) = true := by simp; omega
        have hp := prv (i := i) (by unfold B36; omega) h0
        have hi1 : i - 1 < xs.length := by omega
        simp only [hd, cond_true, hp, geti_lt xs _ hi1, Option.bind_some, h0, decide_true, Bool.true_and, List.getElem?_eq_getElem hi1, Option.getD_some, badP]
        cases decide (xs[i].1 < xs[i - 1].1) <;> cases (xs[i].1 == xs[i - 1].1) <;> cases (xs[i].2 == xs[i - 1].2) <;> rfl
      · have hd : decide ((i : Int) > 0) = false := by simp; omega
        simp only [hd, cond_false, Option.bind_some, h0, decide_false, Bool.false_and, cond_false]
  · simp only [ge_lenI, cond_false]

theorem t_impl_noVote : m_impl_noVote () = some (-1, 0) := rfl

theorem t_impl_lastCast (xs : List (Int × Int)) (h : xs.length ≤ 60) : m_impl_lastCast xs = some (lastV xs) := by
  show p_impl_lastCast FU _ = _
  unfold p_impl_lastCast lastV
  by_cases h0 : xs.length = 0
  · have : xs = [] := List.eq_nil_of_length_eq_zero h0
    subst this
    rfl
  · have h1 : (lenI xs == 0) = false := by rw [lenI_eq, beq_eq_false_iff_ne]; omega
    have h2 : IntKind.wrap .i64 (lenI xs - 1) = ((xs.length - 1 : Nat) : Int) := by rw [lenI_eq, wrap64 (by omega) (by omega)]; omega
    have hlt : xs.length - 1 < xs.length := by omega
    simp only [h1, cond_false, h2, geti_lt xs _ hlt, Option.bind_some]
    rw [List.getLast?_eq_getElem?, List.getElem?_eq_getElem hlt]
    rfl

theorem t_impl_SlotFault (x : SlotT) : m_impl_SlotFault x = some (slotCode x) := by
  obtain ⟨a, b, c, d, xs⟩ := x
  show p_impl_SlotFault FU _ = _
  unfold p_impl_SlotFault slotCode
  simp only [t_impl_isId, t_impl_isShard, t_impl_within, Option.bind_some]
  have e0 : (cond (!idB a) (some true) (cond (!shB b) (some true) (some (!inB c (-1) 1000)))) = some (!(idB a && (shB b && inB c (-1) 1000))) := by
    cases idB a <;> cases shB b <;> rfl
  rw [e0]
  simp only [Option.bind_some]
  cases (idB a && (shB b && inB c (-1) 1000)) with
  | false => rfl
  | true =>
    simp only [Bool.not_true, cond_false]
    by_cases hl : xs.length > 60
    · have : decide (lenI xs > 60) = true := by simp [lenI_eq]; omega
      simp [this, hl]
    · have : decide (lenI xs > 60) = false := by simp [lenI_eq]; omega
      simp only [this, cond_false, if_neg hl, t_impl_castFault xs (by omega), t_impl_lastCast xs (by omega), Option.bind_some]
      by_cases hc : castGo none xs = 0
      · obtain ⟨d1, d2⟩ := d
        have e2 : (!((d1 == (lastV xs).1) && ((d2 == (lastV xs).2) && true))) = !((d1, d2) == lastV xs) := by
          rw [Bool.and_true]; rfl
        simp only [hc, e2]
        cases ((d1, d2) == lastV xs) with
        | false => simp
        | true => by_cases hh : d1 > c <;> simp [hh]
      · have hb : (castGo none xs == 0) = false := by rw [beq_eq_false_iff_ne]; exact hc
        simp [hc, hb]

theorem t_cmp_Compare_int64 (a b : Int) : m_cmp_Compare_int64 (a, b) = some (if a < b then -1 else if a > b then 1 else 0) := by
  show p_cmp_Compare_int64 FU _ = _
  unfold p_cmp_Compare_int64
  have e : ∀ a : Int, m_cmp_isNaN_int64 a = some false := fun a => by
    show p_cmp_isNaN_int64 FU a = _
    unfold p_cmp_isNaN_int64
    simp
  simp only [e, Option.bind_some, cond_false]
  by_cases h1 : a < b
  · simp [h1]
  · by_cases h2 : a > b <;> simp [h1, h2]

theorem t_cmp_Or_int (a b : Int) : m_cmp_Or_int [a, b] = some (if a = 0 then b else a) := by
  show p_cmp_Or_int FU _ = _
  unfold p_cmp_Or_int l_cmp_Or_int_1
  obtain ⟨m, hm⟩ : ∃ m, FU = m + 1 + 1 + 1 := ⟨18446744073709551613, rfl⟩
  rw [hm]
  have w1 : IntKind.wrap .i64 1 = 1 := rfl
  have w2 : IntKind.wrap .i64 2 = 2 := rfl
  by_cases h1 : a = 0
  · by_cases h2 : b = 0
    · simp [lp, geti, lenI, h1, h2, w1, w2]
    · have hb : (b == 0) = false := by simp [h2]
      simp [lp, geti, lenI, h1, hb, w1, w2]
  · have hb : (a == 0) = false := by simp [h1]
    simp [lp, geti, lenI, h1, hb]

theorem t_impl_compareSlots (a b : SlotT) : m_impl_compareSlots (a, b) = some (cmpS a b) := by
  show p_impl_compareSlots FU _ = _
  unfold p_impl_compareSlots cmpS
  simp only [t_cmp_Compare_int64, t_cmp_Or_int, Option.bind_some]

theorem t_impl_AcceptorFault (xs : List SlotT) : m_impl_AcceptorFault xs = some (accCode xs) := by
  show p_impl_AcceptorFault FU xs = _
  unfold p_impl_AcceptorFault accCode
  by_cases hl : xs.length > 60
  · have : decide (lenI xs > 60) = true := by simp [lenI_eq]; omega
    rw [this, if_pos hl]; rfl
  · have : decide (lenI xs > 60) = false := by simp [lenI_eq]; omega
    rw [this, if_neg hl, cond_false]
    unfold l_impl_AcceptorFault_1
    refine (lp_fst xs (accStep xs) (some 0) (by unfold B36; omega) (fun i hi rec hw => ?_) (fun rec => ?_)).trans (by cases fstI (accStep xs) 0 xs <;> rfl)
    · simp only [lt_lenI hi, cond_true, geti_lt xs i hi, Option.bind_some, t_impl_SlotFault, accStep, hw]
      cases (slotCode xs[i] == 0) with
      | false => rfl
      | true =>
        simp only [Bool.not_true, cond_false]
        by_cases h0 : 0 < i
        · have hd : decide ((i : Int) > 0) = true := by simp; omega
          have hi1 : i - 1 < xs.length := by omega
          simp only [hd, cond_true, prv (i := i) (by unfold B36; omega) h0, geti_lt xs _ hi1, Option.bind_some, t_impl_compareSlots, cmpS_ahead, h0, decide_true, Bool.true_and, List.getElem?_eq_getElem hi1, Option.getD_some]
          cases aheadB xs[i - 1] xs[i] <;> rfl
        · have hd : decide ((i : Int) > 0) = false := by simp; omega
          simp only [hd, cond_false, Option.bind_some, h0, decide_false, Bool.false_and]
    · simp only [ge_lenI, cond_false]

theorem t_impl_listFault (xs : List (List SlotT)) (hl : xs.length ≤ 1048576) : m_impl_listFault xs = some (accsCode xs) := by
  show p_impl_listFault FU xs = _
  unfold p_impl_listFault accsCode
  have e0 : m_impl_size_impl_Acceptor xs = some (lenI xs) := rfl
  rw [e0]
  simp only [Option.bind_some, t_impl_within, inB]
  by_cases h1 : xs.length < 1
  · have : decide ((1 : Int) ≤ lenI xs) = false := decide_eq_false (by rw [lenI_eq]; omega)
    rw [this, if_pos (.inl h1)]; rfl
  · have e1 : decide ((1 : Int) ≤ lenI xs) = true := decide_eq_true (by rw [lenI_eq]; omega)
    by_cases h2 : xs.length > 5
    · have : decide (lenI xs ≤ 5) = false := decide_eq_false (by rw [lenI_eq]; omega)
      rw [e1, this, if_pos (.inr h2)]; rfl
    · have : decide (lenI xs ≤ 5) = true := decide_eq_true (by rw [lenI_eq]; omega)
      rw [e1, this, if_neg (by omega)]
      simp only [Bool.and_self, Bool.not_true, cond_false]
      unfold l_impl_listFault_1
      refine (lp_fst xs (fun _ y => accsF y) (some 0) (by unfold B36; omega) (fun i hi rec hw => ?_) (fun rec => ?_)).trans (by cases fstI (fun _ y => accsF y) 0 xs <;> rfl)
      · simp only [lt_lenI hi, cond_true, geti_lt xs i hi, Option.bind_some, t_impl_AcceptorFault, accsF, hw]
        cases (accCode xs[i] == 0) <;> rfl
      · simp only [ge_lenI, cond_false]

theorem t_impl_newSlot (a b : Int) : m_impl_newSlot (a, b) = some (a, (b, (-1, ((-1, 0), [])))) := by
  show p_impl_newSlot FU _ = _
  unfold p_impl_newSlot
  simp only [t_impl_noVote, Option.bind_some]

theorem t_impl_NewSlot (a b : Int) : m_impl_NewSlot (a, b) = some (newR a b) := by
  show p_impl_NewSlot FU _ = _
  unfold p_impl_NewSlot newR
  simp only [t_impl_isId, t_impl_isShard, t_impl_newSlot, Option.bind_some]
  cases idB a <;> cases shB b <;> rfl

theorem t_impl_firstOf (a b : Int) : m_impl_firstOf [a, b] = some (if a = 0 then b else a) := by
  show p_impl_firstOf FU _ = _
  unfold p_impl_firstOf l_impl_firstOf_1
  obtain ⟨m, hm⟩ : ∃ m, FU = m + 1 + 1 + 1 := ⟨18446744073709551613, rfl⟩
  rw [hm]
  have w1 : IntKind.wrap .i64 1 = 1 := rfl
  have w2 : IntKind.wrap .i64 2 = 2 := rfl
  by_cases h1 : a = 0
  · by_cases h2 : b = 0
    · simp [lp, geti, lenI, h1, h2, w1, w2]
    · have hb : (b == 0) = false := by simp [h2]
      simp [lp, geti, lenI, h1, hb, w1, w2]
  · have hb : (a == 0) = false := by simp [h1]
    simp [lp, geti, lenI, h1, hb]
theorem t_impl_firstOf3 (a b c : Int) : m_impl_firstOf [a, b, c] = some (if a = 0 then (if b = 0 then c else b) else a) := by
  show p_impl_firstOf FU _ = _
  unfold p_impl_firstOf l_impl_firstOf_1
  obtain ⟨m, hm⟩ : ∃ m, FU = m + 1 + 1 + 1 + 1 := ⟨18446744073709551612, rfl⟩
  rw [hm]
  have w1 : IntKind.wrap .i64 1 = 1 := rfl
  have w2 : IntKind.wrap .i64 2 = 2 := rfl
  have w3 : IntKind.wrap .i64 3 = 3 := rfl
  by_cases h1 : a = 0
  · by_cases h2 : b = 0
    · by_cases h3 : c = 0
      · simp [lp, geti, lenI, h1, h2, h3, w1, w2, w3]
      · have hb : (c == 0) = false := by simp [h3]
        simp [lp, geti, lenI, h1, h2, hb, w1, w2, w3]
    · have hb : (b == 0) = false := by simp [h2]
      simp [lp, geti, lenI, h1, h2, hb, w1, w2]
  · have hb : (a == 0) = false := by simp [h1]
    simp [lp, geti, lenI, h1, hb]

theorem t_impl_reachedFault (rs : List Int) (N : Nat) (hl : rs.length ≤ 1048576) (hN : N ≤ 1048576) : m_impl_reachedFault (rs, (N : Int)) = some (reachC N rs) := by
  show p_impl_reachedFault FU _ = _
  unfold p_impl_reachedFault
  simp only
  have hw : IntKind.wrap .i64 ((N : Int) - (1 : Int)) = (N : Int) - 1 := wrap64 (by omega) (by omega)
  have e1 : l_impl_reachedFault_1 FU rs (N : Int) (0 : Int) = match rs.findIdx? (fun y => !(inB y 0 ((N : Int) - 1))) with
      | some i => some (i : Int)
      | none => some (-1) := by
    unfold l_impl_reachedFault_1
    refine lp_place rs (fun y => !(inB y 0 ((N : Int) - 1))) (fun i => some (i : Int)) (some (-1 : Int)) (by unfold B36; omega) (fun i hi rec hw2 => ?_) (fun rec => ?_)
    · simp only [lt_lenI hi, cond_true, geti_lt rs i hi, Option.bind_some, hw, t_impl_within, hw2]
    · simp only [ge_lenI, cond_false]
  have e2 : l_impl_reachedFault_2 FU rs (1 : Int) = cond (adjB rs) (some 7) (some 0) := by
    unfold l_impl_reachedFault_2
    refine lp_adj rs (some 7) (some 0) (by unfold B36; omega) (fun i hi rec => ?_) (fun n rec hn => ?_)
    · have w1 : IntKind.wrap .i64 (((i + 1 : Nat) : Int) - (1 : Int)) = ((i : Nat) : Int) := by rw [wrap64 (by omega) (by omega)]; omega
      have w2 : IntKind.wrap .i64 (((i + 1 : Nat) : Int) + (1 : Int)) = ((i + 1 + 1 : Nat) : Int) := by rw [wrap64 (by omega) (by omega)]; omega
      simp only [lt_lenI hi, cond_true, w1, w2, geti_lt rs i (by omega), geti_lt rs (i + 1) hi, Option.bind_some]
    · have hd : decide ((n : Int) < lenI rs) = false := decide_eq_false (by rw [lenI_eq]; omega)
      simp only [hd, cond_false]
  rw [e1, e2, reachC_eq]
  cases hf : rs.findIdx? (fun y => !(inB y 0 ((N : Int) - 1))) with
  | none =>
    have : rs.any (fun y => !(inB y 0 ((N : Int) - 1))) = false := by
      rw [List.findIdx?_eq_none_iff] at hf
      rw [List.any_eq_false]
      intro y hy
      simpa using hf y hy
    rw [this]
    have hd : decide ((-1 : Int) ≥ 0) = false := by decide
    simp only [Option.bind_some, hd, cond_false]
    cases adjB rs <;> rfl
  | some i =>
    have : rs.any (fun y => !(inB y 0 ((N : Int) - 1))) = true := by
      obtain ⟨h, h1, _⟩ := List.findIdx?_eq_some_iff_getElem.1 hf
      rw [List.any_eq_true]
      exact ⟨_, List.getElem_mem h, h1⟩
    rw [this]
    have hd : decide ((i : Int) ≥ 0) = true := decide_eq_true (by omega)
    simp only [Option.bind_some, hd, cond_true]

theorem t_slices_Clone_impl_Vote_impl_Vote (xs : List (Int × Int)) (h : xs.length ≤ 1048576) : m_slices_Clone_impl_Vote_impl_Vote xs = some xs := by
  show p_slices_Clone_impl_Vote_impl_Vote FU _ = _
  unfold p_slices_Clone_impl_Vote_impl_Vote
  have hb : Nat.ble ((([] : List (Int × Int)).length + xs.length) * 16) maxBytes = true := ble_mem (by simp only [List.length_nil, maxBytes]; omega)
  rw [chk_true hb]
  exact clone_same xs _ rfl

theorem t_impl_copySlot (x : SlotT) (h : x.2.2.2.2.length ≤ 1048576) : m_impl_copySlot x = some x := by
  show p_impl_copySlot FU _ = _
  unfold p_impl_copySlot
  rw [t_slices_Clone_impl_Vote_impl_Vote _ h]
  rfl

theorem t_impl_copyAcceptor (xs : List SlotT) (hl : xs.length ≤ 1048576) (hc : ∀ x ∈ xs, x.2.2.2.2.length ≤ 1048576) : m_impl_copyAcceptor xs = some xs := by
  show p_impl_copyAcceptor FU _ = _
  unfold p_impl_copyAcceptor l_impl_copyAcceptor_1
  refine (grow_loop2 64 (by omega) xs m_impl_copySlot id (fun x hx => t_impl_copySlot x (hc x hx)) hl).trans ?_
  rw [List.map_id]

theorem t_impl_copyAcceptors (xs : List (List SlotT)) (hl : xs.length ≤ 1048576) (h : ∀ x ∈ xs, accCode x = 0) : m_impl_copyAcceptors xs = some xs := by
  show p_impl_copyAcceptors FU _ = _
  unfold p_impl_copyAcceptors l_impl_copyAcceptors_1
  have hc : ∀ x ∈ xs, m_impl_copyAcceptor x = some (id x) := fun x hx => by
    have hz := accCode_zero (h x hx)
    exact t_impl_copyAcceptor x (by have := hz.1; omega) (fun y hy => by have := (slotCode_zero (hz.2.1 y hy)).2.1; omega)
  refine (grow_loop 24 (by omega) xs m_impl_copyAcceptor id hc hl).trans ?_
  rw [List.map_id]

/-- The place of a slot, and whether it is there. -/
theorem t_impl_Acceptor_slotAt (xs : List SlotT) (c d : Int) (hl : xs.length ≤ 1048576) (h : ∀ i (hi : i + 1 < xs.length), aheadB xs[i] xs[i + 1] = true) :
    ∃ j : Nat, j ≤ xs.length ∧ m_impl_Acceptor_slotAt (xs, c, d) = some ((j : Int), (xs.find? (isSlot c d)).isSome) ∧ ((xs.find? (isSlot c d)).isSome = true → xs[j]? = xs.find? (isSlot c d)) ∧ (∀ i (hi : i < xs.length), i < j → cmpS xs[i] (keyS c d) < 0) ∧ (∀ i (hi : i < xs.length), j ≤ i → ¬ cmpS xs[i] (keyS c d) < 0) := by
  have hlt := acc_lt h
  let p : Nat → Bool := fun i => match xs[i]? with | some x => decide (cmpS x (keyS c d) < 0) | none => false
  have hp : ∀ i (hi : i < xs.length), p i = decide (cmpS xs[i] (keyS c d) < 0) := fun i hi => by simp only [p, List.getElem?_eq_getElem hi]
  have hmono : ∀ i j, i ≤ j → j < xs.length → p j = true → p i = true := by
    intro i j hij hj hpj
    rcases Nat.lt_or_ge i j with h' | h'
    · rw [hp i (by omega)]
      rw [hp j hj] at hpj
      have h1 := of_decide_eq_true hpj
      have h2 := hlt i j h' hj
      exact decide_eq_true ((ahead_iff _ _).1 (ahead_trans h2 ((ahead_iff _ _).2 h1)))
    · have : i = j := by omega
      subst this; exact hpj
  show ∃ j : Nat, j ≤ xs.length ∧ p_impl_Acceptor_slotAt FU _ = _ ∧ _
  unfold p_impl_Acceptor_slotAt l_impl_Acceptor_slotAt_1
  simp only
  obtain ⟨j, hj, e, hj1, hj2⟩ := bs_loop xs.length (by unfold B36; omega) p hmono (step := fun rec13 (z12 : (Int × Int)) =>
     (cond (decide (z12.1 < z12.2))
      (chk (decide (0 ≤ (1 : Int)))
       ((geti xs (IntKind.wrap .i64 (Int.fdiv (IntKind.wrap .u64 (IntKind.wrap .i64 (z12.1 + z12.2))) (2 ^ (min (1 : Int).toNat 64))))).bind fun y14 =>
       ((m_impl_compareSlots (y14, (c, (d, ((0 : Int), (((0 : Int), (0 : Int)), [])))))).bind fun r15 =>
       (cond (decide (r15 < (0 : Int)))
        (rec13 (IntKind.wrap .i64 ((IntKind.wrap .i64 (Int.fdiv (IntKind.wrap .u64 (IntKind.wrap .i64 (z12.1 + z12.2))) (2 ^ (min (1 : Int).toNat 64)))) + (1 : Int)), z12.2))
        (rec13 (z12.1, IntKind.wrap .i64 (Int.fdiv (IntKind.wrap .u64 (IntKind.wrap .i64 (z12.1 + z12.2))) (2 ^ (min (1 : Int).toNat 64)))))))))
      (some z12.1)))
    (fun a b rec hab hb => by
      have hm : (a + b) / 2 < xs.length := by omega
      have hd : decide ((a : Int) < (b : Int)) = true := decide_eq_true (by omega)
      simp only [hd, cond_true, mid_eq (show a ≤ B36 by unfold B36; omega) (show b ≤ B36 by unfold B36; omega), geti_lt xs _ hm, Option.bind_some, t_impl_compareSlots, nxt (show (a + b) / 2 ≤ B36 by unfold B36; omega), hp _ hm]
      rfl)
    (fun a rec => by
      have hd : decide ((a : Int) < (a : Int)) = false := decide_eq_false (by omega)
      simp only [hd, cond_false])
  have e' : lenI xs = ((xs.length : Nat) : Int) := rfl
  rw [e', e]
  simp only [Option.bind_some]
  have hlo : ∀ i (hi : i < xs.length), i < j → cmpS xs[i] (keyS c d) < 0 := fun i hi hij => of_decide_eq_true ((hp i hi).symm.trans (hj1 i hij))
  have hhi : ∀ i (hi : i < xs.length), j ≤ i → ¬ cmpS xs[i] (keyS c d) < 0 := fun i hi hij => of_decide_eq_false ((hp i hi).symm.trans (hj2 i hij hi))
  have hz : ∀ s : SlotT, isSlot c d s = (cmpS s (keyS c d) == 0) := fun s => by
    have h0 := cmpS_zero s (keyS c d)
    unfold isSlot
    rw [Bool.eq_iff_iff, Bool.and_eq_true, beq_iff_eq, beq_iff_eq, beq_iff_eq]
    exact h0.symm
  have hneg : ∀ (i : Nat) (hi : i < xs.length), i < j → isSlot c d xs[i] = false := fun i hi hij => by
    rw [hz, beq_eq_false_iff_ne]
    have := hlo i hi hij
    omega
  refine ⟨j, hj, ?_⟩
  rcases Nat.lt_or_ge j xs.length with hjl | hjl
  · have hd : decide ((j : Int) < (xs.length : Int)) = true := decide_eq_true (by omega)
    rw [hd]
    simp only [cond_true, geti_lt xs j hjl, Option.bind_some, t_impl_compareSlots]
    have hpos : ∀ i (hi : i < xs.length), j < i → isSlot c d xs[i] = false := fun i hi hij => by
      rw [hz, beq_eq_false_iff_ne]
      intro h0
      have h1 := hhi j hjl (Nat.le_refl _)
      have h2 := (ahead_iff _ _).1 (hlt j i hij hi)
      have h3 := (cmpS_zero _ _).1 h0
      have h4 := (cmpS_lt xs[j] xs[i]).1 h2
      have h5 : ¬ (xs[j].1 < (keyS c d).1 ∨ xs[j].1 = (keyS c d).1 ∧ xs[j].2.1 < (keyS c d).2.1) := fun q => h1 ((cmpS_lt xs[j] (keyS c d)).2 q)
      rw [← h3.1, ← h3.2] at h5
      exact h5 h4
    cases hb : isSlot c d xs[j] with
    | true =>
      have hf : xs.find? (isSlot c d) = some xs[j] := by
        rw [List.find?_eq_some_iff_getElem]
        exact ⟨hb, j, hjl, rfl, fun k hk => by rw [hneg k (by omega) hk]; rfl⟩
      rw [hf]
      rw [hz] at hb
      exact ⟨by show some ((j : Int), (cmpS xs[j] (keyS c d) == 0)) = _; rw [hb]; rfl, fun _ => List.getElem?_eq_getElem hjl, hlo, hhi⟩
    | false =>
      have hf : xs.find? (isSlot c d) = none := by
        rw [List.find?_eq_none]
        intro s hs
        obtain ⟨i, hi, rfl⟩ := List.getElem_of_mem hs
        rcases Nat.lt_trichotomy i j with h' | h' | h'
        · rw [hneg i hi h']; decide
        · subst h'; rw [hb]; decide
        · rw [hpos i hi h']; decide
      rw [hf]
      rw [hz] at hb
      exact ⟨by show some ((j : Int), (cmpS xs[j] (keyS c d) == 0)) = _; rw [hb]; rfl, (fun h => by cases h), hlo, hhi⟩
  · have hd : decide ((j : Int) < (xs.length : Int)) = false := decide_eq_false (by omega)
    rw [hd]
    have hf : xs.find? (isSlot c d) = none := by
      rw [List.find?_eq_none]
      intro s hs
      obtain ⟨i, hi, rfl⟩ := List.getElem_of_mem hs
      rw [hneg i hi (by omega)]; decide
    rw [hf]
    exact ⟨rfl, (fun h => by cases h), hlo, hhi⟩

theorem t_impl_Acceptor_slot (xs : List SlotT) (c d : Int) (hl : xs.length ≤ 1048576) (hc : ∀ x ∈ xs, x.2.2.2.2.length ≤ 1048576) (h : ∀ i (hi : i + 1 < xs.length), aheadB xs[i] xs[i + 1] = true) : m_impl_Acceptor_slot (xs, c, d) = some (slotOf xs c d) := by
  obtain ⟨j, hj, e, h1, _⟩ := t_impl_Acceptor_slotAt xs c d hl h
  show p_impl_Acceptor_slot FU _ = _
  unfold p_impl_Acceptor_slot slotOf
  simp only [e, Option.bind_some]
  cases hf : xs.find? (isSlot c d) with
  | none =>
    simp only [Option.isSome_none, Bool.not_false, cond_true, t_impl_newSlot, Option.bind_some, Option.getD_none, newS]
  | some s =>
    rw [hf] at h1
    have hs := List.mem_of_find?_eq_some hf
    simp only [Option.isSome_some, Bool.not_true, cond_false, geti_nat, h1 rfl, Option.bind_some, t_impl_copySlot s (hc s hs), Option.getD_some]

theorem t_impl_PromiseSlot (s : SlotT) (b : Int) : m_impl_PromiseSlot (s, b) = some (promR s b) := by
  show p_impl_PromiseSlot FU _ = _
  unfold p_impl_PromiseSlot promR
  simp only [t_impl_SlotFault, t_impl_isBallot, Option.bind_some]
  cases h : (slotCode s == 0) with
  | false => rfl
  | true =>
    have hl := (slotCode_zero (by simpa using h)).2.1
    cases bal b with
    | false => rfl
    | true =>
      cases decide (b < s.2.2.1) with
      | true => rfl
      | false =>
        simp only [Bool.not_true, cond_false, t_impl_copySlot s (by omega), Option.bind_some]

theorem t_slices_Insert_impl_Slot_impl_Slot (xs : List SlotT) (j : Nat) (s : SlotT) (hj : j ≤ xs.length) (hl : xs.length ≤ 1000) : m_slices_Insert_impl_Slot_impl_Slot (xs, (j : Int), [s]) = some (xs.take j ++ [s] ++ xs.drop j, (true, true)) := by
  have h1 : (decide ((0 : Int) ≤ (j : Int)) && decide ((j : Int) ≤ (xs.length : Int)) && Nat.beq [s].length 1 && Nat.ble ((xs.length + 1) * 64) 140737488355328) = true := by
    have : Nat.ble ((xs.length + 1) * 64) 140737488355328 = true := by rw [Nat.ble_eq]; omega
    rw [this]; simp [hj]
  show (insRun 64 (xs, (j : Int), [s])).map _ = _
  unfold insRun
  simp only [h1, cond_true, Option.map_some, Int.toNat_natCast]

theorem t_impl_Acceptor_promise (xs : List SlotT) (c d : Int) (b : Int) (hl : xs.length ≤ 60) (hc : ∀ x ∈ xs, x.2.2.2.2.length ≤ 1048576) (h : ∀ i (hi : i + 1 < xs.length), aheadB xs[i] xs[i + 1] = true) : m_impl_Acceptor_promise (xs, c, d, b) = some (toldR xs (promR (slotOf xs c d) b)) := by
  show p_impl_Acceptor_promise FU _ = _
  unfold p_impl_Acceptor_promise toldR
  simp only [t_impl_Acceptor_slot xs c d (by omega) hc h, t_impl_PromiseSlot, Option.bind_some]
  cases h0 : ((promR (slotOf xs c d) b).1 == 0) with
  | false => rfl
  | true =>
    have hk := promR_key (slotOf xs c d) b (eq_of_beq h0)
    have hk2 := slotOf_key xs c d
    obtain ⟨j, hj, e, h1, h2, h3⟩ := t_impl_Acceptor_slotAt xs c d (by omega) h
    obtain ⟨p1, p2⟩ := place_found (hk.1.trans hk2.1) (hk.2.trans hk2.2) hj h1 h2 h3
    simp only [Bool.not_true, cond_false, t_impl_copyAcceptor xs (by omega) hc, Option.bind_some, e]
    unfold putS
    rw [p1, p2]
    cases hf : (xs.find? (isSlot c d)).isSome with
    | true =>
      have hjl : j < xs.length := by
        by_cases hjl : j < xs.length
        · exact hjl
        · have h4 := h1 hf
          rw [List.getElem?_eq_none (by omega)] at h4
          rw [← h4] at hf; cases hf
      simp only [cond_true, geti_lt xs j hjl, Option.bind_some, Int.toNat_natCast, List.getElem?_eq_getElem hjl, Option.elim]
    | false =>
      simp only [cond_false]
      by_cases h6 : xs.length ≥ 60
      · have h7 : (lenI xs == (60 : Int)) = true := by rw [lenI_eq, beq_iff_eq]; omega
        simp only [h7, decide_eq_true h6, cond_true, Option.elim, Option.bind_some]
        rfl
      · have h7 : (lenI xs == (60 : Int)) = false := by rw [lenI_eq, beq_eq_false_iff_ne]; omega
        simp only [h7, decide_eq_false h6, cond_false, t_slices_Insert_impl_Slot_impl_Slot xs j _ hj (by omega), Option.bind_some, Option.elim]

theorem t_impl_quorum (n : Nat) (hn : n ≤ B36) : m_impl_quorum (n : Int) = some ((quo n : Nat) : Int) := by
  show p_impl_quorum FU _ = _
  unfold p_impl_quorum quo
  unfold B36 at hn
  have e1 : ((2 : Int) == 0) = false := rfl
  rw [e1, cond_false, Int.tdiv_eq_ediv_of_nonneg (by omega), wrap64 (n := (n : Int) / 2) (by omega) (by omega), wrap64 (by omega) (by omega)]
  rfl

theorem t_impl_PickValue_1 (v : Int × Int) : m_impl_PickValue_1 v = some (badV v) := by
  show p_impl_PickValue_1 FU v = _
  unfold p_impl_PickValue_1 badV
  show (cond (!(v.1 == -1 && (v.2 == 0 && true))) ((m_impl_isVote v).bind fun r2 => some (!r2)) (some false)) = _
  rw [t_impl_isVote]
  cases (v.1 == -1 && (v.2 == 0 && true)) <;> rfl

theorem t_impl_PickValue (xs : List (Int × Int)) (own : Int) : m_impl_PickValue (xs, own) = some (pickV xs own) := by
  show p_impl_PickValue FU _ = _
  unfold p_impl_PickValue pickV
  by_cases hl : xs.length > 9
  · have : decide (lenI xs > 9) = true := by simp [lenI_eq]; omega
    simp only [this, cond_true, if_pos hl]
  · have : decide (lenI xs > 9) = false := by simp [lenI_eq]; omega
    simp only [this, cond_false, if_neg hl]
    have e1 : l_impl_PickValue_1 FU xs 0 = match xs.findIdx? badV with
        | some i => some (i : Int)
        | none => some (-1) := by
      unfold l_impl_PickValue_1
      refine lp_place xs badV (fun i => some (i : Int)) (some (-1)) (by unfold B36; omega) (fun i hi rec hw => ?_) (fun rec => ?_)
      · simp only [lt_lenI hi, cond_true, geti_lt xs i hi, Option.bind_some, t_impl_PickValue_1, hw]
      · simp only [ge_lenI, cond_false]
    have e2 : ∀ s, l_impl_PickValue_2 FU xs ((0 : Int), s) = some ((0 : Int), (xs.foldl bestV s).2) := by
      intro s
      unfold l_impl_PickValue_2
      refine lp_fold xs bestV (fun i s => ((i : Int), s)) (fun s => some ((0 : Int), s.2)) (by unfold B36; omega) (fun i hi s rec hw => ?_) (fun s rec => ?_) s
      · simp only [lt_lenI hi, cond_true, geti_lt xs i hi, Option.bind_some, hw, bestV]
        by_cases hh : xs[i].1 > s.1 <;> simp [hh]
      · simp only [ge_lenI, cond_false]
    rw [e1]
    have e3 : xs.any badV = (xs.findIdx? badV).isSome := by simp
    cases hf : xs.findIdx? badV with
    | some i =>
      rw [e3, hf]
      have : decide ((i : Int) ≥ 0) = true := by simp
      simp only [Option.bind_some, this, cond_true, Option.isSome_some, Bool.true_or, if_true]
    | none =>
      rw [e3, hf]
      have : decide ((-1 : Int) ≥ 0) = false := by decide
      simp only [Option.bind_some, this, cond_false, Option.isSome_none, Bool.false_or, t_impl_isValue]
      cases vlu own with
      | false => simp
      | true => simp [e2]

theorem t_impl_AcceptSlot (s : SlotT) (v : Int × Int) : m_impl_AcceptSlot (s, v) = some (accR s v) := by
  show p_impl_AcceptSlot FU _ = _
  unfold p_impl_AcceptSlot accR
  simp only [t_impl_SlotFault, t_impl_isVote, Option.bind_some]
  cases h : (slotCode s == 0) with
  | false => rfl
  | true =>
    have hl := (slotCode_zero (by simpa using h)).2.1
    have hb : Nat.ble ((s.2.2.2.2.length + [v].length) * 16) maxBytes = true := ble_mem (by simp only [List.length_cons, List.length_nil, maxBytes]; omega)
    have h6 : (lenI s.2.2.2.2 == 60) = decide (s.2.2.2.2.length ≥ 60) := by
      rw [lenI_eq]
      by_cases h7 : s.2.2.2.2.length ≥ 60
      · have : s.2.2.2.2.length = 60 := by omega
        simp [this]
      · have : ¬ (s.2.2.2.2.length : Int) = 60 := by omega
        simp [this, h7]
    simp only [t_impl_copySlot s (by omega), Option.bind_some, Bool.not_true, cond_false, chk_true hb, h6]
    cases votB v with
    | false => rfl
    | true =>
      cases decide (v.1 < s.2.2.1) with
      | true => rfl
      | false =>
        cases (v.1 == s.2.2.2.1.1) <;> cases (v.2 == s.2.2.2.1.2) <;> cases decide (s.2.2.2.2.length ≥ 60) <;> rfl

theorem t_impl_Acceptor_accept (xs : List SlotT) (c d : Int) (b : Int × Int) (hl : xs.length ≤ 60) (hc : ∀ x ∈ xs, x.2.2.2.2.length ≤ 1048576) (h : ∀ i (hi : i + 1 < xs.length), aheadB xs[i] xs[i + 1] = true) : m_impl_Acceptor_accept (xs, c, d, b) = some (toldR xs (accR (slotOf xs c d) b)) := by
  show p_impl_Acceptor_accept FU _ = _
  unfold p_impl_Acceptor_accept toldR
  simp only [t_impl_Acceptor_slot xs c d (by omega) hc h, t_impl_AcceptSlot, Option.bind_some]
  cases h0 : ((accR (slotOf xs c d) b).1 == 0) with
  | false => rfl
  | true =>
    have hk := accR_key (slotOf xs c d) b (eq_of_beq h0)
    have hk2 := slotOf_key xs c d
    obtain ⟨j, hj, e, h1, h2, h3⟩ := t_impl_Acceptor_slotAt xs c d (by omega) h
    obtain ⟨p1, p2⟩ := place_found (hk.1.trans hk2.1) (hk.2.trans hk2.2) hj h1 h2 h3
    simp only [Bool.not_true, cond_false, t_impl_copyAcceptor xs (by omega) hc, Option.bind_some, e]
    unfold putS
    rw [p1, p2]
    cases hf : (xs.find? (isSlot c d)).isSome with
    | true =>
      have hjl : j < xs.length := by
        by_cases hjl : j < xs.length
        · exact hjl
        · have h4 := h1 hf
          rw [List.getElem?_eq_none (by omega)] at h4
          rw [← h4] at hf; cases hf
      simp only [cond_true, geti_lt xs j hjl, Option.bind_some, Int.toNat_natCast, List.getElem?_eq_getElem hjl, Option.elim]
    | false =>
      simp only [cond_false]
      by_cases h6 : xs.length ≥ 60
      · have h7 : (lenI xs == (60 : Int)) = true := by rw [lenI_eq, beq_iff_eq]; omega
        simp only [h7, decide_eq_true h6, cond_true, Option.elim, Option.bind_some]
        rfl
      · have h7 : (lenI xs == (60 : Int)) = false := by rw [lenI_eq, beq_eq_false_iff_ne]; omega
        simp only [h7, decide_eq_false h6, cond_false, t_slices_Insert_impl_Slot_impl_Slot xs j _ hj (by omega), Option.bind_some, Option.elim]

theorem t_impl_RunBallot_p (accs : List (List SlotT)) (rs : List Int) (c d b : Int) (hl : rs.length ≤ 1048576) (hok : AccsOK accs.length accs) (hin : ∀ y ∈ rs, 0 ≤ y ∧ y < (accs.length : Int)) (hnz : (newR c d).1 = 0) :
    l_impl_RunBallot_1 FU rs c d b (([] : List Int), ([] : List (Int × Int)), (0 : Int), accs) = some (promAll accs rs c d b) ∧ PI accs.length rs rs.length (promAll accs rs c d b) := by
  unfold l_impl_RunBallot_1 promAll
  refine lp_foldI rs (promStep c d b) (fun i (st : BSt) => (st.1, st.2.1, (i : Int), st.2.2)) (fun st => some (st.1, st.2.1, st.2.2)) (PI accs.length rs) (by unfold B36; omega) ([], ([], accs)) ⟨hok, Nat.le_refl _, rfl, (fun y hy => by cases hy), fun v hv => by cases hv⟩ (fun i hi st hI => ⟨hI.step hi c d b, fun rec => ?_⟩) (fun st hI rec => ?_)
  · obtain ⟨k, hk⟩ := Int.eq_ofNat_of_zero_le (hin _ (List.getElem_mem hi)).1
    have hk2 := (hin _ (List.getElem_mem hi)).2
    have hkl : k < st.2.2.length := by rw [hI.ok.1]; rw [hk] at hk2; omega
    have hac := hI.ok.2 _ (List.getElem_mem hkl)
    have hw : IntKind.wrap .i64 ((i : Int) + 1) = ((i + 1 : Nat) : Int) := wrap_next hi hl
    have c1 : Nat.ble ((st.1.length + [((k : Nat) : Int)].length) * 8) maxBytes = true := by rw [Nat.ble_eq]; simp only [List.length_cons, List.length_nil, maxBytes]; have := hI.len; omega
    have em : m_impl_Acceptor_promise (st.2.2[k], c, d, b) = some (toldR st.2.2[k] (promR (slotOf st.2.2[k] c d) b)) := by
      have hz := accCode_zero hac
      exact t_impl_Acceptor_promise st.2.2[k] c d b hz.1 (fun y hy => by have := (slotCode_zero (hz.2.1 y hy)).2.1; omega) hz.2.2
    have c2 : Nat.ble ((st.2.1.length + [(toldR st.2.2[k] (promR (slotOf st.2.2[k] c d) b)).2.1].length) * 16) maxBytes = true := by rw [Nat.ble_eq]; simp only [List.length_cons, List.length_nil, maxBytes]; have := hI.len; have := hI.vlen; omega
    unfold promStep
    simp only [lt_lenI hi, cond_true, geti_lt rs i hi, Option.bind_some, hk, geti_lt _ k hkl, Int.toNat_natCast, List.getElem?_eq_getElem hkl, Option.elim, em, hw, chk, c1, c2, dup_eq]
    cases (toldR st.2.2[k] (promR (slotOf st.2.2[k] c d) b)).1 == 0 <;> rfl
  · simp only [ge_lenI, cond_false]
theorem t_impl_RunBallot_v (N : Nat) (ids : List Int) (accs : List (List SlotT)) (c d b v : Int) (hl : ids.length ≤ 1048576) (hok : AccsOK N accs) (hin : ∀ y ∈ ids, 0 ≤ y ∧ y < (N : Int)) (hnz : (newR c d).1 = 0) :
    l_impl_RunBallot_2 FU ids c d b v ((0 : Int), accs) = some ((0 : Int), (v, ids.foldl (voteStep c d (b, v)) accs)) := by
  unfold l_impl_RunBallot_2
  refine (lp_foldI ids (voteStep c d (b, v)) (fun i (s : List (List SlotT)) => ((i : Int), s)) (fun s => some ((0 : Int), (v, s))) (fun _ s => AccsOK N s) (by unfold B36; omega) accs hok (fun i hi s hI => ⟨voteStep_ok hI c d (b, v) _, fun rec => ?_⟩) (fun s hI rec => ?_)).1
  · obtain ⟨k, hk⟩ := Int.eq_ofNat_of_zero_le (hin _ (List.getElem_mem hi)).1
    have hk2 := (hin _ (List.getElem_mem hi)).2
    have hkl : k < s.length := by rw [hI.1]; rw [hk] at hk2; omega
    have hac := hI.2 _ (List.getElem_mem hkl)
    have hw : IntKind.wrap .i64 ((i : Int) + 1) = ((i + 1 : Nat) : Int) := wrap_next hi hl
    have em : m_impl_Acceptor_accept (s[k], c, d, b, v) = some (toldR s[k] (accR (slotOf s[k] c d) (b, v))) := by
      have hz := accCode_zero hac
      exact t_impl_Acceptor_accept s[k] c d (b, v) hz.1 (fun y hy => by have := (slotCode_zero (hz.2.1 y hy)).2.1; omega) hz.2.2
    unfold voteStep
    simp only [lt_lenI hi, cond_true, geti_lt ids i hi, Option.bind_some, Int.toNat_natCast, List.getElem?_eq_getElem hi, hk, geti_lt _ k hkl, List.getElem?_eq_getElem hkl, Option.elim, em, hw, dup_eq]
    cases (toldR s[k] (accR (slotOf s[k] c d) (b, v))).1 == 0 <;> rfl
  · simp only [ge_lenI, cond_false]
theorem t_impl_RunBallot (accs : List (List SlotT)) (rs : List Int) (c d b v : Int) (hA : accs.length ≤ 1048576) (hl : rs.length ≤ 1048576) : m_impl_RunBallot (accs, rs, c, d, b, v) = some (runR accs rs c d b v) := by
  show p_impl_RunBallot FU _ = _
  unfold p_impl_RunBallot runR
  simp only [t_impl_listFault accs hA, t_impl_NewSlot, t_impl_firstOf, Option.bind_some]
  cases h0 : ((if accsCode accs = 0 then (newR c d).1 else accsCode accs) == 0) with
  | false => rfl
  | true =>
    have h0 := eq_of_beq h0
    have ha0 : accsCode accs = 0 := by
      by_cases hz : accsCode accs = 0
      · exact hz
      · rw [if_neg hz] at h0; exact absurd h0 hz
    rw [if_pos ha0] at h0
    have h4 := accsCode_zero ha0
    have hok : AccsOK accs.length accs := ⟨rfl, h4.2⟩
    simp only [Bool.not_true, cond_false, t_impl_isBallot, t_impl_isValue, Option.bind_some]
    cases hb : bal b with
    | false => rfl
    | true =>
      cases hv : vlu v with
      | false => rfl
      | true =>
        have es : m_impl_size_impl_Acceptor accs = some ((accs.length : Nat) : Int) := rfl
        have er := t_impl_reachedFault rs accs.length hl hA
        simp only [Bool.not_true, cond_false, Option.bind_some, Bool.and_self, es, er]
        cases hr : (reachC accs.length rs == 0) with
        | false => rfl
        | true =>
          have hrz := eq_of_beq hr
          obtain ⟨hin, hup⟩ := reach_zero hrz
          have hlen := up_len hup hin
          obtain ⟨e3, hPI⟩ := t_impl_RunBallot_p accs rs c d b hl hok hin h0
          have hq := t_impl_quorum accs.length (by unfold B36; omega)
          have e5 : m_impl_quorum (lenI accs) = some ((quo accs.length : Nat) : Int) := hq
          have hvl : (promAll accs rs c d b).2.1.length ≤ 9 := by have := hPI.len; have := hPI.vlen; have := h4.1; omega
          have e6 := t_impl_PickValue (promAll accs rs c d b).2.1 v
          have ep := pickV_eq (st := promAll accs rs c d b) hvl hPI.vok hv
          have e7 := t_impl_RunBallot_v accs.length (promAll accs rs c d b).1 (promAll accs rs c d b).2.2 c d b (pickOf (promAll accs rs c d b) v) (by have := hPI.len; omega) hPI.ok (fun y hy => hin y (hPI.mem y hy)) h0
          simp only [Bool.not_true, cond_false, Option.bind_some, t_impl_copyAcceptors accs hA h4.2, e3, e5, e6, ep, e7]
          have hd : decide (lenI (promAll accs rs c d b).1 < ((quo accs.length : Nat) : Int)) = decide ((promAll accs rs c d b).1.length < quo accs.length) := by
            rw [lenI_eq]
            by_cases h : (promAll accs rs c d b).1.length < quo accs.length
            · rw [decide_eq_true h, decide_eq_true (by omega)]
            · rw [decide_eq_false h, decide_eq_false (by omega)]
          rw [hd]
          cases decide ((promAll accs rs c d b).1.length < quo accs.length) <;> rfl

theorem t_impl_slotsFor (xs : List (List SlotT)) (c d : Int) (hl : xs.length ≤ 1048576) (h2 : ∀ x ∈ xs, x.length ≤ 1048576) (h3 : ∀ x ∈ xs, ∀ y ∈ x, y.2.2.2.2.length ≤ 1048576) (h : ∀ x ∈ xs, ∀ i (hi : i + 1 < x.length), aheadB x[i] x[i + 1] = true) : m_impl_slotsFor (xs, c, d) = some (xs.map fun x => slotOf x c d) := by
  show p_impl_slotsFor FU _ = _
  unfold p_impl_slotsFor l_impl_slotsFor_1
  exact grow_loop 64 (by omega) xs (fun x => m_impl_Acceptor_slot (x, c, d)) _ (fun x hx => t_impl_Acceptor_slot x c d (h2 x hx) (h3 x hx) (h x hx)) hl

theorem t_impl_SlotsFor (xs : List (List SlotT)) (c d : Int) (hl : xs.length ≤ 1048576) : m_impl_SlotsFor (xs, c, d) = some (slotsR xs c d) := by
  show p_impl_SlotsFor FU _ = _
  unfold p_impl_SlotsFor slotsR
  simp only [t_impl_listFault xs hl, t_impl_NewSlot, t_impl_firstOf, Option.bind_some]
  cases hc : (accsCode xs == 0) with
  | false =>
    rw [beq_eq_false_iff_ne] at hc
    have hb : (accsCode xs == 0) = false := by rw [beq_eq_false_iff_ne]; exact hc
    simp only [if_neg hc, hb, Bool.not_false, cond_true]
  | true =>
    have hz : accsCode xs = 0 := by simpa using hc
    have h := acc_sizes hz
    have h4 := accsCode_zero hz
    simp only [if_pos hz, Bool.not_true, cond_false, newR]
    cases hn : (idB c && shB d) with
    | false => rfl
    | true =>
      simp only [Bool.not_true, cond_false, beq_self_eq_true]
      rw [t_impl_slotsFor xs c d hl (fun x hx => Nat.le_trans (h.2.1 x hx) (by omega)) (fun x hx y hy => Nat.le_trans (h.2.2 x hx y hy) (by omega)) (fun x hx => (accCode_zero (h4.2 x hx)).2.2)]
      rfl

theorem t_impl_size_impl_Slot (xs : List SlotT) : m_impl_size_impl_Slot xs = some (lenI xs) := rfl

theorem t_impl_slotsFault (xs : List SlotT) (hl : xs.length ≤ 1048576) : m_impl_slotsFault xs = some (askCode xs) := by
  show p_impl_slotsFault FU _ = _
  unfold p_impl_slotsFault askCode
  have hB : xs.length ≤ B36 := by unfold B36; omega
  have e1 : l_impl_slotsFault_1 FU xs 0 = match fstI askF 0 xs with
      | some r => some (Sum.inr r)
      | none => some (Sum.inl ()) := by
    unfold l_impl_slotsFault_1
    refine (lp_fst xs (fun i v => (askF i v).map Sum.inr) (some (Sum.inl ())) hB (fun i hi rec hw => ?_) (fun rec => ?_)).trans ?_
    · simp only [lt_lenI hi, cond_true, geti_lt xs i hi, Option.bind_some, t_impl_SlotFault, askF, hw]
      cases slotCode xs[i] == 0 <;> rfl
    · simp only [ge_lenI, cond_false]
    · rw [fstI_map]
      cases fstI askF 0 xs <;> rfl
  rw [e1]
  cases fstI askF 0 xs with
  | some r => rfl
  | none =>
    simp only [Option.bind_some, Sum.elim_inl, t_impl_size_impl_Slot, t_impl_within]
    by_cases hn : xs.length < 1 ∨ 9 < xs.length
    · have : inB (lenI xs) 1 9 = false := by
        unfold inB; rw [lenI_eq]
        rcases hn with h | h
        · have : decide ((1 : Int) ≤ (xs.length : Int)) = false := decide_eq_false (by omega)
          rw [this]; rfl
        · have : decide ((xs.length : Int) ≤ (9 : Int)) = false := decide_eq_false (by omega)
          rw [this, Bool.and_false]
      simp only [this, Bool.not_false, cond_true, if_pos hn]
    · have : inB (lenI xs) 1 9 = true := by
        unfold inB; rw [lenI_eq, decide_eq_true (show (1 : Int) ≤ (xs.length : Int) by omega), decide_eq_true (show (xs.length : Int) ≤ 9 by omega)]; rfl
      simp only [this, Bool.not_true, cond_false, if_neg hn]
      unfold l_impl_slotsFault_2
      have h0 : 0 < xs.length := by omega
      have e2 := lp_place (R := Int) xs (fun s => !(s.1 == (xs[0]?.getD s).1) || !(s.2.1 == (xs[0]?.getD s).2.1)) (fun i => some (i : Int)) (some (-1 : Int)) (step := fun rec44 (z43 : Int) =>
        (cond (decide (z43 < (lenI xs))) ((geti xs z43).bind fun y45 => (Option.bind ((geti xs (0 : Int)).bind fun y48 => (cond (!(y45.1 == y48.1)) (some true) ((geti xs (0 : Int)).bind fun y49 => some (!(y45.2.1 == y49.2.1))))) fun j50 => (cond j50 (some z43) (rec44 (IntKind.wrap .i64 (z43 + (1 : Int))))))) (some (-1 : Int)))) hB (fun i hi rec hw => by
          have hz : geti xs (0 : Int) = some xs[0] := geti_lt xs 0 h0
          have hz2 : xs[0]? = some xs[0] := List.getElem?_eq_getElem h0
          simp only [lt_lenI hi, cond_true, geti_lt xs i hi, hz, hz2, Option.bind_some, Option.getD_some, hw]
          cases (xs[i].1 == xs[0].1) with
          | false => rfl
          | true => cases (xs[i].2.1 == xs[0].2.1) <;> rfl) (fun rec => by simp only [ge_lenI, cond_false])
      rw [e2]
      cases hf : xs.findIdx? (fun s => !(s.1 == (xs[0]?.getD s).1) || !(s.2.1 == (xs[0]?.getD s).2.1)) with
      | none =>
        have : xs.any (fun s => !(s.1 == (xs[0]?.getD s).1) || !(s.2.1 == (xs[0]?.getD s).2.1)) = false := by
          rw [List.findIdx?_eq_none_iff] at hf
          rw [List.any_eq_false]
          intro s hs
          have := hf s hs
          simpa using this
        rw [this]; rfl
      | some i =>
        have : xs.any (fun s => !(s.1 == (xs[0]?.getD s).1) || !(s.2.1 == (xs[0]?.getD s).2.1)) = true := by
          rw [List.findIdx?_eq_some_iff_getElem] at hf
          obtain ⟨h, h1, _⟩ := hf
          rw [List.any_eq_true]
          exact ⟨_, List.getElem_mem h, h1⟩
        rw [this]
        simp only [Option.bind_some, cond_true]
        have : decide ((i : Int) ≥ 0) = true := decide_eq_true (by omega)
        rw [this, cond_true]

theorem t_slices_Compact_impl_Vote_impl_Vote (x : List VoteT) (hl : x.length ≤ 1048576) : m_slices_Compact_impl_Vote_impl_Vote x = some (dd x, true) := by
  show p_slices_Compact_impl_Vote_impl_Vote FU x = _
  unfold p_slices_Compact_impl_Vote_impl_Vote
  by_cases h2 : x.length < 2
  · have : decide (lenI x < 2) = true := decide_eq_true (by rw [lenI_eq]; omega)
    rw [this, cond_true, dd_same x (fun i hi => by omega)]
  · have : decide (lenI x < 2) = false := decide_eq_false (by rw [lenI_eq]; omega)
    rw [this, cond_false]
    unfold l_slices_Compact_impl_Vote_impl_Vote_2
    have hee : ∀ a b : VoteT, ((a.1 == b.1) && ((a.2 == b.2) && true)) = (a == b) := fun a b => by rw [Bool.and_true]; rfl
    refine lp_for (fun r => r = some (dd x, true)) (fun i z => z = ((i + 1 : Nat) : Int) ∧ ∀ (j : Nat) (h : j + 1 < i + 1) (h' : j + 1 < x.length), (x[j + 1] == x[j]) = false) (x.length - 1) (fun i z hi hz => ?_) (fun z hz rec => ?_) FU _ (FU_gt (by omega)) ⟨rfl, fun j hj => by omega⟩
    · obtain ⟨rfl, hz⟩ := hz
      have hi1 : i + 1 < x.length := by omega
      have wp : IntKind.wrap .i64 (((i + 1 : Nat) : Int) - 1) = ((i : Nat) : Int) := by rw [wrap64 (by omega) (by omega)]; omega
      have wn : IntKind.wrap .i64 (((i + 1 : Nat) : Int) + 1) = ((i + 1 + 1 : Nat) : Int) := by rw [wrap64 (by omega) (by omega)]; omega
      cases hq : x[i + 1] == x[i] with
      | false =>
        refine .inr ⟨((i + 1 + 1 : Nat) : Int), ⟨rfl, fun j hj h' => ?_⟩, fun rec => ?_⟩
        · rcases Nat.lt_or_ge (j + 1) (i + 1) with q | q
          · exact hz j q h'
          · have : j = i := by omega
            subst this; exact hq
        · simp only [lt_lenI hi1, cond_true, geti_lt x (i + 1) hi1, wp, geti_lt x i (by omega), Int.toNat_natCast, List.getElem?_eq_getElem hi1, List.getElem?_eq_getElem (show i < x.length by omega), Option.bind_some, hee, hq, cond_false, Sum.elim_inl, wn]
      | true =>
        obtain ⟨w, cur, e1, e2, e3, e4⟩ := compact1 (fun a b : VoteT => (a.1 == b.1) && ((a.2 == b.2) && true)) hee x hl (i + 1) (by omega) hi1 (fun j h => hz j h (by omega)) hq
        have e1' : l_slices_Compact_impl_Vote_impl_Vote_1 FU x ((i + 1 : Nat) : Int) (((i + 1 : Nat) : Int), (1 : Int), x) = some (((w : Nat) : Int), cur) := e1
        refine .inl fun rec => ?_
        have b1 : bndB (some ((i + 1 : Nat) : Int)) none none x.length = true := by simp [bndB]; omega
        have b2 : bndB (some ((w : Nat) : Int)) none none cur.length = true := by simp [bndB]; omega
        have hlen : (cur.take w ++ List.replicate (cur.length - w) ((0 : Int), (0 : Int)) ++ cur.drop (w + (cur.length - w))).length = cur.length := by simp; omega
        have b3 : bndB none (some ((w : Nat) : Int)) none (cur.take w ++ List.replicate (cur.length - w) ((0 : Int), (0 : Int)) ++ cur.drop (w + (cur.length - w))).length = true := by rw [hlen]; simp [bndB]; omega
        have ht : (cur.take w ++ List.replicate (cur.length - w) ((0 : Int), (0 : Int)) ++ cur.drop (w + (cur.length - w))).take w = dd x := by
          rw [List.append_assoc, List.take_append_of_le_length (by rw [List.length_take]; omega), List.take_take, Nat.min_self, e4]
        simp only [lt_lenI hi1, cond_true, geti_lt x (i + 1) hi1, wp, geti_lt x i (by omega), Int.toNat_natCast, List.getElem?_eq_getElem hi1, List.getElem?_eq_getElem (show i < x.length by omega), Option.bind_some, hee, hq, chk, b1, e1', b2, b3, ht, Sum.elim_inr]
    · obtain ⟨rfl, hz⟩ := hz
      have : decide (((x.length - 1 + 1 : Nat) : Int) < lenI x) = false := decide_eq_false (by rw [lenI_eq]; omega)
      simp only [this, cond_false]
      rw [dd_same x (fun i hi => hz i (by omega) hi)]

theorem t_slices_SortFunc_impl_Vote_impl_Vote (o : List VoteT) : m_slices_SortFunc_impl_Vote_impl_Vote (o, true) = sortRun okVote ((0 : Int), (0 : Int)) rfl cfVote o := by
  show p_slices_SortFunc_impl_Vote_impl_Vote FU _ = _
  unfold p_slices_SortFunc_impl_Vote_impl_Vote
  rfl

theorem keq_vote : ∀ a b : (Kd.pair (.int .i64) (.int .i64)).ty, keqB (.pair (.int .i64) (.int .i64)) a b = true ↔ a = b := by
  intro a b
  rw [keqB_vote a b]
  exact beq_iff_eq (α := VoteT)
def cntK (xs : List SlotT) (i : Nat) (D : List VoteT) (k : Nat) (v : VoteT) : Nat := cntV (xs.take i) v + if v ∈ D.take k then 1 else 0
def chI (xs : List SlotT) (c : VoteT → Nat) (n : Nat) (o : List VoteT) (m : List (VoteT × Int)) : Prop :=
  o.Nodup ∧ (∀ v, v ∈ o ↔ quo xs.length ≤ c v) ∧ (∀ v, mlook (.pair (.int .i64) (.int .i64)) m v = ((c v : Nat) : Int)) ∧ o.length ≤ n
theorem chI_of {xs : List SlotT} {c c' : VoteT → Nat} {n n' : Nat} {o : List VoteT} {m : List (VoteT × Int)} (h : chI xs c n o m) (hc : ∀ v, c' v = c v) (hn : n ≤ n') : chI xs c' n' o m :=
  ⟨h.1, fun v => by rw [hc]; exact h.2.1 v, fun v => by rw [hc]; exact h.2.2.1 v, Nat.le_trans h.2.2.2 hn⟩
theorem t_chosen_1 (f : Nat) (hf : 70 < f) (xs : List SlotT) (hl : xs.length ≤ 9) (i : Nat) (D : List VoteT) (hD : D.Nodup) (hDl : D.length ≤ 60) (hi : i < 9) (n : Nat) (hn : n ≤ 540) (o : List VoteT) (m : List (VoteT × Int)) (h : chI xs (cntV (xs.take i)) n o m) :
    ∃ o' m', l_impl_chosen_1 f D xs (o, (0 : Int), m) = some (o', m') ∧ chI xs (cntK xs i D D.length) (n + D.length) o' m' := by
  unfold l_impl_chosen_1
  refine lp_for (fun r => ∃ o' m', r = some (o', m') ∧ chI xs (cntK xs i D D.length) (n + D.length) o' m') (fun k z => z.2.1 = (k : Int) ∧ chI xs (cntK xs i D k) (n + k) z.1 z.2.2) D.length (fun k z hk hz => ?_) (fun z hz rec => ?_) f _ (by omega) ⟨rfl, chI_of h (fun v => by simp [cntK]) (by omega)⟩
  · obtain ⟨o, kk, m⟩ := z
    obtain ⟨rfl, h1, h2, h3, h4⟩ := hz
    simp only at h1 h2 h3 h4
    generalize hy : D[k] = y
    have hgy : geti D (k : Int) = some y := by rw [geti_lt D k hk, hy]
    have hgy2 : D[k]? = some y := by rw [List.getElem?_eq_getElem hk, hy]
    have hyn : y ∉ D.take k := by
      intro hm
      obtain ⟨j, hj, e⟩ := List.getElem_of_mem hm
      rw [List.length_take] at hj
      rw [List.getElem_take] at e
      exact nodup_ne hD (show j < k by omega) hk (e.trans hy.symm)
    have hcK : ∀ v, cntK xs i D (k + 1) v = cntK xs i D k v + if v = y then 1 else 0 := by
      intro v
      unfold cntK
      rw [List.take_succ_eq_append_getElem hk, hy]
      simp only [List.mem_append, List.mem_singleton]
      by_cases e : v = y
      · subst e
        rw [if_neg hyn, if_pos (.inr rfl), if_pos rfl]
      · rw [if_neg e]
        by_cases e2 : v ∈ D.take k
        · rw [if_pos (.inl e2), if_pos e2]
        · rw [if_neg (by rintro (q | q); exact e2 q; exact e q), if_neg e2]
    have hle : cntK xs i D k y ≤ 10 := by
      have := cntV_le (xs.take i) y
      rw [List.length_take] at this
      unfold cntK
      split <;> omega
    have hw : IntKind.wrap .i64 (mlook (.pair (.int .i64) (.int .i64)) m y + (1 : Int)) = ((cntK xs i D k y + 1 : Nat) : Int) := by rw [h3, wrap64 (by omega) (by omega)]; omega
    have hput := fun v c => mlook_set1 (.pair (.int .i64) (.int .i64)) keq_vote m y v c
    have hf := (hput y 0).1
    have hgf : geti (mput (.pair (.int .i64) (.int .i64)) m y) ((mfind (.pair (.int .i64) (.int .i64)) m y : Nat) : Int) = some ((mput (.pair (.int .i64) (.int .i64)) m y)[mfind (.pair (.int .i64) (.int .i64)) m y]) := geti_lt _ _ hf
    have hll : ∀ v, mlook (.pair (.int .i64) (.int .i64)) (mset (.pair (.int .i64) (.int .i64)) (mput (.pair (.int .i64) (.int .i64)) m y) (mfind (.pair (.int .i64) (.int .i64)) m y) ((cntK xs i D k y + 1 : Nat) : Int)) v = ((cntK xs i D (k + 1) v : Nat) : Int) := by
      intro v
      rw [(hput v _).2, hcK, keqB_vote]
      by_cases e : v = y
      · subst e
        have : ((v : VoteT) == v) = true := by simp
        rw [this, cond_true, if_pos rfl]
      · have : ((v : VoteT) == y) = false := by simpa using e
        rw [this, cond_false, if_neg e, h3]; rfl
    have hq : m_impl_quorum (lenI xs) = some ((quo xs.length : Nat) : Int) := t_impl_quorum xs.length (by unfold B36; omega)
    have hyy := hll y
    rw [hcK, if_pos rfl] at hyy
    have wn := wrap_next hk (Nat.le_trans hDl (by omega))
    by_cases hqc : cntK xs i D k y + 1 = quo xs.length
    · have hb : (((cntK xs i D k y + 1 : Nat) : Int) == ((quo xs.length : Nat) : Int)) = true := by rw [hqc]; simp
      have hyo : y ∉ o := fun hm => by have := (h2 y).1 hm; omega
      refine .inr ⟨(o ++ [y], ((k + 1 : Nat) : Int), mset (.pair (.int .i64) (.int .i64)) (mput (.pair (.int .i64) (.int .i64)) m y) (mfind (.pair (.int .i64) (.int .i64)) m y) ((cntK xs i D k y + 1 : Nat) : Int)), ⟨rfl, ?_, fun v => ?_, hll, ?_⟩, fun rec => ?_⟩
      · exact List.nodup_append.2 ⟨h1, by simp, fun a ha b hb => by rw [List.mem_singleton] at hb; subst hb; exact fun e => hyo (e ▸ ha)⟩
      · rw [List.mem_append, List.mem_singleton, h2, hcK]
        by_cases e : v = y
        · subst e; rw [if_pos rfl]; exact ⟨fun _ => by omega, fun _ => .inr rfl⟩
        · rw [if_neg e]; exact ⟨fun h => by rcases h with h | h; omega; exact absurd h e, fun h => .inl (by omega)⟩
      · show (o ++ [y]).length ≤ _
        rw [List.length_append, List.length_singleton]; omega
      · have n1 : Nat.ble ((o.length + [y].length) * 16) maxBytes = true := by rw [Nat.ble_eq]; simp only [List.length_singleton]; unfold maxBytes; omega
        simp only [lt_lenI hk, cond_true, hgy, hgy2, Int.toNat_natCast, Option.bind_some, hgf, hq, hw, hyy, hb, chk, n1, wn]
    · have hb : (((cntK xs i D k y + 1 : Nat) : Int) == ((quo xs.length : Nat) : Int)) = false := by rw [beq_eq_false_iff_ne]; omega
      refine .inr ⟨(o, ((k + 1 : Nat) : Int), mset (.pair (.int .i64) (.int .i64)) (mput (.pair (.int .i64) (.int .i64)) m y) (mfind (.pair (.int .i64) (.int .i64)) m y) ((cntK xs i D k y + 1 : Nat) : Int)), ⟨rfl, h1, fun v => ?_, hll, ?_⟩, fun rec => ?_⟩
      · rw [h2, hcK]
        by_cases e : v = y
        · subst e; rw [if_pos rfl]; omega
        · rw [if_neg e]; omega
      · show o.length ≤ _; omega
      · simp only [lt_lenI hk, cond_true, hgy, hgy2, Int.toNat_natCast, Option.bind_some, hgf, hq, hw, hyy, hb, cond_false, wn]
  · obtain ⟨o, kk, m⟩ := z
    obtain ⟨rfl, h⟩ := hz
    exact ⟨o, m, by simp only [ge_lenI, cond_false], h⟩
theorem t_chosen_2 (xs : List SlotT) (hl : xs.length ≤ 9) (hc : ∀ s ∈ xs, (castS s).length ≤ 60) (ho : ∀ s ∈ xs, castGo none (castS s) = 0) : ∃ o m, l_impl_chosen_2 FU xs (([] : List (Int × Int)), (0 : Int), ([] : List ((Int × Int) × Int))) = some (o, m) ∧ chI xs (cntV xs) 540 o m := by
  suffices key : ∀ n, 70 < n → ∃ o m, l_impl_chosen_2 n xs (([] : List (Int × Int)), (0 : Int), ([] : List ((Int × Int) × Int))) = some (o, m) ∧ chI xs (cntV xs) 540 o m from key FU (by unfold FU; omega)
  intro n hn
  unfold l_impl_chosen_2
  have hq1 : 1 ≤ quo xs.length := by unfold quo; omega
  refine lp_for (fun r => ∃ o m, r = some (o, m) ∧ chI xs (cntV xs) 540 o m) (fun i z => z.2.1 = (i : Int) ∧ chI xs (cntV (xs.take i)) (60 * i) z.1 z.2.2) xs.length (fun i z hi hz => ?_) (fun z hz rec => ?_) n _ (by omega) ⟨rfl, List.nodup_nil, fun v => ?_, fun v => ?_, by simp⟩
  · obtain ⟨o, ii, m⟩ := z
    obtain ⟨rfl, h⟩ := hz
    have hs : xs[i] ∈ xs := List.getElem_mem hi
    have hord := cast_ord (ho _ hs)
    have hcl := hc _ hs
    have hdl := dd_len (castS xs[i])
    have hN := dd_nodup hord
    have hM := dd_mem (castS xs[i])
    have c1 : m_slices_Clone_impl_Vote_impl_Vote xs[i].2.2.2.2 = some (castS xs[i]) := t_slices_Clone_impl_Vote_impl_Vote (castS xs[i]) (by omega)
    have c2 := t_slices_Compact_impl_Vote_impl_Vote (castS xs[i]) (by omega)
    generalize dd (castS xs[i]) = D at hdl hN c2 hM
    obtain ⟨o', m', e, h'⟩ := t_chosen_1 n hn xs hl i D hN (by omega) (by omega) (60 * i) (by omega) o m h
    refine .inr ⟨(o', ((i + 1 : Nat) : Int), m'), ⟨rfl, chI_of h' (fun v => ?_) (by omega)⟩, fun rec => ?_⟩
    · rw [List.take_succ_eq_append_getElem hi]
      unfold cntK cntV
      rw [List.countP_append, List.countP_singleton, List.take_length]
      congr 1
      by_cases hm : v ∈ D
      · rw [if_pos hm, if_pos (by simpa using (hM v).1 hm)]
      · rw [if_neg hm, if_neg (by simpa using fun q => hm ((hM v).2 q))]
    · simp only [lt_lenI hi, cond_true, geti_lt xs i hi, Option.bind_some, c1, c2, e, wrap_next hi (Nat.le_trans hl (by omega))]
  · obtain ⟨o, ii, m⟩ := z
    obtain ⟨rfl, h⟩ := hz
    refine ⟨o, m, by simp only [ge_lenI, cond_false], chI_of h (fun v => by rw [List.take_length]) (by omega)⟩
  · simp only [List.take_zero]
    constructor
    · intro h; cases h
    · intro h; simp [cntV] at h; omega
  · have : cntV (xs.take 0) v = 0 := by simp [cntV]
    rw [this]; rfl
theorem t_impl_chosen (xs : List SlotT) (hl : xs.length ≤ 9) (hc : ∀ s ∈ xs, (castS s).length ≤ 60) (ho : ∀ s ∈ xs, castGo none (castS s) = 0) : ∃ out, m_impl_chosen xs = some out ∧ chosenOK xs out ∧ out.length ≤ 540 := by
  show ∃ out, p_impl_chosen FU xs = some out ∧ _
  unfold p_impl_chosen
  have e1 := t_chosen_2 xs hl hc ho
  obtain ⟨o, m, e, h1, h2, h3, h4⟩ := e1
  have hok : ∀ v ∈ o, okVote v = true := by
    intro v hv
    have := quo_bal ho ((h2 v).1 hv)
    unfold okVote
    rw [decide_eq_true this.1, decide_eq_true (show v.1 < 4611686018427387904 by omega)]; rfl
  obtain ⟨ys, s1, s2, s3⟩ := sortRun_some (d0 := ((0 : Int), (0 : Int))) (h0 := rfl) swoVote (xs := o) (by omega) hok
  have s1' : m_slices_SortFunc_impl_Vote_impl_Vote (o, true) = some ys := (t_slices_SortFunc_impl_Vote_impl_Vote o).trans s1
  refine ⟨ys, by simp only [e, Option.bind_some, s1'], ⟨?_, fun v => (s2.mem_iff).trans (h2 v)⟩, by rw [s2.length_eq]; exact h4⟩
  have hnd : ys.Nodup := s2.nodup_iff.2 h1
  have := List.pairwise_iff_getElem.1 s3
  rw [List.pairwise_iff_getElem]
  intro a b ha hb hab
  have q := this a b ha hb hab
  have ma : ys[a] ∈ o := s2.mem_iff.1 (List.getElem_mem ha)
  have mb : ys[b] ∈ o := s2.mem_iff.1 (List.getElem_mem hb)
  rw [cfVote_ok (hok _ mb) (hok _ ma)] at q
  have hne : ys[a] ≠ ys[b] := nodup_ne hnd hab hb
  have hne1 : ys[a].1 ≠ ys[b].1 := fun e => hne (quo_one ho ((h2 _).1 ma) ((h2 _).1 mb) e)
  omega

theorem t_impl_ChosenIn (xs : List SlotT) (hl : xs.length ≤ 1048576) : ∃ r, m_impl_ChosenIn xs = some r ∧ chosenP xs r := by
  show ∃ r, p_impl_ChosenIn FU xs = some r ∧ _
  unfold p_impl_ChosenIn
  simp only [t_impl_slotsFault xs hl, Option.bind_some]
  by_cases h0 : askCode xs = 0
  · obtain ⟨q1, q2, q3⟩ := ask_cast h0
    obtain ⟨out, e, ho, hlo⟩ := t_impl_chosen xs q1 q2 q3
    have hb : (!(askCode xs == 0)) = false := by rw [h0]; rfl
    simp only [hb, cond_false, e, Option.bind_some]
    refine ⟨_, ?_, .inr ⟨h0, out, ho, rfl⟩⟩
    cases out with
    | nil => rfl
    | cons v r =>
      have d : (lenI (v :: r) == 0) = false := by rw [lenI_eq, beq_eq_false_iff_ne, List.length_cons]; omega
      have hz : geti (v :: r) (0 : Int) = some v := rfl
      simp only [d, cond_false, hz, Option.bind_some]
      rfl
  · have hb : (!(askCode xs == 0)) = true := by simpa using h0
    simp only [hb, cond_true]
    exact ⟨_, rfl, .inl ⟨h0, rfl⟩⟩

theorem t_impl_ChosenAt (xs : List (List SlotT)) (c d : Int) (hl : xs.length ≤ 1048576) : ∃ r, m_impl_ChosenAt (xs, c, d) = some r ∧ chosenAtP xs c d r := by
  show ∃ r, p_impl_ChosenAt FU _ = some r ∧ _
  unfold p_impl_ChosenAt
  simp only [t_impl_SlotsFor xs c d hl, Option.bind_some]
  unfold slotsR
  cases hc : (accsCode xs == 0) with
  | false =>
    have hne : accsCode xs ≠ 0 := by simpa using hc
    have hb : (!(accsCode xs == 0)) = true := by rw [hc]; rfl
    simp only [Bool.not_false, cond_true, hb]
    exact ⟨_, rfl, .inl ⟨hne, rfl⟩⟩
  | true =>
    have he : accsCode xs = 0 := by simpa using hc
    cases hn : (idB c && shB d) with
    | false => exact ⟨_, rfl, .inr (.inl ⟨he, hn, rfl⟩)⟩
    | true =>
      have ha := slots_ask he hn
      obtain ⟨r, e, p⟩ := t_impl_ChosenIn (xs.map fun x => slotOf x c d) (by rw [List.length_map]; exact hl)
      simp only [Bool.not_true, cond_false, beq_self_eq_true, e, Option.bind_some]
      rcases p with ⟨p0, _⟩ | ⟨_, out, ho, rfl⟩
      · exact absurd ha p0
      · refine ⟨_, rfl, .inr (.inr ⟨he, hn, out, ho, ?_⟩)⟩
        cases out <;> rfl

theorem t_impl_AgreeSlots (xs : List SlotT) (hl : xs.length ≤ 1048576) : ∃ r, m_impl_AgreeSlots xs = some r ∧ agreeP xs r := by
  show ∃ r, p_impl_AgreeSlots FU xs = some r ∧ _
  unfold p_impl_AgreeSlots
  simp only [t_impl_slotsFault xs hl, Option.bind_some]
  by_cases h0 : askCode xs = 0
  · obtain ⟨q1, q2, q3⟩ := ask_cast h0
    obtain ⟨out, e, ho, hlo⟩ := t_impl_chosen xs q1 q2 q3
    have hb : (!(askCode xs == 0)) = false := by rw [h0]; rfl
    simp only [hb, cond_false, e, Option.bind_some]
    refine ⟨!(out.any (difV out)), ?_, .inr ⟨h0, out, ho, rfl⟩⟩
    have e2 : l_impl_AgreeSlots_1 FU out (0 : Int) = match out.findIdx? (difV out) with
        | some i => some (i : Int)
        | none => some (-1) := by
      unfold l_impl_AgreeSlots_1
      refine lp_place out (difV out) (fun i => some (i : Int)) (some (-1 : Int)) (by unfold B36; omega) (fun i hi rec hw => ?_) (fun rec => ?_)
      · have h0 : 0 < out.length := by omega
        have hz : geti out (0 : Int) = some out[0] := geti_lt out 0 h0
        have hz2 : out[0]? = some out[0] := List.getElem?_eq_getElem h0
        simp only [lt_lenI hi, cond_true, geti_lt out i hi, Option.bind_some, Int.toNat_natCast, Int.toNat_zero, List.getElem?_eq_getElem hi, hz, hz2, hw, difV, Option.getD_some]
      · simp only [ge_lenI, cond_false]
    rw [e2]
    cases hf : out.findIdx? (difV out) with
    | none =>
      have : out.any (difV out) = false := by
        rw [List.findIdx?_eq_none_iff] at hf
        rw [List.any_eq_false]
        intro s hs
        simpa using hf s hs
      rw [this]
      first | rfl | done
    | some i =>
      have : out.any (difV out) = true := by
        rw [List.findIdx?_eq_some_iff_getElem] at hf
        obtain ⟨h, h1, _⟩ := hf
        rw [List.any_eq_true]
        exact ⟨_, List.getElem_mem h, h1⟩
      rw [this]
      simp only [Option.bind_some]
      have : decide ((i : Int) ≥ 0) = true := decide_eq_true (by omega)
      rw [this]
  · have hb : (!(askCode xs == 0)) = true := by simpa using h0
    simp only [hb, cond_true]
    exact ⟨false, rfl, .inl ⟨h0, rfl⟩⟩

theorem vlu_one {r : Int} (h0 : 0 ≤ r) (h1 : r < 2) : IntKind.wrap .i64 ((1 : Int) + r) = 1 + r ∧ vlu (1 + r) = true := by
  refine ⟨wrap64 (by omega) (by omega), ?_⟩
  have : r = 0 ∨ r = 1 := by omega
  rcases this with rfl | rfl <;> rfl
theorem fnAgrees_loop (x : List Int) (hl : x.length ≤ 1048576) (hb : ∀ b ∈ x, 0 ≤ b ∧ b ≤ 255) (N : Nat) (r2 : Int) (hN : IntKind.wrap .i64 ((1 : Int) + (IntKind.wrap .i64 ((2 : Int) * r2))) = (N : Int)) (hN1 : 1 ≤ N) (hN5 : N ≤ 5) :
    ∃ accs v, l_laws_FnAgrees_1 FU x r2 (List.replicate N [], (0 : Int), (0 : Int)) = some (Sum.inl (accs, v)) ∧ AgI N 12 v accs := by
  unfold l_laws_FnAgrees_1
  rw [hN]
  refine lp_for (fun r => ∃ accs v, r = some (Sum.inl (accs, v)) ∧ AgI N 12 v accs) (fun i z => z.2.2 = (i : Int) ∧ AgI N i z.2.1 z.1) 12 (fun i z hi hz => ?_) (fun z hz rec => ?_) FU _ (FUb (by unfold B36; omega)) ⟨rfl, agI_new N⟩
  · obtain ⟨accs, v, k⟩ := z
    obtain ⟨rfl, hI⟩ := hz
    simp only at hI
    have hd : decide ((i : Int) < (12 : Int)) = true := decide_eq_true (by omega)
    have w1 : IntKind.wrap .i64 ((i : Int) + 1) = ((i + 1 : Nat) : Int) := by rw [wrap64 (by omega) (by omega)]; omega
    have w2 : IntKind.wrap .i64 ((i : Int) + 90) = (i : Int) + 90 := wrap64 (by omega) (by omega)
    have w3 : IntKind.wrap .i64 ((i : Int) + 60) = (i : Int) + 60 := wrap64 (by omega) (by omega)
    obtain ⟨rs, e1, hup, hin, hrl⟩ := t_laws_lwReached x ((i + 1 : Nat) : Int) N hl hb (by omega) (by omega) hN5
    obtain ⟨b, e2, hb0, hb9⟩ := t_laws_lwAt x ((i : Int) + 90) 9 hl hb (by omega) (by omega) (by omega) (by omega)
    obtain ⟨w, e3, hw0, hw2⟩ := t_laws_lwAt x ((i : Int) + 60) 2 hl hb (by omega) (by omega) (by omega) (by omega)
    obtain ⟨ww, hvl⟩ := vlu_one hw0 hw2
    have hbal : bal b = true := by simp only [bal, Bool.and_eq_true, decide_eq_true_eq]; omega
    have hA := hI.base.ok.1
    have e4 := t_impl_RunBallot accs rs 7 1 b (1 + w) (by omega) (by omega)
    have hrun := agI_run hI (by omega) hN1 hN5 hup hin hbal (by omega) hvl
    generalize runR accs rs 7 1 b (1 + w) = r at e4 hrun
    obtain ⟨rc, rv, ra⟩ := r
    simp only at hrun
    have hcase : ∃ v', AgI N (i + 1) v' ra ∧ (v ≠ 0 → v' = v) ∧ (rc = 4 ∨ rc = 0) ∧ (rc = 0 → rv = v') := by
      rcases hrun with ⟨h0, h1, _⟩ | ⟨h0, h1, h2⟩
      · exact ⟨v, h1, fun _ => rfl, .inl h0, fun h => by omega⟩
      · exact ⟨rv, h1, h2, .inr h0, fun _ => rfl⟩
    obtain ⟨v', hI', hv', hrc, hrv⟩ := hcase
    have hA' := hI'.base.ok.1
    obtain ⟨a0, achosen, aagree⟩ := agI_chosen hI' hN1 hN5
    obtain ⟨q, e6, hq⟩ := t_impl_ChosenAt ra 7 1 (by omega)
    have hq2 := achosen q hq
    have e5 : m_impl_SlotsFor (ra, 7, 1) = some (0, ra.map fun x => slotOf x 7 1) := by
      rw [t_impl_SlotsFor ra 7 1 (by omega)]
      unfold slotsR
      rw [a0]; rfl
    obtain ⟨g, e7, hg⟩ := t_impl_AgreeSlots (ra.map fun x => slotOf x 7 1) (by rw [List.length_map]; omega)
    have hgt := aagree g hg
    subst hgt
    have hlen : (lenI ra == (N : Int)) = true := by rw [lenI_eq, hA']; exact beq_self_eq_true _
    obtain ⟨q1, q2⟩ := q
    simp only at hq2
    subst hq2
    refine .inr ⟨(ra, (q2, ((i + 1 : Nat) : Int))), ⟨rfl, hI'⟩, fun rec => ?_⟩
    simp only [hd, cond_true, w1, w2, w3, e1, e2, e3, Option.bind_some, ww, e4, hlen, Bool.not_true]
    rcases hrc with hrc | hrc
    · subst hrc
      have z1 : ((4 : Int) == (0 : Int)) = false := rfl
      simp only [z1, Bool.not_false, cond_true, beq_self_eq_true, Bool.not_true, cond_false, Option.bind_some, e5, e6, e7]
      cases hv0 : (v == 0) with
      | true =>
        cases hr0 : (rv == (0 : Int)) <;> simp only [Bool.not_true, Bool.not_false, cond_false, cond_true, Option.bind_some]
      | false =>
        have hvv := hv' (by simpa using hv0)
        subst hvv
        cases hr0 : (rv == (0 : Int)) <;> simp only [Bool.not_true, Bool.not_false, cond_false, cond_true, Option.bind_some, beq_self_eq_true]
    · have hrv' := hrv hrc
      clear hrv
      subst hrc
      subst hrv'
      simp only [beq_self_eq_true, Bool.not_true, cond_false, Option.bind_some, e5, e6, e7]
      cases hv0 : (v == 0) with
      | true =>
        cases hr0 : (rv == (0 : Int)) <;> simp only [Bool.not_true, Bool.not_false, cond_false, cond_true, Option.bind_some, beq_self_eq_true]
      | false =>
        have hvv := hv' (by simpa using hv0)
        subst hvv
        cases hr0 : (rv == (0 : Int)) <;> simp only [Bool.not_true, Bool.not_false, cond_false, cond_true, Option.bind_some, beq_self_eq_true]
  · obtain ⟨accs, v, k⟩ := z
    obtain ⟨rfl, hI⟩ := hz
    have hd : decide (((12 : Nat) : Int) < (12 : Int)) = false := by decide
    simp only [hd, cond_false]
    exact ⟨accs, v, rfl, hI⟩
theorem law_laws_FnAgrees (x : List Int) (h : WFs S_laws_FnAgrees.ps x) : m_laws_FnAgrees x = some true := by
  have hm : maxLen = 9223372036854775807 := rfl
  show p_laws_FnAgrees FU x = _
  unfold p_laws_FnAgrees
  rw [t_laws_lwBig]
  by_cases hl : (x.length : Int) > 1048576
  · simp [hl]
  · have hd : decide ((x.length : Int) > 1048576) = false := decide_eq_false hl
    have hl' : x.length ≤ 1048576 := by omega
    have hb : ∀ b ∈ x, 0 ≤ b ∧ b ≤ 255 := by
      intro b hbx
      have := h.2 b hbx
      simp only [WFk, Lit.wf, Bool.and_eq_true, decide_eq_true_eq, IntKind.min, IntKind.max, IntKind.signed, IntKind.bits] at this
      simp at this
      omega
    obtain ⟨r2, e1, h0, h3⟩ := t_laws_lwAt x 0 3 hl' hb (by omega) (by omega) (by omega) (by omega)
    obtain ⟨k, rfl⟩ := Int.eq_ofNat_of_zero_le h0
    have hN : IntKind.wrap .i64 ((1 : Int) + (IntKind.wrap .i64 ((2 : Int) * (k : Int)))) = ((1 + 2 * k : Nat) : Int) := by
      rw [wrap64 (n := 2 * (k : Int)) (by omega) (by omega), wrap64 (by omega) (by omega)]; omega
    generalize hNk : 1 + 2 * k = N at hN
    have hN1 : 1 ≤ N := by omega
    have hN5 : N ≤ 5 := by omega
    obtain ⟨accs, v, e2, hI⟩ := fnAgrees_loop x hl' hb N k hN hN1 hN5
    have hA := hI.base.ok.1
    have ch : Nat.ble (24 * N) maxBytes = true := by rw [Nat.ble_eq]; simp only [maxBytes]; omega
    have hup : upI ((([(0 : Int), (1 : Int), (2 : Int), (3 : Int), (4 : Int)]).drop 0).take N) ∧ (∀ y ∈ (([(0 : Int), (1 : Int), (2 : Int), (3 : Int), (4 : Int)]).drop 0).take N, 0 ≤ y ∧ y < (N : Int)) ∧ ((([(0 : Int), (1 : Int), (2 : Int), (3 : Int), (4 : Int)]).drop 0).take N).length = N ∧ bndB none (some (N : Int)) none [(0 : Int), (1 : Int), (2 : Int), (3 : Int), (4 : Int)].length = true := by
      have : k = 0 ∨ k = 1 ∨ k = 2 := by omega
      rcases this with rfl | rfl | rfl <;> subst hNk <;> refine ⟨?_, by decide, by decide, by decide⟩
      · intro i hi; simp at hi
      · intro i hi
        have hi : i + 1 < 3 := hi
        have : i = 0 ∨ i = 1 := by omega
        rcases this with rfl | rfl <;> simp
      · intro i hi
        have hi : i + 1 < 5 := hi
        have : i = 0 ∨ i = 1 ∨ i = 2 ∨ i = 3 := by omega
        rcases this with rfl | rfl | rfl | rfl <;> simp
    obtain ⟨u1, u2, u3, u4⟩ := hup
    generalize hrs : ((([(0 : Int), (1 : Int), (2 : Int), (3 : Int), (4 : Int)]).drop 0).take N) = rs at u1 u2 u3
    have e4 := t_impl_RunBallot accs rs 7 1 500 2 (by omega) (by omega)
    have hrun := agI_run hI (by omega) hN1 hN5 u1 u2 (b := 500) (w := 2) (by decide) (by omega) (by decide)
    generalize runR accs rs 7 1 500 2 = r at e4 hrun
    obtain ⟨rc, rv, ra⟩ := r
    simp only at hrun
    rcases hrun with ⟨_, _, hh⟩ | ⟨hrc, hI', hvv⟩
    · have := hh trivial
      unfold quo at this; omega
    · subst hrc
      have hA' := hI'.base.ok.1
      obtain ⟨a0, achosen, aagree⟩ := agI_chosen hI' hN1 hN5
      obtain ⟨q, e6, hq⟩ := t_impl_ChosenAt ra 7 1 (by omega)
      have hq2 := achosen q hq
      obtain ⟨q1, q2⟩ := q
      simp only at hq2
      subst hq2
      simp only [hd, cond_false, Option.bind_some, e1, hN, Int.toNat_natCast, ch, chk, cond_true, e2, Sum.elim_inl, u4, hrs, e4, beq_self_eq_true, e6, if_true]
      rw [if_pos (by omega)]
      cases hv0 : (v == 0) with
      | true => rfl
      | false =>
        have := hvv (by simpa using hv0)
        subst this
        simp
end Go.RvP
