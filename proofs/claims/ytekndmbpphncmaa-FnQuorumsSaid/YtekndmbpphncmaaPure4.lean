/- The plain law: spec and program answer alike, for FnQuorums. Condition: the data are such as can come in. -/
import Derived.Test.YtekndmbpphncmaaRvP4
import Derived.Test.YtekndmbpphncmaaRvM
namespace Go.RvP
open Go.Rv
theorem t_laws_lwBig (x : List Int) : m_laws_lwBig x = some (decide ((x.length : Int) > 1048576)) := rfl

theorem t_spec_l1In (a b c : Int) : m_spec_l1In (a, b, c) = some (decide (b ≤ a) && decide (a ≤ c)) := by
  show p_spec_l1In FU _ = _
  unfold p_spec_l1In
  by_cases h : b ≤ a <;> simp [h]

theorem t_impl_within (a b c : Int) : m_impl_within (a, b, c) = some (decide (b ≤ a) && decide (a ≤ c)) := t_spec_l1In a b c

/-- A source of choices: bytes, and how many choices were made. -/
def Src (p : Int) (s : List Int × Int) : Prop := s.1.length ≤ 1048576 ∧ (∀ b ∈ s.1, 0 ≤ b ∧ b ≤ 255) ∧ 0 ≤ s.2 ∧ s.2 ≤ p

theorem t_spec_l1Next (s : List Int × Int) (n p : Int) (hs : Src p s) (hp : p ≤ 1000000000) (hn : n ≤ 1000000000) : ∃ v, m_spec_l1Next (s, n) = some (v, (s.1, s.2 + 1)) ∧ Src (p + 1) (s.1, s.2 + 1) ∧ (n < 1 → v = 0) ∧ (1 ≤ n → 0 ≤ v ∧ v < n) := by
  obtain ⟨B, q⟩ := s
  obtain ⟨h1, h2, h3, h4⟩ := hs
  simp only at h1 h2 h3 h4
  have hsrc : Src (p + 1) (B, q + 1) := ⟨h1, h2, by show 0 ≤ q + 1; omega, by show q + 1 ≤ p + 1; omega⟩
  have w1 : IntKind.wrap .i64 (q + 1) = q + 1 := wrap64 (by omega) (by omega)
  have w2 : IntKind.wrap .i64 (q + 1 - 1) = q := by rw [wrap64 (by omega) (by omega)]; omega
  show ∃ v, p_spec_l1Next FU ((B, q), n) = _ ∧ _
  unfold p_spec_l1Next
  simp only [w1, w2]
  by_cases hn1 : n < 1
  · exact ⟨0, by simp [hn1], hsrc, fun _ => rfl, fun h => by omega⟩
  · have hd : decide (n < 1) = false := decide_eq_false hn1
    have hn0 : (n == 0) = false := by rw [beq_eq_false_iff_ne]; omega
    have fin : ∀ v : Int, 0 ≤ v → 0 ≤ Int.tmod v n ∧ Int.tmod v n < n := fun v hv => ⟨Int.tmod_nonneg n hv, Int.tmod_lt_of_pos v (by omega)⟩
    simp only [hd, cond_false, hn0]
    by_cases hB : B.length = 0
    · have : (lenI B == 0) = true := by simp [lenI_eq, hB]
      have w3 : IntKind.wrap .i64 (q * 7) = q * 7 := wrap64 (by omega) (by omega)
      simp only [this, cond_true, w3]
      exact ⟨_, rfl, hsrc, fun h => absurd h hn1, fun _ => fin _ (by omega)⟩
    · have hB0 : (lenI B == 0) = false := by rw [lenI_eq, beq_eq_false_iff_ne]; omega
      have get : ∀ v : Int, 0 ≤ v → ∃ y, geti B (Int.tmod v (lenI B)) = some y ∧ 0 ≤ y ∧ y ≤ 255 := by
        intro v hv
        have g1 := Int.tmod_nonneg (lenI B) hv
        have g2 := Int.tmod_lt_of_pos v (show 0 < lenI B by rw [lenI_eq]; omega)
        rw [lenI_eq] at g1 g2 ⊢
        obtain ⟨m, hm⟩ := Int.eq_ofNat_of_zero_le g1
        have hml : m < B.length := by omega
        refine ⟨B[m], ?_, h2 _ (List.getElem_mem hml)⟩
        rw [hm]
        exact geti_lt B m hml
      obtain ⟨y1, e1, b1, b2⟩ := get q h3
      obtain ⟨y3, e3, b3, b4⟩ := get (q + 1) (by omega)
      have hdiv0 : 0 ≤ Int.tdiv q (lenI B) := Int.tdiv_nonneg h3 (by rw [lenI_eq]; omega)
      have hdiv1 : Int.tdiv q (lenI B) ≤ q := Int.tdiv_le_self _ h3
      generalize hdv : Int.tdiv q (lenI B) = dv at hdiv0 hdiv1
      have w5 : IntKind.wrap .i64 dv = dv := wrap64 (by omega) (by omega)
      have w6 : IntKind.wrap .i64 (dv * 37) = dv * 37 := wrap64 (by omega) (by omega)
      have w7 : IntKind.wrap .i64 y1 = y1 := wrap64 (by omega) (by omega)
      have w8 : IntKind.wrap .i64 (y1 + dv * 37) = y1 + dv * 37 := wrap64 (by omega) (by omega)
      have w9 : IntKind.wrap .i64 ((y1 + dv * 37) * 251) = (y1 + dv * 37) * 251 := wrap64 (by omega) (by omega)
      have w10 : IntKind.wrap .i64 y3 = y3 := wrap64 (by omega) (by omega)
      have w11 : IntKind.wrap .i64 (y3 * 13) = y3 * 13 := wrap64 (by omega) (by omega)
      have w12 : IntKind.wrap .i64 ((y1 + dv * 37) * 251 + y3 * 13) = (y1 + dv * 37) * 251 + y3 * 13 := wrap64 (by omega) (by omega)
      have w13 : IntKind.wrap .i64 ((y1 + dv * 37) * 251 + y3 * 13 + q) = (y1 + dv * 37) * 251 + y3 * 13 + q := wrap64 (by omega) (by omega)
      simp only [hB0, cond_false, e1, Option.bind_some, hdv, w5, w6, w7, w8]
      by_cases h200 : n > 200
      · have : decide (n > 200) = true := decide_eq_true h200
        simp only [this, cond_true, w1, e3, Option.bind_some, w9, w10, w11, w12, w13]
        exact ⟨_, rfl, hsrc, fun h => absurd h hn1, fun _ => fin _ (by omega)⟩
      · have : decide (n > 200) = false := decide_eq_false h200
        simp only [this, cond_false, Option.bind_some]
        exact ⟨_, rfl, hsrc, fun h => absurd h hn1, fun _ => fin _ (by omega)⟩

theorem t_spec_l1Pick (s : List Int × Int) (l : List Int) (p : Int) (hs : Src p s) (hp : p ≤ 1000000000) (hl : l.length ≤ 1000) (h0 : l ≠ []) : ∃ v, m_spec_l1Pick (s, l) = some (v, (s.1, s.2 + 1)) ∧ Src (p + 1) (s.1, s.2 + 1) ∧ v ∈ l := by
  have hlen : 0 < l.length := List.length_pos_iff.2 h0
  obtain ⟨v, e1, e2, _, e4⟩ := t_spec_l1Next s (lenI l) p hs hp (by rw [lenI_eq]; omega)
  obtain ⟨g1, g2⟩ := e4 (by rw [lenI_eq]; omega)
  rw [lenI_eq] at g2
  obtain ⟨m, hm⟩ := Int.eq_ofNat_of_zero_le g1
  have hml : m < l.length := by omega
  refine ⟨l[m], ?_, e2, List.getElem_mem hml⟩
  show p_spec_l1Pick FU _ = _
  unfold p_spec_l1Pick
  simp only [e1, Option.bind_some, hm]
  rw [geti_lt l m hml]
  rfl

theorem t_spec_l1Chance (s : List Int × Int) (n p : Int) (hs : Src p s) (hp : p ≤ 1000000000) (hn : n ≤ 1000000000) : ∃ b, m_spec_l1Chance (s, n) = some (b, (s.1, s.2 + 1)) ∧ Src (p + 1) (s.1, s.2 + 1) := by
  obtain ⟨v, e1, e2, _⟩ := t_spec_l1Next s n p hs hp hn
  refine ⟨v == 0, ?_, e2⟩
  show p_spec_l1Chance FU _ = _
  unfold p_spec_l1Chance
  simp only [e1, Option.bind_some]

theorem t_spec_DrawPickValue (x : List Int) (hl : x.length ≤ 1048576) (hb : ∀ b ∈ x, 0 ≤ b ∧ b ≤ 255) : ∃ r, m_spec_DrawPickValue x = some r := by
  suffices key : ∀ n, 100 < n → ∃ r, p_spec_DrawPickValue n x = some r from key FU (FU_gt (by omega))
  intro n hn
  unfold p_spec_DrawPickValue
  obtain ⟨k, e1, s1, hk⟩ := t_spec_l1Pick (x, 0) [2, 3, 1, 0, 9, 10] 0 ⟨hl, hb, by simp, by simp⟩ (by omega) (by simp) (by simp)
  have hk10 : k ≤ 10 := by simp at hk; omega
  simp only [e1, Option.bind_some]
  have loop : ∀ (m : Nat) (n : Nat) (l : List (Int × Int)) (k : Int) (s : List Int × Int), m < n → k ≤ m → l.length + m ≤ 100 → Src (100 - 10 * (m : Int) + 100) s → m ≤ 10 → ∃ r, l_spec_DrawPickValue_1 n (l, k, s) = some r ∧ Src 1000 r.2 := by
    intro m
    induction m with
    | zero =>
      intro n l k s hn hk hlen hs _
      cases n with
      | zero => omega
      | succ n =>
        refine ⟨(l, s), ?_, hs.1, hs.2.1, hs.2.2.1, by have := hs.2.2.2; show s.2 ≤ 1000; omega⟩
        unfold l_spec_DrawPickValue_1 lp
        have : decide (k > 0) = false := decide_eq_false (by omega)
        simp only [this, cond_false]
    | succ m ih =>
      intro n l k s hn hk hlen hs hm
      cases n with
      | zero => omega
      | succ n =>
        by_cases hk0 : k > 0
        · have hd : decide (k > 0) = true := decide_eq_true hk0
          have nxt : ∃ r s', Src (100 - 10 * (m : Int) + 100) s' ∧ l_spec_DrawPickValue_1 (n + 1) (l, k, s) = l_spec_DrawPickValue_1 n (l ++ [r], k - 1, s') := by
            unfold l_spec_DrawPickValue_1
            have en : m_spec_l8None () = some (-1, 0) := rfl
            obtain ⟨b1, q1, t1⟩ := t_spec_l1Chance s 3 _ hs (by omega) (by omega)
            have wk : IntKind.wrap .i64 (k - 1) = k - 1 := wrap64 (by omega) (by omega)
            have ck : ∀ (v : Int × Int) (y : Option ((List (Int × Int)) × ((List Int) × Int))), chk (Nat.ble ((l.length + [v].length) * 16) maxBytes) y = y := by
              intro v y
              have : Nat.ble ((l.length + [v].length) * 16) maxBytes = true := by rw [Nat.ble_eq]; simp only [List.length_singleton, maxBytes]; omega
              rw [this]; rfl
            have last : ∀ (v : Int × Int) (s2 : List Int × Int) (p : Int), Src p s2 → p ≤ 100 - 10 * (m : Int) + 98 → ∃ r s', Src (100 - 10 * (m : Int) + 100) s' ∧ ∀ (rec : _ → Option ((List (Int × Int)) × ((List Int) × Int))), (Option.bind (α := (((List Int) × Int) × (Int × Int)))
                ((m_spec_l1Chance (s2, (30 : Int))).bind fun r52 =>
                (cond r52.1
                 (some (r52.2, (v.1, (3 : Int))))
                 (some (r52.2, v)))) fun j53 =>
               (chk (Nat.ble ((l.length + [j53.2].length) * 16) maxBytes)
               (rec ((l ++ [j53.2]), IntKind.wrap .i64 (k - (1 : Int)), j53.1)))) = rec (l ++ [r], k - 1, s') := by
              intro v s2 p hs2 hp2
              obtain ⟨b3, q3, t3⟩ := t_spec_l1Chance s2 30 p hs2 (by omega) (by omega)
              refine ⟨cond b3 (v.1, 3) v, _, ⟨t3.1, t3.2.1, t3.2.2.1, by have := t3.2.2.2; show s2.2 + 1 ≤ _; omega⟩, fun rec => ?_⟩
              rw [q3]
              cases b3 <;> simp only [Option.bind_some, cond_true, cond_false, ck, wk]
            cases b1 with
            | true =>
              obtain ⟨r, s', g1, g2⟩ := last (-1, 0) _ _ t1 (by omega)
              refine ⟨r, s', g1, ?_⟩
              show lp _ (n + 1) _ = _
              simp only [lp, hd, cond_true, en, Option.bind_some, q1, Bool.not_true, cond_false]
              exact g2 _
            | false =>
              obtain ⟨v2, q2, t2, _⟩ := t_spec_l1Next (s.1, s.2 + 1) 6 _ t1 (by omega) (by omega)
              obtain ⟨v3, q3, t3, _⟩ := t_spec_l1Next (s.1, s.2 + 1 + 1) 2 _ t2 (by omega) (by omega)
              obtain ⟨r, s', g1, g2⟩ := last (v2, IntKind.wrap .i64 (1 + v3)) _ _ t3 (by omega)
              refine ⟨r, s', g1, ?_⟩
              show lp _ (n + 1) _ = _
              simp only [lp, hd, cond_true, en, Option.bind_some, q1, Bool.not_false, q2, q3]
              exact g2 _
          obtain ⟨r, s', h1, h2⟩ := nxt
          rw [h2]
          exact ih n _ _ s' (by omega) (by omega) (by simp; omega) h1 (by omega)
        · refine ⟨(l, s), ?_, hs.1, hs.2.1, hs.2.2.1, by have := hs.2.2.2; show s.2 ≤ 1000; omega⟩
          unfold l_spec_DrawPickValue_1 lp
          have : decide (k > 0) = false := decide_eq_false (by omega)
          simp only [this, cond_false]
  obtain ⟨r, e2, s2⟩ := loop 10 n [] k (x, 0 + 1) (by omega) (by omega) (by simp) ⟨hl, hb, by simp, by simp⟩ (by omega)
  rw [e2]
  obtain ⟨v, e3, _⟩ := t_spec_l1Pick r.2 [1, 2, 2, 0] 1000 s2 (by omega) (by simp) (by simp)
  simp only [Option.bind_some, e3]
  exact ⟨_, rfl⟩

theorem t_spec_l8Ballot (a : Int) : m_spec_l8Ballot a = some (bal a) := by
  show p_spec_l8Ballot FU _ = _
  unfold p_spec_l8Ballot bal
  rw [t_spec_l1In]; rfl

theorem t_impl_isBallot (a : Int) : m_impl_isBallot a = some (bal a) := t_spec_l8Ballot a

theorem t_spec_l8Value (a : Int) : m_spec_l8Value a = some (vlu a) := by
  show p_spec_l8Value FU _ = _
  unfold p_spec_l8Value vlu
  cases h : (a == (1 : Int)) <;> simp

theorem t_impl_isValue (a : Int) : m_impl_isValue a = some (vlu a) := t_spec_l8Value a

theorem t_impl_isVote (a : Int × Int) : m_impl_isVote a = some (bal a.1 && vlu a.2) := by
  show p_impl_isVote FU _ = _
  unfold p_impl_isVote
  rw [t_impl_isBallot, t_impl_isValue]
  cases bal a.1 <;> rfl

theorem t_impl_PickValue_1 (v : Int × Int) : m_impl_PickValue_1 v = some (badV v) := by
  show p_impl_PickValue_1 FU v = _
  unfold p_impl_PickValue_1 badV
  show (cond (!(v.1 == -1 && (v.2 == 0 && true))) ((m_impl_isVote v).bind fun r2 => some (!r2)) (some false)) = _
  rw [t_impl_isVote]
  cases (v.1 == -1 && (v.2 == 0 && true)) <;> rfl

theorem t_impl_PickValue (xs : List (Int × Int)) (own : Int) : m_impl_PickValue (xs, own) = some (pickV xs own) := by
  show p_impl_PickValue FU _ = _
  unfold p_impl_PickValue pickV
  by_cases hl : xs.length > 9
  · have : decide (lenI xs > 9) = true := by simp [lenI_eq]; omega
    simp only [this, cond_true, if_pos hl]
  · have : decide (lenI xs > 9) = false := by simp [lenI_eq]; omega
    simp only [this, cond_false, if_neg hl]
    have e1 : l_impl_PickValue_1 FU xs 0 = match xs.findIdx? badV with
        | some i => some (i : Int)
        | none => some (-1) := by
      unfold l_impl_PickValue_1
      refine lp_place xs badV (fun i => some (i : Int)) (some (-1)) (by unfold B36; omega) (fun i hi rec hw => ?_) (fun rec => ?_)
      · simp only [lt_lenI hi, cond_true, geti_lt xs i hi, Option.bind_some, t_impl_PickValue_1, hw]
      · simp only [ge_lenI, cond_false]
    have e2 : ∀ s, l_impl_PickValue_2 FU xs ((0 : Int), s) = some ((0 : Int), (xs.foldl bestV s).2) := by
      intro s
      unfold l_impl_PickValue_2
      refine lp_fold xs bestV (fun i s => ((i : Int), s)) (fun s => some ((0 : Int), s.2)) (by unfold B36; omega) (fun i hi s rec hw => ?_) (fun s rec => ?_) s
      · simp only [lt_lenI hi, cond_true, geti_lt xs i hi, Option.bind_some, hw, bestV]
        by_cases hh : xs[i].1 > s.1 <;> simp [hh]
      · simp only [ge_lenI, cond_false]
    rw [e1]
    have e3 : xs.any badV = (xs.findIdx? badV).isSome := by simp
    cases hf : xs.findIdx? badV with
    | some i =>
      rw [e3, hf]
      have : decide ((i : Int) ≥ 0) = true := by simp
      simp only [Option.bind_some, this, cond_true, Option.isSome_some, Bool.true_or, if_true]
    | none =>
      rw [e3, hf]
      have : decide ((-1 : Int) ≥ 0) = false := by decide
      simp only [Option.bind_some, this, cond_false, Option.isSome_none, Bool.false_or, t_impl_isValue]
      cases vlu own with
      | false => simp
      | true => simp [e2]

theorem t_spec_l8Pick (xs : List (Int × Int)) (own : Int) (hl : xs.length ≤ 9) : m_spec_l8Pick (xs, own) = some (xs.foldl bestV (-1, own)).2 := by
  show p_spec_l8Pick FU _ = _
  unfold p_spec_l8Pick
  have e2 : ∀ s, l_spec_l8Pick_1 FU xs ((0 : Int), s) = some (xs.foldl bestV s) := by
    intro s
    unfold l_spec_l8Pick_1
    refine lp_fold xs bestV (fun i s => ((i : Int), s)) (fun s => some s) (by unfold B36; omega) (fun i hi s rec hw => ?_) (fun s rec => ?_) s
    · simp only [lt_lenI hi, cond_true, geti_lt xs i hi, Option.bind_some, hw, bestV]
      by_cases hh : xs[i].1 > s.1 <;> simp [hh]
    · simp only [ge_lenI, cond_false]
  show ((l_spec_l8Pick_1 FU xs ((0 : Int), ((-1 : Int), (0 : Int)))).bind fun j18 => cond (decide (j18.1 < (0 : Int))) (some own) (some j18.2)) = _
  rw [e2]
  have := pick_fold own xs (-1, 0) (by simp) (by simp)
  simp only [show ((-1 : Int) < 0) from by decide, if_true] at this
  simp only [Option.bind_some]
  by_cases h : (xs.foldl bestV (-1, 0)).1 < 0
  · rw [this.1 h]; simp [h]
  · rw [this.2 h]; simp [h]

theorem t_spec_PickValue (xs : List (Int × Int)) (own : Int) : m_spec_PickValue (xs, own) = some (pickV xs own) := by
  show p_spec_PickValue FU _ = _
  unfold p_spec_PickValue pickV
  by_cases hl : xs.length > 9
  · have : decide (lenI xs > 9) = true := by simp [lenI_eq]; omega
    simp only [this, cond_true, if_pos hl]
  · have : decide (lenI xs > 9) = false := by simp [lenI_eq]; omega
    simp only [this, cond_false, if_neg hl]
    have e1 : l_spec_PickValue_1 FU xs 0 = cond (xs.any badV) (some (Sum.inr (3, 0))) (some (Sum.inl ())) := by
      unfold l_spec_PickValue_1
      refine lp_hit xs badV (some (Sum.inr (3, 0))) (some (Sum.inl ())) (by unfold B36; omega) (fun i hi rec hw => ?_) (fun rec => ?_)
      · have : m_spec_l8None () = some (-1, 0) := rfl
        simp only [lt_lenI hi, cond_true, geti_lt xs i hi, Option.bind_some, hw, this, badV, t_spec_l8Ballot, t_spec_l8Value]
        cases (xs[i].1 == -1 && (xs[i].2 == 0 && true)) <;> cases bal xs[i].1 <;> cases vlu xs[i].2 <;> rfl
      · simp only [ge_lenI, cond_false]
    rw [e1]
    cases hb : xs.any badV with
    | true => simp
    | false =>
      simp only [cond_false, Option.bind_some, Sum.elim_inl, t_spec_l8Value, Bool.false_or]
      cases vlu own with
      | false => simp
      | true => simp [t_spec_l8Pick xs own (by omega)]

theorem best_mem : ∀ (xs : List (Int × Int)) (s : Int × Int), xs.foldl bestV s = s ∨ xs.foldl bestV s ∈ xs
  | [], s => .inl rfl
  | x :: xs, s => by
    rw [List.foldl_cons]
    rcases best_mem xs (bestV s x) with h | h
    · rw [h]
      by_cases hx : x.1 > s.1
      · exact .inr (by simp [bestV, hx])
      · exact .inl (by simp [bestV, hx])
    · exact .inr (List.mem_cons_of_mem _ h)

theorem best_max : ∀ (xs : List (Int × Int)) (s : Int × Int) (b : Int), s.1 = b → xs.foldl (fun b v => if v.1 > b then v.1 else b) b = (xs.foldl bestV s).1
  | [], s, b, h => h.symm
  | x :: xs, s, b, h => by
    rw [List.foldl_cons, List.foldl_cons]
    refine best_max xs _ _ ?_
    subst h
    by_cases hx : x.1 > s.1 <;> simp [bestV, hx]

theorem law_laws_FnQuorums (x : List Int) (h : WFs S_laws_FnQuorums.ps x) : m_laws_FnQuorums x = some true := by
  have hm : maxLen = 9223372036854775807 := rfl
  show p_laws_FnQuorums FU x = _
  unfold p_laws_FnQuorums
  rw [t_laws_lwBig]
  by_cases hl : (x.length : Int) > 1048576
  · simp [hl]
  · have hd : decide ((x.length : Int) > 1048576) = false := decide_eq_false hl
    have hb : ∀ b ∈ x, 0 ≤ b ∧ b ≤ 255 := by
      intro b hbx
      have := h.2 b hbx
      simp only [WFk, Lit.wf, Bool.and_eq_true, decide_eq_true_eq, IntKind.min, IntKind.max, IntKind.signed, IntKind.bits] at this
      simp at this
      omega
    obtain ⟨⟨old, own⟩, hr⟩ := t_spec_DrawPickValue x (by omega) hb
    have e1 : l_laws_FnQuorums_1 FU (1 : Int) = some (Sum.inl ()) := by rfl
    simp only [Option.bind_some, hd, cond_false, e1, Sum.elim_inl, hr, t_impl_PickValue, t_spec_PickValue]
    by_cases hc : (pickV old own).1 = 0
    · have hc' : ((pickV old own).1 == 0) = true := by simp [hc]
      simp only [hc', Bool.not_true, cond_false]
      have h9 : old.length ≤ 9 := by
        rcases Nat.lt_or_ge 9 old.length with h' | h'
        · simp [pickV, h'] at hc
        · exact h'
      have hv : (pickV old own).2 = (old.foldl bestV (-1, own)).2 := by
        unfold pickV at hc ⊢
        rw [if_neg (by omega)] at hc ⊢
        split at hc
        · simp at hc
        · rename_i hh; rw [if_neg hh]
      have e2 : l_laws_FnQuorums_2 FU old ((-1 : Int), (0 : Int)) = some (old.foldl bestV (-1, own)).1 := by
        unfold l_laws_FnQuorums_2
        refine (lp_fold old (fun b v => if v.1 > b then v.1 else b) (fun i b => (b, (i : Int))) (fun b => some b) (by unfold B36; omega) (fun i hi s rec hw => ?_) (fun s rec => ?_) (-1)).trans ?_
        · simp only [lt_lenI hi, cond_true, geti_lt old i hi, Option.bind_some, Int.toNat_natCast, List.getElem?_eq_getElem hi, hw]
          by_cases hh : old[i].1 > s <;> simp [hh]
        · simp only [ge_lenI, cond_false]
        · rw [best_max old (-1, own) (-1) rfl]
      have e3 : l_laws_FnQuorums_3 FU old (old.foldl bestV (-1, own)).1 (pickV old own).2 (0 : Int) = cond (old.any fun y => decide ((old.foldl bestV (-1, own)).1 ≥ 0) && (y.1 == (old.foldl bestV (-1, own)).1 && y.2 == (pickV old own).2)) (some (Sum.inr true)) (some (Sum.inl ())) := by
        unfold l_laws_FnQuorums_3
        refine lp_hit old _ _ _ (by unfold B36; omega) (fun i hi rec hw => ?_) (fun rec => ?_)
        · simp only [lt_lenI hi, cond_true, geti_lt old i hi, Option.bind_some, Int.toNat_natCast, List.getElem?_eq_getElem hi, hw]
          cases decide ((old.foldl bestV (-1, own)).1 ≥ 0) <;> cases (old[i].1 == (old.foldl bestV (-1, own)).1) <;> rfl
        · simp only [ge_lenI, cond_false]
      simp only [e2, e3, Option.bind_some]
      rcases best_mem old (-1, own) with hm | hm
      · rw [hm, hv, hm]
        have hf : (old.any fun y => decide (((-1 : Int), own).1 ≥ 0) && (y.1 == ((-1 : Int), own).1 && y.2 == ((-1 : Int), own).2)) = false := by
          rw [List.any_eq_false]
          intro y _
          simp
        rw [hf]
        simp
      · by_cases hneg : (old.foldl bestV (-1, own)).1 < 0
        · have hany : (old.any fun y => decide ((old.foldl bestV (-1, own)).1 ≥ 0) && (y.1 == (old.foldl bestV (-1, own)).1 && y.2 == (pickV old own).2)) = false := by
            have : decide ((old.foldl bestV (-1, own)).1 ≥ 0) = false := decide_eq_false (by omega)
            simp [this]
          rw [hany]
          have hd2 : decide ((old.foldl bestV (-1, own)).1 < 0) = true := decide_eq_true hneg
          simp only [cond_false, Option.bind_some, Sum.elim_inl, hd2, cond_true, hv]
          have key : ∀ (xs : List (Int × Int)) (s : Int × Int), s.1 ≥ -1 → (xs.foldl bestV s).1 < 0 → s.2 = own → s.1 = -1 → (xs.foldl bestV s).2 = own := by
            intro xs
            induction xs with
            | nil => intro s _ _ h _; exact h
            | cons y ys ih =>
              intro s h1 h2 h3 h4
              rw [List.foldl_cons] at h2 ⊢
              by_cases hy : y.1 > s.1
              · have hb' : bestV s y = y := by simp [bestV, hy]
                rw [hb'] at h2
                have mono : ∀ (zs : List (Int × Int)) (t : Int × Int), t.1 ≤ (zs.foldl bestV t).1 := by
                  intro zs
                  induction zs with
                  | nil => intro t; exact Int.le_refl _
                  | cons z zs ihz =>
                    intro t
                    rw [List.foldl_cons]
                    refine Int.le_trans ?_ (ihz _)
                    by_cases hz : z.1 > t.1
                    · simp [bestV, hz]; omega
                    · simp [bestV, hz]
                have := mono ys y
                omega
              · have hb' : bestV s y = s := by simp [bestV, hy]
                rw [hb'] at h2 ⊢
                exact ih s h1 h2 h3 h4
          rw [key old (-1, own) (by simp) hneg rfl rfl]
          simp
        · have hany : (old.any fun y => decide ((old.foldl bestV (-1, own)).1 ≥ 0) && (y.1 == (old.foldl bestV (-1, own)).1 && y.2 == (pickV old own).2)) = true := by
            rw [List.any_eq_true]
            refine ⟨_, hm, ?_⟩
            rw [hv]
            simp
            omega
          rw [hany]
          simp
    · have hc' : ((pickV old own).1 == 0) = false := by rw [beq_eq_false_iff_ne]; exact hc
      simp only [hc', Bool.not_false, cond_true]
      simp
end Go.RvP
