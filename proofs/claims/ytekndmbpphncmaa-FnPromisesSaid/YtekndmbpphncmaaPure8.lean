/- The plain law: spec and program answer alike, for FnPromises. Condition: the data are such as can come in. -/
import Derived.Test.YtekndmbpphncmaaRvP8
import Derived.Test.YtekndmbpphncmaaRvM
namespace Go.RvP
open Go.Rv
theorem t_laws_lwBig (x : List Int) : m_laws_lwBig x = some (decide ((x.length : Int) > 1048576)) := rfl

/-- A source of choices: bytes, and how many choices were made. -/
def Src (p : Int) (s : List Int × Int) : Prop := s.1.length ≤ 1048576 ∧ (∀ b ∈ s.1, 0 ≤ b ∧ b ≤ 255) ∧ 0 ≤ s.2 ∧ s.2 ≤ p

theorem t_spec_l1Next (s : List Int × Int) (n p : Int) (hs : Src p s) (hp : p ≤ 1000000000) (hn : n ≤ 1000000000) : ∃ v, m_spec_l1Next (s, n) = some (v, (s.1, s.2 + 1)) ∧ Src (p + 1) (s.1, s.2 + 1) ∧ (n < 1 → v = 0) ∧ (1 ≤ n → 0 ≤ v ∧ v < n) := by
  obtain ⟨B, q⟩ := s
  obtain ⟨h1, h2, h3, h4⟩ := hs
  simp only at h1 h2 h3 h4
  have hsrc : Src (p + 1) (B, q + 1) := ⟨h1, h2, by show 0 ≤ q + 1; omega, by show q + 1 ≤ p + 1; omega⟩
  have w1 : IntKind.wrap .i64 (q + 1) = q + 1 := wrap64 (by omega) (by omega)
  have w2 : IntKind.wrap .i64 (q + 1 - 1) = q := by rw [wrap64 (by omega) (by omega)]; omega
  show ∃ v, p_spec_l1Next FU ((B, q), n) = _ ∧ _
  unfold p_spec_l1Next
  simp only [w1, w2]
  by_cases hn1 : n < 1
  · exact ⟨0, by simp [hn1], hsrc, fun _ => rfl, fun h => by omega⟩
  · have hd : decide (n < 1) = false := decide_eq_false hn1
    have hn0 : (n == 0) = false := by rw [beq_eq_false_iff_ne]; omega
    have fin : ∀ v : Int, 0 ≤ v → 0 ≤ Int.tmod v n ∧ Int.tmod v n < n := fun v hv => ⟨Int.tmod_nonneg n hv, Int.tmod_lt_of_pos v (by omega)⟩
    simp only [hd, cond_false, hn0]
    by_cases hB : B.length = 0
    · have : (lenI B == 0) = true := by simp [lenI_eq, hB]
      have w3 : IntKind.wrap .i64 (q * 7) = q * 7 := wrap64 (by omega) (by omega)
      simp only [this, cond_true, w3]
      exact ⟨_, rfl, hsrc, fun h => absurd h hn1, fun _ => fin _ (by omega)⟩
    · have hB0 : (lenI B == 0) = false := by rw [lenI_eq, beq_eq_false_iff_ne]; omega
      have get : ∀ v : Int, 0 ≤ v → ∃ y, geti B (Int.tmod v (lenI B)) = some y ∧ 0 ≤ y ∧ y ≤ 255 := by
        intro v hv
        have g1 := Int.tmod_nonneg (lenI B) hv
        have g2 := Int.tmod_lt_of_pos v (show 0 < lenI B by rw [lenI_eq]; omega)
        rw [lenI_eq] at g1 g2 ⊢
        obtain ⟨m, hm⟩ := Int.eq_ofNat_of_zero_le g1
        have hml : m < B.length := by omega
        refine ⟨B[m], ?_, h2 _ (List.getElem_mem hml)⟩
        rw [hm]
        exact geti_lt B m hml
      obtain ⟨y1, e1, b1, b2⟩ := get q h3
      obtain ⟨y3, e3, b3, b4⟩ := get (q + 1) (by omega)
      have hdiv0 : 0 ≤ Int.tdiv q (lenI B) := Int.tdiv_nonneg h3 (by rw [lenI_eq]; omega)
      have hdiv1 : Int.tdiv q (lenI B) ≤ q := Int.tdiv_le_self _ h3
      generalize hdv : Int.tdiv q (lenI B) = dv at hdiv0 hdiv1
      have w5 : IntKind.wrap .i64 dv = dv := wrap64 (by omega) (by omega)
      have w6 : IntKind.wrap .i64 (dv * 37) = dv * 37 := wrap64 (by omega) (by omega)
      have w7 : IntKind.wrap .i64 y1 = y1 := wrap64 (by omega) (by omega)
      have w8 : IntKind.wrap .i64 (y1 + dv * 37) = y1 + dv * 37 := wrap64 (by omega) (by omega)
      have w9 : IntKind.wrap .i64 ((y1 + dv * 37) * 251) = (y1 + dv * 37) * 251 := wrap64 (by omega) (by omega)
      have w10 : IntKind.wrap .i64 y3 = y3 := wrap64 (by omega) (by omega)
      have w11 : IntKind.wrap .i64 (y3 * 13) = y3 * 13 := wrap64 (by omega) (by omega)
      have w12 : IntKind.wrap .i64 ((y1 + dv * 37) * 251 + y3 * 13) = (y1 + dv * 37) * 251 + y3 * 13 := wrap64 (by omega) (by omega)
      have w13 : IntKind.wrap .i64 ((y1 + dv * 37) * 251 + y3 * 13 + q) = (y1 + dv * 37) * 251 + y3 * 13 + q := wrap64 (by omega) (by omega)
      simp only [hB0, cond_false, e1, Option.bind_some, w5, w6, w7, w8]
      by_cases h200 : n > 200
      · have : decide (n > 200) = true := decide_eq_true h200
        simp only [this, cond_true, e3, Option.bind_some, w9, w10, w11, w12, w13]
        exact ⟨_, rfl, hsrc, fun h => absurd h hn1, fun _ => fin _ (by omega)⟩
      · have : decide (n > 200) = false := decide_eq_false h200
        simp only [this, cond_false]
        exact ⟨_, rfl, hsrc, fun h => absurd h hn1, fun _ => fin _ (by omega)⟩

theorem t_spec_l1In (a b c : Int) : m_spec_l1In (a, b, c) = some (inB a b c) := by
  show p_spec_l1In FU _ = _
  unfold p_spec_l1In inB
  by_cases h : b ≤ a <;> simp [h]

theorem t_spec_l1Id (a : Int) : m_spec_l1Id a = some (idB a) := by
  show p_spec_l1Id FU _ = _
  unfold p_spec_l1Id idB
  rw [t_spec_l1In]; rfl

theorem t_spec_l8None : m_spec_l8None () = some (-1, 0) := rfl

def newR (a b : Int) : Int × ((Int × Int) × SlotT) := cond (!(idB a && shB b)) (3, zS) (0, ((0, 0), (a, (b, (-1, ((-1, 0), []))))))
theorem t_spec_NewSlot (a b : Int) : m_spec_NewSlot (a, b) = some (newR a b) := by
  show p_spec_NewSlot FU _ = _
  unfold p_spec_NewSlot newR shB
  simp only [t_spec_l1Id, t_spec_l1In, t_spec_l8None, Option.bind_some]
  cases idB a <;> cases inB b 0 2 <;> rfl

theorem t_spec_l8Ballot (a : Int) : m_spec_l8Ballot a = some (bal a) := by
  show p_spec_l8Ballot FU _ = _
  unfold p_spec_l8Ballot bal
  rw [t_spec_l1In]; rfl

theorem t_spec_l8Value (a : Int) : m_spec_l8Value a = some (vlu a) := by
  show p_spec_l8Value FU _ = _
  unfold p_spec_l8Value vlu
  cases h : (a == (1 : Int)) <;> simp

theorem t_spec_l8Last (x : SlotT) (h : x.2.2.2.2.length ≤ 60) : m_spec_l8Last x = some (lastV x.2.2.2.2) := by
  obtain ⟨a, b, c, d, xs⟩ := x
  simp only at h
  show p_spec_l8Last FU _ = _
  unfold p_spec_l8Last lastV
  simp only
  by_cases h0 : xs.length = 0
  · have : xs = [] := List.eq_nil_of_length_eq_zero h0
    subst this
    rfl
  · have h1 : (lenI xs == 0) = false := by rw [lenI_eq, beq_eq_false_iff_ne]; omega
    have h2 : IntKind.wrap .i64 (lenI xs - 1) = ((xs.length - 1 : Nat) : Int) := by rw [lenI_eq, wrap64 (by omega) (by omega)]; omega
    have hlt : xs.length - 1 < xs.length := by omega
    simp only [h1, cond_false, h2, geti_lt xs _ hlt, Option.bind_some]
    rw [List.getLast?_eq_getElem?, List.getElem?_eq_getElem hlt]
    rfl

theorem t_spec_SlotFault (x : SlotT) : m_spec_SlotFault x = some (slotCode x) := by
  obtain ⟨a, b, c, d, xs⟩ := x
  show p_spec_SlotFault FU _ = _
  unfold p_spec_SlotFault slotCode
  simp only [t_spec_l1Id, t_spec_l1In, Option.bind_some]
  have e0 : (cond (!idB a) (some true) (cond (!inB b 0 2) (some true) (some (!inB c (-1) 1000)))) = some (!(idB a && (shB b && inB c (-1) 1000))) := by
    unfold shB
    cases idB a <;> cases inB b 0 2 <;> rfl
  rw [e0]
  simp only [Option.bind_some]
  cases (idB a && (shB b && inB c (-1) 1000)) with
  | false => rfl
  | true =>
    simp only [Bool.not_true, cond_false]
    by_cases hl : xs.length > 60
    · have : decide (lenI xs > 60) = true := by simp [lenI_eq]; omega
      simp [this, hl]
    · have : decide (lenI xs > 60) = false := by simp [lenI_eq]; omega
      simp only [this, cond_false, if_neg hl]
      have e1 : l_spec_SlotFault_1 FU xs 0 = match fstI (castF xs) 0 xs with
          | some r => some (Sum.inr r)
          | none => some (Sum.inl ()) := by
        unfold l_spec_SlotFault_1
        refine (lp_fst xs (fun i v => (castF xs i v).map Sum.inr) (some (Sum.inl ())) (by unfold B36; omega) (fun i hi rec hw => ?_) (fun rec => ?_)).trans ?_
        · simp only [lt_lenI hi, cond_true, geti_lt xs i hi, Option.bind_some, t_spec_l8Ballot, t_spec_l8Value, castF, hw, votB]
          cases bal xs[i].1 with
          | false => rfl
          | true =>
            cases vlu xs[i].2 with
            | false => rfl
            | true =>
              simp only [Bool.not_true, cond_false, Bool.and_self, Option.bind_some]
              by_cases h0 : 0 < i
              · have hd : decide ((i : Int) > 0) = true := by simp; omega
                have hp := prv (i := i) (by unfold B36; omega) h0
                have hi1 : i - 1 < xs.length := by omega
                simp only [hd, cond_true, hp, geti_lt xs _ hi1, Option.bind_some, h0, decide_true, Bool.true_and, List.getElem?_eq_getElem hi1, Option.getD_some, badP]
                cases decide (xs[i].1 < xs[i - 1].1) <;> cases (xs[i].1 == xs[i - 1].1) <;> cases (xs[i].2 == xs[i - 1].2) <;> rfl
              · have hd : decide ((i : Int) > 0) = false := by simp; omega
                simp only [hd, cond_false, Option.bind_some, h0, decide_false, Bool.false_and, Option.map_none]
        · simp only [ge_lenI, cond_false]
        · have : ∀ (ys : List (Int × Int)) (i : Nat), fstI (R := Unit ⊕ Int) (fun i v => (castF xs i v).map Sum.inr) i ys = (fstI (castF xs) i ys).map Sum.inr := by
            intro ys
            induction ys with
            | nil => intro i; rfl
            | cons y ys ih =>
              intro i
              simp only [fstI]
              cases castF xs i y with
              | some r => rfl
              | none => exact ih (i + 1)
          rw [this]
          cases fstI (castF xs) 0 xs <;> rfl
      rw [e1]
      have hc := cast_all xs
      have nz : ∀ (ys : List (Int × Int)) (i : Nat) r, fstI (castF xs) i ys = some r → r ≠ 0 := by
        intro ys
        induction ys with
        | nil => intro i r h; cases h
        | cons y ys ih =>
          intro i r h
          simp only [fstI] at h
          split at h
          · rename_i q hq
            simp only [Option.some.injEq] at h
            subst h
            unfold castF at hq
            cases hv : votB y <;> rw [hv] at hq <;> simp only [Bool.not_true, Bool.not_false, cond_true, cond_false, Option.some.injEq] at hq
            · omega
            · cases hv2 : (decide (0 < i) && badP (xs[i - 1]?.getD (0, 0)) y) <;> rw [hv2] at hq <;> simp only [cond_true, cond_false, Option.some.injEq] at hq
              · cases hq
              · omega
          · exact ih _ _ h
      cases hf : fstI (castF xs) 0 xs with
      | some r =>
        rw [hf] at hc
        simp only at hc
        have hr : r ≠ 0 := nz _ _ _ hf
        rw [← hc]
        simp [hr]
      | none =>
        rw [hf] at hc
        simp only at hc
        rw [← hc]
        simp only [Option.bind_some, Sum.elim_inl, t_spec_l8Last (a, b, c, d, xs) (by show xs.length ≤ 60; omega)]
        obtain ⟨d1, d2⟩ := d
        have e2 : (!((d1 == (lastV xs).1) && ((d2 == (lastV xs).2) && true))) = !((d1, d2) == lastV xs) := by
          rw [Bool.and_true]; rfl
        rw [e2]
        cases ((d1, d2) == lastV xs) with
        | false => simp
        | true => by_cases hh : d1 > c <;> simp [hh]

theorem t_spec_l8Copy (x : SlotT) (h : x.2.2.2.2.length ≤ 1048576) : m_spec_l8Copy x = some x := by
  show p_spec_l8Copy FU _ = _
  unfold p_spec_l8Copy
  have hb : Nat.ble ((([] : List (Int × Int)).length + x.2.2.2.2.length) * 16) maxBytes = true := ble_mem (by simp only [List.length_nil, maxBytes]; omega)
  rw [chk_true hb]
  rfl

theorem t_spec_PromiseSlot (s : SlotT) (b : Int) : m_spec_PromiseSlot (s, b) = some (promR s b) := by
  show p_spec_PromiseSlot FU _ = _
  unfold p_spec_PromiseSlot promR
  simp only [t_spec_SlotFault, t_spec_l8Ballot, Option.bind_some]
  cases h : (slotCode s == 0) with
  | false => rfl
  | true =>
    have hl := (slotCode_zero (by simpa using h)).2.1
    cases bal b with
    | false => rfl
    | true =>
      cases decide (b < s.2.2.1) with
      | true => rfl
      | false =>
        simp only [Bool.not_true, cond_false, t_spec_l8Copy s (by omega), Option.bind_some]

theorem t_spec_l1Chance (s : List Int × Int) (n p : Int) (hs : Src p s) (hp : p ≤ 1000000000) (hn : n ≤ 1000000000) : ∃ b, m_spec_l1Chance (s, n) = some (b, (s.1, s.2 + 1)) ∧ Src (p + 1) (s.1, s.2 + 1) := by
  obtain ⟨v, e1, e2, _⟩ := t_spec_l1Next s n p hs hp hn
  refine ⟨v == 0, ?_, e2⟩
  show p_spec_l1Chance FU _ = _
  unfold p_spec_l1Chance
  simp only [e1, Option.bind_some]

theorem t_spec_AcceptSlot (s : SlotT) (v : Int × Int) : m_spec_AcceptSlot (s, v) = some (accR s v) := by
  show p_spec_AcceptSlot FU _ = _
  unfold p_spec_AcceptSlot accR votB
  simp only [t_spec_SlotFault, t_spec_l8Ballot, t_spec_l8Value, Option.bind_some]
  cases h : (slotCode s == 0) with
  | false => rfl
  | true =>
    have hl := (slotCode_zero (by simpa using h)).2.1
    have hb : Nat.ble ((s.2.2.2.2.length + [v].length) * 16) maxBytes = true := ble_mem (by simp only [List.length_cons, List.length_nil, maxBytes]; omega)
    have h6 : decide (lenI s.2.2.2.2 ≥ 60) = decide (s.2.2.2.2.length ≥ 60) := by
      rw [lenI_eq]
      exact decide_eq_decide.mpr (by omega)
    simp only [t_spec_l8Copy s (by omega), Option.bind_some, Bool.not_true, cond_false, chk_true hb, h6]
    cases bal v.1 <;> cases vlu v.2 <;> try rfl
    cases decide (v.1 < s.2.2.1) with
    | true => rfl
    | false =>
      cases (v.1 == s.2.2.2.1.1) <;> cases (v.2 == s.2.2.2.1.2) <;> cases decide (s.2.2.2.2.length ≥ 60) <;> rfl

theorem t_spec_l1Pick (s : List Int × Int) (l : List Int) (p : Int) (hs : Src p s) (hp : p ≤ 1000000000) (hl : l.length ≤ 1000) (h0 : l ≠ []) : ∃ v, m_spec_l1Pick (s, l) = some (v, (s.1, s.2 + 1)) ∧ Src (p + 1) (s.1, s.2 + 1) ∧ v ∈ l := by
  have hlen : 0 < l.length := List.length_pos_iff.2 h0
  obtain ⟨v, e1, e2, _, e4⟩ := t_spec_l1Next s (lenI l) p hs hp (by rw [lenI_eq]; omega)
  obtain ⟨g1, g2⟩ := e4 (by rw [lenI_eq]; omega)
  rw [lenI_eq] at g2
  obtain ⟨m, hm⟩ := Int.eq_ofNat_of_zero_le g1
  have hml : m < l.length := by omega
  refine ⟨l[m], ?_, e2, List.getElem_mem hml⟩
  show p_spec_l1Pick FU _ = _
  unfold p_spec_l1Pick
  simp only [e1, Option.bind_some, hm]
  rw [geti_lt l m hml]
  rfl

theorem promR_ok {s : SlotT} {b : Int} (_ : (promR s b).1 = 0) : (promR s b).2.2.2.2.2.2.length ≤ 60 := by
  unfold promR
  cases h0 : (slotCode s == 0) with
  | false => exact Nat.zero_le _
  | true =>
    have := (slotCode_zero (by simpa using h0)).2.1
    cases bal b with
    | false => exact Nat.zero_le _
    | true =>
      cases decide (b < s.2.2.1) with
      | true => exact Nat.zero_le _
      | false => exact this

theorem accR_ok {s : SlotT} {v : Int × Int} (_ : (accR s v).1 = 0) : (accR s v).2.2.2.2.2.2.length ≤ 60 := by
  unfold accR
  cases h0 : (slotCode s == 0) with
  | false => exact Nat.zero_le _
  | true =>
    have hl := (slotCode_zero (by simpa using h0)).2.1
    cases votB v with
    | false => exact Nat.zero_le _
    | true =>
      cases decide (v.1 < s.2.2.1) with
      | true => exact Nat.zero_le _
      | false =>
        cases (v.1 == s.2.2.2.1.1 && !(v.2 == s.2.2.2.1.2)) with
        | true => exact Nat.zero_le _
        | false =>
          cases (!((v.1 == s.2.2.2.1.1) && ((v.2 == s.2.2.2.1.2) && true))) with
          | false => exact hl
          | true =>
            by_cases h6 : s.2.2.2.2.length ≥ 60
            · rw [show decide (s.2.2.2.2.length ≥ 60) = true from decide_eq_true h6]; exact Nat.zero_le _
            · rw [show decide (s.2.2.2.2.length ≥ 60) = false from decide_eq_false h6]; show (s.2.2.2.2 ++ [v]).length ≤ 60; simp; omega

theorem t_spec_l8Slot (x : List Int) (hl : x.length ≤ 1048576) (hb : ∀ b ∈ x, 0 ≤ b ∧ b ≤ 255) : ∃ t s, m_spec_l8Slot (x, 0) = some (t, s) ∧ t.2.2.2.2.length ≤ 61 ∧ Src 200 s := by
  suffices key : ∀ n, 100 < n → ∃ t s, p_spec_l8Slot n (x, 0) = some (t, s) ∧ t.2.2.2.2.length ≤ 61 ∧ Src 200 s from key FU (FU_gt (by omega))
  intro n hn
  have loop : ∀ (k : Nat) (s : List Int × Int) (t : SlotT), k ≤ 7 → Src 10 s → t.2.2.2.2.length ≤ 60 → ∃ s' t', l_spec_l8Slot_1 n ((k : Int), s, t) = some (s', t') ∧ Src 100 s' ∧ t'.2.2.2.2.length ≤ 60 := by
    intro k s t hk hs ht
    unfold l_spec_l8Slot_1
    refine lp_for (fun (r : Option ((List Int × Int) × SlotT)) => ∃ s' t', r = some (s', t') ∧ Src 100 s' ∧ t'.2.2.2.2.length ≤ 60) (fun i (z : Int × ((List Int × Int) × SlotT)) => z.1 = (k : Int) - (i : Int) ∧ Src (10 + 10 * (i : Int)) z.2.1 ∧ z.2.2.2.2.2.2.length ≤ 60) k (fun i z hi hz => ?_) (fun z hz rec => ?_) n _ (by omega) ⟨by simp, by simpa using hs, ht⟩
    · obtain ⟨c, s, t⟩ := z
      obtain ⟨h1, h2, h3⟩ := hz
      simp only at h1 h2 h3
      have hd : decide (c > 0) = true := decide_eq_true (by omega)
      have wk : IntKind.wrap .i64 (c - 1) = c - 1 := wrap64 (by omega) (by omega)
      obtain ⟨b, q1, t1, _⟩ := t_spec_l1Next s 8 _ h2 (by omega) (by omega)
      obtain ⟨f, q2, t2⟩ := t_spec_l1Chance (s.1, s.2 + 1) 2 _ t1 (by omega) (by omega)
      obtain ⟨v, q3, t3, _⟩ := t_spec_l1Next (s.1, s.2 + 1 + 1) 2 _ t2 (by omega) (by omega)
      have up : ∀ {p : Int} {s'}, Src p s' → p ≤ 10 + 10 * (i : Int) + 3 → Src (10 + 10 * ((i + 1 : Nat) : Int)) s' := fun hs hp => ⟨hs.1, hs.2.1, hs.2.2.1, by have := hs.2.2.2; omega⟩
      right
      cases f with
      | false =>
        cases hc : ((promR t b).1 == 0) with
        | false =>
          refine ⟨(c - 1, _, t), ⟨by show c - 1 = _; omega, up t2 (by omega), h3⟩, fun rec => ?_⟩
          simp only [hd, cond_true, q1, Option.bind_some, t_spec_PromiseSlot, q2, cond_false, wk, hc]
        | true =>
          refine ⟨(c - 1, _, (promR t b).2.2), ⟨by show c - 1 = _; omega, up t2 (by omega), promR_ok (by simpa using hc)⟩, fun rec => ?_⟩
          simp only [hd, cond_true, q1, Option.bind_some, t_spec_PromiseSlot, q2, cond_false, wk, hc]
      | true =>
        cases hc : ((accR t (b, IntKind.wrap .i64 (1 + v))).1 == 0) with
        | false =>
          refine ⟨(c - 1, _, t), ⟨by show c - 1 = _; omega, up t3 (by omega), h3⟩, fun rec => ?_⟩
          simp only [hd, cond_true, q1, Option.bind_some, t_spec_PromiseSlot, t_spec_AcceptSlot, q2, q3, cond_false, wk, hc]
        | true =>
          refine ⟨(c - 1, _, (accR t (b, IntKind.wrap .i64 (1 + v))).2.2), ⟨by show c - 1 = _; omega, up t3 (by omega), accR_ok (by simpa using hc)⟩, fun rec => ?_⟩
          simp only [hd, cond_true, q1, Option.bind_some, t_spec_PromiseSlot, t_spec_AcceptSlot, q2, q3, wk, hc]
    · obtain ⟨c, s, t⟩ := z
      obtain ⟨h1, h2, h3⟩ := hz
      simp only at h1 h2 h3
      have hd : decide (c > 0) = false := decide_eq_false (by omega)
      refine ⟨s, t, by simp only [hd, cond_false], ⟨h2.1, h2.2.1, h2.2.2.1, by have := h2.2.2.2; omega⟩, h3⟩
  unfold p_spec_l8Slot
  obtain ⟨a1, q1, t1, _⟩ := t_spec_l1Next (x, 0) 2 0 ⟨hl, hb, by simp, by simp⟩ (by omega) (by omega)
  obtain ⟨a2, q2, t2, _⟩ := t_spec_l1Next (x, 0 + 1) 2 _ t1 (by omega) (by omega)
  obtain ⟨a3, q3, t3, _, b3⟩ := t_spec_l1Next (x, 0 + 1 + 1) 7 _ t2 (by omega) (by omega)
  have hnl : (newR (IntKind.wrap .i64 (1 + a1)) a2).2.2.2.2.2.2.length ≤ 60 := by
    unfold newR
    cases (idB (IntKind.wrap .i64 (1 + a1)) && shB a2) <;> exact Nat.zero_le _
  obtain ⟨k, rfl⟩ : ∃ k : Nat, a3 = (k : Int) := ⟨a3.toNat, by have := b3 (by omega); omega⟩
  obtain ⟨s, t, e4, s4, l4⟩ := loop k (x, 0 + 1 + 1 + 1) (newR (IntKind.wrap .i64 (1 + a1)) a2).2.2 (by have := b3 (by omega); omega) ⟨t3.1, t3.2.1, t3.2.2.1, by show (0 : Int) + 1 + 1 + 1 ≤ 10; omega⟩ hnl
  obtain ⟨c, q5, s5, _⟩ := t_spec_l1Next s 24 _ s4 (by omega) (by omega)
  have up : ∀ {p : Int} {s'}, Src p s' → p ≤ 200 → Src 200 s' := fun hs hp => ⟨hs.1, hs.2.1, hs.2.2.1, by have := hs.2.2.2; omega⟩
  simp only [q1, q2, q3, Option.bind_some, t_spec_NewSlot, e4, q5]
  cases (c == 0) with
  | true =>
    obtain ⟨v, q6, s6, _⟩ := t_spec_l1Pick (s.1, s.2 + 1) [(0 : Int), (-1 : Int), (1000000001 : Int)] _ s5 (by omega) (by simp) (by simp)
    simp only [q6, Option.bind_some, cond_true]
    exact ⟨_, _, rfl, by show t.2.2.2.2.length ≤ 61; omega, up s6 (by omega)⟩
  | false =>
  cases (c == 1) with
  | true =>
    obtain ⟨v, q6, s6, _⟩ := t_spec_l1Pick (s.1, s.2 + 1) [(-1 : Int), (3 : Int)] _ s5 (by omega) (by simp) (by simp)
    simp only [q6, Option.bind_some, cond_true, cond_false]
    exact ⟨_, _, rfl, by show t.2.2.2.2.length ≤ 61; omega, up s6 (by omega)⟩
  | false =>
  cases (c == 2) with
  | true =>
    obtain ⟨v, q6, s6, _⟩ := t_spec_l1Pick (s.1, s.2 + 1) [(-2 : Int), (-1 : Int), (1000 : Int), (1001 : Int)] _ s5 (by omega) (by simp) (by simp)
    simp only [q6, Option.bind_some, cond_true, cond_false]
    exact ⟨_, _, rfl, by show t.2.2.2.2.length ≤ 61; omega, up s6 (by omega)⟩
  | false =>
  cases (c == 3) with
  | true => exact ⟨_, _, rfl, by show t.2.2.2.2.length ≤ 61; omega, up s5 (by omega)⟩
  | false =>
  cases (c == 4) with
  | true =>
    obtain ⟨v, q6, s6, _⟩ := t_spec_l1Pick (s.1, s.2 + 1) [(0 : Int), (-1 : Int), (2000 : Int)] _ s5 (by omega) (by simp) (by simp)
    obtain ⟨w, q7, s7, _⟩ := t_spec_l1Pick (s.1, s.2 + 1 + 1) [(1 : Int), (2 : Int), (0 : Int), (3 : Int)] _ s6 (by omega) (by simp) (by simp)
    have hbb : Nat.ble ((t.2.2.2.2.length + [(v, w)].length) * 16) maxBytes = true := ble_mem (by simp only [List.length_cons, List.length_nil, maxBytes]; omega)
    simp only [q6, q7, Option.bind_some, cond_true, cond_false, chk_true hbb]
    exact ⟨_, _, rfl, by show (t.2.2.2.2 ++ [(v, w)]).length ≤ 61; simp; omega, up s7 (by omega)⟩
  | false =>
  cases (c == 5) with
  | true =>
    have hbb : Nat.ble (16 * (61 : Int).toNat) maxBytes = true := ble_mem (by decide)
    simp only [cond_true, cond_false, if_true, chk_true hbb]
    rw [if_pos (by decide)]
    exact ⟨_, _, rfl, by show (List.replicate (61 : Int).toNat ((0 : Int), (0 : Int))).length ≤ 61; rw [List.length_replicate]; decide, up s5 (by omega)⟩
  | false => exact ⟨_, _, rfl, by omega, up s5 (by omega)⟩

theorem t_spec_DrawPromiseSlot (x : List Int) (hl : x.length ≤ 1048576) (hb : ∀ b ∈ x, 0 ≤ b ∧ b ≤ 255) : ∃ t b, m_spec_DrawPromiseSlot x = some (t, b) ∧ t.2.2.2.2.length ≤ 61 := by
  show ∃ t b, p_spec_DrawPromiseSlot FU _ = _ ∧ _
  unfold p_spec_DrawPromiseSlot
  obtain ⟨t, s, q1, l1, s1⟩ := t_spec_l8Slot x hl hb
  obtain ⟨a2, q2, s2, _⟩ := t_spec_l1Next s 9 _ s1 (by omega) (by omega)
  obtain ⟨a3, q3, s3, _⟩ := t_spec_l1Next (s.1, s.2 + 1) 9 _ s2 (by omega) (by omega)
  obtain ⟨a4, q4, s4, _⟩ := t_spec_l1Pick (s.1, s.2 + 1 + 1) [a2, a3, (1000 : Int), (1001 : Int), (-1 : Int)] _ s3 (by omega) (by simp) (by simp)
  simp only [q1, q2, q3, q4, Option.bind_some]
  exact ⟨_, _, rfl, l1⟩

theorem t_impl_within (a b c : Int) : m_impl_within (a, b, c) = some (inB a b c) := by
  show p_impl_within FU _ = _
  unfold p_impl_within inB
  by_cases h : b ≤ a <;> simp [h]

theorem t_impl_isId (a : Int) : m_impl_isId a = some (idB a) := by
  show p_impl_isId FU _ = _
  unfold p_impl_isId idB
  rw [t_impl_within]; rfl

theorem t_impl_isShard (a : Int) : m_impl_isShard a = some (shB a) := by
  show p_impl_isShard FU _ = _
  unfold p_impl_isShard shB
  rw [t_impl_within]; rfl

theorem t_impl_isBallot (a : Int) : m_impl_isBallot a = some (bal a) := by
  show p_impl_isBallot FU _ = _
  unfold p_impl_isBallot bal
  rw [t_impl_within]; rfl

theorem t_impl_isValue (a : Int) : m_impl_isValue a = some (vlu a) := by
  show p_impl_isValue FU _ = _
  unfold p_impl_isValue vlu
  cases h : (a == (1 : Int)) <;> simp

theorem t_impl_isVote (a : Int × Int) : m_impl_isVote a = some (votB a) := by
  show p_impl_isVote FU _ = _
  unfold p_impl_isVote votB
  rw [t_impl_isBallot, t_impl_isValue]
  cases bal a.1 <;> rfl

theorem t_impl_castFault (xs : List (Int × Int)) (h : xs.length ≤ 60) : m_impl_castFault xs = some (castGo none xs) := by
  show p_impl_castFault FU _ = _
  unfold p_impl_castFault l_impl_castFault_1
  rw [← cast_all]
  refine (lp_fst xs (castF xs) (some 0) (by unfold B36; omega) (fun i hi rec hw => ?_) (fun rec => ?_)).trans (by cases fstI (castF xs) 0 xs <;> rfl)
  · simp only [lt_lenI hi, cond_true, geti_lt xs i hi, Option.bind_some, t_impl_isVote, castF, hw]
    cases votB xs[i] with
    | false => rfl
    | true =>
      simp only [Bool.not_true, cond_false]
      by_cases h0 : 0 < i
      · have hd : decide ((i : Int) > 0) = true := by simp; omega
        have hp := prv (i := i) (by unfold B36; omega) h0
        have hi1 : i - 1 < xs.length := by omega
        simp only [hd, cond_true, hp, geti_lt xs _ hi1, Option.bind_some, h0, decide_true, Bool.true_and, List.getElem?_eq_getElem hi1, Option.getD_some, badP]
        cases decide (xs[i].1 < xs[i - 1].1) <;> cases (xs[i].1 == xs[i - 1].1) <;> cases (xs[i].2 == xs[i - 1].2) <;> rfl
      · have hd : decide ((i : Int) > 0) = false := by simp; omega
        simp only [hd, cond_false, Option.bind_some, h0, decide_false, Bool.false_and, cond_false]
  · simp only [ge_lenI, cond_false]

theorem t_impl_noVote : m_impl_noVote () = some (-1, 0) := rfl

theorem t_impl_lastCast (xs : List (Int × Int)) (h : xs.length ≤ 60) : m_impl_lastCast xs = some (lastV xs) := by
  show p_impl_lastCast FU _ = _
  unfold p_impl_lastCast lastV
  by_cases h0 : xs.length = 0
  · have : xs = [] := List.eq_nil_of_length_eq_zero h0
    subst this
    rfl
  · have h1 : (lenI xs == 0) = false := by rw [lenI_eq, beq_eq_false_iff_ne]; omega
    have h2 : IntKind.wrap .i64 (lenI xs - 1) = ((xs.length - 1 : Nat) : Int) := by rw [lenI_eq, wrap64 (by omega) (by omega)]; omega
    have hlt : xs.length - 1 < xs.length := by omega
    simp only [h1, cond_false, h2, geti_lt xs _ hlt, Option.bind_some]
    rw [List.getLast?_eq_getElem?, List.getElem?_eq_getElem hlt]
    rfl

theorem t_impl_SlotFault (x : SlotT) : m_impl_SlotFault x = some (slotCode x) := by
  obtain ⟨a, b, c, d, xs⟩ := x
  show p_impl_SlotFault FU _ = _
  unfold p_impl_SlotFault slotCode
  simp only [t_impl_isId, t_impl_isShard, t_impl_within, Option.bind_some]
  have e0 : (cond (!idB a) (some true) (cond (!shB b) (some true) (some (!inB c (-1) 1000)))) = some (!(idB a && (shB b && inB c (-1) 1000))) := by
    cases idB a <;> cases shB b <;> rfl
  rw [e0]
  simp only [Option.bind_some]
  cases (idB a && (shB b && inB c (-1) 1000)) with
  | false => rfl
  | true =>
    simp only [Bool.not_true, cond_false]
    by_cases hl : xs.length > 60
    · have : decide (lenI xs > 60) = true := by simp [lenI_eq]; omega
      simp [this, hl]
    · have : decide (lenI xs > 60) = false := by simp [lenI_eq]; omega
      simp only [this, cond_false, if_neg hl, t_impl_castFault xs (by omega), t_impl_lastCast xs (by omega), Option.bind_some]
      by_cases hc : castGo none xs = 0
      · obtain ⟨d1, d2⟩ := d
        have e2 : (!((d1 == (lastV xs).1) && ((d2 == (lastV xs).2) && true))) = !((d1, d2) == lastV xs) := by
          rw [Bool.and_true]; rfl
        simp only [hc, e2]
        cases ((d1, d2) == lastV xs) with
        | false => simp
        | true => by_cases hh : d1 > c <;> simp [hh]
      · have hb : (castGo none xs == 0) = false := by rw [beq_eq_false_iff_ne]; exact hc
        simp [hc, hb]

theorem t_slices_Clone_impl_Vote_impl_Vote (xs : List (Int × Int)) (h : xs.length ≤ 1048576) : m_slices_Clone_impl_Vote_impl_Vote xs = some xs := by
  show p_slices_Clone_impl_Vote_impl_Vote FU _ = _
  unfold p_slices_Clone_impl_Vote_impl_Vote
  have hb : Nat.ble ((([] : List (Int × Int)).length + xs.length) * 16) maxBytes = true := ble_mem (by simp only [List.length_nil, maxBytes]; omega)
  rw [chk_true hb]
  exact clone_same xs _ rfl

theorem t_impl_copySlot (x : SlotT) (h : x.2.2.2.2.length ≤ 1048576) : m_impl_copySlot x = some x := by
  show p_impl_copySlot FU _ = _
  unfold p_impl_copySlot
  rw [t_slices_Clone_impl_Vote_impl_Vote _ h]
  rfl

theorem t_impl_PromiseSlot (s : SlotT) (b : Int) : m_impl_PromiseSlot (s, b) = some (promR s b) := by
  show p_impl_PromiseSlot FU _ = _
  unfold p_impl_PromiseSlot promR
  simp only [t_impl_SlotFault, t_impl_isBallot, Option.bind_some]
  cases h : (slotCode s == 0) with
  | false => rfl
  | true =>
    have hl := (slotCode_zero (by simpa using h)).2.1
    cases bal b with
    | false => rfl
    | true =>
      cases decide (b < s.2.2.1) with
      | true => rfl
      | false =>
        simp only [Bool.not_true, cond_false, t_impl_copySlot s (by omega), Option.bind_some]

theorem t_impl_AcceptSlot (s : SlotT) (v : Int × Int) : m_impl_AcceptSlot (s, v) = some (accR s v) := by
  show p_impl_AcceptSlot FU _ = _
  unfold p_impl_AcceptSlot accR
  simp only [t_impl_SlotFault, t_impl_isVote, Option.bind_some]
  cases h : (slotCode s == 0) with
  | false => rfl
  | true =>
    have hl := (slotCode_zero (by simpa using h)).2.1
    have hb : Nat.ble ((s.2.2.2.2.length + [v].length) * 16) maxBytes = true := ble_mem (by simp only [List.length_cons, List.length_nil, maxBytes]; omega)
    have h6 : (lenI s.2.2.2.2 == 60) = decide (s.2.2.2.2.length ≥ 60) := by
      rw [lenI_eq]
      by_cases h7 : s.2.2.2.2.length ≥ 60
      · have : s.2.2.2.2.length = 60 := by omega
        simp [this]
      · have : ¬ (s.2.2.2.2.length : Int) = 60 := by omega
        simp [this, h7]
    simp only [t_impl_copySlot s (by omega), Option.bind_some, Bool.not_true, cond_false, chk_true hb, h6]
    cases votB v with
    | false => rfl
    | true =>
      cases decide (v.1 < s.2.2.1) with
      | true => rfl
      | false =>
        cases (v.1 == s.2.2.2.1.1) <;> cases (v.2 == s.2.2.2.1.2) <;> cases decide (s.2.2.2.2.length ≥ 60) <;> rfl

def pBad : Option (Int × Int) → Int × Int → Bool
  | none, _ => false
  | some u, v => badP u v
theorem castGo_cons (p : Option (Int × Int)) (v : Int × Int) (r : List (Int × Int)) : castGo p (v :: r) = cond (!(votB v)) 3 (cond (pBad p v) 1 (castGo (some v) r)) := by cases p <;> rfl
theorem cast_append : ∀ (xs : List (Int × Int)) (p : Option (Int × Int)) (v : Int × Int), castGo p xs = 0 → votB v = true → pBad (xs.getLast?.or p) v = false → castGo p (xs ++ [v]) = 0
  | [], p, v, _, hv, hl => by
    rw [List.nil_append, castGo_cons, hv]
    simp only [List.getLast?_nil, Option.none_or] at hl
    rw [hl]; rfl
  | x :: xs, p, v, h, hv, hl => by
    rw [castGo_cons] at h
    rw [List.cons_append, castGo_cons]
    cases hx : votB x with
    | false => rw [hx] at h; simp at h
    | true =>
      rw [hx] at h
      simp only [Bool.not_true, cond_false] at h ⊢
      cases hp : pBad p x with
      | true => rw [hp] at h; simp at h
      | false =>
        rw [hp] at h
        simp only [cond_false] at h ⊢
        refine cast_append xs (some x) v h hv ?_
        rw [List.getLast?_cons] at hl
        cases hg : xs.getLast? with
        | none => rw [hg] at hl; exact hl
        | some u => rw [hg] at hl; exact hl

theorem prom_slot {s : SlotT} {b : Int} (h : (promR s b).1 = 0) : slotCode s = 0 ∧ bal b = true ∧ s.2.2.1 ≤ b ∧ promR s b = (0, (s.2.2.2.1, (s.1, (s.2.1, (b, s.2.2.2))))) := by
  unfold promR at h ⊢
  cases h0 : (slotCode s == 0) with
  | false =>
    rw [h0] at h
    simp only [Bool.not_false, cond_true] at h
    rw [h] at h0; simp at h0
  | true =>
    rw [h0] at h
    cases hb : bal b with
    | false => rw [hb] at h; simp at h
    | true =>
      rw [hb] at h
      cases hd : decide (b < s.2.2.1) with
      | true => rw [hd] at h; simp at h
      | false =>
        simp only [decide_eq_false_iff_not] at hd
        exact ⟨by simpa using h0, rfl, by omega, rfl⟩

theorem acc_same {s : SlotT} {v : Int × Int} (h0 : slotCode s = 0) (hv : votB v = true) (hb : s.2.2.1 = v.1) (hs : s.2.2.2.1 = v) : (accR s v).1 = 0 := by
  unfold accR
  have h1 : decide (v.1 < s.2.2.1) = false := decide_eq_false (by omega)
  simp [h0, hv, h1, hs]

theorem acc_other {s : SlotT} {v : Int × Int} (h0 : slotCode s = 0) (hv : votB v = true) (hb : s.2.2.1 = v.1) (hs : s.2.2.2.1.1 = v.1) (hn : s.2.2.2.1.2 ≠ v.2) : (accR s v).1 = 7 := by
  unfold accR
  have h1 : decide (v.1 < s.2.2.1) = false := decide_eq_false (by omega)
  have h2 : (v.2 == s.2.2.2.1.2) = false := by rw [beq_eq_false_iff_ne]; exact fun e => hn e.symm
  simp [h0, hv, h1, hs, h2]

theorem acc_slot {s : SlotT} {v : Int × Int} (hb : s.2.2.1 = v.1) (h : (accR s v).1 = 0) : slotCode (accR s v).2.2 = 0 ∧ votB v = true ∧ (accR s v).2.2.2.2.1 = v.1 ∧ (accR s v).2.2.2.2.2.1 = v := by
  unfold accR at h ⊢
  cases h0 : (slotCode s == 0) with
  | false =>
    rw [h0] at h
    simp only [Bool.not_false, cond_true] at h
    rw [h] at h0; simp at h0
  | true =>
    rw [h0] at h
    have h0' : slotCode s = 0 := by simpa using h0
    obtain ⟨g1, g2, g3, g4, g5⟩ := slotCode_zero h0'
    cases hv : votB v with
    | false => rw [hv] at h; simp at h
    | true =>
      rw [hv] at h
      cases hd : decide (v.1 < s.2.2.1) with
      | true => rw [hd] at h; simp at h
      | false =>
        rw [hd] at h
        cases h7 : (v.1 == s.2.2.2.1.1 && !(v.2 == s.2.2.2.1.2)) with
        | true => rw [h7] at h; simp at h
        | false =>
          rw [h7] at h
          cases hn : (!((v.1 == s.2.2.2.1.1) && ((v.2 == s.2.2.2.1.2) && true))) with
          | false =>
            simp only [Bool.not_true, cond_false]
            have hs : s.2.2.2.1 = v := by
              simp only [Bool.and_true, Bool.not_eq_false', Bool.and_eq_true, beq_iff_eq] at hn
              exact (Prod.ext hn.1 hn.2).symm
            refine ⟨slotCode_of ⟨g1.1, g1.2.1, by rw [← hb]; exact g1.2.2⟩ g2 g3 (by rw [← g4, hs]) (Int.le_refl _), by simp, by simp, by simp⟩
          | true =>
            rw [hn] at h
            cases h6 : decide (s.2.2.2.2.length ≥ 60) with
            | true => rw [h6] at h; simp at h
            | false =>
              simp only [decide_eq_false_iff_not] at h6
              simp only [Bool.not_true, cond_false, cond_true]
              refine ⟨slotCode_of ⟨g1.1, g1.2.1, by rw [← hb]; exact g1.2.2⟩ (by show (s.2.2.2.2 ++ [v]).length ≤ 60; simp; omega) (cast_append _ _ _ g3 hv ?_) ?_ (Int.le_refl _), by simp, by simp, by simp⟩
              · cases hg : s.2.2.2.2.getLast? with
                | none => rfl
                | some u =>
                  have hu : s.2.2.2.1 = u := by rw [g4]; unfold lastV; rw [hg]; rfl
                  show badP u v = false
                  unfold badP
                  rw [← hu]
                  have e1 : decide (v.1 < s.2.2.2.1.1) = false := decide_eq_false (by omega)
                  rw [e1, h7]; rfl
              · show v = lastV (s.2.2.2.2 ++ [v])
                unfold lastV
                simp

theorem law_laws_FnPromises (x : List Int) (h : WFs S_laws_FnPromises.ps x) : m_laws_FnPromises x = some true := by
  have hm : maxLen = 9223372036854775807 := rfl
  show p_laws_FnPromises FU x = _
  unfold p_laws_FnPromises
  rw [t_laws_lwBig]
  by_cases hl : (x.length : Int) > 1048576
  · simp [hl]
  · have hd : decide ((x.length : Int) > 1048576) = false := decide_eq_false hl
    have hb : ∀ b ∈ x, 0 ≤ b ∧ b ≤ 255 := by
      intro b hbx
      have := h.2 b hbx
      simp only [WFk, Lit.wf, Bool.and_eq_true, IntKind.min, IntKind.max, IntKind.signed, IntKind.bits] at this
      simp at this
      omega
    obtain ⟨s, b, q1, l1⟩ := t_spec_DrawPromiseSlot x (by omega) hb
    simp only [hd, cond_false, Option.bind_some, q1, t_impl_PromiseSlot, t_spec_PromiseSlot]
    by_cases hc : (promR s b).1 = 0
    · obtain ⟨g1, g2, g3, g4⟩ := prom_slot hc
      obtain ⟨k1, k2, k3, k4, k5⟩ := slotCode_zero g1
      have hbal := g2
      simp only [bal, Bool.and_eq_true, decide_eq_true_eq] at hbal
      have hs' : slotCode (s.1, (s.2.1, (b, s.2.2.2))) = 0 := slotCode_of ⟨k1.1, k1.2.1, by simp [inB]; omega⟩ k2 k3 k4 (by show s.2.2.2.1.1 ≤ b; omega)
      simp only [g4, beq_self_eq_true, Bool.not_true, cond_false, Bool.and_self, Bool.and_true, t_impl_SlotFault, hs', Option.bind_some]
      have w1 : IntKind.wrap .i64 (b - 1) = b - 1 := wrap64 (by omega) (by omega)
      have st : (cond (decide (b > (0 : Int))) (some (!((accR (s.1, (s.2.1, (b, s.2.2.2))) (IntKind.wrap .i64 (b - (1 : Int)), (1 : Int))).1 == (8 : Int)))) (some false)) = some false := by
        by_cases h0 : b > 0
        · have e : (accR (s.1, (s.2.1, (b, s.2.2.2))) (b - 1, 1)).1 = 8 := by
            unfold accR
            have hv : votB (b - 1, 1) = true := by simp [votB, bal, vlu]; omega
            have hlt : decide (b - 1 < b) = true := decide_eq_true (by omega)
            simp [hs', hv, hlt]
          rw [show decide (b > 0) = true from decide_eq_true h0, w1]
          simp [e]
        · rw [show decide (b > 0) = false from decide_eq_false h0]; rfl
      simp only [t_impl_AcceptSlot, t_spec_AcceptSlot, st, Option.bind_some, cond_false]
      by_cases hc2 : (accR (s.1, (s.2.1, (b, s.2.2.2))) (b, 2)).1 = 0
      · obtain ⟨a1, a2, a3, a4⟩ := acc_slot (s := (s.1, (s.2.1, (b, s.2.2.2)))) (v := (b, 2)) rfl hc2
        have v1 : votB (b, 1) = true := by simp only [votB, g2, Bool.true_and]; rfl
        have o1 := acc_other a1 v1 a3 (by rw [a4]) (by rw [a4]; simp)
        have o2 := acc_same a1 a2 a3 a4
        simp only [hc2, beq_self_eq_true, Bool.not_true, cond_false, a4, Bool.and_self, cond_true, a1, o1, o2]
      · have hc2' : ((accR (s.1, (s.2.1, (b, s.2.2.2))) (b, 2)).1 == 0) = false := by rw [beq_eq_false_iff_ne]; exact hc2
        simp only [hc2', Bool.not_false, cond_true, beq_self_eq_true]
    · have hc' : ((promR s b).1 == 0) = false := by rw [beq_eq_false_iff_ne]; exact hc
      simp only [hc', Bool.not_false, cond_true, beq_self_eq_true]
end Go.RvP
