/- The plain law: spec and program answer alike, for FnOutcomes. Condition: the data are such as can come in. -/
import Derived.Test.YtccghpomkikjoaaGreatRvP5
import Derived.Test.YtccghpomkikjoaaGreatRvG
import Derived.Test.YtccghpomkikjoaaGreatRvM
import Derived.Test.YtccghpomkikjoaaGreatRvV
import Derived.Test.YtccghpomkikjoaaGreatRvU
import Derived.Test.YtccghpomkikjoaaGreatRvZ
namespace Go.RvP
open Go.Rv


theorem t_laws_lwBig (x : List Int) : m_laws_lwBig x = some (decide ((x.length : Int) > 1048576)) := rfl

/-- A source of choices: bytes, and how many choices were made. -/
def Src (p : Int) (s : List Int × Int) : Prop := s.1.length ≤ 2097152 ∧ (∀ b ∈ s.1, 0 ≤ b ∧ b ≤ 255) ∧ 0 ≤ s.2 ∧ s.2 ≤ p

theorem t_spec_l1Next (s : List Int × Int) (n p : Int) (hs : Src p s) (hp : p ≤ 1000000000) (hn : n ≤ 1000000000) : ∃ v, m_spec_l1Next (s, n) = some (v, (s.1, s.2 + 1)) ∧ Src (p + 1) (s.1, s.2 + 1) ∧ (n < 1 → v = 0) ∧ (1 ≤ n → 0 ≤ v ∧ v < n) := by
  obtain ⟨B, q⟩ := s
  obtain ⟨h1, h2, h3, h4⟩ := hs
  simp only at h1 h2 h3 h4
  have hsrc : Src (p + 1) (B, q + 1) := ⟨h1, h2, by show 0 ≤ q + 1; omega, by show q + 1 ≤ p + 1; omega⟩
  have w1 : IntKind.wrap .i64 (q + 1) = q + 1 := wrap64 (by omega) (by omega)
  have w2 : IntKind.wrap .i64 (q + 1 - 1) = q := by rw [wrap64 (by omega) (by omega)]; omega
  show ∃ v, p_spec_l1Next FU ((B, q), n) = _ ∧ _
  unfold p_spec_l1Next
  simp only [w1, w2]
  by_cases hn1 : n < 1
  · exact ⟨0, by simp [hn1], hsrc, fun _ => rfl, fun h => by omega⟩
  · have hd : decide (n < 1) = false := decide_eq_false hn1
    have hn0 : (n == 0) = false := by rw [beq_eq_false_iff_ne]; omega
    have fin : ∀ v : Int, 0 ≤ v → 0 ≤ Int.tmod v n ∧ Int.tmod v n < n := fun v hv => ⟨Int.tmod_nonneg n hv, Int.tmod_lt_of_pos v (by omega)⟩
    simp only [hd, cond_false, hn0]
    by_cases hB : B.length = 0
    · have : (lenI B == 0) = true := by simp [lenI_eq, hB]
      have w3 : IntKind.wrap .i64 (q * 7) = q * 7 := wrap64 (by omega) (by omega)
      simp only [this, cond_true, w3]
      exact ⟨_, rfl, hsrc, fun h => absurd h hn1, fun _ => fin _ (by omega)⟩
    · have hB0 : (lenI B == 0) = false := by rw [lenI_eq, beq_eq_false_iff_ne]; omega
      have get : ∀ v : Int, 0 ≤ v → ∃ y, geti B (Int.tmod v (lenI B)) = some y ∧ 0 ≤ y ∧ y ≤ 255 := by
        intro v hv
        have g1 := Int.tmod_nonneg (lenI B) hv
        have g2 := Int.tmod_lt_of_pos v (show 0 < lenI B by rw [lenI_eq]; omega)
        rw [lenI_eq] at g1 g2 ⊢
        obtain ⟨m, hm⟩ := Int.eq_ofNat_of_zero_le g1
        have hml : m < B.length := by omega
        refine ⟨B[m], ?_, h2 _ (List.getElem_mem hml)⟩
        rw [hm]
        exact geti_lt B m hml
      obtain ⟨y1, e1, b1, b2⟩ := get q h3
      obtain ⟨y3, e3, b3, b4⟩ := get (q + 1) (by omega)
      have hdiv0 : 0 ≤ Int.tdiv q (lenI B) := Int.tdiv_nonneg h3 (by rw [lenI_eq]; omega)
      have hdiv1 : Int.tdiv q (lenI B) ≤ q := Int.tdiv_le_self _ h3
      generalize hdv : Int.tdiv q (lenI B) = dv at hdiv0 hdiv1
      have w5 : IntKind.wrap .i64 dv = dv := wrap64 (by omega) (by omega)
      have w6 : IntKind.wrap .i64 (dv * 37) = dv * 37 := wrap64 (by omega) (by omega)
      have w7 : IntKind.wrap .i64 y1 = y1 := wrap64 (by omega) (by omega)
      have w8 : IntKind.wrap .i64 (y1 + dv * 37) = y1 + dv * 37 := wrap64 (by omega) (by omega)
      have w9 : IntKind.wrap .i64 ((y1 + dv * 37) * 251) = (y1 + dv * 37) * 251 := wrap64 (by omega) (by omega)
      have w10 : IntKind.wrap .i64 y3 = y3 := wrap64 (by omega) (by omega)
      have w11 : IntKind.wrap .i64 (y3 * 13) = y3 * 13 := wrap64 (by omega) (by omega)
      have w12 : IntKind.wrap .i64 ((y1 + dv * 37) * 251 + y3 * 13) = (y1 + dv * 37) * 251 + y3 * 13 := wrap64 (by omega) (by omega)
      have w13 : IntKind.wrap .i64 ((y1 + dv * 37) * 251 + y3 * 13 + q) = (y1 + dv * 37) * 251 + y3 * 13 + q := wrap64 (by omega) (by omega)
      simp only [hB0, cond_false, e1, Option.bind_some, hdv, w5, w6, w7, w8]
      by_cases h200 : n > 200
      · have : decide (n > 200) = true := decide_eq_true h200
        simp only [this, cond_true, w1, e3, Option.bind_some, w9, w10, w11, w12, w13]
        exact ⟨_, rfl, hsrc, fun h => absurd h hn1, fun _ => fin _ (by omega)⟩
      · have : decide (n > 200) = false := decide_eq_false h200
        simp only [this, cond_false, Option.bind_some]
        exact ⟨_, rfl, hsrc, fun h => absurd h hn1, fun _ => fin _ (by omega)⟩

theorem t_spec_l1In (a b c : Int) : m_spec_l1In (a, b, c) = some (inB a b c) := by
  show p_spec_l1In FU _ = _
  unfold p_spec_l1In inB
  by_cases h : b ≤ a <;> simp [h]

theorem t_spec_l1Id (a : Int) : m_spec_l1Id a = some (idB a) := by
  show p_spec_l1Id FU _ = _
  unfold p_spec_l1Id idB
  rw [t_spec_l1In]; rfl

theorem t_spec_LegFault (l : LegT) : m_spec_LegFault l = some (legC l) := by
  show p_spec_LegFault FU _ = _
  unfold p_spec_LegFault legC plB
  simp only [t_spec_l1In, Option.bind_some]
  cases inB l.1 0 2 with
  | false => rfl
  | true =>
    cases inB l.2.1 0 5 with
    | false => rfl
    | true =>
      cases inB l.2.2.1 0 2 with
      | false => rfl
      | true =>
        cases inB l.2.2.2 (-1000000000000) 1000000000000 with
        | false => rfl
        | true => cases h : (l.2.2.2 == 0) <;> simp [h]

theorem t_spec_CF_1 (xs : List LegT) (i : Nat) (hi : i < xs.length) (hl : xs.length ≤ 8) (l : LegT) : l_spec_ContractFault_1 FU (i : Int) xs l.1 l.2.1 l.2.2.1 (0 : Int) = some (cond ((xs.take i).any fun o => sameP o l) (Sum.inr (Sum.inr (Sum.inr (7 : Int)))) (Sum.inl ())) := by
  unfold l_spec_ContractFault_1
  have hlen : (xs.take i).length = i := by rw [List.length_take]; omega
  refine (lp_hit (xs.take i) (fun o => sameP o l) (some (Sum.inr (Sum.inr (Sum.inr (7 : Int))))) (some (Sum.inl ())) (by rw [hlen]; unfold B36; omega) (fun j hj rec hw => ?_) (fun rec => ?_)).trans ?_
  · rw [hlen] at hj
    have hd : decide ((j : Int) < (i : Int)) = true := decide_eq_true (by omega)
    have hg : geti xs (j : Int) = some xs[j] := geti_lt xs j (by omega)
    have ht : (xs.take i)[j]'(by rw [hlen]; exact hj) = xs[j] := List.getElem_take
    simp only [hd, cond_true, hg, Option.bind_some, hw, ht, sameP]
    cases (xs[j].1 == l.1) with
    | false => rfl
    | true => cases (xs[j].2.1 == l.2.1) <;> rfl
  · rw [hlen]
    have hd : decide ((i : Int) < (i : Int)) = false := decide_eq_false (by omega)
    simp only [hd, cond_false]
  · cases (xs.take i).any fun o => sameP o l <;> rfl
def sums3 (xs : List LegT) : List Int := [sumA xs 0, sumA xs 1, sumA xs 2]
theorem sums3_set (xs : List LegT) (l : LegT) (a : Nat) (ha : a < 3) (hla : l.2.2.1 = (a : Int)) (hb : -(8 * 1000000000000) ≤ sumA xs a + l.2.2.2 ∧ sumA xs a + l.2.2.2 ≤ 8 * 1000000000000) :
    (sums3 xs)[a]? = some (sumA xs a) ∧ (sums3 xs).set a (IntKind.wrap .i64 (sumA xs a + l.2.2.2)) = sums3 (xs ++ [l]) := by
  have hw : IntKind.wrap .i64 (sumA xs a + l.2.2.2) = sumA xs a + l.2.2.2 := wrap64 (by omega) (by omega)
  rw [hw]
  unfold sums3
  rw [sumA_snoc, sumA_snoc, sumA_snoc, hla]
  rcases (by omega : a = 0 ∨ a = 1 ∨ a = 2) with rfl | rfl | rfl <;> simp
theorem t_spec_ContractFault (c : ConT) (hl : c.2.length ≤ 1048576) : m_spec_ContractFault c = some (conC c) := by
  obtain ⟨id, xs⟩ := c
  show p_spec_ContractFault FU _ = _
  unfold p_spec_ContractFault conC
  simp only [t_spec_l1Id, Option.bind_some]
  cases idB id with
  | false => rfl
  | true =>
    simp only [Bool.not_true, cond_false]
    by_cases h1 : xs.length < 2
    · have : decide (lenI xs < 2) = true := decide_eq_true (by rw [lenI_eq]; omega)
      rw [this, if_pos (show xs.length < 2 ∨ 8 < xs.length from .inl h1)]; rfl
    · have d1 : decide (lenI xs < 2) = false := decide_eq_false (by rw [lenI_eq]; omega)
      by_cases h2 : 8 < xs.length
      · have : decide (lenI xs > 8) = true := decide_eq_true (by rw [lenI_eq]; omega)
        rw [d1, this, if_pos (show xs.length < 2 ∨ 8 < xs.length from .inr h2)]; rfl
      · have d2 : decide (lenI xs > 8) = false := decide_eq_false (by rw [lenI_eq]; omega)
        have hn : ¬ (xs.length < 2 ∨ 8 < xs.length) := by omega
        have hm : Nat.ble (8 * (3 : Int).toNat) maxBytes = true := rfl
        have h3 : (3 : Int).toNat = 3 := rfl
        rw [d1, d2, if_neg hn]
        simp only [cond_false, Option.bind_some, if_true, show (0 : Int) ≤ 3 from by omega, chk, hm, cond_true]
        have e1 : l_spec_ContractFault_2 FU xs ((0 : Int), (List.replicate (3 : Int).toNat (0 : Int))) = (fstI (legStep xs) 0 xs).elim (some (Sum.inl (sums3 xs))) (fun r => some (Sum.inr r)) := by
          unfold l_spec_ContractFault_2
          refine (lp_fstS xs (fun i l => (legStep xs i l).map (Sum.inr (α := List Int))) (fun i => ((i : Int), sums3 (xs.take i))) (some (Sum.inl (sums3 xs))) (fun i => ∀ l ∈ xs.take i, legC l = 0) (by unfold B36; omega) (fun l h => by cases h) (fun i hi hall => ⟨fun rec => ?_, fun hq l hl => ?_⟩) (fun _ rec => ?_)).trans ?_
          · have hw := wrap_next hi (Nat.le_trans (Nat.le_of_not_lt h2) (by omega))
            simp only [lt_lenI hi, cond_true, geti_lt xs i hi, Option.bind_some, t_spec_LegFault, legStep, hw]
            cases hc : legC xs[i] == 0 with
            | false => rfl
            | true =>
              simp only [Bool.not_true, cond_false, cond_true, t_spec_CF_1 xs i hi (Nat.le_of_not_lt h2) xs[i], Option.bind_some]
              cases (xs.take i).any fun o => sameP o xs[i] with
              | true => rfl
              | false =>
                simp only [cond_false, Sum.elim_inl]
                have hz := legC_zero (by simpa using hc : legC xs[i] = 0)
                obtain ⟨a, ha⟩ : ∃ a : Nat, xs[i].2.2.1 = (a : Int) := ⟨xs[i].2.2.1.toNat, by omega⟩
                have ha3 : a < 3 := by have := hz.2.2.1; omega
                have hb := sumA_bnd (xs.take i) a (fun l hl => (legC_zero (hall l hl)).2.2.2.1)
                have hlt : (xs.take i).length ≤ 7 := by rw [List.length_take]; omega
                obtain ⟨s1, s2⟩ := sums3_set (xs.take i) xs[i] a ha3 ha (by have := hz.2.2.2.1; omega)
                have hg : geti (sums3 (xs.take i)) (a : Int) = some (sumA (xs.take i) a) := by rw [geti_nat, s1]
                rw [List.take_succ_eq_append_getElem hi, ← s2]
                simp only [ha, hg, Option.bind_some, Int.toNat_natCast, s1, Sum.elim_inl, Option.map_none, Option.elim_none]
          · rw [List.take_succ_eq_append_getElem hi] at hl
            rcases List.mem_append.1 hl with hl | hl
            · exact hall l hl
            · rw [List.mem_singleton] at hl
              subst hl
              cases hs : legStep xs i xs[i] with
              | some r => rw [hs] at hq; cases hq
              | none =>
                unfold legStep at hs
                cases hc : legC xs[i] == 0 with
                | true => simpa using hc
                | false => rw [hc] at hs; cases hs
          · simp only [ge_lenI, cond_false, List.take_length]
          · rw [fstI_map]
            cases fstI (legStep xs) 0 xs <;> rfl
        rw [e1]
        cases fstI (legStep xs) 0 xs with
        | some r => rfl
        | none =>
          simp only [Option.elim_none, Option.bind_some, Sum.elim_inl]
          unfold l_spec_ContractFault_3
          refine (lp_hit (sums3 xs) (fun a => !(a == 0)) (some (1 : Int)) (some 0) (by simp [sums3, B36]) (fun j hj rec hw => ?_) (fun rec => ?_)).trans ?_
          · simp only [lt_lenI hj, cond_true, geti_lt _ j hj, Option.bind_some, Int.toNat_natCast, List.getElem?_eq_getElem hj, hw]
          · simp only [ge_lenI, cond_false]
          · unfold sums3
            simp only [List.any_cons, List.any_nil, Bool.or_false]
            by_cases q0 : sumA xs 0 = 0 <;> by_cases q1 : sumA xs 1 = 0 <;> by_cases q2 : sumA xs 2 = 0 <;> simp [q0, q1, q2, beq_eq_false_iff_ne.2]

theorem src_up {p q : Int} {s : List Int × Int} (h : Src p s) (hpq : p ≤ q) : Src q s := ⟨h.1, h.2.1, h.2.2.1, Int.le_trans h.2.2.2 hpq⟩
def pairL : List LegT := [((0 : Int), ((0 : Int), ((0 : Int), (-5 : Int)))), ((1 : Int), ((0 : Int), ((0 : Int), (5 : Int))))]
theorem con_pair {id : Int} (h : idB id = true) : conC (id, pairL) = 0 := by
  have e1 : fstI (legStep pairL) 0 pairL = none := by decide
  have e2 : sumA pairL 0 = 0 ∧ sumA pairL 1 = 0 ∧ sumA pairL 2 = 0 := by decide
  unfold conC
  show cond (!(idB id)) 3 (if pairL.length < 2 ∨ 8 < pairL.length then 2 else match fstI (legStep pairL) 0 pairL with | some r => r | none => if sumA pairL 0 = 0 ∧ sumA pairL 1 = 0 ∧ sumA pairL 2 = 0 then 0 else 1) = 0
  rw [h, if_neg (by decide), e1]
  simp only [if_pos e2]
  rfl
theorem t_spec_l1Draw (s : List Int × Int) (id p : Int) (hs : Src p s) (hp : p ≤ 100000) (hid : idB id = true) : ∃ c s', m_spec_l1Draw (s, id) = some (c, s') ∧ conC c = 0 ∧ c.1 = id ∧ Src (p + 20) s' := by
  show ∃ c s', p_spec_l1Draw FU _ = some (c, s') ∧ _
  unfold p_spec_l1Draw
  obtain ⟨v, e1, s1, _, hv⟩ := t_spec_l1Next s 2 p hs (by omega) (by omega)
  have hv := hv (by omega)
  obtain ⟨k, rfl⟩ := Int.eq_ofNat_of_zero_le hv.1
  have w1 : IntKind.wrap .i64 ((1 : Int) + (k : Int)) = ((k + 1 : Nat) : Int) := by rw [wrap64 (by omega) (by omega)]; omega
  simp only [e1, Option.bind_some, w1]
  have loop : ∃ s' c, l_spec_l1Draw_1 FU id (((k + 1 : Nat) : Int), ((s.1, s.2 + 1), (id, []))) = some (s', c) ∧ Src (p + 20) s' ∧ c.1 = id ∧ (c.2 = [] ∨ conC c = 0) := by
    unfold l_spec_l1Draw_1
    refine lp_for (fun r => ∃ s' c, r = some (s', c) ∧ Src (p + 20) s' ∧ c.1 = id ∧ (c.2 = [] ∨ conC c = 0)) (fun i z => z.1 = ((k + 1 : Nat) : Int) - (i : Int) ∧ Src (p + 1 + 6 * (i : Int)) z.2.1 ∧ z.2.2.1 = id ∧ (z.2.2.2 = [] ∨ conC z.2.2 = 0)) (k + 1) (fun i z hi hz => ?_) (fun z hz rec => ?_) FU _ (FUb (by unfold B36; omega)) ⟨by simp, by simpa using s1, rfl, .inl rfl⟩
    · obtain ⟨kk, s', id', legs⟩ := z
      obtain ⟨rfl, hs', rfl, hl⟩ := hz
      simp only at hs' hl
      have hd : decide ((((k + 1 : Nat) : Int) - (i : Int)) > (0 : Int)) = true := decide_eq_true (by omega)
      have wk : IntKind.wrap .i64 ((((k + 1 : Nat) : Int) - (i : Int)) - (1 : Int)) = ((k + 1 : Nat) : Int) - ((i + 1 : Nat) : Int) := by rw [wrap64 (by omega) (by omega)]; omega
      obtain ⟨a1, q1, t1, _, b1⟩ := t_spec_l1Next s' 3 _ hs' (by omega) (by omega)
      obtain ⟨a2, q2, t2, _, b2⟩ := t_spec_l1Next (s'.1, s'.2 + 1) 40 _ t1 (by omega) (by omega)
      obtain ⟨a3, q3, t3, _, _⟩ := t_spec_l1Next (s'.1, s'.2 + 1 + 1) 3 _ t2 (by omega) (by omega)
      obtain ⟨a4, q4, t4, _, _⟩ := t_spec_l1Next (s'.1, s'.2 + 1 + 1 + 1) 4 _ t3 (by omega) (by omega)
      obtain ⟨a5, q5, t5, _, _⟩ := t_spec_l1Next (s'.1, s'.2 + 1 + 1 + 1 + 1) 3 _ t4 (by omega) (by omega)
      obtain ⟨a6, q6, t6, _, _⟩ := t_spec_l1Next (s'.1, s'.2 + 1 + 1 + 1 + 1 + 1) 4 _ t5 (by omega) (by omega)
      have hll : legs.length ≤ 8 := by
        rcases hl with rfl | hl
        · simp
        · exact (conC_zero hl).2.1
      have m1 : Nat.ble (legs.length * 32) maxBytes = true := ble_mem (by simp only [maxBytes]; omega)
      generalize hA : ((a3, (a4, (a1, IntKind.wrap .i64 (-(IntKind.wrap .i64 ((1 : Int) + a2)))))) : Int × (Int × (Int × Int))) = A
      generalize hB : ((a5, (a6, (a1, IntKind.wrap .i64 ((1 : Int) + a2)))) : Int × (Int × (Int × Int))) = B
      have m2 : Nat.ble ((legs.length + [A, B].length) * 32) maxBytes = true := ble_mem (by simp only [maxBytes, List.length_cons, List.length_nil]; omega)
      have hcf := t_spec_ContractFault (id', legs ++ [A, B]) (by simp; omega)
      have s6 : Src (p + 1 + 6 * ((i + 1 : Nat) : Int)) (s'.1, s'.2 + 1 + 1 + 1 + 1 + 1 + 1) := src_up t6 (by omega)
      cases hc : (conC (id', legs ++ [A, B]) == 0) with
      | true =>
        refine .inr ⟨(((k + 1 : Nat) : Int) - ((i + 1 : Nat) : Int), ((s'.1, s'.2 + 1 + 1 + 1 + 1 + 1 + 1), (id', legs ++ [A, B]))), ⟨rfl, s6, rfl, .inr (eq_of_beq hc)⟩, fun rec => ?_⟩
        simp only [hd, cond_true, q1, q2, q3, q4, q5, q6, Option.bind_some, hA, hB, chk_true, m1, m2, hcf, hc, wk, dup_eq, same_self]
      | false =>
        refine .inr ⟨(((k + 1 : Nat) : Int) - ((i + 1 : Nat) : Int), ((s'.1, s'.2 + 1 + 1 + 1 + 1 + 1 + 1), (id', legs))), ⟨rfl, s6, rfl, hl⟩, fun rec => ?_⟩
        simp only [hd, cond_true, q1, q2, q3, q4, q5, q6, Option.bind_some, hA, hB, chk_true, m1, m2, hcf, hc, wk, dup_eq, same_self, cond_false]
    · obtain ⟨kk, s', c⟩ := z
      obtain ⟨rfl, hs', hid', hl⟩ := hz
      have hd : decide ((((k + 1 : Nat) : Int) - ((k + 1 : Nat) : Int)) > (0 : Int)) = false := decide_eq_false (by omega)
      simp only [hd, cond_false]
      exact ⟨s', c, rfl, src_up hs' (by omega), hid', hl⟩
  obtain ⟨s', c, e2, hs', hid', hl⟩ := loop
  rw [e2]
  simp only [Option.bind_some]
  cases hc : (lenI c.2 == 0) with
  | true =>
    refine ⟨_, _, rfl, ?_, hid', hs'⟩
    exact con_pair (by rw [hid']; exact hid)
  | false =>
    refine ⟨_, _, rfl, ?_, hid', hs'⟩
    rcases hl with hl | hl
    · rw [hl] at hc; cases hc
    · exact hl

theorem t_spec_DrawRightContract (x : List Int) (id : Int) (hl : x.length ≤ 1048576) (hb : ∀ b ∈ x, 0 ≤ b ∧ b ≤ 255) (hid : idB id = true) : ∃ c, m_spec_DrawRightContract (x, id) = some c ∧ conC c = 0 ∧ c.1 = id := by
  show ∃ c, p_spec_DrawRightContract FU _ = some c ∧ _
  unfold p_spec_DrawRightContract
  have m1 : Nat.ble (([IntKind.wrap .u8 id].length + x.length) * 1) maxBytes = true := ble_mem (by simp only [maxBytes, List.length_cons, List.length_nil]; omega)
  have hw : 0 ≤ IntKind.wrap .u8 id ∧ IntKind.wrap .u8 id ≤ 255 := by
    simp only [IntKind.wrap, IntKind.signed, IntKind.bits]
    have : (0 : Int) ≤ id % 256 ∧ id % 256 < 256 := ⟨Int.emod_nonneg _ (by omega), Int.emod_lt_of_pos _ (by omega)⟩
    simp
    omega
  obtain ⟨c, s', e, h1, h2, _⟩ := t_spec_l1Draw ([IntKind.wrap .u8 id] ++ x, 0) id 0 ⟨by simp; omega, fun b hbm => by
    rcases List.mem_append.1 hbm with hbm | hbm
    · rw [List.mem_singleton.1 hbm]; exact hw
    · exact hb b hbm, Int.le_refl _, Int.le_refl _⟩ (by omega) hid
  simp only [chk_true, m1, e, Option.bind_some]
  exact ⟨c, rfl, h1, h2⟩

theorem t_impl_within (a b c : Int) : m_impl_within (a, b, c) = some (inB a b c) := by
  show p_impl_within FU _ = _
  unfold p_impl_within inB
  by_cases h : b ≤ a <;> simp [h]

theorem t_impl_isId (a : Int) : m_impl_isId a = some (idB a) := by
  show p_impl_isId FU _ = _
  unfold p_impl_isId idB
  rw [t_impl_within]; rfl

theorem t_impl_size_impl_Leg (xs : List LegT) : m_impl_size_impl_Leg xs = some (lenI xs) := rfl

theorem t_impl_isShard (a : Int) : m_impl_isShard a = some (shB a) := by
  show p_impl_isShard FU _ = _
  unfold p_impl_isShard shB
  rw [t_impl_within]; rfl

theorem t_impl_isAsset (a : Int) : m_impl_isAsset a = some (inB a 0 2) := by
  show p_impl_isAsset FU _ = _
  unfold p_impl_isAsset
  simp only [t_impl_within, Option.bind_some]

theorem t_impl_isPlace (a b : Int) : m_impl_isPlace (a, b) = some (plB a b) := by
  show p_impl_isPlace FU _ = _
  unfold p_impl_isPlace plB
  simp only [t_impl_within, t_impl_isAsset, Option.bind_some]
  cases inB a 0 5 <;> rfl

theorem t_impl_LegFault (l : LegT) : m_impl_LegFault l = some (legC l) := by
  show p_impl_LegFault FU _ = _
  unfold p_impl_LegFault legC
  simp only [t_impl_isShard, t_impl_isPlace, t_impl_within, Option.bind_some]
  unfold shB
  cases inB l.1 0 2 with
  | false => rfl
  | true =>
    cases plB l.2.1 l.2.2.1 with
    | false => rfl
    | true =>
      cases inB l.2.2.2 (-1000000000000) 1000000000000 with
      | false => rfl
      | true => cases h : (l.2.2.2 == 0) <;> simp [h]

theorem t_impl_samePlace (a b : LegT) : m_impl_samePlace (a, b) = some (sameP a b) := by
  show p_impl_samePlace FU _ = _
  unfold p_impl_samePlace sameP
  simp only
  cases (a.1 == b.1) with
  | false => rfl
  | true => cases (a.2.1 == b.2.1) <;> rfl

def mapA : List LegT → List (Int × Int) := fun xs => xs.foldl (fun m l => mupd (.int .i64) m l.2.2.1 (mlook (.int .i64) m l.2.2.1 + l.2.2.2)) []
theorem mapA_snoc (xs : List LegT) (l : LegT) : mapA (xs ++ [l]) = mupd (.int .i64) (mapA xs) l.2.2.1 (mlook (.int .i64) (mapA xs) l.2.2.1 + l.2.2.2) := by
  unfold mapA; rw [List.foldl_append]; rfl
theorem mapA_ok : ∀ (n : Nat) (xs : List LegT), xs.length = n → ((mapA xs).map (·.1)).Nodup ∧ (∀ a, mlook (.int .i64) (mapA xs) a = sumA xs a) ∧ ∀ a, a ∈ (mapA xs).map (·.1) → ∃ l ∈ xs, l.2.2.1 = a
  | 0, xs, h => by
    have : xs = [] := List.length_eq_zero_iff.1 h
    subst this
    exact ⟨List.nodup_nil, fun a => rfl, fun a h => by cases h⟩
  | n + 1, xs, h => by
    obtain ⟨ys, l, rfl⟩ : ∃ ys l, xs = ys ++ [l] := ⟨xs.dropLast, xs.getLast (by intro e; rw [e] at h; cases h), (List.dropLast_concat_getLast _).symm⟩
    obtain ⟨h1, h2, h3⟩ := mapA_ok n ys (by simpa using h)
    rw [mapA_snoc]
    obtain ⟨k1, k2⟩ := mupd_keys (mapA ys) l.2.2.1 (mlook (.int .i64) (mapA ys) l.2.2.1 + l.2.2.2) h1
    refine ⟨k1, fun a => ?_, fun a ha => ?_⟩
    · rw [mlook_upd, h2, h2, sumA_snoc]
      by_cases e : a = l.2.2.1
      · subst e
        simp
      · have e1 : (a == l.2.2.1) = false := by simpa using e
        have e2 : (l.2.2.1 == a) = false := by rw [beq_eq_false_iff_ne]; exact fun h => e h.symm
        rw [e1, e2]; simp
    · rcases (k2 a).1 ha with q | q
      · obtain ⟨x, hx, e⟩ := h3 a q
        exact ⟨x, List.mem_append_left _ hx, e⟩
      · exact ⟨l, by simp, q.symm⟩
theorem mapA_len (xs : List LegT) : (mapA xs).length ≤ xs.length := by
  have key : ∀ (ys : List LegT) (m : List (Int × Int)), (ys.foldl (fun m l => mupd (.int .i64) m l.2.2.1 (mlook (.int .i64) m l.2.2.1 + l.2.2.2)) m).length ≤ m.length + ys.length := by
    intro ys
    induction ys with
    | nil => intro m; simp
    | cons y ys ih =>
      intro m
      rw [List.foldl_cons]
      have h1 := ih (mupd (.int .i64) m y.2.2.1 (mlook (.int .i64) m y.2.2.1 + y.2.2.2))
      have h2 : (mupd (.int .i64) m y.2.2.1 (mlook (.int .i64) m y.2.2.1 + y.2.2.2)).length ≤ m.length + 1 := by
        unfold mupd
        split
        · unfold mset; rw [List.length_modify]; omega
        · rw [List.length_append, List.length_singleton]; omega
      rw [List.length_cons]; omega
  simpa [mapA] using key xs []
theorem t_impl_CF_1 (xs : List LegT) (i : Nat) (hi : i < xs.length) (hl : xs.length ≤ 8) (l : LegT) : ∃ j : Int, l_impl_ContractFault_1 FU (i : Int) xs l (0 : Int) = some j ∧ decide (j ≥ 0) = (xs.take i).any fun o => sameP o l := by
  have hcut : cutL none (some (i : Int)) xs = xs.take i := by simp [cutL]
  have e : l_impl_ContractFault_1 FU (i : Int) xs l (0 : Int) = ((xs.take i).findIdx? fun o => sameP o l).elim (some (-1)) (fun j => some (j : Int)) := by
    unfold l_impl_ContractFault_1
    rw [hcut]
    have hlen : (xs.take i).length ≤ 8 := by rw [List.length_take]; omega
    refine (lp_place (xs.take i) (fun o => sameP o l) (fun j => some (j : Int)) (some (-1 : Int)) (by unfold B36; omega) (fun j hj rec hw => ?_) (fun rec => ?_)).trans ?_
    · simp only [lt_lenI hj, cond_true, geti_lt _ j hj, Option.bind_some, t_impl_samePlace, hw]
    · simp only [ge_lenI, cond_false]
    · cases (xs.take i).findIdx? fun o => sameP o l <;> rfl
  cases hf : (xs.take i).findIdx? fun o => sameP o l with
  | none =>
    refine ⟨-1, by rw [e, hf]; rfl, ?_⟩
    have : (xs.take i).any (fun o => sameP o l) = false := by
      rw [List.findIdx?_eq_none_iff] at hf
      rw [List.any_eq_false]
      intro s hs
      simpa using hf s hs
    rw [this]; rfl
  | some j =>
    refine ⟨(j : Int), by rw [e, hf]; rfl, ?_⟩
    have : (xs.take i).any (fun o => sameP o l) = true := by
      rw [List.findIdx?_eq_some_iff_getElem] at hf
      obtain ⟨h, h1, _⟩ := hf
      rw [List.any_eq_true]
      exact ⟨_, List.getElem_mem h, h1⟩
    rw [this]
    exact decide_eq_true (by omega)
theorem t_impl_ContractFault (c : ConT) (hl : c.2.length ≤ 1048576) : m_impl_ContractFault c = some (conC c) := by
  obtain ⟨id, xs⟩ := c
  show p_impl_ContractFault FU _ = _
  unfold p_impl_ContractFault conC
  simp only [t_impl_isId, t_impl_size_impl_Leg, t_impl_within, Option.bind_some]
  cases idB id with
  | false => rfl
  | true =>
    simp only [Bool.not_true, cond_false]
    by_cases hn : xs.length < 2 ∨ 8 < xs.length
    · have : inB (lenI xs) 2 8 = false := by
        unfold inB; rw [lenI_eq]
        rcases hn with h | h
        · rw [decide_eq_false (show ¬ (2 : Int) ≤ (xs.length : Int) by omega)]; rfl
        · rw [decide_eq_false (show ¬ (xs.length : Int) ≤ 8 by omega), Bool.and_false]
      simp only [this, Bool.not_false, cond_true, if_pos hn]
    · have : inB (lenI xs) 2 8 = true := by
        unfold inB; rw [lenI_eq, decide_eq_true (show (2 : Int) ≤ (xs.length : Int) by omega), decide_eq_true (show (xs.length : Int) ≤ 8 by omega)]; rfl
      simp only [this, Bool.not_true, cond_false, if_neg hn]
      have h8 : xs.length ≤ 8 := by omega
      have e1 : l_impl_ContractFault_2 FU xs ((0 : Int), ([] : List (Int × Int))) = (fstI (legStep xs) 0 xs).elim (some (Sum.inl (mapA xs))) (fun r => some (Sum.inr r)) := by
        unfold l_impl_ContractFault_2
        refine (lp_fstS xs (fun i l => (legStep xs i l).map (Sum.inr (α := List (Int × Int)))) (fun i => ((i : Int), mapA (xs.take i))) (some (Sum.inl (mapA xs))) (fun i => ∀ l ∈ xs.take i, legC l = 0) (by unfold B36; omega) (fun l h => by cases h) (fun i hi hall => ⟨fun rec => ?_, fun hq l hl => ?_⟩) (fun _ rec => ?_)).trans ?_
        · have hw := wrap_next hi (Nat.le_trans h8 (by omega))
          have hbd : bndB none (some (i : Int)) none xs.length = true := by simp [bndB]; omega
          obtain ⟨j, ej, hj⟩ := t_impl_CF_1 xs i hi h8 xs[i]
          simp only [lt_lenI hi, cond_true, geti_lt xs i hi, Option.bind_some, t_impl_LegFault, legStep, hw]
          cases hc : legC xs[i] == 0 with
          | false => rfl
          | true =>
            simp only [Bool.not_true, cond_false, cond_true, chk, hbd, ej, Option.bind_some, hj]
            cases (xs.take i).any fun o => sameP o xs[i] with
            | true => rfl
            | false =>
              have hz := legC_zero (by simpa using hc : legC xs[i] = 0)
              have hb := sumA_bnd (xs.take i) xs[i].2.2.1 (fun l hl => (legC_zero (hall l hl)).2.2.2.1)
              have hlt : (xs.take i).length ≤ 7 := by rw [List.length_take]; omega
              have hm := (mapA_ok _ (xs.take i) rfl).2.1 xs[i].2.2.1
              have hwr : IntKind.wrap .i64 (mlook (.int .i64) (mapA (xs.take i)) xs[i].2.2.1 + xs[i].2.2.2) = mlook (.int .i64) (mapA (xs.take i)) xs[i].2.2.1 + xs[i].2.2.2 := by
                rw [hm]
                have := hz.2.2.2.1
                exact wrap64 (by omega) (by omega)
              rw [List.take_succ_eq_append_getElem hi, mapA_snoc]
              simp only [cond_false, hwr, Option.map_none, Option.elim_none]
        · rw [List.take_succ_eq_append_getElem hi] at hl
          rcases List.mem_append.1 hl with hl | hl
          · exact hall l hl
          · rw [List.mem_singleton] at hl
            subst hl
            cases hs : legStep xs i xs[i] with
            | some r => rw [hs] at hq; cases hq
            | none =>
              unfold legStep at hs
              cases hc : legC xs[i] == 0 with
              | true => simpa using hc
              | false => rw [hc] at hs; cases hs
        · simp only [ge_lenI, cond_false, List.take_length]
        · rw [fstI_map]
          cases fstI (legStep xs) 0 xs <;> rfl
      rw [e1]
      cases hf : fstI (legStep xs) 0 xs with
      | some r => rfl
      | none =>
        have hall := fst_ok xs 0 hf
        obtain ⟨k1, k2, k3⟩ := mapA_ok _ xs rfl
        have hml := mapA_len xs
        simp only [Option.elim_none, Option.bind_some, Sum.elim_inl]
        have e2 : l_impl_ContractFault_3 FU (mapA xs) (lenI (mapA xs), ([] : List Int)) = some (cond ((mapA xs).any fun p => !(p.2 == 0)) 1 0) := by
          unfold l_impl_ContractFault_3
          refine draw_any (m := mapA xs) (fun p => !(p.2 == 0)) 1 0 (by unfold B36; omega) (fun rec seen => ?_)
          have hlc : (((mapA xs).length : Int) == lenI (mapA xs)) = true := by rw [lenI_eq]; simp
          simp only [chk, hlc, cond_true, List.getLast?_concat, Option.bind_some]
          congr 1
          funext j
          cases geti (mapA xs) j <;> rfl
        rw [e2]
        have : ((mapA xs).any fun p => !(p.2 == 0)) = !decide (sumA xs 0 = 0 ∧ sumA xs 1 = 0 ∧ sumA xs 2 = 0) := by
          rw [Bool.eq_iff_iff]
          simp only [List.any_eq_true, Bool.not_eq_true', beq_eq_false_iff_ne, decide_eq_false_iff_not]
          constructor
          · rintro ⟨p, hp, hne⟩ ⟨q0, q1, q2⟩
            have hlk := mlook_mem (mapA xs) k1 p hp
            rw [k2] at hlk
            obtain ⟨l, hl, ha⟩ := k3 p.1 (List.mem_map.2 ⟨p, hp, rfl⟩)
            have hz := (legC_zero (hall l hl)).2.2.1
            rcases (by omega : p.1 = 0 ∨ p.1 = 1 ∨ p.1 = 2) with e | e | e
            · rw [e] at hlk; omega
            · rw [e] at hlk; omega
            · rw [e] at hlk; omega
          · intro hne
            have : ∃ a, sumA xs a ≠ 0 := by
              by_cases q0 : sumA xs 0 = 0
              · by_cases q1 : sumA xs 1 = 0
                · by_cases q2 : sumA xs 2 = 0
                  · exact absurd ⟨q0, q1, q2⟩ hne
                  · exact ⟨2, q2⟩
                · exact ⟨1, q1⟩
              · exact ⟨0, q0⟩
            obtain ⟨a, ha⟩ := this
            have hk : a ∈ (mapA xs).map (·.1) := by
              by_cases h : a ∈ (mapA xs).map (·.1)
              · exact h
              · have := mlook_none (mapA xs) a h
                rw [k2] at this
                exact absurd this ha
            obtain ⟨p, hp, e⟩ := List.mem_map.1 hk
            refine ⟨p, hp, ?_⟩
            have hlk := mlook_mem (mapA xs) k1 p hp
            rw [k2, e] at hlk
            rw [← hlk]; exact ha
        rw [this]
        by_cases q : sumA xs 0 = 0 ∧ sumA xs 1 = 0 ∧ sumA xs 2 = 0
        · rw [if_pos q, decide_eq_true q]; rfl
        · rw [if_neg q, decide_eq_false q]; rfl

theorem t_slices_Sort_int64_int64 (xs : List Int) (h : xs.length ≤ 1048576) : m_slices_Sort_int64_int64 xs = some (sortI xs) := by
  show sortIRun xs = _
  unfold sortIRun
  rw [if_pos (by omega)]

theorem t_slices_Compact_int64_int64 (x : List Int) (hl : x.length ≤ 1048576) : m_slices_Compact_int64_int64 x = some (dd x, true) := by
  show p_slices_Compact_int64_int64 FU x = _
  unfold p_slices_Compact_int64_int64
  by_cases h2 : x.length < 2
  · have : decide (lenI x < 2) = true := decide_eq_true (by rw [lenI_eq]; omega)
    rw [this, cond_true, dd_same x (fun i hi => by omega)]
  · have : decide (lenI x < 2) = false := decide_eq_false (by rw [lenI_eq]; omega)
    rw [this, cond_false]
    unfold l_slices_Compact_int64_int64_2
    refine lp_for (fun r => r = some (dd x, true)) (fun i z => z = ((i + 1 : Nat) : Int) ∧ ∀ (j : Nat) (h : j + 1 < i + 1) (h' : j + 1 < x.length), (x[j + 1] == x[j]) = false) (x.length - 1) (fun i z hi hz => ?_) (fun z hz rec => ?_) FU _ (FU_gt (by omega)) ⟨rfl, fun j hj => by omega⟩
    · obtain ⟨rfl, hz⟩ := hz
      have hi1 : i + 1 < x.length := by omega
      have wp : IntKind.wrap .i64 (((i + 1 : Nat) : Int) - 1) = ((i : Nat) : Int) := by rw [wrap64 (by omega) (by omega)]; omega
      have wn : IntKind.wrap .i64 (((i + 1 : Nat) : Int) + 1) = ((i + 1 + 1 : Nat) : Int) := by rw [wrap64 (by omega) (by omega)]; omega
      cases hq : x[i + 1] == x[i] with
      | false =>
        refine .inr ⟨((i + 1 + 1 : Nat) : Int), ⟨rfl, fun j hj h' => ?_⟩, fun rec => ?_⟩
        · rcases Nat.lt_or_ge (j + 1) (i + 1) with q | q
          · exact hz j q h'
          · have : j = i := by omega
            subst this; exact hq
        · simp only [lt_lenI hi1, cond_true, geti_lt x (i + 1) hi1, wp, geti_lt x i (by omega), Int.toNat_natCast, List.getElem?_eq_getElem hi1, List.getElem?_eq_getElem (show i < x.length by omega), Option.bind_some, hq, cond_false, Sum.elim_inl, wn]
      | true =>
        obtain ⟨w, cur, e1, e2, e3, e4⟩ := compact1 (fun a b : Int => a == b) (fun _ _ => rfl) x hl (i + 1) (by omega) hi1 (fun j h => hz j h (by omega)) hq
        have e1' : l_slices_Compact_int64_int64_1 FU x ((i + 1 : Nat) : Int) (((i + 1 : Nat) : Int), (1 : Int), x) = some (((w : Nat) : Int), cur) := e1
        refine .inl fun rec => ?_
        have b1 : bndB (some ((i + 1 : Nat) : Int)) none none x.length = true := by simp [bndB]; omega
        have b2 : bndB (some ((w : Nat) : Int)) none none cur.length = true := by simp [bndB]; omega
        have hlen : (cur.take w ++ List.replicate (cur.length - w) (0 : Int) ++ cur.drop (w + (cur.length - w))).length = cur.length := by simp; omega
        have b3 : bndB none (some ((w : Nat) : Int)) none (cur.take w ++ List.replicate (cur.length - w) (0 : Int) ++ cur.drop (w + (cur.length - w))).length = true := by rw [hlen]; simp [bndB]; omega
        have ht : (cur.take w ++ List.replicate (cur.length - w) (0 : Int) ++ cur.drop (w + (cur.length - w))).take w = dd x := by
          rw [List.append_assoc, List.take_append_of_le_length (by rw [List.length_take]; omega), List.take_take, Nat.min_self, e4]
        simp only [lt_lenI hi1, cond_true, geti_lt x (i + 1) hi1, wp, geti_lt x i (by omega), Int.toNat_natCast, List.getElem?_eq_getElem hi1, List.getElem?_eq_getElem (show i < x.length by omega), Option.bind_some, hq, chk, b1, e1', b2, b3, ht, Sum.elim_inr]
    · obtain ⟨rfl, hz⟩ := hz
      have : decide (((x.length - 1 + 1 : Nat) : Int) < lenI x) = false := decide_eq_false (by rw [lenI_eq]; omega)
      simp only [this, cond_false]
      rw [dd_same x (fun i hi => hz i (by omega) hi)]

theorem t_impl_shardsOf (c : ConT) (hl : c.2.length ≤ 1048576) : m_impl_shardsOf c = some (shardsL c.2) := by
  show p_impl_shardsOf FU _ = _
  unfold p_impl_shardsOf
  have e1 : l_impl_shardsOf_1 FU c.2 (([] : List Int), (0 : Int)) = some (c.2.map (·.1)) := by
    unfold l_impl_shardsOf_1
    exact grow_loop 8 (by omega) c.2 (fun y => some y.1) (·.1) (fun x _ => rfl) hl
  have h1 : (sortI (c.2.map (·.1))).length ≤ 1048576 := by rw [(sortI_perm _).length_eq, List.length_map]; exact hl
  simp only [e1, Option.bind_some, t_slices_Sort_int64_int64 _ (show (c.2.map (·.1)).length ≤ 1048576 by rw [List.length_map]; exact hl), t_slices_Compact_int64_int64 _ h1]
  rw [shardsL_eq]

theorem t_impl_ShardsOf (c : ConT) (h : conC c = 0) : m_impl_ShardsOf c = some (0, shardsL c.2) := by
  show p_impl_ShardsOf FU _ = _
  unfold p_impl_ShardsOf
  have hl := (conC_zero h).2.1
  simp only [t_impl_ContractFault c (by omega), h, Option.bind_some, t_impl_shardsOf c (by omega), beq_self_eq_true, Bool.not_true, cond_false]

theorem tmod_rng {a m : Int} (ha : 0 ≤ a) (hm : 0 < m) : 0 ≤ Int.tmod a m ∧ Int.tmod a m < m := ⟨Int.tmod_nonneg m ha, Int.tmod_lt_of_pos a hm⟩
/-- A number drawn from the code: in its range. -/
theorem t_laws_lwAt (x : List Int) (k m : Int) (hl : x.length ≤ 1048576) (hb : ∀ b ∈ x, 0 ≤ b ∧ b ≤ 255) (hk0 : 0 ≤ k) (hk : k ≤ 1000000) (hm1 : 1 < m) (hm : m ≤ 200) : ∃ r, m_laws_lwAt (x, k, m) = some r ∧ 0 ≤ r ∧ r < m := by
  show ∃ r, p_laws_lwAt FU _ = some r ∧ _
  unfold p_laws_lwAt
  have d1 : decide (m ≤ (1 : Int)) = false := decide_eq_false (by omega)
  have d2 : (m == 0) = false := by rw [beq_eq_false_iff_ne]; omega
  have d3 : decide (m > (200 : Int)) = false := decide_eq_false (by omega)
  simp only [d1, cond_false, d2, d3]
  by_cases h0 : x.length = 0
  · have e : (lenI x == (0 : Int)) = true := by rw [lenI_eq, h0]; rfl
    simp only [e, cond_true]
    have w : IntKind.wrap .i64 (k * (7 : Int)) = k * 7 := wrap64 (by omega) (by omega)
    rw [w]
    exact ⟨_, rfl, tmod_rng (by omega) (by omega)⟩
  · have e : (lenI x == (0 : Int)) = false := by rw [lenI_eq, beq_eq_false_iff_ne]; omega
    simp only [e, cond_false]
    have hr := tmod_rng (a := k) (m := (x.length : Int)) hk0 (by omega)
    obtain ⟨j, hj⟩ := Int.eq_ofNat_of_zero_le hr.1
    have hjl : j < x.length := by omega
    have hx := hb _ (List.getElem_mem hjl)
    rw [show lenI x = (x.length : Int) from lenI_eq x, hj, geti_lt x j hjl]
    simp only [Option.bind_some]
    have hq0 : 0 ≤ Int.tdiv k (x.length : Int) := Int.tdiv_nonneg hk0 (by omega)
    have hq1 : Int.tdiv k (x.length : Int) ≤ k := Int.tdiv_le_self _ hk0
    rw [wrap64 (show (-9223372036854775808 : Int) ≤ x[j] by omega) (by omega), wrap64 (show (-9223372036854775808 : Int) ≤ Int.tdiv k (x.length : Int) by omega) (by omega), wrap64 (show (-9223372036854775808 : Int) ≤ Int.tdiv k (x.length : Int) * 3 by omega) (by omega), wrap64 (by omega) (by omega)]
    exact ⟨_, rfl, tmod_rng (by omega) (by omega)⟩

theorem upI_snoc {rs : List Int} {y : Int} (h : upI rs) (hy : ∀ z ∈ rs, z < y) : upI (rs ++ [y]) := by
  intro i hi
  simp only [List.length_append, List.length_cons, List.length_nil] at hi
  rcases Nat.lt_or_ge (i + 1) rs.length with h1 | h1
  · rw [List.getElem_append_left h1, List.getElem_append_left (show i < rs.length by omega)]
    exact h i h1
  · rw [List.getElem_append_left (show i < rs.length by omega), List.getElem_append_right h1]
    simp only [List.getElem_singleton]
    exact hy _ (List.getElem_mem _)
theorem t_laws_lwReached (x : List Int) (k : Int) (N : Nat) (hl : x.length ≤ 1048576) (hb : ∀ b ∈ x, 0 ≤ b ∧ b ≤ 255) (hk0 : 0 ≤ k) (hk : k ≤ 1000) (hN : N ≤ 5) : ∃ rs, m_laws_lwReached (x, k, (N : Int)) = some rs ∧ upI rs ∧ (∀ y ∈ rs, 0 ≤ y ∧ y < (N : Int)) ∧ rs.length ≤ N := by
  show ∃ rs, p_laws_lwReached FU _ = some rs ∧ _
  unfold p_laws_lwReached l_laws_lwReached_1
  simp only
  refine lp_for (fun r => ∃ rs, r = some rs ∧ upI rs ∧ (∀ y ∈ rs, 0 ≤ y ∧ y < (N : Int)) ∧ rs.length ≤ N) (fun i z => ∃ rs, z = (rs, (i : Int)) ∧ upI rs ∧ (∀ y ∈ rs, 0 ≤ y ∧ y < (i : Int)) ∧ rs.length ≤ i) N (fun i z hi hz => ?_) (fun z hz rec => ?_) FU _ (FUb (by unfold B36; omega)) ⟨[], rfl, (fun i hi => by simp at hi), (fun y hy => by cases hy), Nat.le_refl _⟩
  · obtain ⟨rs, rfl, h1, h2, h3⟩ := hz
    have hw : IntKind.wrap .i64 ((i : Int) + 1) = ((i + 1 : Nat) : Int) := by rw [wrap64 (by omega) (by omega)]; omega
    have hw1 : IntKind.wrap .i64 (k * (7 : Int)) = k * 7 := wrap64 (by omega) (by omega)
    have hw2 : IntKind.wrap .i64 (k * 7 + (i : Int)) = k * 7 + (i : Int) := wrap64 (by omega) (by omega)
    have hd : decide ((i : Int) < (N : Int)) = true := decide_eq_true (by omega)
    obtain ⟨r, e, _, _⟩ := t_laws_lwAt x (k * 7 + (i : Int)) 3 hl hb (by omega) (by omega) (by omega) (by omega)
    have hc : Nat.ble ((rs.length + [((i : Nat) : Int)].length) * 8) maxBytes = true := by rw [Nat.ble_eq]; simp only [List.length_cons, List.length_nil, maxBytes]; omega
    cases hr : decide (r > (0 : Int)) with
    | true =>
      refine .inr ⟨_, ⟨rs ++ [(i : Int)], rfl, upI_snoc h1 (fun z hz => (h2 z hz).2), fun y hy => ?_, by simp; omega⟩, fun rec => ?_⟩
      · rcases List.mem_append.1 hy with hy | hy
        · have := h2 y hy; omega
        · rw [List.mem_singleton.1 hy]; omega
      · simp only [hd, cond_true, hw1, hw2, e, Option.bind_some, hr, chk, hc, hw]
    | false =>
      refine .inr ⟨_, ⟨rs, rfl, h1, fun y hy => by have := h2 y hy; omega, by omega⟩, fun rec => ?_⟩
      simp only [hd, cond_true, hw1, hw2, e, Option.bind_some, hr, cond_false, hw]
  · obtain ⟨rs, rfl, h1, h2, h3⟩ := hz
    have hd : decide ((N : Int) < (N : Int)) = false := decide_eq_false (by omega)
    simp only [hd, cond_false]
    exact ⟨rs, rfl, h1, h2, h3⟩

theorem t_impl_isBallot (a : Int) : m_impl_isBallot a = some (bal a) := by
  show p_impl_isBallot FU _ = _
  unfold p_impl_isBallot bal
  rw [t_impl_within]; rfl

theorem t_impl_isValue (a : Int) : m_impl_isValue a = some (vlu a) := by
  show p_impl_isValue FU _ = _
  unfold p_impl_isValue vlu
  cases h : (a == (1 : Int)) <;> simp

theorem t_impl_isVote (a : Int × Int) : m_impl_isVote a = some (votB a) := by
  show p_impl_isVote FU _ = _
  unfold p_impl_isVote votB
  rw [t_impl_isBallot, t_impl_isValue]
  cases bal a.1 <;> rfl

theorem t_impl_castFault (xs : List (Int × Int)) (h : xs.length ≤ 60) : m_impl_castFault xs = some (castGo none xs) := by
  show p_impl_castFault FU _ = _
  unfold p_impl_castFault l_impl_castFault_1
  rw [← cast_all]
  refine (lp_fst xs (castF xs) (some 0) (by unfold B36; omega) (fun i hi rec hw => ?_) (fun rec => ?_)).trans (by cases fstI (castF xs) 0 xs <;> rfl)
  · simp only [lt_lenI hi, cond_true, geti_lt xs i hi, Option.bind_some, t_impl_isVote, castF, hw]
    cases votB xs[i] with
    | false => rfl
    | true =>
      simp only [Bool.not_true, cond_false]
      by_cases h0 : 0 < i
      · have hd : decide ((i : Int) > 0) = true := by simp; omega
        have hp := prv (i := i) (by unfold B36; omega) h0
        have hi1 : i - 1 < xs.length := by omega
        simp only [hd, cond_true, hp, geti_lt xs _ hi1, Option.bind_some, h0, decide_true, Bool.true_and, List.getElem?_eq_getElem hi1, Option.getD_some, badP]
        cases decide (xs[i].1 < xs[i - 1].1) <;> cases (xs[i].1 == xs[i - 1].1) <;> cases (xs[i].2 == xs[i - 1].2) <;> rfl
      · have hd : decide ((i : Int) > 0) = false := by simp; omega
        simp only [hd, cond_false, Option.bind_some, h0, decide_false, Bool.false_and, cond_false]
  · simp only [ge_lenI, cond_false]

theorem t_impl_noVote : m_impl_noVote () = some (-1, 0) := rfl

theorem t_impl_lastCast (xs : List (Int × Int)) (h : xs.length ≤ 60) : m_impl_lastCast xs = some (lastV xs) := by
  show p_impl_lastCast FU _ = _
  unfold p_impl_lastCast lastV
  by_cases h0 : xs.length = 0
  · have : xs = [] := List.eq_nil_of_length_eq_zero h0
    subst this
    rfl
  · have h1 : (lenI xs == 0) = false := by rw [lenI_eq, beq_eq_false_iff_ne]; omega
    have h2 : IntKind.wrap .i64 (lenI xs - 1) = ((xs.length - 1 : Nat) : Int) := by rw [lenI_eq, wrap64 (by omega) (by omega)]; omega
    have hlt : xs.length - 1 < xs.length := by omega
    simp only [h1, cond_false, h2, geti_lt xs _ hlt, Option.bind_some]
    rw [List.getLast?_eq_getElem?, List.getElem?_eq_getElem hlt]
    rfl

theorem t_impl_SlotFault (x : SlotT) : m_impl_SlotFault x = some (slotCode x) := by
  obtain ⟨a, b, c, d, xs⟩ := x
  show p_impl_SlotFault FU _ = _
  unfold p_impl_SlotFault slotCode
  simp only [t_impl_isId, t_impl_isShard, t_impl_within, Option.bind_some]
  have e0 : (cond (!idB a) (some true) (cond (!shB b) (some true) (some (!inB c (-1) 1000)))) = some (!(idB a && (shB b && inB c (-1) 1000))) := by
    cases idB a <;> cases shB b <;> rfl
  rw [e0]
  simp only [Option.bind_some]
  cases (idB a && (shB b && inB c (-1) 1000)) with
  | false => rfl
  | true =>
    simp only [Bool.not_true, cond_false]
    by_cases hl : xs.length > 60
    · have : decide (lenI xs > 60) = true := by simp [lenI_eq]; omega
      simp [this, hl]
    · have : decide (lenI xs > 60) = false := by simp [lenI_eq]; omega
      simp only [this, cond_false, if_neg hl, t_impl_castFault xs (by omega), t_impl_lastCast xs (by omega), Option.bind_some]
      by_cases hc : castGo none xs = 0
      · obtain ⟨d1, d2⟩ := d
        have e2 : (!((d1 == (lastV xs).1) && ((d2 == (lastV xs).2) && true))) = !((d1, d2) == lastV xs) := by
          rw [Bool.and_true]; rfl
        simp only [hc, e2]
        cases ((d1, d2) == lastV xs) with
        | false => simp
        | true => by_cases hh : d1 > c <;> simp [hh]
      · have hb : (castGo none xs == 0) = false := by rw [beq_eq_false_iff_ne]; exact hc
        simp [hc, hb]

theorem t_cmp_Compare_int64 (a b : Int) : m_cmp_Compare_int64 (a, b) = some (if a < b then -1 else if a > b then 1 else 0) := by
  show p_cmp_Compare_int64 FU _ = _
  unfold p_cmp_Compare_int64
  have e : ∀ a : Int, m_cmp_isNaN_int64 a = some false := fun a => by
    show p_cmp_isNaN_int64 FU a = _
    unfold p_cmp_isNaN_int64
    simp
  simp only [e, Option.bind_some, cond_false]
  by_cases h1 : a < b
  · simp [h1]
  · by_cases h2 : a > b <;> simp [h1, h2]

theorem t_cmp_Or_int (a b : Int) : m_cmp_Or_int [a, b] = some (if a = 0 then b else a) := by
  show p_cmp_Or_int FU _ = _
  unfold p_cmp_Or_int l_cmp_Or_int_1
  obtain ⟨m, hm⟩ : ∃ m, FU = m + 1 + 1 + 1 := ⟨18446744073709551613, rfl⟩
  rw [hm]
  have w1 : IntKind.wrap .i64 1 = 1 := rfl
  have w2 : IntKind.wrap .i64 2 = 2 := rfl
  by_cases h1 : a = 0
  · by_cases h2 : b = 0
    · simp [lp, geti, lenI, h1, h2, w1, w2]
    · have hb : (b == 0) = false := by simp [h2]
      simp [lp, geti, lenI, h1, hb, w1, w2]
  · have hb : (a == 0) = false := by simp [h1]
    simp [lp, geti, lenI, h1, hb]

theorem t_impl_compareSlots (a b : SlotT) : m_impl_compareSlots (a, b) = some (cmpS a b) := by
  show p_impl_compareSlots FU _ = _
  unfold p_impl_compareSlots cmpS
  simp only [t_cmp_Compare_int64, t_cmp_Or_int, Option.bind_some]

theorem t_impl_AcceptorFault (xs : List SlotT) : m_impl_AcceptorFault xs = some (accCode xs) := by
  show p_impl_AcceptorFault FU xs = _
  unfold p_impl_AcceptorFault accCode
  by_cases hl : xs.length > 60
  · have : decide (lenI xs > 60) = true := by simp [lenI_eq]; omega
    rw [this, if_pos hl]; rfl
  · have : decide (lenI xs > 60) = false := by simp [lenI_eq]; omega
    rw [this, if_neg hl, cond_false]
    unfold l_impl_AcceptorFault_1
    refine (lp_fst xs (accStep xs) (some 0) (by unfold B36; omega) (fun i hi rec hw => ?_) (fun rec => ?_)).trans (by cases fstI (accStep xs) 0 xs <;> rfl)
    · simp only [lt_lenI hi, cond_true, geti_lt xs i hi, Option.bind_some, t_impl_SlotFault, accStep, hw]
      cases (slotCode xs[i] == 0) with
      | false => rfl
      | true =>
        simp only [Bool.not_true, cond_false]
        by_cases h0 : 0 < i
        · have hd : decide ((i : Int) > 0) = true := by simp; omega
          have hi1 : i - 1 < xs.length := by omega
          simp only [hd, cond_true, prv (i := i) (by unfold B36; omega) h0, geti_lt xs _ hi1, Option.bind_some, t_impl_compareSlots, cmpS_ahead, h0, decide_true, Bool.true_and, List.getElem?_eq_getElem hi1, Option.getD_some]
          cases aheadB xs[i - 1] xs[i] <;> rfl
        · have hd : decide ((i : Int) > 0) = false := by simp; omega
          simp only [hd, cond_false, Option.bind_some, h0, decide_false, Bool.false_and]
    · simp only [ge_lenI, cond_false]

theorem t_impl_listFault (xs : List (List SlotT)) (hl : xs.length ≤ 1048576) : m_impl_listFault xs = some (accsCode xs) := by
  show p_impl_listFault FU xs = _
  unfold p_impl_listFault accsCode
  have e0 : m_impl_size_impl_Acceptor xs = some (lenI xs) := rfl
  rw [e0]
  simp only [Option.bind_some, t_impl_within, inB]
  by_cases h1 : xs.length < 1
  · have : decide ((1 : Int) ≤ lenI xs) = false := decide_eq_false (by rw [lenI_eq]; omega)
    rw [this, if_pos (.inl h1)]; rfl
  · have e1 : decide ((1 : Int) ≤ lenI xs) = true := decide_eq_true (by rw [lenI_eq]; omega)
    by_cases h2 : xs.length > 5
    · have : decide (lenI xs ≤ 5) = false := decide_eq_false (by rw [lenI_eq]; omega)
      rw [e1, this, if_pos (.inr h2)]; rfl
    · have : decide (lenI xs ≤ 5) = true := decide_eq_true (by rw [lenI_eq]; omega)
      rw [e1, this, if_neg (by omega)]
      simp only [Bool.and_self, Bool.not_true, cond_false]
      unfold l_impl_listFault_1
      refine (lp_fst xs (fun _ y => accsF y) (some 0) (by unfold B36; omega) (fun i hi rec hw => ?_) (fun rec => ?_)).trans (by cases fstI (fun _ y => accsF y) 0 xs <;> rfl)
      · simp only [lt_lenI hi, cond_true, geti_lt xs i hi, Option.bind_some, t_impl_AcceptorFault, accsF, hw]
        cases (accCode xs[i] == 0) <;> rfl
      · simp only [ge_lenI, cond_false]

theorem t_impl_newSlot (a b : Int) : m_impl_newSlot (a, b) = some (a, (b, (-1, ((-1, 0), [])))) := by
  show p_impl_newSlot FU _ = _
  unfold p_impl_newSlot
  simp only [t_impl_noVote, Option.bind_some]

theorem t_impl_NewSlot (a b : Int) : m_impl_NewSlot (a, b) = some (newR a b) := by
  show p_impl_NewSlot FU _ = _
  unfold p_impl_NewSlot newR
  simp only [t_impl_isId, t_impl_isShard, t_impl_newSlot, Option.bind_some]
  cases idB a <;> cases shB b <;> rfl

theorem t_impl_firstOf (a b : Int) : m_impl_firstOf [a, b] = some (if a = 0 then b else a) := by
  show p_impl_firstOf FU _ = _
  unfold p_impl_firstOf l_impl_firstOf_1
  obtain ⟨m, hm⟩ : ∃ m, FU = m + 1 + 1 + 1 := ⟨18446744073709551613, rfl⟩
  rw [hm]
  have w1 : IntKind.wrap .i64 1 = 1 := rfl
  have w2 : IntKind.wrap .i64 2 = 2 := rfl
  by_cases h1 : a = 0
  · by_cases h2 : b = 0
    · simp [lp, geti, lenI, h1, h2, w1, w2]
    · have hb : (b == 0) = false := by simp [h2]
      simp [lp, geti, lenI, h1, hb, w1, w2]
  · have hb : (a == 0) = false := by simp [h1]
    simp [lp, geti, lenI, h1, hb]
theorem t_impl_firstOf3 (a b c : Int) : m_impl_firstOf [a, b, c] = some (if a = 0 then (if b = 0 then c else b) else a) := by
  show p_impl_firstOf FU _ = _
  unfold p_impl_firstOf l_impl_firstOf_1
  obtain ⟨m, hm⟩ : ∃ m, FU = m + 1 + 1 + 1 + 1 := ⟨18446744073709551612, rfl⟩
  rw [hm]
  have w1 : IntKind.wrap .i64 1 = 1 := rfl
  have w2 : IntKind.wrap .i64 2 = 2 := rfl
  have w3 : IntKind.wrap .i64 3 = 3 := rfl
  by_cases h1 : a = 0
  · by_cases h2 : b = 0
    · by_cases h3 : c = 0
      · simp [lp, geti, lenI, h1, h2, h3, w1, w2, w3]
      · have hb : (c == 0) = false := by simp [h3]
        simp [lp, geti, lenI, h1, h2, hb, w1, w2, w3]
    · have hb : (b == 0) = false := by simp [h2]
      simp [lp, geti, lenI, h1, h2, hb, w1, w2]
  · have hb : (a == 0) = false := by simp [h1]
    simp [lp, geti, lenI, h1, hb]

theorem t_impl_reachedFault (rs : List Int) (N : Nat) (hl : rs.length ≤ 1048576) (hN : N ≤ 1048576) : m_impl_reachedFault (rs, (N : Int)) = some (reachC N rs) := by
  show p_impl_reachedFault FU _ = _
  unfold p_impl_reachedFault
  simp only
  have hw : IntKind.wrap .i64 ((N : Int) - (1 : Int)) = (N : Int) - 1 := wrap64 (by omega) (by omega)
  have e1 : l_impl_reachedFault_1 FU rs (N : Int) (0 : Int) = match rs.findIdx? (fun y => !(inB y 0 ((N : Int) - 1))) with
      | some i => some (i : Int)
      | none => some (-1) := by
    unfold l_impl_reachedFault_1
    refine lp_place rs (fun y => !(inB y 0 ((N : Int) - 1))) (fun i => some (i : Int)) (some (-1 : Int)) (by unfold B36; omega) (fun i hi rec hw2 => ?_) (fun rec => ?_)
    · simp only [lt_lenI hi, cond_true, geti_lt rs i hi, Option.bind_some, hw, t_impl_within, hw2]
    · simp only [ge_lenI, cond_false]
  have e2 : l_impl_reachedFault_2 FU rs (1 : Int) = cond (adjB rs) (some 7) (some 0) := by
    unfold l_impl_reachedFault_2
    refine lp_adj rs (some 7) (some 0) (by unfold B36; omega) (fun i hi rec => ?_) (fun n rec hn => ?_)
    · have w1 : IntKind.wrap .i64 (((i + 1 : Nat) : Int) - (1 : Int)) = ((i : Nat) : Int) := by rw [wrap64 (by omega) (by omega)]; omega
      have w2 : IntKind.wrap .i64 (((i + 1 : Nat) : Int) + (1 : Int)) = ((i + 1 + 1 : Nat) : Int) := by rw [wrap64 (by omega) (by omega)]; omega
      simp only [lt_lenI hi, cond_true, w1, w2, geti_lt rs i (by omega), geti_lt rs (i + 1) hi, Option.bind_some]
    · have hd : decide ((n : Int) < lenI rs) = false := decide_eq_false (by rw [lenI_eq]; omega)
      simp only [hd, cond_false]
  rw [e1, e2, reachC_eq]
  cases hf : rs.findIdx? (fun y => !(inB y 0 ((N : Int) - 1))) with
  | none =>
    have : rs.any (fun y => !(inB y 0 ((N : Int) - 1))) = false := by
      rw [List.findIdx?_eq_none_iff] at hf
      rw [List.any_eq_false]
      intro y hy
      simpa using hf y hy
    rw [this]
    have hd : decide ((-1 : Int) ≥ 0) = false := by decide
    simp only [Option.bind_some, hd, cond_false]
    cases adjB rs <;> rfl
  | some i =>
    have : rs.any (fun y => !(inB y 0 ((N : Int) - 1))) = true := by
      obtain ⟨h, h1, _⟩ := List.findIdx?_eq_some_iff_getElem.1 hf
      rw [List.any_eq_true]
      exact ⟨_, List.getElem_mem h, h1⟩
    rw [this]
    have hd : decide ((i : Int) ≥ 0) = true := decide_eq_true (by omega)
    simp only [Option.bind_some, hd, cond_true]

theorem t_slices_Clone_impl_Vote_impl_Vote (xs : List (Int × Int)) (h : xs.length ≤ 1048576) : m_slices_Clone_impl_Vote_impl_Vote xs = some xs := by
  show p_slices_Clone_impl_Vote_impl_Vote FU _ = _
  unfold p_slices_Clone_impl_Vote_impl_Vote
  have hb : Nat.ble ((([] : List (Int × Int)).length + xs.length) * 16) maxBytes = true := ble_mem (by simp only [List.length_nil, maxBytes]; omega)
  rw [chk_true hb]
  exact clone_same xs _ rfl

theorem t_impl_copySlot (x : SlotT) (h : x.2.2.2.2.length ≤ 1048576) : m_impl_copySlot x = some x := by
  show p_impl_copySlot FU _ = _
  unfold p_impl_copySlot
  rw [t_slices_Clone_impl_Vote_impl_Vote _ h]
  rfl

theorem t_impl_copyAcceptor (xs : List SlotT) (hl : xs.length ≤ 1048576) (hc : ∀ x ∈ xs, x.2.2.2.2.length ≤ 1048576) : m_impl_copyAcceptor xs = some xs := by
  show p_impl_copyAcceptor FU _ = _
  unfold p_impl_copyAcceptor l_impl_copyAcceptor_1
  refine (grow_loop2 64 (by omega) xs m_impl_copySlot id (fun x hx => t_impl_copySlot x (hc x hx)) hl).trans ?_
  rw [List.map_id]

theorem t_impl_copyAcceptors (xs : List (List SlotT)) (hl : xs.length ≤ 1048576) (h : ∀ x ∈ xs, accCode x = 0) : m_impl_copyAcceptors xs = some xs := by
  show p_impl_copyAcceptors FU _ = _
  unfold p_impl_copyAcceptors l_impl_copyAcceptors_1
  have hc : ∀ x ∈ xs, m_impl_copyAcceptor x = some (id x) := fun x hx => by
    have hz := accCode_zero (h x hx)
    exact t_impl_copyAcceptor x (by have := hz.1; omega) (fun y hy => by have := (slotCode_zero (hz.2.1 y hy)).2.1; omega)
  refine (grow_loop 24 (by omega) xs m_impl_copyAcceptor id hc hl).trans ?_
  rw [List.map_id]

/-- The place of a slot, and whether it is there. -/
theorem t_impl_Acceptor_slotAt (xs : List SlotT) (c d : Int) (hl : xs.length ≤ 1048576) (h : ∀ i (hi : i + 1 < xs.length), aheadB xs[i] xs[i + 1] = true) :
    ∃ j : Nat, j ≤ xs.length ∧ m_impl_Acceptor_slotAt (xs, c, d) = some ((j : Int), (xs.find? (isSlot c d)).isSome) ∧ ((xs.find? (isSlot c d)).isSome = true → xs[j]? = xs.find? (isSlot c d)) ∧ (∀ i (hi : i < xs.length), i < j → cmpS xs[i] (keyS c d) < 0) ∧ (∀ i (hi : i < xs.length), j ≤ i → ¬ cmpS xs[i] (keyS c d) < 0) := by
  have hlt := acc_lt h
  let p : Nat → Bool := fun i => match xs[i]? with | some x => decide (cmpS x (keyS c d) < 0) | none => false
  have hp : ∀ i (hi : i < xs.length), p i = decide (cmpS xs[i] (keyS c d) < 0) := fun i hi => by simp only [p, List.getElem?_eq_getElem hi]
  have hmono : ∀ i j, i ≤ j → j < xs.length → p j = true → p i = true := by
    intro i j hij hj hpj
    rcases Nat.lt_or_ge i j with h' | h'
    · rw [hp i (by omega)]
      rw [hp j hj] at hpj
      have h1 := of_decide_eq_true hpj
      have h2 := hlt i j h' hj
      exact decide_eq_true ((ahead_iff _ _).1 (ahead_trans h2 ((ahead_iff _ _).2 h1)))
    · have : i = j := by omega
      subst this; exact hpj
  show ∃ j : Nat, j ≤ xs.length ∧ p_impl_Acceptor_slotAt FU _ = _ ∧ _
  unfold p_impl_Acceptor_slotAt l_impl_Acceptor_slotAt_1
  simp only
  obtain ⟨j, hj, e, hj1, hj2⟩ := bs_loop xs.length (by unfold B36; omega) p hmono (step := fun rec13 (z12 : (Int × Int)) =>
     (cond (decide (z12.1 < z12.2))
      (chk (decide (0 ≤ (1 : Int)))
       ((geti xs (IntKind.wrap .i64 (Int.fdiv (IntKind.wrap .u64 (IntKind.wrap .i64 (z12.1 + z12.2))) (2 ^ (min (1 : Int).toNat 64))))).bind fun y14 =>
       ((m_impl_compareSlots (y14, (c, (d, ((0 : Int), (((0 : Int), (0 : Int)), [])))))).bind fun r15 =>
       (cond (decide (r15 < (0 : Int)))
        (rec13 (IntKind.wrap .i64 ((IntKind.wrap .i64 (Int.fdiv (IntKind.wrap .u64 (IntKind.wrap .i64 (z12.1 + z12.2))) (2 ^ (min (1 : Int).toNat 64)))) + (1 : Int)), z12.2))
        (rec13 (z12.1, IntKind.wrap .i64 (Int.fdiv (IntKind.wrap .u64 (IntKind.wrap .i64 (z12.1 + z12.2))) (2 ^ (min (1 : Int).toNat 64)))))))))
      (some z12.1)))
    (fun a b rec hab hb => by
      have hm : (a + b) / 2 < xs.length := by omega
      have hd : decide ((a : Int) < (b : Int)) = true := decide_eq_true (by omega)
      simp only [hd, cond_true, mid_eq (show a ≤ B36 by unfold B36; omega) (show b ≤ B36 by unfold B36; omega), geti_lt xs _ hm, Option.bind_some, t_impl_compareSlots, nxt (show (a + b) / 2 ≤ B36 by unfold B36; omega), hp _ hm]
      rfl)
    (fun a rec => by
      have hd : decide ((a : Int) < (a : Int)) = false := decide_eq_false (by omega)
      simp only [hd, cond_false])
  have e' : lenI xs = ((xs.length : Nat) : Int) := rfl
  rw [e', e]
  simp only [Option.bind_some]
  have hlo : ∀ i (hi : i < xs.length), i < j → cmpS xs[i] (keyS c d) < 0 := fun i hi hij => of_decide_eq_true ((hp i hi).symm.trans (hj1 i hij))
  have hhi : ∀ i (hi : i < xs.length), j ≤ i → ¬ cmpS xs[i] (keyS c d) < 0 := fun i hi hij => of_decide_eq_false ((hp i hi).symm.trans (hj2 i hij hi))
  have hz : ∀ s : SlotT, isSlot c d s = (cmpS s (keyS c d) == 0) := fun s => by
    have h0 := cmpS_zero s (keyS c d)
    unfold isSlot
    rw [Bool.eq_iff_iff, Bool.and_eq_true, beq_iff_eq, beq_iff_eq, beq_iff_eq]
    exact h0.symm
  have hneg : ∀ (i : Nat) (hi : i < xs.length), i < j → isSlot c d xs[i] = false := fun i hi hij => by
    rw [hz, beq_eq_false_iff_ne]
    have := hlo i hi hij
    omega
  refine ⟨j, hj, ?_⟩
  rcases Nat.lt_or_ge j xs.length with hjl | hjl
  · have hd : decide ((j : Int) < (xs.length : Int)) = true := decide_eq_true (by omega)
    rw [hd]
    simp only [cond_true, geti_lt xs j hjl, Option.bind_some, t_impl_compareSlots]
    have hpos : ∀ i (hi : i < xs.length), j < i → isSlot c d xs[i] = false := fun i hi hij => by
      rw [hz, beq_eq_false_iff_ne]
      intro h0
      have h1 := hhi j hjl (Nat.le_refl _)
      have h2 := (ahead_iff _ _).1 (hlt j i hij hi)
      have h3 := (cmpS_zero _ _).1 h0
      have h4 := (cmpS_lt xs[j] xs[i]).1 h2
      have h5 : ¬ (xs[j].1 < (keyS c d).1 ∨ xs[j].1 = (keyS c d).1 ∧ xs[j].2.1 < (keyS c d).2.1) := fun q => h1 ((cmpS_lt xs[j] (keyS c d)).2 q)
      rw [← h3.1, ← h3.2] at h5
      exact h5 h4
    cases hb : isSlot c d xs[j] with
    | true =>
      have hf : xs.find? (isSlot c d) = some xs[j] := by
        rw [List.find?_eq_some_iff_getElem]
        exact ⟨hb, j, hjl, rfl, fun k hk => by rw [hneg k (by omega) hk]; rfl⟩
      rw [hf]
      rw [hz] at hb
      exact ⟨by show some ((j : Int), (cmpS xs[j] (keyS c d) == 0)) = _; rw [hb]; rfl, fun _ => List.getElem?_eq_getElem hjl, hlo, hhi⟩
    | false =>
      have hf : xs.find? (isSlot c d) = none := by
        rw [List.find?_eq_none]
        intro s hs
        obtain ⟨i, hi, rfl⟩ := List.getElem_of_mem hs
        rcases Nat.lt_trichotomy i j with h' | h' | h'
        · rw [hneg i hi h']; decide
        · subst h'; rw [hb]; decide
        · rw [hpos i hi h']; decide
      rw [hf]
      rw [hz] at hb
      exact ⟨by show some ((j : Int), (cmpS xs[j] (keyS c d) == 0)) = _; rw [hb]; rfl, (fun h => by cases h), hlo, hhi⟩
  · have hd : decide ((j : Int) < (xs.length : Int)) = false := decide_eq_false (by omega)
    rw [hd]
    have hf : xs.find? (isSlot c d) = none := by
      rw [List.find?_eq_none]
      intro s hs
      obtain ⟨i, hi, rfl⟩ := List.getElem_of_mem hs
      rw [hneg i hi (by omega)]; decide
    rw [hf]
    exact ⟨rfl, (fun h => by cases h), hlo, hhi⟩

theorem t_impl_Acceptor_slot (xs : List SlotT) (c d : Int) (hl : xs.length ≤ 1048576) (hc : ∀ x ∈ xs, x.2.2.2.2.length ≤ 1048576) (h : ∀ i (hi : i + 1 < xs.length), aheadB xs[i] xs[i + 1] = true) : m_impl_Acceptor_slot (xs, c, d) = some (slotOf xs c d) := by
  obtain ⟨j, hj, e, h1, _⟩ := t_impl_Acceptor_slotAt xs c d hl h
  show p_impl_Acceptor_slot FU _ = _
  unfold p_impl_Acceptor_slot slotOf
  simp only [e, Option.bind_some]
  cases hf : xs.find? (isSlot c d) with
  | none =>
    simp only [Option.isSome_none, Bool.not_false, cond_true, t_impl_newSlot, Option.bind_some, Option.getD_none, newS]
  | some s =>
    rw [hf] at h1
    have hs := List.mem_of_find?_eq_some hf
    simp only [Option.isSome_some, Bool.not_true, cond_false, geti_nat, h1 rfl, Option.bind_some, t_impl_copySlot s (hc s hs), Option.getD_some]

theorem t_impl_PromiseSlot (s : SlotT) (b : Int) : m_impl_PromiseSlot (s, b) = some (promR s b) := by
  show p_impl_PromiseSlot FU _ = _
  unfold p_impl_PromiseSlot promR
  simp only [t_impl_SlotFault, t_impl_isBallot, Option.bind_some]
  cases h : (slotCode s == 0) with
  | false => rfl
  | true =>
    have hl := (slotCode_zero (by simpa using h)).2.1
    cases bal b with
    | false => rfl
    | true =>
      cases decide (b < s.2.2.1) with
      | true => rfl
      | false =>
        simp only [Bool.not_true, cond_false, t_impl_copySlot s (by omega), Option.bind_some]

theorem t_slices_Insert_impl_Slot_impl_Slot (xs : List SlotT) (j : Nat) (s : SlotT) (hj : j ≤ xs.length) (hl : xs.length ≤ 1000) : m_slices_Insert_impl_Slot_impl_Slot (xs, (j : Int), [s]) = some (xs.take j ++ [s] ++ xs.drop j, (true, true)) := by
  have h1 : (decide ((0 : Int) ≤ (j : Int)) && decide ((j : Int) ≤ (xs.length : Int)) && Nat.beq [s].length 1 && Nat.ble ((xs.length + 1) * 64) 140737488355328) = true := by
    have : Nat.ble ((xs.length + 1) * 64) 140737488355328 = true := by rw [Nat.ble_eq]; omega
    rw [this]; simp [hj]
  show (insRun 64 (xs, (j : Int), [s])).map _ = _
  unfold insRun
  simp only [h1, cond_true, Option.map_some, Int.toNat_natCast]

theorem t_impl_Acceptor_promise (xs : List SlotT) (c d : Int) (b : Int) (hl : xs.length ≤ 60) (hc : ∀ x ∈ xs, x.2.2.2.2.length ≤ 1048576) (h : ∀ i (hi : i + 1 < xs.length), aheadB xs[i] xs[i + 1] = true) : m_impl_Acceptor_promise (xs, c, d, b) = some (toldR xs (promR (slotOf xs c d) b)) := by
  show p_impl_Acceptor_promise FU _ = _
  unfold p_impl_Acceptor_promise toldR
  simp only [t_impl_Acceptor_slot xs c d (by omega) hc h, t_impl_PromiseSlot, Option.bind_some]
  cases h0 : ((promR (slotOf xs c d) b).1 == 0) with
  | false => rfl
  | true =>
    have hk := promR_key (slotOf xs c d) b (eq_of_beq h0)
    have hk2 := slotOf_key xs c d
    obtain ⟨j, hj, e, h1, h2, h3⟩ := t_impl_Acceptor_slotAt xs c d (by omega) h
    obtain ⟨p1, p2⟩ := place_found (hk.1.trans hk2.1) (hk.2.trans hk2.2) hj h1 h2 h3
    simp only [Bool.not_true, cond_false, t_impl_copyAcceptor xs (by omega) hc, Option.bind_some, e]
    unfold putS
    rw [p1, p2]
    cases hf : (xs.find? (isSlot c d)).isSome with
    | true =>
      have hjl : j < xs.length := by
        by_cases hjl : j < xs.length
        · exact hjl
        · have h4 := h1 hf
          rw [List.getElem?_eq_none (by omega)] at h4
          rw [← h4] at hf; cases hf
      simp only [cond_true, geti_lt xs j hjl, Option.bind_some, Int.toNat_natCast, List.getElem?_eq_getElem hjl, Option.elim]
    | false =>
      simp only [cond_false]
      by_cases h6 : xs.length ≥ 60
      · have h7 : (lenI xs == (60 : Int)) = true := by rw [lenI_eq, beq_iff_eq]; omega
        simp only [h7, decide_eq_true h6, cond_true, Option.elim, Option.bind_some]
        rfl
      · have h7 : (lenI xs == (60 : Int)) = false := by rw [lenI_eq, beq_eq_false_iff_ne]; omega
        simp only [h7, decide_eq_false h6, cond_false, t_slices_Insert_impl_Slot_impl_Slot xs j _ hj (by omega), Option.bind_some, Option.elim]

theorem t_impl_quorum (n : Nat) (hn : n ≤ B36) : m_impl_quorum (n : Int) = some ((quo n : Nat) : Int) := by
  show p_impl_quorum FU _ = _
  unfold p_impl_quorum quo
  unfold B36 at hn
  have e1 : ((2 : Int) == 0) = false := rfl
  rw [e1, cond_false, Int.tdiv_eq_ediv_of_nonneg (by omega), wrap64 (n := (n : Int) / 2) (by omega) (by omega), wrap64 (by omega) (by omega)]
  rfl

theorem t_impl_PickValue_1 (v : Int × Int) : m_impl_PickValue_1 v = some (badV v) := by
  show p_impl_PickValue_1 FU v = _
  unfold p_impl_PickValue_1 badV
  show (cond (!(v.1 == -1 && (v.2 == 0 && true))) ((m_impl_isVote v).bind fun r2 => some (!r2)) (some false)) = _
  rw [t_impl_isVote]
  cases (v.1 == -1 && (v.2 == 0 && true)) <;> rfl

theorem t_impl_PickValue (xs : List (Int × Int)) (own : Int) : m_impl_PickValue (xs, own) = some (pickV xs own) := by
  show p_impl_PickValue FU _ = _
  unfold p_impl_PickValue pickV
  by_cases hl : xs.length > 9
  · have : decide (lenI xs > 9) = true := by simp [lenI_eq]; omega
    simp only [this, cond_true, if_pos hl]
  · have : decide (lenI xs > 9) = false := by simp [lenI_eq]; omega
    simp only [this, cond_false, if_neg hl]
    have e1 : l_impl_PickValue_1 FU xs 0 = match xs.findIdx? badV with
        | some i => some (i : Int)
        | none => some (-1) := by
      unfold l_impl_PickValue_1
      refine lp_place xs badV (fun i => some (i : Int)) (some (-1)) (by unfold B36; omega) (fun i hi rec hw => ?_) (fun rec => ?_)
      · simp only [lt_lenI hi, cond_true, geti_lt xs i hi, Option.bind_some, t_impl_PickValue_1, hw]
      · simp only [ge_lenI, cond_false]
    have e2 : ∀ s, l_impl_PickValue_2 FU xs ((0 : Int), s) = some ((0 : Int), (xs.foldl bestV s).2) := by
      intro s
      unfold l_impl_PickValue_2
      refine lp_fold xs bestV (fun i s => ((i : Int), s)) (fun s => some ((0 : Int), s.2)) (by unfold B36; omega) (fun i hi s rec hw => ?_) (fun s rec => ?_) s
      · simp only [lt_lenI hi, cond_true, geti_lt xs i hi, Option.bind_some, hw, bestV]
        by_cases hh : xs[i].1 > s.1 <;> simp [hh]
      · simp only [ge_lenI, cond_false]
    rw [e1]
    have e3 : xs.any badV = (xs.findIdx? badV).isSome := by simp
    cases hf : xs.findIdx? badV with
    | some i =>
      rw [e3, hf]
      have : decide ((i : Int) ≥ 0) = true := by simp
      simp only [Option.bind_some, this, cond_true, Option.isSome_some, Bool.true_or, if_true]
    | none =>
      rw [e3, hf]
      have : decide ((-1 : Int) ≥ 0) = false := by decide
      simp only [Option.bind_some, this, cond_false, Option.isSome_none, Bool.false_or, t_impl_isValue]
      cases vlu own with
      | false => simp
      | true => simp [e2]

theorem t_impl_AcceptSlot (s : SlotT) (v : Int × Int) : m_impl_AcceptSlot (s, v) = some (accR s v) := by
  show p_impl_AcceptSlot FU _ = _
  unfold p_impl_AcceptSlot accR
  simp only [t_impl_SlotFault, t_impl_isVote, Option.bind_some]
  cases h : (slotCode s == 0) with
  | false => rfl
  | true =>
    have hl := (slotCode_zero (by simpa using h)).2.1
    have hb : Nat.ble ((s.2.2.2.2.length + [v].length) * 16) maxBytes = true := ble_mem (by simp only [List.length_cons, List.length_nil, maxBytes]; omega)
    have h6 : (lenI s.2.2.2.2 == 60) = decide (s.2.2.2.2.length ≥ 60) := by
      rw [lenI_eq]
      by_cases h7 : s.2.2.2.2.length ≥ 60
      · have : s.2.2.2.2.length = 60 := by omega
        simp [this]
      · have : ¬ (s.2.2.2.2.length : Int) = 60 := by omega
        simp [this, h7]
    simp only [t_impl_copySlot s (by omega), Option.bind_some, Bool.not_true, cond_false, chk_true hb, h6]
    cases votB v with
    | false => rfl
    | true =>
      cases decide (v.1 < s.2.2.1) with
      | true => rfl
      | false =>
        cases (v.1 == s.2.2.2.1.1) <;> cases (v.2 == s.2.2.2.1.2) <;> cases decide (s.2.2.2.2.length ≥ 60) <;> rfl

theorem t_impl_Acceptor_accept (xs : List SlotT) (c d : Int) (b : Int × Int) (hl : xs.length ≤ 60) (hc : ∀ x ∈ xs, x.2.2.2.2.length ≤ 1048576) (h : ∀ i (hi : i + 1 < xs.length), aheadB xs[i] xs[i + 1] = true) : m_impl_Acceptor_accept (xs, c, d, b) = some (toldR xs (accR (slotOf xs c d) b)) := by
  show p_impl_Acceptor_accept FU _ = _
  unfold p_impl_Acceptor_accept toldR
  simp only [t_impl_Acceptor_slot xs c d (by omega) hc h, t_impl_AcceptSlot, Option.bind_some]
  cases h0 : ((accR (slotOf xs c d) b).1 == 0) with
  | false => rfl
  | true =>
    have hk := accR_key (slotOf xs c d) b (eq_of_beq h0)
    have hk2 := slotOf_key xs c d
    obtain ⟨j, hj, e, h1, h2, h3⟩ := t_impl_Acceptor_slotAt xs c d (by omega) h
    obtain ⟨p1, p2⟩ := place_found (hk.1.trans hk2.1) (hk.2.trans hk2.2) hj h1 h2 h3
    simp only [Bool.not_true, cond_false, t_impl_copyAcceptor xs (by omega) hc, Option.bind_some, e]
    unfold putS
    rw [p1, p2]
    cases hf : (xs.find? (isSlot c d)).isSome with
    | true =>
      have hjl : j < xs.length := by
        by_cases hjl : j < xs.length
        · exact hjl
        · have h4 := h1 hf
          rw [List.getElem?_eq_none (by omega)] at h4
          rw [← h4] at hf; cases hf
      simp only [cond_true, geti_lt xs j hjl, Option.bind_some, Int.toNat_natCast, List.getElem?_eq_getElem hjl, Option.elim]
    | false =>
      simp only [cond_false]
      by_cases h6 : xs.length ≥ 60
      · have h7 : (lenI xs == (60 : Int)) = true := by rw [lenI_eq, beq_iff_eq]; omega
        simp only [h7, decide_eq_true h6, cond_true, Option.elim, Option.bind_some]
        rfl
      · have h7 : (lenI xs == (60 : Int)) = false := by rw [lenI_eq, beq_eq_false_iff_ne]; omega
        simp only [h7, decide_eq_false h6, cond_false, t_slices_Insert_impl_Slot_impl_Slot xs j _ hj (by omega), Option.bind_some, Option.elim]

theorem t_impl_RunBallot_p (accs : List (List SlotT)) (rs : List Int) (c d b : Int) (hl : rs.length ≤ 1048576) (hok : AccsOK accs.length accs) (hin : ∀ y ∈ rs, 0 ≤ y ∧ y < (accs.length : Int)) (hnz : (newR c d).1 = 0) :
    l_impl_RunBallot_1 FU rs c d b (([] : List Int), ([] : List (Int × Int)), (0 : Int), accs) = some (promAll accs rs c d b) ∧ PI accs.length rs rs.length (promAll accs rs c d b) := by
  unfold l_impl_RunBallot_1 promAll
  refine lp_foldI rs (promStep c d b) (fun i (st : BSt) => (st.1, st.2.1, (i : Int), st.2.2)) (fun st => some (st.1, st.2.1, st.2.2)) (PI accs.length rs) (by unfold B36; omega) ([], ([], accs)) ⟨hok, Nat.le_refl _, rfl, (fun y hy => by cases hy), fun v hv => by cases hv⟩ (fun i hi st hI => ⟨hI.step hi c d b, fun rec => ?_⟩) (fun st hI rec => ?_)
  · obtain ⟨k, hk⟩ := Int.eq_ofNat_of_zero_le (hin _ (List.getElem_mem hi)).1
    have hk2 := (hin _ (List.getElem_mem hi)).2
    have hkl : k < st.2.2.length := by rw [hI.ok.1]; rw [hk] at hk2; omega
    have hac := hI.ok.2 _ (List.getElem_mem hkl)
    have hw : IntKind.wrap .i64 ((i : Int) + 1) = ((i + 1 : Nat) : Int) := wrap_next hi hl
    have c1 : Nat.ble ((st.1.length + [((k : Nat) : Int)].length) * 8) maxBytes = true := by rw [Nat.ble_eq]; simp only [List.length_cons, List.length_nil, maxBytes]; have := hI.len; omega
    have em : m_impl_Acceptor_promise (st.2.2[k], c, d, b) = some (toldR st.2.2[k] (promR (slotOf st.2.2[k] c d) b)) := by
      have hz := accCode_zero hac
      exact t_impl_Acceptor_promise st.2.2[k] c d b hz.1 (fun y hy => by have := (slotCode_zero (hz.2.1 y hy)).2.1; omega) hz.2.2
    have c2 : Nat.ble ((st.2.1.length + [(toldR st.2.2[k] (promR (slotOf st.2.2[k] c d) b)).2.1].length) * 16) maxBytes = true := by rw [Nat.ble_eq]; simp only [List.length_cons, List.length_nil, maxBytes]; have := hI.len; have := hI.vlen; omega
    unfold promStep
    simp only [lt_lenI hi, cond_true, geti_lt rs i hi, Option.bind_some, hk, geti_lt _ k hkl, Int.toNat_natCast, List.getElem?_eq_getElem hkl, Option.elim, em, hw, chk, c1, c2, dup_eq]
    cases (toldR st.2.2[k] (promR (slotOf st.2.2[k] c d) b)).1 == 0 <;> rfl
  · simp only [ge_lenI, cond_false]
theorem t_impl_RunBallot_v (N : Nat) (ids : List Int) (accs : List (List SlotT)) (c d b v : Int) (hl : ids.length ≤ 1048576) (hok : AccsOK N accs) (hin : ∀ y ∈ ids, 0 ≤ y ∧ y < (N : Int)) (hnz : (newR c d).1 = 0) :
    l_impl_RunBallot_2 FU ids c d b v ((0 : Int), accs) = some ((0 : Int), (v, ids.foldl (voteStep c d (b, v)) accs)) := by
  unfold l_impl_RunBallot_2
  refine (lp_foldI ids (voteStep c d (b, v)) (fun i (s : List (List SlotT)) => ((i : Int), s)) (fun s => some ((0 : Int), (v, s))) (fun _ s => AccsOK N s) (by unfold B36; omega) accs hok (fun i hi s hI => ⟨voteStep_ok hI c d (b, v) _, fun rec => ?_⟩) (fun s hI rec => ?_)).1
  · obtain ⟨k, hk⟩ := Int.eq_ofNat_of_zero_le (hin _ (List.getElem_mem hi)).1
    have hk2 := (hin _ (List.getElem_mem hi)).2
    have hkl : k < s.length := by rw [hI.1]; rw [hk] at hk2; omega
    have hac := hI.2 _ (List.getElem_mem hkl)
    have hw : IntKind.wrap .i64 ((i : Int) + 1) = ((i + 1 : Nat) : Int) := wrap_next hi hl
    have em : m_impl_Acceptor_accept (s[k], c, d, b, v) = some (toldR s[k] (accR (slotOf s[k] c d) (b, v))) := by
      have hz := accCode_zero hac
      exact t_impl_Acceptor_accept s[k] c d (b, v) hz.1 (fun y hy => by have := (slotCode_zero (hz.2.1 y hy)).2.1; omega) hz.2.2
    unfold voteStep
    simp only [lt_lenI hi, cond_true, geti_lt ids i hi, Option.bind_some, Int.toNat_natCast, List.getElem?_eq_getElem hi, hk, geti_lt _ k hkl, List.getElem?_eq_getElem hkl, Option.elim, em, hw, dup_eq]
    cases (toldR s[k] (accR (slotOf s[k] c d) (b, v))).1 == 0 <;> rfl
  · simp only [ge_lenI, cond_false]
theorem t_impl_RunBallot (accs : List (List SlotT)) (rs : List Int) (c d b v : Int) (hA : accs.length ≤ 1048576) (hl : rs.length ≤ 1048576) : m_impl_RunBallot (accs, rs, c, d, b, v) = some (runR accs rs c d b v) := by
  show p_impl_RunBallot FU _ = _
  unfold p_impl_RunBallot runR
  simp only [t_impl_listFault accs hA, t_impl_NewSlot, t_impl_firstOf, Option.bind_some]
  cases h0 : ((if accsCode accs = 0 then (newR c d).1 else accsCode accs) == 0) with
  | false => rfl
  | true =>
    have h0 := eq_of_beq h0
    have ha0 : accsCode accs = 0 := by
      by_cases hz : accsCode accs = 0
      · exact hz
      · rw [if_neg hz] at h0; exact absurd h0 hz
    rw [if_pos ha0] at h0
    have h4 := accsCode_zero ha0
    have hok : AccsOK accs.length accs := ⟨rfl, h4.2⟩
    simp only [Bool.not_true, cond_false, t_impl_isBallot, t_impl_isValue, Option.bind_some]
    cases hb : bal b with
    | false => rfl
    | true =>
      cases hv : vlu v with
      | false => rfl
      | true =>
        have es : m_impl_size_impl_Acceptor accs = some ((accs.length : Nat) : Int) := rfl
        have er := t_impl_reachedFault rs accs.length hl hA
        simp only [Bool.not_true, cond_false, Option.bind_some, Bool.and_self, es, er]
        cases hr : (reachC accs.length rs == 0) with
        | false => rfl
        | true =>
          have hrz := eq_of_beq hr
          obtain ⟨hin, hup⟩ := reach_zero hrz
          have hlen := up_len hup hin
          obtain ⟨e3, hPI⟩ := t_impl_RunBallot_p accs rs c d b hl hok hin h0
          have hq := t_impl_quorum accs.length (by unfold B36; omega)
          have e5 : m_impl_quorum (lenI accs) = some ((quo accs.length : Nat) : Int) := hq
          have hvl : (promAll accs rs c d b).2.1.length ≤ 9 := by have := hPI.len; have := hPI.vlen; have := h4.1; omega
          have e6 := t_impl_PickValue (promAll accs rs c d b).2.1 v
          have ep := pickV_eq (st := promAll accs rs c d b) hvl hPI.vok hv
          have e7 := t_impl_RunBallot_v accs.length (promAll accs rs c d b).1 (promAll accs rs c d b).2.2 c d b (pickOf (promAll accs rs c d b) v) (by have := hPI.len; omega) hPI.ok (fun y hy => hin y (hPI.mem y hy)) h0
          simp only [Bool.not_true, cond_false, Option.bind_some, t_impl_copyAcceptors accs hA h4.2, e3, e5, e6, ep, e7]
          have hd : decide (lenI (promAll accs rs c d b).1 < ((quo accs.length : Nat) : Int)) = decide ((promAll accs rs c d b).1.length < quo accs.length) := by
            rw [lenI_eq]
            by_cases h : (promAll accs rs c d b).1.length < quo accs.length
            · rw [decide_eq_true h, decide_eq_true (by omega)]
            · rw [decide_eq_false h, decide_eq_false (by omega)]
          rw [hd]
          cases decide ((promAll accs rs c d b).1.length < quo accs.length) <;> rfl

theorem t_impl_slotsFor (xs : List (List SlotT)) (c d : Int) (hl : xs.length ≤ 1048576) (h2 : ∀ x ∈ xs, x.length ≤ 1048576) (h3 : ∀ x ∈ xs, ∀ y ∈ x, y.2.2.2.2.length ≤ 1048576) (h : ∀ x ∈ xs, ∀ i (hi : i + 1 < x.length), aheadB x[i] x[i + 1] = true) : m_impl_slotsFor (xs, c, d) = some (xs.map fun x => slotOf x c d) := by
  show p_impl_slotsFor FU _ = _
  unfold p_impl_slotsFor l_impl_slotsFor_1
  exact grow_loop 64 (by omega) xs (fun x => m_impl_Acceptor_slot (x, c, d)) _ (fun x hx => t_impl_Acceptor_slot x c d (h2 x hx) (h3 x hx) (h x hx)) hl

theorem t_impl_size_impl_Slot (xs : List SlotT) : m_impl_size_impl_Slot xs = some (lenI xs) := rfl

theorem t_impl_slotsFault (xs : List SlotT) (hl : xs.length ≤ 1048576) : m_impl_slotsFault xs = some (askCode xs) := by
  show p_impl_slotsFault FU _ = _
  unfold p_impl_slotsFault askCode
  have hB : xs.length ≤ B36 := by unfold B36; omega
  have e1 : l_impl_slotsFault_1 FU xs 0 = match fstI askF 0 xs with
      | some r => some (Sum.inr r)
      | none => some (Sum.inl ()) := by
    unfold l_impl_slotsFault_1
    refine (lp_fst xs (fun i v => (askF i v).map Sum.inr) (some (Sum.inl ())) hB (fun i hi rec hw => ?_) (fun rec => ?_)).trans ?_
    · simp only [lt_lenI hi, cond_true, geti_lt xs i hi, Option.bind_some, t_impl_SlotFault, askF, hw]
      cases slotCode xs[i] == 0 <;> rfl
    · simp only [ge_lenI, cond_false]
    · rw [fstI_map]
      cases fstI askF 0 xs <;> rfl
  rw [e1]
  cases fstI askF 0 xs with
  | some r => rfl
  | none =>
    simp only [Option.bind_some, Sum.elim_inl, t_impl_size_impl_Slot, t_impl_within]
    by_cases hn : xs.length < 1 ∨ 9 < xs.length
    · have : inB (lenI xs) 1 9 = false := by
        unfold inB; rw [lenI_eq]
        rcases hn with h | h
        · have : decide ((1 : Int) ≤ (xs.length : Int)) = false := decide_eq_false (by omega)
          rw [this]; rfl
        · have : decide ((xs.length : Int) ≤ (9 : Int)) = false := decide_eq_false (by omega)
          rw [this, Bool.and_false]
      simp only [this, Bool.not_false, cond_true, if_pos hn]
    · have : inB (lenI xs) 1 9 = true := by
        unfold inB; rw [lenI_eq, decide_eq_true (show (1 : Int) ≤ (xs.length : Int) by omega), decide_eq_true (show (xs.length : Int) ≤ 9 by omega)]; rfl
      simp only [this, Bool.not_true, cond_false, if_neg hn]
      unfold l_impl_slotsFault_2
      have h0 : 0 < xs.length := by omega
      have e2 := lp_place (R := Int) xs (fun s => !(s.1 == (xs[0]?.getD s).1) || !(s.2.1 == (xs[0]?.getD s).2.1)) (fun i => some (i : Int)) (some (-1 : Int)) (step := fun rec44 (z43 : Int) =>
        (cond (decide (z43 < (lenI xs))) ((geti xs z43).bind fun y45 => (Option.bind ((geti xs (0 : Int)).bind fun y48 => (cond (!(y45.1 == y48.1)) (some true) ((geti xs (0 : Int)).bind fun y49 => some (!(y45.2.1 == y49.2.1))))) fun j50 => (cond j50 (some z43) (rec44 (IntKind.wrap .i64 (z43 + (1 : Int))))))) (some (-1 : Int)))) hB (fun i hi rec hw => by
          have hz : geti xs (0 : Int) = some xs[0] := geti_lt xs 0 h0
          have hz2 : xs[0]? = some xs[0] := List.getElem?_eq_getElem h0
          simp only [lt_lenI hi, cond_true, geti_lt xs i hi, hz, hz2, Option.bind_some, Option.getD_some, hw]
          cases (xs[i].1 == xs[0].1) with
          | false => rfl
          | true => cases (xs[i].2.1 == xs[0].2.1) <;> rfl) (fun rec => by simp only [ge_lenI, cond_false])
      rw [e2]
      cases hf : xs.findIdx? (fun s => !(s.1 == (xs[0]?.getD s).1) || !(s.2.1 == (xs[0]?.getD s).2.1)) with
      | none =>
        have : xs.any (fun s => !(s.1 == (xs[0]?.getD s).1) || !(s.2.1 == (xs[0]?.getD s).2.1)) = false := by
          rw [List.findIdx?_eq_none_iff] at hf
          rw [List.any_eq_false]
          intro s hs
          have := hf s hs
          simpa using this
        rw [this]; rfl
      | some i =>
        have : xs.any (fun s => !(s.1 == (xs[0]?.getD s).1) || !(s.2.1 == (xs[0]?.getD s).2.1)) = true := by
          rw [List.findIdx?_eq_some_iff_getElem] at hf
          obtain ⟨h, h1, _⟩ := hf
          rw [List.any_eq_true]
          exact ⟨_, List.getElem_mem h, h1⟩
        rw [this]
        simp only [Option.bind_some, cond_true]
        have : decide ((i : Int) ≥ 0) = true := decide_eq_true (by omega)
        rw [this, cond_true]

theorem t_slices_Compact_impl_Vote_impl_Vote (x : List VoteT) (hl : x.length ≤ 1048576) : m_slices_Compact_impl_Vote_impl_Vote x = some (dd x, true) := by
  show p_slices_Compact_impl_Vote_impl_Vote FU x = _
  unfold p_slices_Compact_impl_Vote_impl_Vote
  by_cases h2 : x.length < 2
  · have : decide (lenI x < 2) = true := decide_eq_true (by rw [lenI_eq]; omega)
    rw [this, cond_true, dd_same x (fun i hi => by omega)]
  · have : decide (lenI x < 2) = false := decide_eq_false (by rw [lenI_eq]; omega)
    rw [this, cond_false]
    unfold l_slices_Compact_impl_Vote_impl_Vote_2
    have hee : ∀ a b : VoteT, ((a.1 == b.1) && ((a.2 == b.2) && true)) = (a == b) := fun a b => by rw [Bool.and_true]; rfl
    refine lp_for (fun r => r = some (dd x, true)) (fun i z => z = ((i + 1 : Nat) : Int) ∧ ∀ (j : Nat) (h : j + 1 < i + 1) (h' : j + 1 < x.length), (x[j + 1] == x[j]) = false) (x.length - 1) (fun i z hi hz => ?_) (fun z hz rec => ?_) FU _ (FU_gt (by omega)) ⟨rfl, fun j hj => by omega⟩
    · obtain ⟨rfl, hz⟩ := hz
      have hi1 : i + 1 < x.length := by omega
      have wp : IntKind.wrap .i64 (((i + 1 : Nat) : Int) - 1) = ((i : Nat) : Int) := by rw [wrap64 (by omega) (by omega)]; omega
      have wn : IntKind.wrap .i64 (((i + 1 : Nat) : Int) + 1) = ((i + 1 + 1 : Nat) : Int) := by rw [wrap64 (by omega) (by omega)]; omega
      cases hq : x[i + 1] == x[i] with
      | false =>
        refine .inr ⟨((i + 1 + 1 : Nat) : Int), ⟨rfl, fun j hj h' => ?_⟩, fun rec => ?_⟩
        · rcases Nat.lt_or_ge (j + 1) (i + 1) with q | q
          · exact hz j q h'
          · have : j = i := by omega
            subst this; exact hq
        · simp only [lt_lenI hi1, cond_true, geti_lt x (i + 1) hi1, wp, geti_lt x i (by omega), Int.toNat_natCast, List.getElem?_eq_getElem hi1, List.getElem?_eq_getElem (show i < x.length by omega), Option.bind_some, hee, hq, cond_false, Sum.elim_inl, wn]
      | true =>
        obtain ⟨w, cur, e1, e2, e3, e4⟩ := compact1 (fun a b : VoteT => (a.1 == b.1) && ((a.2 == b.2) && true)) hee x hl (i + 1) (by omega) hi1 (fun j h => hz j h (by omega)) hq
        have e1' : l_slices_Compact_impl_Vote_impl_Vote_1 FU x ((i + 1 : Nat) : Int) (((i + 1 : Nat) : Int), (1 : Int), x) = some (((w : Nat) : Int), cur) := e1
        refine .inl fun rec => ?_
        have b1 : bndB (some ((i + 1 : Nat) : Int)) none none x.length = true := by simp [bndB]; omega
        have b2 : bndB (some ((w : Nat) : Int)) none none cur.length = true := by simp [bndB]; omega
        have hlen : (cur.take w ++ List.replicate (cur.length - w) ((0 : Int), (0 : Int)) ++ cur.drop (w + (cur.length - w))).length = cur.length := by simp; omega
        have b3 : bndB none (some ((w : Nat) : Int)) none (cur.take w ++ List.replicate (cur.length - w) ((0 : Int), (0 : Int)) ++ cur.drop (w + (cur.length - w))).length = true := by rw [hlen]; simp [bndB]; omega
        have ht : (cur.take w ++ List.replicate (cur.length - w) ((0 : Int), (0 : Int)) ++ cur.drop (w + (cur.length - w))).take w = dd x := by
          rw [List.append_assoc, List.take_append_of_le_length (by rw [List.length_take]; omega), List.take_take, Nat.min_self, e4]
        simp only [lt_lenI hi1, cond_true, geti_lt x (i + 1) hi1, wp, geti_lt x i (by omega), Int.toNat_natCast, List.getElem?_eq_getElem hi1, List.getElem?_eq_getElem (show i < x.length by omega), Option.bind_some, hee, hq, chk, b1, e1', b2, b3, ht, Sum.elim_inr]
    · obtain ⟨rfl, hz⟩ := hz
      have : decide (((x.length - 1 + 1 : Nat) : Int) < lenI x) = false := decide_eq_false (by rw [lenI_eq]; omega)
      simp only [this, cond_false]
      rw [dd_same x (fun i hi => hz i (by omega) hi)]

theorem t_slices_SortFunc_impl_Vote_impl_Vote (o : List VoteT) : m_slices_SortFunc_impl_Vote_impl_Vote (o, true) = sortRun okVote ((0 : Int), (0 : Int)) rfl cfVote o := by
  show p_slices_SortFunc_impl_Vote_impl_Vote FU _ = _
  unfold p_slices_SortFunc_impl_Vote_impl_Vote
  rfl

theorem keq_vote : ∀ a b : (Kd.pair (.int .i64) (.int .i64)).ty, keqB (.pair (.int .i64) (.int .i64)) a b = true ↔ a = b := by
  intro a b
  rw [keqB_vote a b]
  exact beq_iff_eq (α := VoteT)
def cntK (xs : List SlotT) (i : Nat) (D : List VoteT) (k : Nat) (v : VoteT) : Nat := cntV (xs.take i) v + if v ∈ D.take k then 1 else 0
def chI (xs : List SlotT) (c : VoteT → Nat) (n : Nat) (o : List VoteT) (m : List (VoteT × Int)) : Prop :=
  o.Nodup ∧ (∀ v, v ∈ o ↔ quo xs.length ≤ c v) ∧ (∀ v, mlook (.pair (.int .i64) (.int .i64)) m v = ((c v : Nat) : Int)) ∧ o.length ≤ n
theorem chI_of {xs : List SlotT} {c c' : VoteT → Nat} {n n' : Nat} {o : List VoteT} {m : List (VoteT × Int)} (h : chI xs c n o m) (hc : ∀ v, c' v = c v) (hn : n ≤ n') : chI xs c' n' o m :=
  ⟨h.1, fun v => by rw [hc]; exact h.2.1 v, fun v => by rw [hc]; exact h.2.2.1 v, Nat.le_trans h.2.2.2 hn⟩
theorem t_chosen_1 (f : Nat) (hf : 70 < f) (xs : List SlotT) (hl : xs.length ≤ 9) (i : Nat) (D : List VoteT) (hD : D.Nodup) (hDl : D.length ≤ 60) (hi : i < 9) (n : Nat) (hn : n ≤ 540) (o : List VoteT) (m : List (VoteT × Int)) (h : chI xs (cntV (xs.take i)) n o m) :
    ∃ o' m', l_impl_chosen_1 f D xs (o, (0 : Int), m) = some (o', m') ∧ chI xs (cntK xs i D D.length) (n + D.length) o' m' := by
  unfold l_impl_chosen_1
  refine lp_for (fun r => ∃ o' m', r = some (o', m') ∧ chI xs (cntK xs i D D.length) (n + D.length) o' m') (fun k z => z.2.1 = (k : Int) ∧ chI xs (cntK xs i D k) (n + k) z.1 z.2.2) D.length (fun k z hk hz => ?_) (fun z hz rec => ?_) f _ (by omega) ⟨rfl, chI_of h (fun v => by simp [cntK]) (by omega)⟩
  · obtain ⟨o, kk, m⟩ := z
    obtain ⟨rfl, h1, h2, h3, h4⟩ := hz
    simp only at h1 h2 h3 h4
    generalize hy : D[k] = y
    have hgy : geti D (k : Int) = some y := by rw [geti_lt D k hk, hy]
    have hgy2 : D[k]? = some y := by rw [List.getElem?_eq_getElem hk, hy]
    have hyn : y ∉ D.take k := by
      intro hm
      obtain ⟨j, hj, e⟩ := List.getElem_of_mem hm
      rw [List.length_take] at hj
      rw [List.getElem_take] at e
      exact nodup_ne hD (show j < k by omega) hk (e.trans hy.symm)
    have hcK : ∀ v, cntK xs i D (k + 1) v = cntK xs i D k v + if v = y then 1 else 0 := by
      intro v
      unfold cntK
      rw [List.take_succ_eq_append_getElem hk, hy]
      simp only [List.mem_append, List.mem_singleton]
      by_cases e : v = y
      · subst e
        rw [if_neg hyn, if_pos (.inr rfl), if_pos rfl]
      · rw [if_neg e]
        by_cases e2 : v ∈ D.take k
        · rw [if_pos (.inl e2), if_pos e2]
        · rw [if_neg (by rintro (q | q); exact e2 q; exact e q), if_neg e2]
    have hle : cntK xs i D k y ≤ 10 := by
      have := cntV_le (xs.take i) y
      rw [List.length_take] at this
      unfold cntK
      split <;> omega
    have hw : IntKind.wrap .i64 (mlook (.pair (.int .i64) (.int .i64)) m y + (1 : Int)) = ((cntK xs i D k y + 1 : Nat) : Int) := by rw [h3, wrap64 (by omega) (by omega)]; omega
    have hput := fun v c => mlook_set1 (.pair (.int .i64) (.int .i64)) keq_vote m y v c
    have hf := (hput y 0).1
    have hgf : geti (mput (.pair (.int .i64) (.int .i64)) m y) ((mfind (.pair (.int .i64) (.int .i64)) m y : Nat) : Int) = some ((mput (.pair (.int .i64) (.int .i64)) m y)[mfind (.pair (.int .i64) (.int .i64)) m y]) := geti_lt _ _ hf
    have hll : ∀ v, mlook (.pair (.int .i64) (.int .i64)) (mset (.pair (.int .i64) (.int .i64)) (mput (.pair (.int .i64) (.int .i64)) m y) (mfind (.pair (.int .i64) (.int .i64)) m y) ((cntK xs i D k y + 1 : Nat) : Int)) v = ((cntK xs i D (k + 1) v : Nat) : Int) := by
      intro v
      rw [(hput v _).2, hcK, keqB_vote]
      by_cases e : v = y
      · subst e
        have : ((v : VoteT) == v) = true := by simp
        rw [this, cond_true, if_pos rfl]
      · have : ((v : VoteT) == y) = false := by simpa using e
        rw [this, cond_false, if_neg e, h3]; rfl
    have hq : m_impl_quorum (lenI xs) = some ((quo xs.length : Nat) : Int) := t_impl_quorum xs.length (by unfold B36; omega)
    have hyy := hll y
    rw [hcK, if_pos rfl] at hyy
    have wn := wrap_next hk (Nat.le_trans hDl (by omega))
    by_cases hqc : cntK xs i D k y + 1 = quo xs.length
    · have hb : (((cntK xs i D k y + 1 : Nat) : Int) == ((quo xs.length : Nat) : Int)) = true := by rw [hqc]; simp
      have hyo : y ∉ o := fun hm => by have := (h2 y).1 hm; omega
      refine .inr ⟨(o ++ [y], ((k + 1 : Nat) : Int), mset (.pair (.int .i64) (.int .i64)) (mput (.pair (.int .i64) (.int .i64)) m y) (mfind (.pair (.int .i64) (.int .i64)) m y) ((cntK xs i D k y + 1 : Nat) : Int)), ⟨rfl, ?_, fun v => ?_, hll, ?_⟩, fun rec => ?_⟩
      · exact List.nodup_append.2 ⟨h1, by simp, fun a ha b hb => by rw [List.mem_singleton] at hb; subst hb; exact fun e => hyo (e ▸ ha)⟩
      · rw [List.mem_append, List.mem_singleton, h2, hcK]
        by_cases e : v = y
        · subst e; rw [if_pos rfl]; exact ⟨fun _ => by omega, fun _ => .inr rfl⟩
        · rw [if_neg e]; exact ⟨fun h => by rcases h with h | h; omega; exact absurd h e, fun h => .inl (by omega)⟩
      · show (o ++ [y]).length ≤ _
        rw [List.length_append, List.length_singleton]; omega
      · have n1 : Nat.ble ((o.length + [y].length) * 16) maxBytes = true := by rw [Nat.ble_eq]; simp only [List.length_singleton]; unfold maxBytes; omega
        simp only [lt_lenI hk, cond_true, hgy, hgy2, Int.toNat_natCast, Option.bind_some, hgf, hq, hw, hyy, hb, chk, n1, wn]
    · have hb : (((cntK xs i D k y + 1 : Nat) : Int) == ((quo xs.length : Nat) : Int)) = false := by rw [beq_eq_false_iff_ne]; omega
      refine .inr ⟨(o, ((k + 1 : Nat) : Int), mset (.pair (.int .i64) (.int .i64)) (mput (.pair (.int .i64) (.int .i64)) m y) (mfind (.pair (.int .i64) (.int .i64)) m y) ((cntK xs i D k y + 1 : Nat) : Int)), ⟨rfl, h1, fun v => ?_, hll, ?_⟩, fun rec => ?_⟩
      · rw [h2, hcK]
        by_cases e : v = y
        · subst e; rw [if_pos rfl]; omega
        · rw [if_neg e]; omega
      · show o.length ≤ _; omega
      · simp only [lt_lenI hk, cond_true, hgy, hgy2, Int.toNat_natCast, Option.bind_some, hgf, hq, hw, hyy, hb, cond_false, wn]
  · obtain ⟨o, kk, m⟩ := z
    obtain ⟨rfl, h⟩ := hz
    exact ⟨o, m, by simp only [ge_lenI, cond_false], h⟩
theorem t_chosen_2 (xs : List SlotT) (hl : xs.length ≤ 9) (hc : ∀ s ∈ xs, (castS s).length ≤ 60) (ho : ∀ s ∈ xs, castGo none (castS s) = 0) : ∃ o m, l_impl_chosen_2 FU xs (([] : List (Int × Int)), (0 : Int), ([] : List ((Int × Int) × Int))) = some (o, m) ∧ chI xs (cntV xs) 540 o m := by
  suffices key : ∀ n, 70 < n → ∃ o m, l_impl_chosen_2 n xs (([] : List (Int × Int)), (0 : Int), ([] : List ((Int × Int) × Int))) = some (o, m) ∧ chI xs (cntV xs) 540 o m from key FU (by unfold FU; omega)
  intro n hn
  unfold l_impl_chosen_2
  have hq1 : 1 ≤ quo xs.length := by unfold quo; omega
  refine lp_for (fun r => ∃ o m, r = some (o, m) ∧ chI xs (cntV xs) 540 o m) (fun i z => z.2.1 = (i : Int) ∧ chI xs (cntV (xs.take i)) (60 * i) z.1 z.2.2) xs.length (fun i z hi hz => ?_) (fun z hz rec => ?_) n _ (by omega) ⟨rfl, List.nodup_nil, fun v => ?_, fun v => ?_, by simp⟩
  · obtain ⟨o, ii, m⟩ := z
    obtain ⟨rfl, h⟩ := hz
    have hs : xs[i] ∈ xs := List.getElem_mem hi
    have hord := cast_ord (ho _ hs)
    have hcl := hc _ hs
    have hdl := dd_len (castS xs[i])
    have hN := dd_nodup hord
    have hM := dd_mem (castS xs[i])
    have c1 : m_slices_Clone_impl_Vote_impl_Vote xs[i].2.2.2.2 = some (castS xs[i]) := t_slices_Clone_impl_Vote_impl_Vote (castS xs[i]) (by omega)
    have c2 := t_slices_Compact_impl_Vote_impl_Vote (castS xs[i]) (by omega)
    generalize dd (castS xs[i]) = D at hdl hN c2 hM
    obtain ⟨o', m', e, h'⟩ := t_chosen_1 n hn xs hl i D hN (by omega) (by omega) (60 * i) (by omega) o m h
    refine .inr ⟨(o', ((i + 1 : Nat) : Int), m'), ⟨rfl, chI_of h' (fun v => ?_) (by omega)⟩, fun rec => ?_⟩
    · rw [List.take_succ_eq_append_getElem hi]
      unfold cntK cntV
      rw [List.countP_append, List.countP_singleton, List.take_length]
      congr 1
      by_cases hm : v ∈ D
      · rw [if_pos hm, if_pos (by simpa using (hM v).1 hm)]
      · rw [if_neg hm, if_neg (by simpa using fun q => hm ((hM v).2 q))]
    · simp only [lt_lenI hi, cond_true, geti_lt xs i hi, Option.bind_some, c1, c2, e, wrap_next hi (Nat.le_trans hl (by omega))]
  · obtain ⟨o, ii, m⟩ := z
    obtain ⟨rfl, h⟩ := hz
    refine ⟨o, m, by simp only [ge_lenI, cond_false], chI_of h (fun v => by rw [List.take_length]) (by omega)⟩
  · simp only [List.take_zero]
    constructor
    · intro h; cases h
    · intro h; simp [cntV] at h; omega
  · have : cntV (xs.take 0) v = 0 := by simp [cntV]
    rw [this]; rfl
theorem t_impl_chosen (xs : List SlotT) (hl : xs.length ≤ 9) (hc : ∀ s ∈ xs, (castS s).length ≤ 60) (ho : ∀ s ∈ xs, castGo none (castS s) = 0) : ∃ out, m_impl_chosen xs = some out ∧ chosenOK xs out ∧ out.length ≤ 540 := by
  show ∃ out, p_impl_chosen FU xs = some out ∧ _
  unfold p_impl_chosen
  have e1 := t_chosen_2 xs hl hc ho
  obtain ⟨o, m, e, h1, h2, h3, h4⟩ := e1
  have hok : ∀ v ∈ o, okVote v = true := by
    intro v hv
    have := quo_bal ho ((h2 v).1 hv)
    unfold okVote
    rw [decide_eq_true this.1, decide_eq_true (show v.1 < 4611686018427387904 by omega)]; rfl
  obtain ⟨ys, s1, s2, s3⟩ := sortRun_some (d0 := ((0 : Int), (0 : Int))) (h0 := rfl) swoVote (xs := o) (by omega) hok
  have s1' : m_slices_SortFunc_impl_Vote_impl_Vote (o, true) = some ys := (t_slices_SortFunc_impl_Vote_impl_Vote o).trans s1
  refine ⟨ys, by simp only [e, Option.bind_some, s1'], ⟨?_, fun v => (s2.mem_iff).trans (h2 v)⟩, by rw [s2.length_eq]; exact h4⟩
  have hnd : ys.Nodup := s2.nodup_iff.2 h1
  have := List.pairwise_iff_getElem.1 s3
  rw [List.pairwise_iff_getElem]
  intro a b ha hb hab
  have q := this a b ha hb hab
  have ma : ys[a] ∈ o := s2.mem_iff.1 (List.getElem_mem ha)
  have mb : ys[b] ∈ o := s2.mem_iff.1 (List.getElem_mem hb)
  rw [cfVote_ok (hok _ mb) (hok _ ma)] at q
  have hne : ys[a] ≠ ys[b] := nodup_ne hnd hab hb
  have hne1 : ys[a].1 ≠ ys[b].1 := fun e => hne (quo_one ho ((h2 _).1 ma) ((h2 _).1 mb) e)
  omega

theorem t_impl_ChosenIn (xs : List SlotT) (hl : xs.length ≤ 1048576) : ∃ r, m_impl_ChosenIn xs = some r ∧ chosenP xs r := by
  show ∃ r, p_impl_ChosenIn FU xs = some r ∧ _
  unfold p_impl_ChosenIn
  simp only [t_impl_slotsFault xs hl, Option.bind_some]
  by_cases h0 : askCode xs = 0
  · obtain ⟨q1, q2, q3⟩ := ask_cast h0
    obtain ⟨out, e, ho, hlo⟩ := t_impl_chosen xs q1 q2 q3
    have hb : (!(askCode xs == 0)) = false := by rw [h0]; rfl
    simp only [hb, cond_false, e, Option.bind_some]
    refine ⟨_, ?_, .inr ⟨h0, out, ho, rfl⟩⟩
    cases out with
    | nil => rfl
    | cons v r =>
      have d : (lenI (v :: r) == 0) = false := by rw [lenI_eq, beq_eq_false_iff_ne, List.length_cons]; omega
      have hz : geti (v :: r) (0 : Int) = some v := rfl
      simp only [d, cond_false, hz, Option.bind_some]
      rfl
  · have hb : (!(askCode xs == 0)) = true := by simpa using h0
    simp only [hb, cond_true]
    exact ⟨_, rfl, .inl ⟨h0, rfl⟩⟩

theorem t_impl_outcomeOf (xs : List (List SlotT)) (c : ConT) (he : accsCode xs = 0) (hc : conC c = 0) : m_impl_outcomeOf (xs, c) = some (outcV xs c) := by
  obtain ⟨c1, c2, c3⟩ := conC_zero hc
  have hz0 := acc_sizes he
  have h4 := accsCode_zero he
  show p_impl_outcomeOf FU _ = _
  unfold p_impl_outcomeOf
  have hsl := shards_len c.2
  have hch : ∀ d ∈ shardsL c.2, ∃ r, m_impl_slotsFor (xs, c.1, d) = some (xs.map fun x => slotOf x c.1 d) ∧ m_impl_ChosenIn (xs.map fun x => slotOf x c.1 d) = some r ∧ r.2.2 = chV (xs.map fun x => slotOf x c.1 d) := fun d hd => by
    obtain ⟨l, hl, rfl⟩ := shards_mem c.2 hd
    have hn : (idB c.1 && shB l.1) = true := by rw [c1, c3 l hl]; rfl
    obtain ⟨r, e, p⟩ := t_impl_ChosenIn (xs.map fun x => slotOf x c.1 l.1) (by rw [List.length_map]; have := hz0.1; omega)
    refine ⟨r, t_impl_slotsFor xs c.1 l.1 (by have := hz0.1; omega) (fun x hx => Nat.le_trans (hz0.2.1 x hx) (by omega)) (fun x hx y hy => Nat.le_trans (hz0.2.2 x hx y hy) (by omega)) (fun x hx => (accCode_zero (h4.2 x hx)).2.2), e, ?_⟩
    rcases p with ⟨p0, _⟩ | ⟨_, out, ho, rfl⟩
    · exact absurd (slots_ask he hn) p0
    · rw [chV_eq ho]; cases out <;> rfl
  have e0 := t_impl_shardsOf c (by omega)
  simp only [e0, Option.bind_some]
  have e1 : ∃ s, l_impl_outcomeOf_1 FU (shardsL c.2) xs c.1 (true, (0 : Int)) = some s ∧ Sum.elim (fun j => cond j (some (1 : Int)) (some 0)) some s = some (outcV xs c) := by
    unfold l_impl_outcomeOf_1 outcV
    refine lp_for (fun r => ∃ s : Bool ⊕ Int, r = some s ∧ Sum.elim (fun j => cond j (some (1 : Int)) (some 0)) some s = some (outc true ((shardsL c.2).map fun d => chV (xs.map fun x => slotOf x c.1 d)))) (fun i z => ∃ b : Bool, z = (b, (i : Int)) ∧ outc true ((shardsL c.2).map fun d => chV (xs.map fun x => slotOf x c.1 d)) = outc b (((shardsL c.2).drop i).map fun d => chV (xs.map fun x => slotOf x c.1 d))) (shardsL c.2).length (fun i z hi hz => ?_) (fun z hz rec => ?_) FU _ (FU_gt (by omega)) ⟨true, rfl, rfl⟩
    · obtain ⟨b, rfl, hz⟩ := hz
      rw [List.drop_eq_getElem_cons hi, List.map_cons, outc_cons] at hz
      have hw : IntKind.wrap .i64 ((i : Int) + 1) = ((i + 1 : Nat) : Int) := wrap_next hi (by omega)
      obtain ⟨r, q1, q2, q3⟩ := hch _ (List.getElem_mem hi)
      cases h2 : chV (xs.map fun x => slotOf x c.1 (shardsL c.2)[i]) == 2 with
      | true =>
        rw [h2] at hz
        refine .inl fun rec => ⟨Sum.inr 2, ?_, ?_⟩
        · simp only [lt_lenI hi, cond_true, geti_lt _ i hi, Option.bind_some, Int.toNat_natCast, List.getElem?_eq_getElem hi, q1, q2, q3, h2]
        · rw [hz]; rfl
      | false =>
        rw [h2] at hz
        refine .inr ⟨_, ⟨_, rfl, hz⟩, fun rec => ?_⟩
        simp only [lt_lenI hi, cond_true, geti_lt _ i hi, Option.bind_some, Int.toNat_natCast, List.getElem?_eq_getElem hi, q1, q2, q3, h2, cond_false, hw]
        cases chV (xs.map fun x => slotOf x c.1 (shardsL c.2)[i]) == 0 <;> cases b <;> rfl
    · obtain ⟨b, rfl, hz⟩ := hz
      rw [List.drop_length, List.map_nil, outc_nil] at hz
      refine ⟨Sum.inl b, ?_, ?_⟩
      · simp only [ge_lenI, cond_false]
      · rw [hz]; cases b <;> rfl
  obtain ⟨s, e1, e2⟩ := e1
  rw [e1, Option.bind_some]
  exact e2

theorem t_impl_OutcomeOf (xs : List (List SlotT)) (c : ConT) (hl : xs.length ≤ 1048576) (hc : c.2.length ≤ 1048576) : m_impl_OutcomeOf (xs, c) = some (outR xs c) := by
  show p_impl_OutcomeOf FU _ = _
  unfold p_impl_OutcomeOf outR
  simp only [t_impl_listFault xs hl, t_impl_ContractFault c hc, t_impl_firstOf, Option.bind_some]
  by_cases h1 : accsCode xs = 0
  · simp only [h1, if_true, ne_eq, not_true_eq_false, if_false]
    by_cases h2 : conC c = 0
    · have b2 : (conC c == 0) = true := by rw [h2]; rfl
      rw [if_neg (by simp [h2]), b2]
      simp only [Bool.not_true, cond_false, t_impl_outcomeOf xs c h1 h2, Option.bind_some]
    · have b2 : (conC c == 0) = false := by simpa using h2
      rw [if_pos h2, b2]; rfl
  · have b1 : (accsCode xs == 0) = false := by simpa using h1
    simp only [h1, if_false, ne_eq, not_false_eq_true, if_true, b1, Bool.not_false, cond_true]

theorem lwAt_one (x : List Int) (k m : Int) (hl : x.length ≤ 1048576) (hb : ∀ b ∈ x, 0 ≤ b ∧ b ≤ 255) (hk0 : 0 ≤ k) (hk : k ≤ 1000000) (hm1 : 0 < m) (hm : m ≤ 200) : ∃ r, m_laws_lwAt (x, k, m) = some r ∧ 0 ≤ r ∧ r < m := by
  by_cases h : m = 1
  · subst h
    refine ⟨0, ?_, by omega, by omega⟩
    show p_laws_lwAt FU _ = _
    unfold p_laws_lwAt
    rfl
  · exact t_laws_lwAt x k m hl hb hk0 hk (by omega) hm
/-- The values that are chosen for a contract's shards. -/
def AllK (N m : Nat) (c : ConT) (accs : List (List SlotT)) (vs : Int → Int) : Prop := ∀ d ∈ shardsL c.2, AgK N m c.1 d (vs d) accs
theorem outc_keep (ds : List Int) (f g : Int → Int) (b : Bool) (h : ∀ d ∈ ds, f d ≠ 0 → g d = f d) (hv : ∀ d ∈ ds, f d = 0 ∨ f d = 1 ∨ f d = 2) (hn : outc b (ds.map f) ≠ 0) : outc b (ds.map g) = outc b (ds.map f) := by
  unfold outc at hn ⊢
  cases h2 : (ds.map f).any (· == 2) with
  | true =>
    have : (ds.map g).any (· == 2) = true := by
      rw [List.any_eq_true] at h2 ⊢
      obtain ⟨v, hv1, hv2⟩ := h2
      obtain ⟨d, hd, rfl⟩ := List.mem_map.1 hv1
      have e : f d = 2 := eq_of_beq hv2
      exact ⟨g d, List.mem_map.2 ⟨d, hd, rfl⟩, by rw [h d hd (by omega)]; exact hv2⟩
    rw [this]; rfl
  | false =>
    rw [h2] at hn
    simp only [cond_false] at hn ⊢
    cases h0 : (ds.map f).any (· == 0) with
    | true => rw [h0] at hn; exact absurd (by cases b <;> rfl) hn
    | false =>
      have e : ds.map g = ds.map f := by
        refine List.map_congr_left fun d hd => h d hd fun e => ?_
        rw [List.any_eq_false] at h0
        have := h0 (f d) (List.mem_map.2 ⟨d, hd, rfl⟩)
        rw [e] at this; exact this rfl
      rw [e, h2, h0]; rfl
theorem agK_three {N m : Nat} {c d v : Int} {accs : List (List SlotT)} (h : AgK N m c d v accs) : v = 0 ∨ v = 1 ∨ v = 2 := by
  rcases h.val with ⟨h, _⟩ | ⟨h, _⟩
  · exact .inl h
  · simp only [vlu, Bool.or_eq_true, beq_iff_eq] at h
    exact .inr h
theorem law_laws_FnOutcomes (x : List Int) (h : WFs S_laws_FnOutcomes.ps x) : m_laws_FnOutcomes x = some true := by
  have hm : maxLen = 9223372036854775807 := rfl
  show p_laws_FnOutcomes FU x = _
  unfold p_laws_FnOutcomes
  rw [t_laws_lwBig]
  by_cases hl : (x.length : Int) > 1048576
  · simp [hl]
  · have hd : decide ((x.length : Int) > 1048576) = false := decide_eq_false hl
    have hl' : x.length ≤ 1048576 := by omega
    have hb : ∀ b ∈ x, 0 ≤ b ∧ b ≤ 255 := by
      intro b hbx
      have := h.2 b hbx
      simp only [WFk, Lit.wf, Bool.and_eq_true, decide_eq_true_eq, IntKind.min, IntKind.max, IntKind.signed, IntKind.bits] at this
      simp at this
      omega
    obtain ⟨c, e1, hc, hc9⟩ := t_spec_DrawRightContract x 9 hl' hb (by decide)
    have hcz := conC_zero hc
    have e2 := t_impl_ShardsOf c hc
    have hsl := shards_len c.2
    have hsm : ∀ d ∈ shardsL c.2, (idB c.1 && shB d) = true := fun d hd' => by
      obtain ⟨l, hl2, rfl⟩ := shards_mem c.2 hd'
      rw [hcz.1, hcz.2.2 l hl2]; rfl
    have hne : 0 < (shardsL c.2).length := by
      have h2 : 2 ≤ c.2.length := by
        unfold conC at hc
        rw [hcz.1] at hc
        simp only [Bool.not_true, cond_false] at hc
        split at hc
        · exact absurd hc (by decide)
        · omega
      have : c.2[0].1 ∈ shardsL c.2 := ((fold_put c.2 []).2 _).2 (.inr ⟨_, List.getElem_mem (show 0 < c.2.length by omega), rfl⟩)
      exact List.length_pos_of_mem this
    have hlen0 : (lenI (shardsL c.2) == 0) = false := by rw [lenI_eq, beq_eq_false_iff_ne]; omega
    have ch : Nat.ble (24 * (3 : Int).toNat) maxBytes = true := by decide
    simp only [hd, cond_false, Option.bind_some, e1, e2, chk, ch, cond_true, hlen0, if_true]
    rw [if_pos (by decide)]
    unfold l_laws_FnOutcomes_1
    refine lp_for (fun r => r = some true) (fun i z => z.2.2 = (i : Int) ∧ BaseK 3 c.1 z.1 ∧ ∃ vs, AllK 3 i c z.1 vs ∧ (z.2.1 ≠ 0 → z.2.1 = outc true ((shardsL c.2).map vs))) 12 (fun i z hi hz => ?_) (fun z hz rec => ?_) FU _ (FUb (by unfold B36; omega)) ⟨rfl, baseK_new 3 c.1, fun _ => 0, fun d _ => agK_new 3 c.1 d, fun h => absurd rfl h⟩
    · obtain ⟨accs, was, k⟩ := z
      obtain ⟨rfl, hB, vs, hall, hwas⟩ := hz
      simp only at hB hall hwas
      have hd12 : decide ((i : Int) < (12 : Int)) = true := decide_eq_true (by omega)
      have w1 : IntKind.wrap .i64 ((i : Int) + 1) = ((i + 1 : Nat) : Int) := by rw [wrap64 (by omega) (by omega)]; omega
      have w2 : IntKind.wrap .i64 ((i : Int) + 30) = (i : Int) + 30 := wrap64 (by omega) (by omega)
      have w3 : IntKind.wrap .i64 ((i : Int) + 60) = (i : Int) + 60 := wrap64 (by omega) (by omega)
      obtain ⟨rs, q1, hup, hin, hrl⟩ := t_laws_lwReached x (i : Int) 3 hl' hb (by omega) (by omega) (by omega)
      have q1 : m_laws_lwReached (x, (i : Int), (3 : Int)) = some rs := q1
      obtain ⟨j, q2, hj0, hj1⟩ := lwAt_one x ((i : Int) + 30) (lenI (shardsL c.2)) hl' hb (by omega) (by omega) (by rw [lenI_eq]; omega) (by rw [lenI_eq]; omega)
      obtain ⟨jn, rfl⟩ := Int.eq_ofNat_of_zero_le hj0
      have hjl : jn < (shardsL c.2).length := by rw [lenI_eq] at hj1; omega
      obtain ⟨w, q3, hw0, hw4⟩ := t_laws_lwAt x ((i : Int) + 60) 4 hl' hb (by omega) (by omega) (by omega) (by omega)
      have hw : w = 0 ∨ w = 1 ∨ w = 2 ∨ w = 3 := by omega
      have hwv : IntKind.wrap .i64 ((1 : Int) + (IntKind.wrap .i64 (Int.tdiv w (3 : Int)))) = (if w = 3 then 2 else 1) ∧ vlu (if w = 3 then 2 else 1) = true := by
        rcases hw with rfl | rfl | rfl | rfl <;> exact ⟨by decide, by decide⟩
      have hbal : bal (i : Int) = true := by simp only [bal, Bool.and_eq_true, decide_eq_true_eq]; omega
      have hds := List.getElem_mem hjl
      generalize hdd : (shardsL c.2)[jn] = d at hds
      have e4 := t_impl_RunBallot accs rs c.1 d (i : Int) (if w = 3 then 2 else 1) (by rw [hB.len]; omega) (by omega)
      obtain ⟨hB', hoth, v', hA', hv'⟩ := agK_run hB (hsm d hds) (hall d hds) (by omega) (by omega) (by omega) hup hin hbal hwv.2
      generalize hvv : (if w = 3 then (2 : Int) else 1) = ww at hwv e4 hB' hoth hA'
      generalize hrr : runR accs rs c.1 d (i : Int) ww = r at e4 hB' hoth hA'
      obtain ⟨rc, rv, ra⟩ := r
      simp only at hB' hoth hA'
      have hall' : AllK 3 (i + 1) c ra (fun d' => if d' = d then v' else vs d') := by
        intro d' hd'
        by_cases he : d' = d
        · subst he
          show AgK 3 (i + 1) c.1 d' (if d' = d' then v' else vs d') ra
          rw [if_pos rfl]; exact hA'
        · show AgK 3 (i + 1) c.1 d' (if d' = d then v' else vs d') ra
          rw [if_neg he]
          exact agK_more (agK_keep hB.len hB'.len (hall d' hd') fun k a a' h1 h2 => by unfold castK; rw [hoth k a a' h1 h2 d' he])
      have e5 := t_impl_OutcomeOf ra c (by rw [hB'.len]; omega) (by omega)
      have ha0 := (agK_chosen hB' (by omega) (by omega) hA').1
      have hout : outR ra c = (0, outc true ((shardsL c.2).map fun d' => if d' = d then v' else vs d')) := by
        unfold outR
        rw [if_neg (by rw [ha0]; decide), if_neg (by rw [hc]; decide)]
        unfold outcV
        congr 2
        refine List.map_congr_left fun d' hd' => ?_
        have hn := hsm d' hd'
        obtain ⟨_, hch⟩ := agK_chosen hB' (by omega) (by omega) (hall' d' hd')
        have hask := slots_ask ha0 hn
        obtain ⟨r1, _, hr1⟩ := t_impl_ChosenIn (ra.map fun x => slotOf x c.1 d') (by rw [List.length_map, hB'.len]; omega)
        rcases hr1 with ⟨h0, _⟩ | ⟨_, out, ho, _⟩
        · exact absurd hask h0
        · rw [chV_eq ho]
          have := hch out ho
          cases out <;> exact this
      rw [hout] at e5
      have hlen : (lenI ra == (3 : Int)) = true := by rw [lenI_eq, hB'.len]; rfl
      have z3 : ((3 : Int) == 0) = false := rfl
      refine .inr ⟨(ra, (outc true ((shardsL c.2).map fun d' => if d' = d then v' else vs d'), ((i + 1 : Nat) : Int))), ⟨rfl, hB', _, hall', fun _ => rfl⟩, fun rec => ?_⟩
      have hsame : (!(was == 0)) = true → (outc true ((shardsL c.2).map fun d' => if d' = d then v' else vs d') == was) = true := by
        intro hw'
        have hw0 : was ≠ 0 := by simpa using hw'
        have hw1 := hwas hw0
        rw [beq_iff_eq, hw1]
        refine outc_keep (shardsL c.2) vs _ true (fun d' hd' hne' => ?_) (fun d' hd' => agK_three (hall d' hd')) (by rw [← hw1]; exact hw0)
        by_cases he : d' = d
        · subst he
          show (if d' = d' then v' else vs d') = _
          rw [if_pos rfl]; exact hv' hne'
        · show (if d' = d then v' else vs d') = _
          rw [if_neg he]
      simp only [hd12, cond_true, q1, Option.bind_some, w2, q2, geti_lt _ jn hjl, Int.toNat_natCast, List.getElem?_eq_getElem hjl, hdd, w3, q3, z3, cond_false, hwv.1, e4, hlen, Bool.not_true, e5, beq_self_eq_true, w1, dup_eq, same_self]
      cases hw' : (!(was == 0)) with
      | false => rfl
      | true => rw [hsame hw']; rfl
    · obtain ⟨accs, was, k⟩ := z
      obtain ⟨rfl, _⟩ := hz
      have hd12 : decide (((12 : Nat) : Int) < (12 : Int)) = false := by decide
      simp only [hd12, cond_false]
end Go.RvP
