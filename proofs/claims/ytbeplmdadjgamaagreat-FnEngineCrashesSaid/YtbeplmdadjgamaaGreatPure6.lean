/- The plain law: spec and program answer alike, for FnEngineCrashes. Condition: the data are such as can come in. -/
import Derived.Test.YtbeplmdadjgamaaGreatRvP6
import Derived.Test.YtbeplmdadjgamaaGreatRvO
import Derived.Test.YtbeplmdadjgamaaGreatRvEs
import Derived.Test.YtbeplmdadjgamaaGreatRvEv
import Derived.Test.YtbeplmdadjgamaaGreatRvM
namespace Go.RvP
open Go.Rv


theorem t_w0q (x : List Int) : m_w0q x = some (decide ((x.length : Int) > 1048576)) := rfl

theorem t_w1q (a b c : Int) : m_w1q (a, b, c) = some (inB a b c) := by
  show p_w1q FU _ = _
  unfold p_w1q inB
  by_cases h : b ≤ a <;> simp [h]

theorem t_w2q (v : Int) (h : inB v 1 1000000 = true) : m_w2q v = some (0, (0, (([], []), ([], ([], v))))) := by
  show p_w2q FU _ = _
  unfold p_w2q
  simp only [t_w1q, Option.bind_some, h, Bool.not_true, cond_false]

/-- A source of choices: bytes, and how many choices were made. -/
def Src (p : Int) (s : List Int × Int) : Prop := s.1.length ≤ 2097152 ∧ (∀ b ∈ s.1, 0 ≤ b ∧ b ≤ 255) ∧ 0 ≤ s.2 ∧ s.2 ≤ p

theorem t_w3q (s : List Int × Int) (n p : Int) (hs : Src p s) (hp : p ≤ 1000000000) (hn : n ≤ 1000000000) : ∃ v, m_w3q (s, n) = some (v, (s.1, s.2 + 1)) ∧ Src (p + 1) (s.1, s.2 + 1) ∧ (n < 1 → v = 0) ∧ (1 ≤ n → 0 ≤ v ∧ v < n) := by
  obtain ⟨B, q⟩ := s
  obtain ⟨h1, h2, h3, h4⟩ := hs
  simp only at h1 h2 h3 h4
  have hsrc : Src (p + 1) (B, q + 1) := ⟨h1, h2, by show 0 ≤ q + 1; omega, by show q + 1 ≤ p + 1; omega⟩
  have w1 : IntKind.wrap .i64 (q + 1) = q + 1 := wrap64 (by omega) (by omega)
  have w2 : IntKind.wrap .i64 (q + 1 - 1) = q := by rw [wrap64 (by omega) (by omega)]; omega
  show ∃ v, p_w3q FU ((B, q), n) = _ ∧ _
  unfold p_w3q
  simp only [w1, w2]
  by_cases hn1 : n < 1
  · exact ⟨0, by simp [hn1], hsrc, fun _ => rfl, fun h => by omega⟩
  · have hd : decide (n < 1) = false := decide_eq_false hn1
    have hn0 : (n == 0) = false := by rw [beq_eq_false_iff_ne]; omega
    have fin : ∀ v : Int, 0 ≤ v → 0 ≤ Int.tmod v n ∧ Int.tmod v n < n := fun v hv => ⟨Int.tmod_nonneg n hv, Int.tmod_lt_of_pos v (by omega)⟩
    simp only [hd, cond_false, hn0]
    by_cases hB : B.length = 0
    · have : (lenI B == 0) = true := by simp [lenI_eq, hB]
      have w3 : IntKind.wrap .i64 (q * 7) = q * 7 := wrap64 (by omega) (by omega)
      simp only [this, cond_true, w3]
      exact ⟨_, rfl, hsrc, fun h => absurd h hn1, fun _ => fin _ (by omega)⟩
    · have hB0 : (lenI B == 0) = false := by rw [lenI_eq, beq_eq_false_iff_ne]; omega
      have get : ∀ v : Int, 0 ≤ v → ∃ y, geti B (Int.tmod v (lenI B)) = some y ∧ 0 ≤ y ∧ y ≤ 255 := by
        intro v hv
        have g1 := Int.tmod_nonneg (lenI B) hv
        have g2 := Int.tmod_lt_of_pos v (show 0 < lenI B by rw [lenI_eq]; omega)
        rw [lenI_eq] at g1 g2 ⊢
        obtain ⟨m, hm⟩ := Int.eq_ofNat_of_zero_le g1
        have hml : m < B.length := by omega
        refine ⟨B[m], ?_, h2 _ (List.getElem_mem hml)⟩
        rw [hm]
        exact geti_lt B m hml
      obtain ⟨y1, e1, b1, b2⟩ := get q h3
      obtain ⟨y3, e3, b3, b4⟩ := get (q + 1) (by omega)
      have hdiv0 : 0 ≤ Int.tdiv q (lenI B) := Int.tdiv_nonneg h3 (by rw [lenI_eq]; omega)
      have hdiv1 : Int.tdiv q (lenI B) ≤ q := Int.tdiv_le_self _ h3
      generalize hdv : Int.tdiv q (lenI B) = dv at hdiv0 hdiv1
      have w5 : IntKind.wrap .i64 dv = dv := wrap64 (by omega) (by omega)
      have w6 : IntKind.wrap .i64 (dv * 37) = dv * 37 := wrap64 (by omega) (by omega)
      have w7 : IntKind.wrap .i64 y1 = y1 := wrap64 (by omega) (by omega)
      have w8 : IntKind.wrap .i64 (y1 + dv * 37) = y1 + dv * 37 := wrap64 (by omega) (by omega)
      have w9 : IntKind.wrap .i64 ((y1 + dv * 37) * 251) = (y1 + dv * 37) * 251 := wrap64 (by omega) (by omega)
      have w10 : IntKind.wrap .i64 y3 = y3 := wrap64 (by omega) (by omega)
      have w11 : IntKind.wrap .i64 (y3 * 13) = y3 * 13 := wrap64 (by omega) (by omega)
      have w12 : IntKind.wrap .i64 ((y1 + dv * 37) * 251 + y3 * 13) = (y1 + dv * 37) * 251 + y3 * 13 := wrap64 (by omega) (by omega)
      have w13 : IntKind.wrap .i64 ((y1 + dv * 37) * 251 + y3 * 13 + q) = (y1 + dv * 37) * 251 + y3 * 13 + q := wrap64 (by omega) (by omega)
      simp only [hB0, cond_false, e1, Option.bind_some, w5, w6, w7, w8]
      by_cases h200 : n > 200
      · have : decide (n > 200) = true := decide_eq_true h200
        simp only [this, cond_true, e3, Option.bind_some, w9, w10, w11, w12, w13]
        exact ⟨_, rfl, hsrc, fun h => absurd h hn1, fun _ => fin _ (by omega)⟩
      · have : decide (n > 200) = false := decide_eq_false h200
        simp only [this, cond_false]
        exact ⟨_, rfl, hsrc, fun h => absurd h hn1, fun _ => fin _ (by omega)⟩

theorem t_w4q (g : LogT) (h1 : g.1.length ≤ 1048576) (h2 : g.2.length ≤ 1048576) : m_w4q g = some (if g.1.length + g.2.length > 6000 then 2 else 0) := by
  show p_w4q FU _ = _
  unfold p_w4q
  rw [lenI_eq, lenI_eq, wrap64 (by omega) (by omega)]
  by_cases h : g.1.length + g.2.length > 6000
  · rw [if_pos h, decide_eq_true (by omega)]; rfl
  · rw [if_neg h, decide_eq_false (by omega)]; rfl

theorem t_w5q (r : RowT) : m_w5q r = some (rowC r) := by
  show p_w5q FU _ = _
  unfold p_w5q rowC
  simp only [t_w1q, Option.bind_some]
  by_cases h1 : ((r.1.size : Nat) : Int) < 1
  · have e : inB ((r.1.size : Nat) : Int) 1 20 = false := by unfold inB; rw [decide_eq_false (show ¬ (1 : Int) ≤ ((r.1.size : Nat) : Int) by omega)]; rfl
    rw [decide_eq_true h1, e]; rfl
  · by_cases h2 : ((r.1.size : Nat) : Int) > 20
    · have e : inB ((r.1.size : Nat) : Int) 1 20 = false := by unfold inB; rw [decide_eq_false (show ¬ ((r.1.size : Nat) : Int) ≤ 20 by omega), Bool.and_false]
      rw [decide_eq_false h1, decide_eq_true h2, e]; rfl
    · have e : inB ((r.1.size : Nat) : Int) 1 20 = true := by unfold inB; rw [decide_eq_true (show (1 : Int) ≤ ((r.1.size : Nat) : Int) by omega), decide_eq_true (show ((r.1.size : Nat) : Int) ≤ 20 by omega)]; rfl
      rw [decide_eq_false h1, decide_eq_false h2, e]
      cases r.2.2.2 <;> simp only [cond_true, cond_false, Option.bind_some, Bool.not_true, Bool.false_or, Bool.true_and, Bool.false_and] <;> (try cases (r.2.2.1.toList == (⟨#[]⟩ : ByteArray).toList)) <;> (try simp only [cond_true, cond_false, Bool.not_true, Bool.not_false]) <;> cases (decide (((r.2.2.1.size : Nat) : Int) > 100)) <;> (try simp only [cond_true, cond_false]) <;> cases inB r.2.1 1 1000000 <;> rfl

theorem t_w6q (a b : RowT) : m_w6q (a, b) = some (decide (cfRow a b < 0)) := by
  show p_w6q FU _ = _
  unfold p_w6q
  simp only
  rw [Go.ByteArray.toList_eq, Go.ByteArray.toList_eq]
  by_cases h : a.1.data.toList = b.1.data.toList
  · have e : cmpB a.1 b.1 = 0 := (cmpL_zero _ _).2 h
    rw [h, beq_self_eq_true, Bool.not_true, cond_false]
    congr 1
    refine decide_eq_decide.2 ?_
    rw [cfRow_lt, e]
    constructor
    · intro h; exact .inr ⟨rfl, h⟩
    · rintro (h | ⟨_, h⟩)
      · omega
      · exact h
  · have e : ¬ cmpB a.1 b.1 = 0 := fun h' => h ((cmpL_zero _ _).1 h')
    rw [show (a.1.data.toList == b.1.data.toList) = false from beq_eq_false_iff_ne.2 h, Bool.not_false, cond_true]
    congr 1
    rw [Bool.eq_iff_iff, decide_eq_true_eq, cfRow_lt]
    have := cmpL_lt a.1.data.toList b.1.data.toList
    constructor
    · intro h; exact .inl (this.2 h)
    · rintro (h | ⟨h, _⟩)
      · exact this.1 h
      · exact absurd h e

theorem t_w7q (xs : List RowT) : m_w7q xs = some (tabC xs) := by
  show p_w7q FU _ = _
  unfold p_w7q tabC
  by_cases hl : xs.length > 200
  · rw [if_pos hl, decide_eq_true (show lenI xs > 200 by rw [lenI_eq]; omega)]; rfl
  · rw [if_neg hl, decide_eq_false (show ¬ lenI xs > 200 by rw [lenI_eq]; omega), cond_false]
    unfold l_w7q_1
    refine (lp_fst xs (tabStep xs) (some 0) (by unfold B36; omega) (fun i hi rec hw => ?_) (fun rec => ?_)).trans (by cases fstI (tabStep xs) 0 xs <;> rfl)
    · simp only [lt_lenI hi, cond_true, geti_lt xs i hi, Option.bind_some, t_w5q, tabStep, hw]
      cases (rowC xs[i] == 0)
      · rfl
      · simp only [Bool.not_true, cond_false]
        by_cases h0 : 0 < i
        · have hp : i - 1 < xs.length := by omega
          rw [decide_eq_true (show ((i : Int) > 0) by omega), decide_eq_true h0, prv (by unfold B36; omega) h0]
          simp only [geti_lt xs (i - 1) hp, List.getElem?_eq_getElem hp, Option.getD_some, t_w6q, Option.bind_some, cond_true, Bool.true_and]
          cases decide (cfRow xs[i - 1] xs[i] < 0) <;> rfl
        · rw [decide_eq_false (show ¬ ((i : Int) > 0) by omega), decide_eq_false h0]
          simp only [cond_false, Option.bind_some, Bool.false_and]
    · simp only [ge_lenI, cond_false]

theorem t_w8q (xs : List RowT) (v : Int) (hl : xs.length ≤ 1048576) : m_w8q (xs, v) = some (belowB xs v) := by
  show p_w8q FU _ = _
  unfold p_w8q l_w8q_1
  refine (lp_hit xs (fun y => decide (y.2.1 ≥ v)) (some false) (some true) (by unfold B36; omega) (fun i hi rec hw => ?_) (fun rec => ?_)).trans ?_
  · simp only [lt_lenI hi, cond_true, geti_lt xs i hi, Option.bind_some, hw]
  · simp only [ge_lenI, cond_false]
  · unfold belowB
    rw [show (xs.all fun r => decide (r.2.1 < v)) = !(xs.any fun y => decide (y.2.1 ≥ v)) by
      rw [List.not_any_eq_all_not]
      congr 1
      funext r
      by_cases h : r.2.1 < v
      · rw [decide_eq_true h, decide_eq_false (show ¬ r.2.1 ≥ v by omega)]; rfl
      · rw [decide_eq_false h, decide_eq_true (show r.2.1 ≥ v by omega)]; rfl]
    cases xs.any fun y => decide (y.2.1 ≥ v) <;> rfl

theorem t_w9q (g : LogT) (hl : g.1.length + g.2.length ≤ 2097152) : m_w9q g = some (g.1 ++ g.2, []) := by
  show p_w9q FU _ = _
  unfold p_w9q
  rw [chk_true (ble_mem (by unfold maxBytes; omega)), chk_true (ble_mem (by unfold maxBytes; omega))]

theorem t_w10q (bs : List Int) (hb : byB bs) (hl : bs.length ≤ 1048576) : m_w10q bs = some (chkB bs) := by
  show p_w10q FU _ = _
  unfold p_w10q l_w10q_1 chkB
  refine Eq.trans (lp_foldI bs chkF (fun i s => (s, (i : Int))) (fun s => some s) (fun i s => 0 ≤ s ∧ s < 65521) (by unfold B36; omega) 1 (by omega) (fun i hi s hs => ?_) (fun s hs rec => ?_)).1 rfl
  · have hbi := hb bs[i] (List.getElem_mem hi)
    refine ⟨by unfold chkF; rw [Int.tmod_eq_emod_of_nonneg (by omega)]; omega, fun rec => ?_⟩
    simp only [lt_lenI hi, cond_true, geti_lt bs i hi, Option.bind_some]
    rw [nxt (by unfold B36; omega), wrap64 (n := bs[i]) (by omega) (by omega), wrap64 (n := s * 257) (by omega) (by omega), wrap64 (n := s * 257 + bs[i]) (by omega) (by omega), wrap64 (n := s * 257 + bs[i] + 1) (by omega) (by omega)]
    rfl
  · simp only [ge_lenI, cond_false]

theorem t_w11q (D : List Int) (hb : byB D) (hl : D.length ≤ 1048576) : m_w11q D = some ((recsL D).1, ((recsL D).2 : Int)) := by
  show p_w11q FU _ = _
  unfold p_w11q l_w11q_1
  refine lp_recs D (by omega) (fun s => (s.1, (s.2 : Int))) (fun s => (s.1, (s.2 : Int))) (fun s hs hn rec => ?_)
  simp only []
  have w4 : IntKind.wrap .i64 ((s.2 : Int) + 4) = ((s.2 + 4 : Nat) : Int) := by rw [wrap64 (by omega) (by omega)]; omega
  rw [w4]
  by_cases h4 : s.2 + 4 < D.length
  · obtain ⟨a, b, c, d, t, hr⟩ := four (r := D.drop s.2) (by rw [List.length_drop]; omega)
    have hlt : t.length + 4 = D.length - s.2 := by have := congrArg List.length hr; simp only [List.length_drop, List.length_cons] at this; omega
    have g0 := geti_drop hr
    have hr1 := (drop_cons hr).2
    have g1 := geti_drop hr1
    have hr2 := (drop_cons hr1).2
    have g2 := geti_drop hr2
    have hr3 := (drop_cons hr2).2
    have g3 := geti_drop hr3
    have hr4 := (drop_cons hr3).2
    have hbd := byB_drop hb s.2
    rw [hr] at hbd
    obtain ⟨ha, hbd⟩ := byB_cons hbd
    obtain ⟨hbb, hbd⟩ := byB_cons hbd
    obtain ⟨hc, hbd⟩ := byB_cons hbd
    obtain ⟨hd, hbd⟩ := byB_cons hbd
    rw [decide_eq_true (show ((s.2 + 4 : Nat) : Int) < lenI D by rw [lenI_eq]; omega), cond_true, hr]
    rw [show IntKind.wrap .i64 ((s.2 : Int) + 1) = ((s.2 + 1 : Nat) : Int) by rw [wrap64 (by omega) (by omega)]; omega, show IntKind.wrap .i64 ((s.2 : Int) + 2) = ((s.2 + 1 + 1 : Nat) : Int) by rw [wrap64 (by omega) (by omega)]; omega, show IntKind.wrap .i64 ((s.2 : Int) + 3) = ((s.2 + 1 + 1 + 1 : Nat) : Int) by rw [wrap64 (by omega) (by omega)]; omega]
    simp only [g0, g1, g2, g3, Option.bind_some]
    rw [wrap64 (n := a) (by omega) (by omega), wrap64 (n := b) (by omega) (by omega), wrap64 (n := a * 256) (by omega) (by omega), wrap64 (n := a * 256 + b) (by omega) (by omega), wrap64 (n := c) (by omega) (by omega), wrap64 (n := d) (by omega) (by omega), wrap64 (n := c * 256) (by omega) (by omega), wrap64 (n := c * 256 + d) (by omega) (by omega)]
    obtain ⟨n, hn'⟩ : ∃ n : Nat, a * 256 + b = (n : Int) := ⟨(a * 256 + b).toNat, by omega⟩
    have hu : unfr (a :: b :: c :: d :: t) = if (1 ≤ a * 256 + b ∧ a * 256 + b ≤ 500) ∧ a * 256 + b ≤ t.length ∧ chkB (t.take (a * 256 + b).toNat) = c * 256 + d then some (t.take (a * 256 + b).toNat) else none := rfl
    rw [hu, hn', Int.toNat_natCast, wrap64 (n := ((s.2 + 4 : Nat) : Int) + (n : Int)) (by omega) (by omega)]
    by_cases h1 : (n : Int) < 1
    · rw [decide_eq_true h1, cond_true, Option.bind_some, cond_true, if_neg (by omega)]
    · rw [decide_eq_false h1, cond_false]
      by_cases h2 : (n : Int) > 500
      · rw [decide_eq_true h2, cond_true, Option.bind_some, cond_true, if_neg (by omega)]
      · rw [decide_eq_false h2, cond_false]
        by_cases h3 : ((s.2 + 4 : Nat) : Int) + (n : Int) > lenI D
        · rw [decide_eq_true h3, Option.bind_some, cond_true]
          rw [lenI_eq] at h3
          rw [if_neg (by omega)]
        · rw [decide_eq_false h3, Option.bind_some, cond_false]
          rw [lenI_eq] at h3
          rw [show ((s.2 + 4 : Nat) : Int) + (n : Int) = ((s.2 + 4 + n : Nat) : Int) by omega, chk_true (bnd_nat _ _ _ (by omega) (by omega)), cutL_nat, show s.2 + 4 = s.2 + 1 + 1 + 1 + 1 by omega, hr4, show s.2 + 1 + 1 + 1 + 1 + n - (s.2 + 1 + 1 + 1 + 1) = n by omega, t_w10q _ (byB_take hbd n) (by rw [List.length_take]; omega), Option.bind_some, List.nil_append]
          have hlt2 : (t.take n).length = n := by rw [List.length_take]; omega
          by_cases h5 : chkB (t.take n) = c * 256 + d
          · rw [if_pos ⟨by omega, by omega, h5⟩, h5, beq_self_eq_true, Bool.not_true, cond_false, chk_true (ble_mem (by simp only [List.length_nil]; unfold maxBytes; omega)), chk_true (ble_mem (by simp only [List.length_cons, List.length_nil]; unfold maxBytes; omega))]
            simp only [hlt2]
            rw [show s.2 + 1 + 1 + 1 + 1 + n = s.2 + (4 + n) by omega]
          · rw [if_neg (fun h => h5 h.2.2), show (chkB (t.take n) == c * 256 + d) = false from beq_eq_false_iff_ne.2 h5]
            rfl
  · rw [decide_eq_false (show ¬ ((s.2 + 4 : Nat) : Int) < lenI D by rw [lenI_eq]; omega), cond_false, unfr_short (by rw [List.length_drop]; omega)]

theorem t_w12q (bs : List Int) (h : bs.length = 8) : m_w12q bs = some (numB bs) := by
  show p_w12q FU _ = _
  unfold p_w12q l_w12q_1 numB
  refine lp_fold bs numF (fun i s => (s, (i : Int))) (fun s => some (IntKind.wrap .i64 s)) (by unfold B36; omega) (fun i hi s rec hw => ?_) (fun s rec => ?_) 0
  · simp only [geti_lt bs i hi, Option.bind_some, hw]
    rw [decide_eq_true (show (i : Int) < 8 by omega), cond_true]
    rfl
  · simp only []
    rw [decide_eq_false (show ¬ (bs.length : Int) < 8 by omega), cond_false]

theorem t_w13q (x : List Int) (k : Nat) (hb : byB x) (hl : x.length ≤ 1048576) (hk : k ≤ x.length) : m_w13q (x, (k : Int)) = some (match takeT (x.drop k) with
    | some (t, r) => (t, ((x.length - r.length : Nat) : Int))
    | none => ((⟨#[]⟩ : ByteArray), (-1 : Int))) := by
  show p_w13q FU _ = _
  unfold p_w13q
  simp only
  have hbd := byB_drop hb k
  cases hr : x.drop k with
  | nil =>
    have hlen := congrArg List.length hr
    simp only [List.length_drop, List.length_nil] at hlen
    rw [decide_eq_true (show (k : Int) ≥ lenI x by rw [lenI_eq]; omega)]
    rfl
  | cons a t =>
    rw [hr] at hbd
    obtain ⟨ha, hbt⟩ := byB_cons hbd
    have hlen := congrArg List.length hr
    simp only [List.length_drop, List.length_cons] at hlen
    have g0 := geti_drop hr
    have hr1 := (drop_cons hr).2
    rw [decide_eq_false (show ¬ (k : Int) ≥ lenI x by rw [lenI_eq]; omega), cond_false]
    simp only [g0, Option.bind_some]
    rw [wrap64 (n := a) (by omega) (by omega), wrap64 (n := (k : Int) + 1) (by omega) (by omega), wrap64 (n := (k : Int) + 1 + a) (by omega) (by omega)]
    simp only [takeT]
    by_cases h : (t.length : Int) < a
    · rw [decide_eq_true (show (k : Int) + 1 + a > lenI x by rw [lenI_eq]; omega), cond_true, if_pos h]
    · rw [decide_eq_false (show ¬ (k : Int) + 1 + a > lenI x by rw [lenI_eq]; omega), cond_false, if_neg h]
      obtain ⟨n, hn⟩ : ∃ n : Nat, a = (n : Int) := ⟨a.toNat, by omega⟩
      subst hn
      rw [show (k : Int) + 1 + (n : Int) = ((k + 1 + n : Nat) : Int) by omega, show (k : Int) + 1 = ((k + 1 : Nat) : Int) by omega, chk_true (bnd_nat _ _ _ (by omega) (by omega)), cutL_nat, hr1, show k + 1 + n - (k + 1) = n by omega, Int.toNat_natCast]
      simp only [Option.some.injEq, Prod.mk.injEq, true_and, List.length_drop]
      omega

theorem t_w14q (v : Int) (h0 : 0 ≤ v) (h1 : v ≤ 1000000) : m_w14q v = some (num8 v) := by
  show p_w14q FU _ = _
  unfold p_w14q l_w14q_1
  refine lp_for (fun r => r = some (num8 v)) (fun i z => z = ((num8 v).take i, 7 - (i : Int))) 8 (fun i z hi hz => ?_) (fun z hz rec => ?_) FU _ (by unfold FU; omega) rfl
  · subst hz
    refine .inr ⟨_, rfl, fun rec => ?_⟩
    simp only []
    rw [decide_eq_true (show (7 : Int) - (i : Int) ≥ 0 by omega), cond_true, wrap64 (n := 8 * (7 - (i : Int))) (by omega) (by omega), wrapu64 (n := 8 * (7 - (i : Int))) (by omega) (by omega), chk_true (decide_eq_true (by omega)), chk_true (ble_mem (by rw [List.length_take, num8_len]; simp only [List.length_cons, List.length_nil]; unfold maxBytes; omega)), wrapu64 (n := v) (by omega) (by omega), wrap64 (n := 7 - (i : Int) - 1) (by omega) (by omega)]
    have hg : i < (num8 v).length := by rw [num8_len]; exact hi
    rw [List.take_succ_eq_append_getElem hg, num8_get, show min (8 * (7 - (i : Int))).toNat 64 = 8 * (7 - i) by omega, Int.fdiv_eq_ediv_of_nonneg _ (Int.le_of_lt (Int.pow_pos (by omega))), wrapu8 (Int.ediv_nonneg h0 (Int.le_of_lt (Int.pow_pos (by omega)))), show (7 : Int) - (i : Int) - 1 = 7 - ((i + 1 : Nat) : Int) by omega]
  · subst hz
    rw [List.take_of_length_le (by rw [num8_len]; omega)]
    rfl

theorem t_w15q (t : ByteArray) : m_w15q t = some (if t.size > 200 then 2 else 0, pT t) := by
  show p_w15q FU _ = _
  unfold p_w15q pT
  by_cases h : t.size > 200
  · rw [if_pos h, if_pos h, decide_eq_true (by omega)]; rfl
  · rw [if_neg h, if_neg h, decide_eq_false (by omega), cond_false, chk_true (ble_mem (by rw [len_bytes]; simp only [List.length_cons, List.length_nil]; unfold maxBytes; omega)), wrapu8 (by omega), Int.emod_eq_of_lt (by omega) (by omega)]
    rfl

theorem t_w16q (v : Int) (ws : List WriteT) (h0 : 0 ≤ v) (h1 : v ≤ 1000000) (hl : ws.length ≤ 1048576) : m_w16q (v, ws) = some (packL v ws) := by
  show p_w16q FU _ = _
  unfold p_w16q l_w16q_1 packL
  simp only
  rw [t_w14q v h0 h1, Option.bind_some]
  refine Eq.trans (lp_foldI ws packF (fun i s => (s, (i : Int))) (fun s => some s) (fun i s => s.length ≤ 8 + 403 * i) (by unfold B36; omega) (num8 v) (by rw [num8_len]; omega) (fun i hi s hs => ?_) (fun s hs rec => ?_)).1 rfl
  · have hp := packOne_len ws[i]
    refine ⟨by unfold packF; rw [List.length_append]; omega, fun rec => ?_⟩
    have q1 := pT_len ws[i].1
    have q2 := pT_len ws[i].2.1
    simp only [lt_lenI hi, cond_true, geti_lt ws i hi, Option.bind_some, t_w15q]
    rw [nxt (by unfold B36; omega)]
    unfold packF packOne
    cases ws[i].2.2
    · simp only [cond_false, cond_true, Bool.not_false]
      rw [chk_true (ble_mem (by simp only [List.length_cons, List.length_nil]; unfold maxBytes; omega)), Option.bind_some, chk_true (ble_mem (by simp only [List.length_append, List.length_cons, List.length_nil]; unfold maxBytes; omega)), chk_true (ble_mem (by simp only [List.length_append, List.length_cons, List.length_nil]; unfold maxBytes; omega))]
      simp only [List.append_assoc]
    · simp only [cond_false, cond_true, Bool.not_true]
      rw [chk_true (ble_mem (by simp only [List.length_cons, List.length_nil]; unfold maxBytes; omega)), Option.bind_some, chk_true (ble_mem (by simp only [List.length_append, List.length_cons, List.length_nil]; unfold maxBytes; omega))]
      simp only [List.append_assoc, List.append_nil]
  · simp only [ge_lenI, cond_false]

theorem t_w17q_1 (ws : List WriteT) (i : Nat) (hi : i ≤ ws.length) (hl : ws.length ≤ 1048576) (k : ByteArray) : l_w17q_1 FU (i : Int) ws k 0 = cond ((ws.take i).any fun u => u.1.toList == k.toList) (some (Sum.inr (Sum.inr (7 : Int)))) (some (Sum.inl ())) := by
  unfold l_w17q_1
  have hlen : (ws.take i).length = i := by rw [List.length_take]; omega
  refine lp_hit (ws.take i) (fun u => u.1.toList == k.toList) _ _ (by unfold B36; omega) (fun j hj rec hw => ?_) (fun rec => ?_)
  · rw [hlen] at hj
    rw [decide_eq_true (show (j : Int) < (i : Int) by omega), cond_true, geti_lt ws j (by omega), Option.bind_some, hw, List.getElem_take]
  · rw [hlen, decide_eq_false (show ¬ (i : Int) < (i : Int) by omega), cond_false]
theorem t_w17q (ws : List WriteT) (hl : ws.length ≤ 1048576) : m_w17q ws = some (wrC ws) := by
  show p_w17q FU _ = _
  unfold p_w17q wrC
  by_cases h1 : ws.length < 1
  · rw [decide_eq_true (show lenI ws < 1 by rw [lenI_eq]; omega), cond_true, Option.bind_some, cond_true, if_pos (.inl h1)]
  · rw [decide_eq_false (show ¬ lenI ws < 1 by rw [lenI_eq]; omega), cond_false]
    by_cases h2 : ws.length > 8
    · rw [decide_eq_true (show lenI ws > 8 by rw [lenI_eq]; omega), Option.bind_some, cond_true, if_pos (.inr h2)]
    · rw [decide_eq_false (show ¬ lenI ws > 8 by rw [lenI_eq]; omega), Option.bind_some, cond_false, if_neg (by omega)]
      have e : l_w17q_2 FU ws 0 = match fstI (fun i y => (wrStep ws i y).map (Sum.inr (α := Unit))) 0 ws with
          | some r => some r
          | none => some (Sum.inl ()) := by
        unfold l_w17q_2
        refine (lp_fst ws (fun i y => (wrStep ws i y).map (Sum.inr (α := Unit))) (some (Sum.inl ())) (by unfold B36; omega) (fun i hi rec hw => ?_) (fun rec => ?_)).trans (by cases fstI (fun i y => (wrStep ws i y).map (Sum.inr (α := Unit))) 0 ws <;> rfl)
        · simp only [lt_lenI hi, cond_true, geti_lt ws i hi, Option.bind_some, t_w5q, wrStep, hw]
          cases (rowC (ws[i].1, (1, ws[i].2)) == 0)
          · rfl
          · simp only [Bool.not_true, cond_false]
            rw [t_w17q_1 ws i (by omega) hl]
            cases ((ws.take i).any fun u => u.1.toList == ws[i].1.toList) <;> rfl
        · simp only [ge_lenI, cond_false]
      rw [e, fstI_map]
      cases fstI (wrStep ws) 0 ws with
      | some r => rfl
      | none =>
        simp only [Option.map_none, Option.bind_some, Sum.elim_inl]
        rw [t_w16q 1 ws (by omega) (by omega) hl, Option.bind_some]
        by_cases h : (packL 1 ws).length > 500
        · rw [if_pos h, decide_eq_true (by rw [lenI_eq]; omega), cond_true]
        · rw [if_neg h, decide_eq_false (by rw [lenI_eq]; omega), cond_false]

theorem t_w18q (v : Int) (ws : List WriteT) (hl : ws.length ≤ 1048576) : m_w18q (v, ws) = some (packW v ws) := by
  show p_w18q FU _ = _
  unfold p_w18q packW
  simp only [t_w1q, Option.bind_some, t_w17q ws hl]
  cases h : inB v 1 1000000
  · rfl
  · unfold inB at h
    simp only [Bool.and_eq_true, decide_eq_true_eq] at h
    rw [t_w16q v ws (by omega) h.2 hl]
    simp only [Bool.not_true, cond_false, Option.bind_some]
    cases (wrC ws == 0) <;> rfl

theorem t_w19q (x : List Int) (hb : byB x) (hl : x.length ≤ 1048576) : m_w19q x = some (unpR x) := by
  show p_w19q FU _ = _
  unfold p_w19q unpR
  by_cases h8 : x.length < 8
  · rw [if_pos h8, decide_eq_true (show lenI x < 8 by rw [lenI_eq]; omega), cond_true]
  · rw [if_neg h8, decide_eq_false (show ¬ lenI x < 8 by rw [lenI_eq]; omega), cond_false, show (some (8 : Int)) = some ((8 : Nat) : Int) from rfl, chk_true (by simp [bndB]; omega), show cutL none (some ((8 : Nat) : Int)) x = x.take 8 by simp [cutL], t_w12q _ (by rw [List.length_take]; omega), Option.bind_some]
    have e : l_w19q_1 FU x (([] : List WriteT), (8 : Int)) = (wrsL (x.drop 8)).elim (some (Sum.inr ((0 : Int), ([], false)))) (fun ws => some (Sum.inl ws)) := by
      unfold l_w19q_1
      have hl8 : (x.drop 8).length = x.length - 8 := List.length_drop
      refine Eq.trans (congrArg _ ?_) (lp_wrs (x.drop 8) (byB_drop hb 8) (by omega) (fun s => (s.1, ((x.length - s.2.length : Nat) : Int))) (fun o => o.elim (some (Sum.inr ((0 : Int), (([] : List WriteT), false)))) (fun ws => some (Sum.inl ws))) (fun s hs rec => ?_))
      · simp only [hl8]
        rw [show x.length - (x.length - 8) = 8 by omega]; rfl
      · obtain ⟨k, hk1, hk2, hk3⟩ := hs
        rw [List.drop_drop] at hk1
        have hsl : s.2.length = x.length - (8 + k) := by rw [hk1, List.length_drop]
        simp only []
        rw [show x.length - s.2.length = 8 + k by omega]
        cases hr : s.2 with
        | nil =>
          rw [hr] at hsl
          simp only [List.length_nil] at hsl
          rw [decide_eq_false (show ¬ ((8 + k : Nat) : Int) < lenI x by rw [lenI_eq]; omega), cond_false, if_pos rfl]
          rfl
        | cons f t =>
          rw [hr] at hsl
          simp only [List.length_cons] at hsl
          have hd : x.drop (8 + k) = f :: t := by rw [← hk1, hr]
          have hbd := byB_drop hb (8 + k)
          rw [hd] at hbd
          obtain ⟨hf, hbt⟩ := byB_cons hbd
          have hd1 := (drop_cons hd).2
          rw [decide_eq_true (show ((8 + k : Nat) : Int) < lenI x by rw [lenI_eq]; omega), cond_true, if_neg (List.cons_ne_nil _ _)]
          simp only [geti_drop hd, Option.bind_some]
          simp only [takeW]
          by_cases h1 : f > 1
          · rw [decide_eq_true h1, cond_true, if_pos h1]; rfl
          · rw [decide_eq_false h1, cond_false, if_neg h1, nxt (by unfold B36; omega), t_w13q x (8 + k + 1) hb hl (by omega), hd1]
            cases ht : takeT t with
            | none => rfl
            | some p =>
              obtain ⟨key, r1⟩ := p
              obtain ⟨i, hi, hi1, hi2⟩ := takeT_len hbt ht
              have hlr : r1.length = t.length - i := by rw [hi, List.length_drop]
              simp only [Option.bind_some]
              rw [decide_eq_false (show ¬ ((x.length - r1.length : Nat) : Int) < 0 by omega), cond_false]
              by_cases h2 : f = 1
              · rw [h2, beq_self_eq_true, Bool.not_true, cond_false, Option.bind_some, Sum.elim_inl, if_pos rfl, chk_true (ble_mem (by simp only [List.length_cons, List.length_nil]; unfold maxBytes; omega))]
              · rw [show (f == 1) = false from beq_eq_false_iff_ne.2 h2, Bool.not_false, cond_true, if_neg h2, t_w13q x _ hb hl (by omega), show x.drop (x.length - r1.length) = r1 by
                  rw [show x.length - r1.length = 8 + k + 1 + i by omega, ← List.drop_drop, hd1, hi]]
                cases ht2 : takeT r1 with
                | none => rfl
                | some p =>
                  obtain ⟨v, r2⟩ := p
                  simp only [Option.bind_some]
                  rw [decide_eq_false (show ¬ ((x.length - r2.length : Nat) : Int) < 0 by omega), cond_false, Option.bind_some, Sum.elim_inl, chk_true (ble_mem (by simp only [List.length_cons, List.length_nil]; unfold maxBytes; omega))]
    have e' : l_w19q_1 FU x (([] : List (ByteArray × (ByteArray × Bool))), (8 : Int)) = _ := e
    rw [e']
    cases hw : wrsL (x.drop 8) with
    | none => rfl
    | some ws =>
      simp only [Option.elim_some, Option.bind_some, Sum.elim_inl]
      have hlw : ws.length ≤ 1048576 := by
        have := wrsL_len (byB_drop hb 8) hw
        rw [List.length_drop] at this; omega
      rw [t_w18q _ ws hlw, Option.bind_some]

theorem t_w20q (v : Int) (ws : List WriteT) (hl : ws.length ≤ 1048576) : m_w20q (v, ws) = some (rowsW v ws) := by
  show p_w20q FU _ = _
  unfold p_w20q l_w20q_1
  have key := lp_foldI ws (fun (s : List RowT) w => s ++ [(w.1, (v, w.2))]) (fun i s => (s, (i : Int))) (fun s => some s) (fun i s => s = rowsW v (ws.take i)) (by unfold B36; omega) [] rfl (step := fun (rec6 : List RowT × Int → Option (List RowT)) (z5 : List RowT × Int) =>
 (cond (decide (z5.2 < (lenI ws)))
  ((geti ws z5.2).bind fun y7 =>
  ((geti ws z5.2).bind fun y8 =>
  ((geti ws z5.2).bind fun y9 =>
  (chk (Nat.ble ((z5.1.length + [(y7.1, (v, (y8.2.1, y9.2.2)))].length) * 48) maxBytes)
  (rec6 ((z5.1 ++ [(y7.1, (v, (y8.2.1, y9.2.2)))]), IntKind.wrap .i64 (z5.2 + (1 : Int))))))))
  (some z5.1))) (fun i hi s hs => by
    refine ⟨by rw [hs, List.take_succ_eq_append_getElem hi]; unfold rowsW; rw [List.map_append]; rfl, fun rec => ?_⟩
    simp only [lt_lenI hi, cond_true, geti_lt ws i hi, Option.bind_some]
    rw [chk_true (ble_mem (by rw [hs]; simp only [rowsW, List.length_map, List.length_take, List.length_cons, List.length_nil]; unfold maxBytes; omega)), nxt (by unfold B36; omega)]) (fun s hs rec => by simp only [ge_lenI, cond_false])
  refine key.1.trans ?_
  rw [key.2, List.take_length]

theorem t_w21q (xs : List RowT) (r : RowT) (hl : xs.length ≤ 2097152) : m_w21q (xs, r) = some (putL xs r, true) := by
  show p_w21q FU _ = _
  unfold p_w21q putL
  have e : l_w21q_1 FU xs r 0 = some (putAtR xs r : Int) := by
    unfold l_w21q_1 putAtR
    refine lp_for (fun o => o = some ((xs.takeWhile (aheadR r)).length : Int)) (fun i z => z = (i : Int) ∧ ∀ (j : Nat) (hj : j < i) (hx : j < xs.length), aheadR r xs[j] = true) xs.length (fun i z hi hz => ?_) (fun z hz rec => ?_) FU _ (by unfold FU; omega) ⟨rfl, fun j hj => by omega⟩
    · obtain ⟨rfl, hz⟩ := hz
      simp only [lt_lenI hi, cond_true, geti_lt xs i hi, Option.bind_some, Int.toNat_natCast, List.getElem?_eq_getElem hi, t_w6q]
      cases ha : decide (cfRow xs[i] r < 0) with
      | true =>
        refine .inr ⟨_, ⟨nxt (by unfold B36; omega), fun j hj hx => ?_⟩, fun rec => rfl⟩
        rcases Nat.lt_or_ge j i with h | h
        · exact hz j h hx
        · have : j = i := by omega
          subst this; exact ha
      | false =>
        refine .inl fun rec => ?_
        rw [cond_false, takeWhile_len (aheadR r) xs i (by omega) (fun j hj => hz j hj (by omega)) (fun h => ha)]
    · obtain ⟨rfl, hz⟩ := hz
      simp only [ge_lenI, cond_false, Option.bind_some]
      rw [takeWhile_len (aheadR r) xs xs.length (by omega) (fun j hj => hz j hj hj) (fun h => by omega)]
  have hle := putAtR_le xs r
  simp only [e, Option.bind_some, Int.toNat_natCast, List.drop_zero]
  have d1 : (xs.drop (putAtR xs r)).take (xs.length - putAtR xs r) = xs.drop (putAtR xs r) := List.take_of_length_le (by simp)
  have b1 : bndB none (some (putAtR xs r : Int)) none xs.length = true := by simp [bndB]; omega
  have b2 : bndB (some (putAtR xs r : Int)) none none xs.length = true := by simp [bndB]; omega
  have m1 : Nat.ble ((xs.take (putAtR xs r)).length * 48) maxBytes = true := ble_mem (by rw [List.length_take]; unfold maxBytes; omega)
  have m2 : Nat.ble (((xs.take (putAtR xs r)).length + [r].length) * 48) maxBytes = true := ble_mem (by rw [List.length_take, List.length_singleton]; unfold maxBytes; omega)
  have m3 : Nat.ble (((xs.take (putAtR xs r) ++ [r]).length + (xs.drop (putAtR xs r)).length) * 48) maxBytes = true := ble_mem (by rw [List.length_append, List.length_take, List.length_drop, List.length_singleton]; unfold maxBytes; omega)
  rw [d1]
  by_cases h : putAtR xs r < xs.length
  · simp only [lt_lenI h, cond_true, geti_lt xs _ h, Option.bind_some, t_w6q, decide_eq_true h, Bool.true_and, List.getElem?_eq_getElem h, Option.getD_some]
    cases decide (cfRow r xs[putAtR xs r] < 0) with
    | true => simp only [Bool.not_true, cond_false, chk_true b1, chk_true b2, chk_true m1, chk_true m2, chk_true m3]
    | false => rfl
  · rw [decide_eq_false (show ¬ (putAtR xs r : Int) < lenI xs by rw [lenI_eq]; omega), cond_false, Option.bind_some, cond_false, decide_eq_false h, Bool.false_and, cond_false]
    simp only [chk_true b1, chk_true b2, chk_true m1, chk_true m2, chk_true m3]

theorem t_w22q_1 (rs : List RowT) (v : Int) (xs : List RowT) (hl : rs.length ≤ 1048576) (hx : xs.length ≤ 1048576) : l_w22q_1 FU rs v (xs, (0 : Int)) = some (Sum.inl (rs.foldl putL xs, v)) := by
  unfold l_w22q_1
  refine Eq.trans (lp_foldI rs putL (fun i s => (s, (i : Int))) (fun s => some (Sum.inl (s, v))) (fun i s => s.length ≤ xs.length + i) (by unfold B36; omega) xs (by omega) (fun i hi s hs => ?_) (fun s hs rec => ?_)).1 rfl
  · have := putL_len s rs[i]
    refine ⟨by omega, fun rec => ?_⟩
    simp only [lt_lenI hi, cond_true, geti_lt rs i hi, Option.bind_some, Int.toNat_natCast, List.getElem?_eq_getElem hi]
    rw [t_w21q s _ (by omega), Option.bind_some, nxt (by unfold B36; omega)]
  · simp only [ge_lenI, cond_false]
theorem t_w22q (g : LogT) (nx : Int) (hb1 : byB g.1) (hb2 : byB g.2) (hl : g.1.length + g.2.length ≤ 6000) : m_w22q (g, nx) = some (logR g nx) := by
  show p_w22q FU _ = _
  unfold p_w22q logR
  have hb := byB_app hb1 hb2
  have hlD : (g.1 ++ g.2).length ≤ 6000 := by rw [List.length_append]; omega
  simp only
  rw [t_w9q g (by omega), Option.bind_some, t_w11q _ hb (by omega), Option.bind_some, lenI_eq, lenI_eq, wrap64 (by omega) (by omega)]
  by_cases hu : (recsL (g.1 ++ g.2)).2 < g.1.length + g.2.length
  · rw [if_pos hu, decide_eq_true (show ((recsL (g.1 ++ g.2)).2 : Int) < (g.1.length : Int) + (g.2.length : Int) by omega), cond_true]
  · rw [if_neg hu, decide_eq_false (show ¬ ((recsL (g.1 ++ g.2)).2 : Int) < (g.1.length : Int) + (g.2.length : Int) by omega), cond_false]
    obtain ⟨q1, q2, q3⟩ := recsL_ok hb
    unfold l_w22q_2
    refine ((lp_opt (recsL (g.1 ++ g.2)).1 (logF nx) (fun i s => (s.1.foldl putL [], (s.2, (i : Int)))) (fun s => some (s.1.foldl putL [], true)) (some ([], false)) logI (by unfold B36; omega) ([], 0) ⟨by simp, by simp, by simp⟩ (fun i hi s hs => ⟨fun rec => ?_, fun s' h => (logI_next hs h).1⟩) (fun s hs rec => ?_)).1).trans ?_
    · obtain ⟨w1, w2⟩ := q3 _ (List.getElem_mem hi)
      simp only [lt_lenI hi, cond_true, geti_lt _ i hi, Option.bind_some, Int.toNat_natCast, List.getElem?_eq_getElem hi]
      rw [t_w19q _ w2 (by omega), Option.bind_some, nxt (by unfold B36; omega)]
      unfold logF
      cases h1 : (unpR (recsL (g.1 ++ g.2)).1[i]).2.2 with
      | false => rfl
      | true =>
        have hok := (wrC_zero (unpR_ok h1).2).1
        simp only [Bool.not_true, cond_false, Bool.false_or]
        cases h2 : decide ((unpR (recsL (g.1 ++ g.2)).1[i]).1 ≥ nx) with
        | true =>
          cases decide ((unpR (recsL (g.1 ++ g.2)).1[i]).1 ≤ s.2) <;> rfl
        | false =>
          cases h3 : decide ((unpR (recsL (g.1 ++ g.2)).1[i]).1 ≤ s.2) with
          | true => rfl
          | false =>
            have h4 := putF_len s.1 []
            have h5 := hs.1
            simp only [cond_false, Option.bind_some, Bool.or_false]
            rw [t_w20q _ _ (by omega), Option.bind_some, t_w22q_1 _ _ _ (by simp only [rowsW, List.length_map]; omega) (by simp only [List.length_nil] at h4; omega), Option.bind_some, Sum.elim_inl, Option.elim_some, List.foldl_append]
    · simp only [ge_lenI, cond_false]
    · cases (recsL (g.1 ++ g.2)).1.foldlM (logF nx) ([], 0) <;> rfl

theorem t_w23q (xs ys : List RowT) (hl : xs.length ≤ 1048576) : m_w23q (xs, ys) = some (sameR xs ys) := by
  show p_w23q FU _ = _
  unfold p_w23q sameR
  by_cases he : xs.length = ys.length
  · have hz : (xs.zip ys).length = xs.length := by rw [List.length_zip]; omega
    simp only
    rw [show (lenI xs == lenI ys) = true by rw [lenI_eq, lenI_eq, he]; simp, Bool.not_true, cond_false, Bool.true_and]
    unfold l_w23q_1
    refine (lp_hit (xs.zip ys) (fun p => !(rowE p.1 p.2)) (some false) (some true) (by unfold B36; omega) (fun i hi rec hw => ?_) (fun rec => ?_)).trans (by cases (xs.zip ys).any fun p => !(rowE p.1 p.2) <;> rfl)
    · have hx : i < xs.length := by omega
      have hy : i < ys.length := by omega
      simp only [lt_lenI hx, cond_true, geti_lt xs i hx, geti_lt ys i hy, Option.bind_some, hw, List.getElem_zip]
      rfl
    · rw [hz]; simp only [ge_lenI, cond_false]
  · simp only
    rw [show (lenI xs == lenI ys) = false by rw [lenI_eq, lenI_eq, beq_eq_false_iff_ne]; omega]
    rfl

theorem t_w24q (e : EngT) (hb1 : byB e.1.1) (hb2 : byB e.1.2) (h1 : e.1.1.length ≤ 1048576) (h2 : e.1.2.length ≤ 1048576) : m_w24q e = some (engC e) := by
  show p_w24q FU _ = _
  unfold p_w24q engC
  rw [t_w4q e.1 h1 h2, Option.bind_some]
  by_cases c1 : e.1.1.length + e.1.2.length > 6000
  · rw [if_pos c1, if_pos c1]; rfl
  rw [if_neg c1, if_neg c1, show (!((0 : Int) == 0)) = false from rfl, cond_false, t_w7q, Option.bind_some]
  by_cases c2 : tabC e.2.1 = 0
  case neg => rw [if_pos c2, show (tabC e.2.1 == 0) = false from beq_eq_false_iff_ne.2 c2]; rfl
  rw [if_neg (fun h => h c2), c2, show (!((0 : Int) == 0)) = false from rfl, cond_false]
  obtain ⟨hl0, hrow⟩ := tabC_zero c2
  by_cases c3 : e.2.2.1.length > 6
  · rw [if_pos c3, decide_eq_true (by rw [lenI_eq]; omega), cond_true]
  rw [if_neg c3, decide_eq_false (by rw [lenI_eq]; omega), cond_false]
  have e1 : l_w24q_1 FU e.2.2.1 0 = match fstI (fun i t => (cond (!(tabC t == 0)) (some (tabC t)) none).map (Sum.inr (α := Unit))) 0 e.2.2.1 with
      | some r => some r
      | none => some (Sum.inl ()) := by
    unfold l_w24q_1
    refine (lp_fst e.2.2.1 (fun i t => (cond (!(tabC t == 0)) (some (tabC t)) none).map (Sum.inr (α := Unit))) (some (Sum.inl ())) (by unfold B36; omega) (fun i hi rec hw => ?_) (fun rec => ?_)).trans (by cases fstI (fun i t => (cond (!(tabC t == 0)) (some (tabC t)) none).map (Sum.inr (α := Unit))) 0 e.2.2.1 <;> rfl)
    · simp only [lt_lenI hi, cond_true, geti_lt _ i hi, Option.bind_some, t_w7q, hw]
      cases (tabC e.2.2.1[i] == 0) <;> rfl
    · simp only [ge_lenI, cond_false]
  rw [e1, fstI_map (fun _ t => cond (!(tabC t == 0)) (some (tabC t)) none) (Sum.inr (α := Unit))]
  cases hf : fstI (fun _ t => cond (!(tabC t == 0)) (some (tabC t)) none) 0 e.2.2.1 with
  | some r => rfl
  | none =>
    have htab : ∀ t ∈ e.2.2.1, t.length ≤ 200 := tabs_len hf
    simp only [Option.map_none, Option.bind_some, Sum.elim_inl, Option.getD_none, t_w1q]
    cases hin : inB e.2.2.2 1 1000000 with
    | false => rfl
    | true =>
      simp only [Bool.not_true, cond_false, Bool.false_or]
      rw [t_w8q _ _ (by omega), Option.bind_some]
      cases hbo : belowB e.2.1 e.2.2.2 with
      | false => rfl
      | true =>
        simp only [Bool.not_true, cond_false, Option.bind_some, Bool.false_or]
        have e2 : l_w24q_2 FU e.2.2.1 e.2.2.2 0 = cond (e.2.2.1.any fun t => !(belowB t e.2.2.2)) (some (Sum.inr (3 : Int))) (some (Sum.inl ())) := by
          unfold l_w24q_2
          refine lp_hit e.2.2.1 (fun t => !(belowB t e.2.2.2)) _ _ (by unfold B36; omega) (fun i hi rec hw => ?_) (fun rec => ?_)
          · simp only [lt_lenI hi, cond_true, geti_lt _ i hi, Option.bind_some, hw]
            rw [t_w8q _ _ (by have := htab _ (List.getElem_mem hi); omega), Option.bind_some]
          · simp only [ge_lenI, cond_false]
        rw [e2]
        cases hany : e.2.2.1.any fun t => !(belowB t e.2.2.2) with
        | true => rfl
        | false =>
          simp only [cond_false, Option.bind_some, Sum.elim_inl]
          rw [t_w22q e.1 e.2.2.2 hb1 hb2 (by omega), Option.bind_some]
          have hlr := logR_len e.1 e.2.2.2 (by omega)
          cases hlo : (logR e.1 e.2.2.2).2 with
          | false => rfl
          | true =>
            simp only [Bool.not_true, cond_false, Bool.false_or]
            rw [t_w23q _ _ (by omega), Option.bind_some]
            cases hsm : sameR (logR e.1 e.2.2.2).1 e.2.1 with
            | false => rfl
            | true =>
              simp only [Bool.not_true, cond_false, Option.bind_some]
              have e3 : ∀ (i : Nat) (hi : i < e.2.1.length), l_w24q_3 FU e.2.1 e.2.2.1 (i : Int) 0 = cond (e.2.2.1.any fun t => !(belowB t e.2.1[i].2.1)) (some (Sum.inr (1 : Int))) (some (Sum.inl ())) := fun i hi => by
                unfold l_w24q_3
                refine lp_hit e.2.2.1 (fun t => !(belowB t e.2.1[i].2.1)) _ _ (by unfold B36; omega) (fun j hj rec hw => ?_) (fun rec => ?_)
                · simp only [lt_lenI hj, cond_true, geti_lt _ j hj, geti_lt _ i hi, Option.bind_some, hw]
                  rw [t_w8q _ _ (by have := htab _ (List.getElem_mem hj); omega), Option.bind_some]
                · simp only [ge_lenI, cond_false]
              unfold l_w24q_4
              refine (lp_hit e.2.1 (fun y => e.2.2.1.any fun t => !(belowB t y.2.1)) (some 1) (some 0) (by unfold B36; omega) (fun i hi rec hw => ?_) (fun rec => ?_)).trans (by cases e.2.1.any fun y => e.2.2.1.any fun t => !(belowB t y.2.1) <;> rfl)
              · simp only [lt_lenI hi, cond_true, hw, e3 i hi]
                cases (e.2.2.1.any fun t => !(belowB t e.2.1[i].2.1)) <;> rfl
              · simp only [ge_lenI, cond_false]

theorem t_w25q (g : LogT) (h1 : g.1.length ≤ 1048576) (h2 : g.2.length ≤ 1048576) : m_w25q g = some g := by
  show p_w25q FU _ = _
  unfold p_w25q
  rw [chk_true (ble_mem (by unfold maxBytes; omega)), chk_true (ble_mem (by unfold maxBytes; omega))]

theorem t_w26q (e : EngT) (h1 : e.1.1.length ≤ 1048576) (h2 : e.1.2.length ≤ 1048576) (h3 : e.2.1.length ≤ 1048576) (h4 : e.2.2.1.length ≤ 1048576) (h5 : ∀ t ∈ e.2.2.1, t.length ≤ 1048576) : m_w26q e = some e := by
  show p_w26q FU _ = _
  unfold p_w26q
  rw [t_w25q e.1 h1 h2]
  simp only [Option.bind_some, dup_eq, same_self]
  rw [chk_true (ble_mem (by unfold maxBytes; omega))]
  unfold l_w26q_1
  have key := lp_foldI e.2.2.1 (fun (s : List (List RowT)) t => s ++ [t]) (fun i s => ((i : Int), (e.1, (e.2.1, (s, e.2.2.2))))) (fun s => some (e.1, (e.2.1, (s, e.2.2.2)))) (fun i s => s = e.2.2.1.take i) (by unfold B36; omega) [] rfl (step := fun (rec7 : Int × EngT → Option EngT) (z6 : Int × EngT) =>
 (cond (decide (z6.1 < (lenI e.2.2.1)))
  ((geti e.2.2.1 z6.1).bind fun y8 =>
  (chk (Nat.ble (y8.length * 48) maxBytes)
  (chk (Nat.ble ((z6.2.2.2.1.length + [y8].length) * 24) maxBytes)
  (rec7 (IntKind.wrap .i64 (z6.1 + (1 : Int)), (z6.2.1, (z6.2.2.1, ((z6.2.2.2.1 ++ [y8]), z6.2.2.2.2))))))))
  (some z6.2))) (fun i hi s hs => by
    refine ⟨by rw [hs, List.take_succ_eq_append_getElem hi], fun rec => ?_⟩
    have := h5 _ (List.getElem_mem hi)
    simp only [lt_lenI hi, cond_true, geti_lt _ i hi, Option.bind_some]
    rw [chk_true (ble_mem (by unfold maxBytes; omega)), chk_true (ble_mem (by rw [hs, List.length_take]; simp only [List.length_cons, List.length_nil]; unfold maxBytes; omega)), nxt (by unfold B36; omega)]) (fun s hs rec => by simp only [ge_lenI, cond_false])
  refine key.1.trans ?_
  rw [key.2, List.take_length]

theorem t_w27q (e : EngT) (hb1 : byB e.1.1) (hb2 : byB e.1.2) (h1 : e.1.1.length ≤ 1048576) (h2 : e.1.2.length ≤ 1048576) : m_w27q e = some (flushR e) := by
  show p_w27q FU _ = _
  unfold p_w27q flushR
  rw [t_w24q e hb1 hb2 h1 h2, Option.bind_some]
  cases hc : (engC e == 0) with
  | false => rfl
  | true =>
    obtain ⟨q1, q2, q3, q4⟩ := engC_zero (beq_iff_eq.1 hc)
    have hl := (tabC_zero q2).1
    simp only [Bool.not_true, cond_false]
    cases lenI e.2.1 == 0 with
    | true => rfl
    | false =>
      simp only [cond_false]
      cases decide (lenI e.2.2.1 ≥ 6) with
      | true => rfl
      | false =>
        simp only [cond_false]
        rw [t_w26q e h1 h2 (by omega) (by omega) (fun t ht => by have := (tabC_zero (q4 t ht)).1; omega), Option.bind_some, chk_true (ble_mem (by simp only [List.length_cons, List.length_nil]; unfold maxBytes; omega))]

theorem t_w28q (tt : List (List RowT)) (hl : tt.length ≤ 1048576) (hf : tt.flatten.length ≤ 2097152) : m_w28q tt = some (tt.flatten.foldl putL []) := by
  show p_w28q FU _ = _
  unfold p_w28q l_w28q_2
  have hle : ∀ (i : Nat) (hi : i < tt.length), (tt.take i).flatten.length + tt[i].length ≤ tt.flatten.length := fun i hi => by
    conv => rhs; rw [← List.take_append_drop i tt, List.drop_eq_getElem_cons hi]
    rw [List.flatten_append, List.flatten_cons, List.length_append, List.length_append]; omega
  rw [List.foldl_flatten]
  refine (lp_foldI tt (fun o t => t.foldl putL o) (fun i s => (s, (i : Int))) (fun s => some s) (fun i s => s.length ≤ (tt.take i).flatten.length) (by unfold B36; omega) [] (by simp) (fun i hi s hI => ?_) (fun s _ rec => ?_)).1
  · have h := hle i hi
    have hn := putF_len tt[i] s
    have w : IntKind.wrap .i64 ((i : Int) + 1) = ((i + 1 : Nat) : Int) := nxt (by unfold B36; omega)
    refine ⟨by rw [List.take_succ_eq_append_getElem hi, List.flatten_append, List.length_append]; simp only [List.flatten_cons, List.flatten_nil, List.append_nil]; omega, fun rec => ?_⟩
    have key : l_w28q_1 FU tt (i : Int) (s, (0 : Int)) = some (tt[i].foldl putL s) := by
      unfold l_w28q_1
      refine (lp_foldI tt[i] putL (fun k o => (o, (k : Int))) (fun o => some o) (fun k o => o.length ≤ s.length + k) (by unfold B36; omega) s (by omega) (fun k hk o hO => ?_) (fun o _ rec => ?_)).1
      · have w2 : IntKind.wrap .i64 ((k : Int) + 1) = ((k + 1 : Nat) : Int) := nxt (by unfold B36; omega)
        have hp := putL_len o tt[i][k]
        refine ⟨by omega, fun rec => ?_⟩
        simp only [geti_lt tt i hi, Option.bind_some, lt_lenI hk, cond_true, geti_lt tt[i] k hk, t_w21q o tt[i][k] (by omega), w2]
      · simp only [geti_lt tt i hi, Option.bind_some, ge_lenI, cond_false]
    simp only [lt_lenI hi, cond_true, key, Option.bind_some, w]
  · simp only [ge_lenI, cond_false]

def tabF (_ : Nat) (t : List RowT) : Option Int := cond (!(tabC t == 0)) (some (tabC t)) none
def mrgR (tt : List (List RowT)) : Int × List RowT := cond (decide (8 < tt.length)) (2, []) ((fstI tabF 0 tt).elim (cond (decide (200 < (tt.flatten.foldl putL []).length)) (2, []) (0, tt.flatten.foldl putL [])) fun c => (c, []))
theorem mrg_flat {tt : List (List RowT)} (hl : tt.length ≤ 8) (h : fstI tabF 0 tt = none) : tt.flatten.length ≤ 1600 := by
  have ht : ∀ t ∈ tt, t.length ≤ 200 := fun t hm => by
    obtain ⟨i, hi, rfl⟩ := List.getElem_of_mem hm
    have := fstI_none tabF tt 0 h i hi
    rw [Nat.zero_add] at this
    unfold tabF at this
    cases hc : (tabC tt[i] == 0) with
    | false => rw [hc] at this; cases this
    | true => exact (tabC_zero (eq_of_beq hc)).1
  have key : ∀ xs : List (List RowT), (∀ t ∈ xs, t.length ≤ 200) → xs.flatten.length ≤ 200 * xs.length := by
    intro xs
    induction xs with
    | nil => intro _; simp
    | cons a r ih =>
      intro h
      have h1 := h a (by simp)
      have h2 := ih (fun t hm => h t (List.mem_cons_of_mem _ hm))
      rw [List.flatten_cons, List.length_append, List.length_cons]; omega
  have := key tt ht
  omega
theorem mrg_loop (tt : List (List RowT)) (hl : tt.length ≤ 8) {step : (Int → Option (Unit ⊕ (Int × List RowT))) → Int → Option (Unit ⊕ (Int × List RowT))}
    (h1 : ∀ (i : Nat) (hi : i < tt.length) rec, IntKind.wrap .i64 ((i : Int) + 1) = ((i + 1 : Nat) : Int) → step rec (i : Int) = cond (!(tabC tt[i] == 0)) (some (Sum.inr (tabC tt[i], []))) (rec ((i + 1 : Nat) : Int)))
    (h2 : ∀ rec, step rec (tt.length : Int) = some (Sum.inl ())) : lp step FU (0 : Int) = (fstI tabF 0 tt).elim (some (Sum.inl ())) fun c => some (Sum.inr (c, [])) := by
  refine (lp_fst tt (fun i t => (tabF i t).map fun c => Sum.inr (α := Unit) (c, ([] : List RowT))) (some (Sum.inl ())) (by unfold B36; omega) (fun i hi rec hw => ?_) h2).trans ?_
  · rw [h1 i hi rec hw]
    unfold tabF
    cases (tabC tt[i] == 0) <;> rfl
  · rw [fstI_map tabF]
    cases fstI tabF 0 tt <;> rfl
theorem t_w29q (tt : List (List RowT)) : m_w29q tt = some (mrgR tt) := by
  show p_w29q FU _ = _
  unfold p_w29q mrgR
  by_cases hl : 8 < tt.length
  · rw [decide_eq_true (show lenI tt > 8 by rw [lenI_eq]; omega), decide_eq_true hl]; rfl
  · rw [decide_eq_false (show ¬ lenI tt > 8 by rw [lenI_eq]; omega), decide_eq_false hl, cond_false, cond_false]
    have e1 : l_w29q_1 FU tt 0 = (fstI tabF 0 tt).elim (some (Sum.inl ())) fun c => some (Sum.inr (c, [])) := by
      unfold l_w29q_1
      refine mrg_loop tt (by omega) (fun i hi rec hw => ?_) (fun rec => ?_)
      · simp only [lt_lenI hi, cond_true, geti_lt _ i hi, Option.bind_some, t_w7q, hw]
      · simp only [ge_lenI, cond_false]
    rw [e1]
    cases hf : fstI tabF 0 tt with
    | some c => rfl
    | none =>
      have hfl := mrg_flat (by omega) hf
      simp only [Option.elim_none, Option.bind_some, Sum.elim_inl, t_w28q tt (by omega) (by omega)]
      rw [show decide (lenI (tt.flatten.foldl putL []) > 200) = decide (200 < (tt.flatten.foldl putL []).length) by rw [lenI_eq]; congr 1; simp; omega]
      cases decide (200 < (tt.flatten.foldl putL []).length) <;> rfl

def eK (f : Int) (y p : RowT) : Bool := (p.1.toList == y.1.toList) && decide (p.2.1 ≤ f)
def lastB (y : RowT) (r : List RowT) : Bool := r.head?.elim true fun z => !(z.1.toList == y.1.toList)
def keepB (f : Int) (y : RowT) (r : List RowT) : Bool := !y.2.2.2 || (decide (y.2.1 > f) || !(lastB y r))
def cut2 (f : Int) : List RowT → List RowT
  | [] => []
  | y :: r => cond (keepB f y r) (y :: cut2 f r) (cut2 f r)
def cmpL (xs : List RowT) (f : Int) : List RowT := cut2 f (ddE (eK f) xs)
theorem cut2_len (f : Int) : ∀ xs : List RowT, (cut2 f xs).length ≤ xs.length
  | [] => Nat.le_refl _
  | y :: r => by
    have := cut2_len f r
    simp only [cut2]
    cases keepB f y r <;> simp <;> omega
theorem cut2_loop (ks : List RowT) (f : Int) (hl : ks.length ≤ 2097152) {step : (List RowT × Int → Option (List RowT)) → List RowT × Int → Option (List RowT)}
    (h1 : ∀ (i : Nat) (hi : i < ks.length) (o : List RowT) rec, o.length ≤ i → step rec (o, (i : Int)) = rec (cond (keepB f ks[i] (ks.drop (i + 1))) (o ++ [ks[i]]) o, ((i + 1 : Nat) : Int)))
    (h2 : ∀ (o : List RowT) rec, step rec (o, (ks.length : Int)) = some o) : lp step FU ([], (0 : Int)) = some (cut2 f ks) := by
  refine lp_for (fun r => r = some (cut2 f ks)) (fun i z => z.2 = (i : Int) ∧ z.1.length ≤ i ∧ z.1 ++ cut2 f (ks.drop i) = cut2 f ks) ks.length (fun i z hi hz => ?_) (fun z hz rec => ?_) FU _ (by unfold FU; omega) ⟨rfl, Nat.le_refl _, by simp⟩
  · obtain ⟨o, j⟩ := z
    obtain ⟨q1, q2, q3⟩ := hz
    simp only at q1 q2 q3
    subst q1
    refine .inr ⟨_, ?_, fun rec => h1 i hi o rec q2⟩
    rw [List.drop_eq_getElem_cons hi] at q3
    simp only [cut2] at q3
    refine ⟨rfl, ?_, ?_⟩
    · cases keepB f ks[i] (ks.drop (i + 1)) <;> simp <;> omega
    · cases hk : keepB f ks[i] (ks.drop (i + 1)) with
      | true => rw [hk] at q3; simpa using q3
      | false => rw [hk] at q3; simpa using q3
  · obtain ⟨o, j⟩ := z
    obtain ⟨q1, q2, q3⟩ := hz
    simp only at q1 q2 q3
    subst q1
    rw [h2 o rec]
    rw [List.drop_of_length_le (Nat.le_refl _)] at q3
    simpa [cut2] using q3
theorem last_at (ks : List RowT) (i : Nat) (hi : i < ks.length) : lastB ks[i] (ks.drop (i + 1)) = (if h : i + 1 < ks.length then !(ks[i + 1].1.toList == ks[i].1.toList) else true) := by
  unfold lastB
  rw [List.head?_drop]
  by_cases h : i + 1 < ks.length
  · rw [List.getElem?_eq_getElem h, dif_pos h]; rfl
  · rw [List.getElem?_eq_none (by omega), dif_neg h]; rfl
theorem txt_eq {a b : ByteArray} (h : a.toList = b.toList) : a = b := by
  rw [Go.ByteArray.toList_eq, Go.ByteArray.toList_eq] at h
  exact (cmpB_zero a b).1 ((cmpL_zero _ _).2 h)
theorem key_mid {xs : List RowT} (h : ssrt xs) {k i : Nat} (hk : k ≤ i) (hi : i + 1 < xs.length) (he : xs[k].1 = xs[i + 1].1) : xs[i].1 = xs[i + 1].1 ∧ xs[i].2.1 ≤ xs[k].2.1 := by
  rcases Nat.eq_or_lt_of_le hk with e | e
  · subst e; exact ⟨he, Int.le_refl _⟩
  · have a := (cfRow_lt _ _).1 (List.pairwise_iff_getElem.1 h k i (by omega) (by omega) e)
    have b := (cfRow_lt _ _).1 (List.pairwise_iff_getElem.1 h i (i + 1) (by omega) hi (by omega))
    rw [he] at a
    have sw := cmpB_swap xs[i].1 xs[i + 1].1
    rcases b with b | b
    · rcases a with a | a
      · omega
      · have := (cmpB_zero _ _).1 a.1
        rw [this] at b
        have := (cmpB_zero xs[i].1 xs[i].1).2 rfl
        omega
    · have e1 := (cmpB_zero _ _).1 b.1
      refine ⟨e1, ?_⟩
      rcases a with a | a
      · rw [e1, (cmpB_zero _ _).2 rfl] at a; exact absurd a (by decide)
      · omega
theorem t_w30q (xs : List RowT) (f : Int) (hl : xs.length ≤ 1048576) (hs : ssrt xs) : m_w30q (xs, f) = some (cmpL xs f) := by
  show p_w30q FU _ = _
  unfold p_w30q cmpL
  have sh : ∀ (i : Nat) (hi : i < xs.length), l_w30q_1 FU (i : Int) xs f (false, (0 : Int)) = some ((xs.take i).any fun p => (p.1.toList == xs[i].1.toList) && decide (p.2.1 ≤ f)) := by
    intro i hi
    unfold l_w30q_1
    refine lp_for (fun r => r = some ((xs.take i).any fun p => (p.1.toList == xs[i].1.toList) && decide (p.2.1 ≤ f))) (fun k z => z = ((xs.take k).any fun p => (p.1.toList == xs[i].1.toList) && decide (p.2.1 ≤ f), (k : Int))) i (fun k z hk hz => ?_) (fun z hz rec => ?_) FU _ (by unfold FU; omega) rfl
    · subst hz
      have hn : IntKind.wrap .i64 ((k : Int) + 1) = ((k + 1 : Nat) : Int) := nxt (by unfold B36; omega)
      have hd : decide ((k : Int) < (i : Int)) = true := decide_eq_true (by omega)
      refine .inr ⟨_, rfl, fun rec => ?_⟩
      rw [List.take_succ_eq_append_getElem (by omega), List.any_append]
      simp only [hd, cond_true, hn, geti_lt xs k (by omega), geti_lt xs i hi, Option.bind_some, List.any_cons, List.any_nil, Bool.or_false]
      cases (xs.take k).any fun p => (p.1.toList == xs[i].1.toList) && decide (p.2.1 ≤ f) with
      | true => rfl
      | false => cases (xs[k].1.toList == xs[i].1.toList) <;> rfl
    · subst hz
      have hd : decide ((i : Int) < (i : Int)) = false := decide_eq_false (by omega)
      simp only [hd, cond_false]
  have same1 : ∀ (i : Nat) (hi : i + 1 < xs.length), ((xs.take (i + 1)).any fun p => (p.1.toList == xs[i + 1].1.toList) && decide (p.2.1 ≤ f)) = eK f xs[i + 1] xs[i] := by
    intro i hi
    rw [Bool.eq_iff_iff, List.any_eq_true]
    constructor
    · rintro ⟨p, hp, h⟩
      obtain ⟨k, hk, rfl⟩ := List.getElem_of_mem hp
      rw [List.length_take] at hk
      rw [List.getElem_take] at h
      simp only [Bool.and_eq_true, beq_iff_eq, decide_eq_true_eq] at h
      have hkey : xs[k].1 = xs[i + 1].1 := txt_eq h.1
      obtain ⟨q1, q2⟩ := key_mid hs (k := k) (i := i) (by omega) hi hkey
      unfold eK
      rw [q1]
      simp only [beq_self_eq_true, Bool.true_and, decide_eq_true_eq]
      omega
    · intro h
      exact ⟨xs[i], List.mem_take_iff_getElem.2 ⟨i, by omega, rfl⟩, h⟩
  have e1 : l_w30q_2 FU xs f ([], (0 : Int)) = some (ddE (eK f) xs) := by
    unfold l_w30q_2
    refine lp_for (fun r => r = some (ddE (eK f) xs)) (fun i z => z = (ddE (eK f) (xs.take i), (i : Int))) xs.length (fun i z hi hz => ?_) (fun z hz rec => ?_) FU _ (by unfold FU; omega) rfl
    · subst hz
      have hn : IntKind.wrap .i64 ((i : Int) + 1) = ((i + 1 : Nat) : Int) := nxt (by unfold B36; omega)
      have hlen := ddE_len (eK f) (xs.take i)
      rw [List.length_take] at hlen
      have m1 : Nat.ble (((ddE (eK f) (xs.take i)).length + [xs[i]].length) * 48) maxBytes = true := ble_mem (by simp only [maxBytes, List.length_singleton]; omega)
      refine .inr ⟨_, rfl, fun rec => ?_⟩
      simp only [lt_lenI hi, cond_true, sh i hi, Option.bind_some]
      cases i with
      | zero =>
        have ht : xs.take 1 = [xs[0]] := by rw [List.take_succ_eq_append_getElem hi]; rfl
        simp only [List.take_zero, List.any_nil, Bool.not_false, cond_true, geti_lt xs 0 hi, Option.bind_some, hn]
        rw [ht]
        rfl
      | succ i =>
        rw [ddE_snoc (eK f) xs i hi, same1 i hi]
        simp only [geti_lt xs (i + 1) hi, Option.bind_some, hn, chk_true m1]
        cases eK f xs[i + 1] xs[i] <;> rfl
    · subst hz
      simp only [ge_lenI, cond_false, List.take_length]
  have hkl := ddE_len (eK f) xs
  simp only [e1, Option.bind_some]
  generalize ddE (eK f) xs = ks at hkl
  unfold l_w30q_3
  refine cut2_loop ks f (by omega) (fun i hi o rec ho => ?_) (fun o rec => ?_)
  · have hn : IntKind.wrap .i64 ((i : Int) + 1) = ((i + 1 : Nat) : Int) := nxt (by unfold B36; omega)
    have hm : IntKind.wrap .i64 ((lenI ks) - 1) = ((ks.length - 1 : Nat) : Int) := by rw [lenI_eq, wrap64 (by omega) (by omega)]; omega
    have m1 : Nat.ble ((o.length + [ks[i]].length) * 48) maxBytes = true := ble_mem (by simp only [maxBytes, List.length_singleton]; omega)
    unfold keepB
    rw [last_at ks i hi]
    by_cases hi1 : i + 1 < ks.length
    · have hq : ((i : Int) == ((ks.length - 1 : Nat) : Int)) = false := by rw [beq_eq_false_iff_ne]; omega
      simp only [lt_lenI hi, cond_true, geti_lt ks i hi, Option.bind_some, Int.toNat_natCast, List.getElem?_eq_getElem hi, hm, hq, cond_false, hn, geti_lt ks (i + 1) hi1, List.getElem?_eq_getElem hi1, dif_pos hi1, chk_true m1]
      cases ks[i].2.2.2 with
      | false => rfl
      | true => cases decide (ks[i].2.1 > f) with
        | true => rfl
        | false => cases (ks[i + 1].1.toList == ks[i].1.toList) <;> rfl
    · have hq : ((i : Int) == ((ks.length - 1 : Nat) : Int)) = true := by rw [beq_iff_eq]; omega
      simp only [lt_lenI hi, cond_true, geti_lt ks i hi, Option.bind_some, Int.toNat_natCast, List.getElem?_eq_getElem hi, hm, hq, hn, dif_neg hi1, chk_true m1]
      cases ks[i].2.2.2 with
      | false => rfl
      | true => cases decide (ks[i].2.1 > f) <;> rfl
  · simp only [ge_lenI, cond_false]

def compR (e : EngT) (f : Int) : Int × (Int × EngT) := cond (!(engC e == 0)) (engC e, zE) (cond (decide (e.2.2.1.length < 2)) (4, zE) (cond (!((mrgR e.2.2.1).1 == 0)) ((mrgR e.2.2.1).1, zE) (0, (0, (e.1, (e.2.1, ([cmpL (mrgR e.2.2.1).2 f], e.2.2.2)))))))
theorem mrg_ok (tt : List (List RowT)) : ssrt (mrgR tt).2 ∧ (mrgR tt).2.length ≤ 200 := by
  have z : ssrt ([] : List RowT) ∧ ([] : List RowT).length ≤ 200 := ⟨List.Pairwise.nil, by decide⟩
  unfold mrgR
  cases decide (8 < tt.length) with
  | true => exact z
  | false =>
    simp only [cond_false]
    cases fstI tabF 0 tt with
    | some c => exact z
    | none =>
      simp only [Option.elim_none]
      by_cases hl : 200 < (tt.flatten.foldl putL []).length
      · rw [decide_eq_true hl]; exact z
      · rw [decide_eq_false hl]
        exact ⟨(putL_all tt.flatten [] List.Pairwise.nil).1, by show (tt.flatten.foldl putL []).length ≤ 200; omega⟩
theorem t_w31q (e : EngT) (f : Int) (hb1 : byB e.1.1) (hb2 : byB e.1.2) (h1 : e.1.1.length ≤ 1048576) (h2 : e.1.2.length ≤ 1048576) : m_w31q (e, f) = some (compR e f) := by
  show p_w31q FU _ = _
  unfold p_w31q compR
  rw [t_w24q e hb1 hb2 h1 h2, Option.bind_some]
  cases hc : (engC e == 0) with
  | false => rfl
  | true =>
    obtain ⟨q1, q2, q3, q4⟩ := engC_zero (beq_iff_eq.1 hc)
    have hl := (tabC_zero q2).1
    obtain ⟨m1, m2⟩ := mrg_ok e.2.2.1
    simp only [Bool.not_true, cond_false]
    rw [show decide (lenI e.2.2.1 < 2) = decide (e.2.2.1.length < 2) by rw [lenI_eq]; congr 1; simp; omega]
    cases decide (e.2.2.1.length < 2) with
    | true => rfl
    | false =>
      simp only [cond_false, t_w29q, Option.bind_some]
      cases (mrgR e.2.2.1).1 == 0 with
      | false => rfl
      | true =>
        simp only [Bool.not_true, cond_false]
        rw [t_w26q e h1 h2 (by omega) (by omega) (fun t ht => by have := (tabC_zero (q4 t ht)).1; omega), Option.bind_some, t_w30q _ f (by omega) m1, Option.bind_some]

theorem t_w33q (s : List Int × Int) (n p : Int) (hs : Src p s) (hp : p ≤ 1000000000) (hn : n ≤ 1000000000) : ∃ b, m_w33q (s, n) = some (b, (s.1, s.2 + 1)) ∧ Src (p + 1) (s.1, s.2 + 1) := by
  obtain ⟨v, e1, e2, _⟩ := t_w3q s n p hs hp hn
  refine ⟨v == 0, ?_, e2⟩
  show p_w33q FU _ = _
  unfold p_w33q
  simp only [e1, Option.bind_some]

theorem t_w40q (s : List Int × Int) (l : List Int) (p : Int) (hs : Src p s) (hp : p ≤ 1000000000) (hl : l.length ≤ 1000) (h0 : l ≠ []) : ∃ v, m_w40q (s, l) = some (v, (s.1, s.2 + 1)) ∧ Src (p + 1) (s.1, s.2 + 1) ∧ v ∈ l := by
  have hlen : 0 < l.length := List.length_pos_iff.2 h0
  obtain ⟨v, e1, e2, _, e4⟩ := t_w3q s (lenI l) p hs hp (by rw [lenI_eq]; omega)
  obtain ⟨g1, g2⟩ := e4 (by rw [lenI_eq]; omega)
  rw [lenI_eq] at g2
  obtain ⟨m, hm⟩ := Int.eq_ofNat_of_zero_le g1
  have hml : m < l.length := by omega
  refine ⟨l[m], ?_, e2, List.getElem_mem hml⟩
  show p_w40q FU _ = _
  unfold p_w40q
  simp only [e1, Option.bind_some, hm]
  rw [geti_lt l m hml]
  rfl

theorem nextS (s : List Int × Int) (n p : Int) (hs : Src p s) (hp : p ≤ 1000000000) (hn : n ≤ 1000000000) : ∃ v s', m_w3q (s, n) = some (v, s') ∧ Src (p + 1) s' ∧ (n < 1 → v = 0) ∧ (1 ≤ n → 0 ≤ v ∧ v < n) := by
  obtain ⟨v, h1, h2⟩ := t_w3q s n p hs hp hn
  exact ⟨v, _, h1, h2⟩
theorem chanceS (s : List Int × Int) (n p : Int) (hs : Src p s) (hp : p ≤ 1000000000) (hn : n ≤ 1000000000) : ∃ b s', m_w33q (s, n) = some (b, s') ∧ Src (p + 1) s' := by
  obtain ⟨v, h1, h2⟩ := t_w33q s n p hs hp hn
  exact ⟨v, _, h1, h2⟩
theorem pickS (s : List Int × Int) (l : List Int) (p : Int) (hs : Src p s) (hp : p ≤ 1000000000) (hl : l.length ≤ 1000) (h0 : l ≠ []) : ∃ v s', m_w40q (s, l) = some (v, s') ∧ Src (p + 1) s' ∧ v ∈ l := by
  obtain ⟨v, h1, h2⟩ := t_w40q s l p hs hp hl h0
  exact ⟨v, _, h1, h2⟩
theorem t_w32q (s : List Int × Int) (p : Int) (hs : Src p s) (hp : p ≤ 500000000) : ∃ k s', m_w32q s = some (k, s') ∧ Src (p + 1) s' ∧ 1 ≤ k.size ∧ k.size ≤ 2 := by
  obtain ⟨v, e1s, e1, e2, _, e4⟩ := nextS s 5 p hs (by omega) (by omega)
  obtain ⟨g1, g2⟩ := e4 (by omega)
  obtain ⟨m, rfl⟩ := Int.eq_ofNat_of_zero_le g1
  show ∃ k s', p_w32q FU s = _ ∧ _
  unfold p_w32q
  have hm : m < [(⟨#[97]⟩ : ByteArray), (⟨#[98]⟩ : ByteArray), (⟨#[97, 98]⟩ : ByteArray), (⟨#[107, 49]⟩ : ByteArray), (⟨#[107, 50]⟩ : ByteArray)].length := by simp only [List.length_cons, List.length_nil]; omega
  have hall : ∀ k ∈ [(⟨#[97]⟩ : ByteArray), (⟨#[98]⟩ : ByteArray), (⟨#[97, 98]⟩ : ByteArray), (⟨#[107, 49]⟩ : ByteArray), (⟨#[107, 50]⟩ : ByteArray)], 1 ≤ k.size ∧ k.size ≤ 2 := by
    intro k hk
    simp only [List.mem_cons, List.not_mem_nil, or_false] at hk
    rcases hk with rfl | rfl | rfl | rfl | rfl <;> decide
  generalize [(⟨#[97]⟩ : ByteArray), (⟨#[98]⟩ : ByteArray), (⟨#[97, 98]⟩ : ByteArray), (⟨#[107, 49]⟩ : ByteArray), (⟨#[107, 50]⟩ : ByteArray)] = L at hm hall ⊢
  refine ⟨L[m], e1s, ?_, e2, hall _ (List.getElem_mem hm)⟩
  simp only [e1, Option.bind_some, geti_lt L m hm, Int.toNat_natCast, List.getElem?_eq_getElem hm]

/-- What a drawn row is. -/
def okDraw (r : RowT) : Prop := (1 ≤ r.1.size ∧ r.1.size ≤ 2) ∧ r.2.2.1.size ≤ 2 ∧ (r.2.2.2 = true → r.2.2.1 = (⟨#[]⟩ : ByteArray)) ∧ (1 ≤ r.2.1 ∧ r.2.1 ≤ 9)
theorem t_w34q (s : List Int × Int) (p : Int) (hs : Src p s) (hp : p ≤ 400000000) : ∃ r s', m_w34q s = some (r, s') ∧ Src (p + 4) s' ∧ okDraw r := by
  obtain ⟨k, s1, a1, a2, a3, a4⟩ := t_w32q s p hs (by omega)
  obtain ⟨v, b1s, b1, b2, _, b4⟩ := nextS s1 9 _ a2 (by omega) (by omega)
  obtain ⟨g1, g2⟩ := b4 (by omega)
  obtain ⟨w, c1s, c1, c2, _, c4⟩ := nextS _ 4 _ b2 (by omega) (by omega)
  obtain ⟨f1, f2⟩ := c4 (by omega)
  obtain ⟨m, rfl⟩ := Int.eq_ofNat_of_zero_le f1
  obtain ⟨b, d1s, d1, d2⟩ := chanceS _ 4 _ c2 (by omega) (by omega)
  have wv : IntKind.wrap .i64 ((1 : Int) + v) = 1 + v := wrap64 (by omega) (by omega)
  have hp4 : p + 1 + 1 + 1 + 1 = p + 4 := by omega
  rw [hp4] at d2
  show ∃ r s', p_w34q FU s = _ ∧ _
  unfold p_w34q
  have hm : m < [(⟨#[120]⟩ : ByteArray), (⟨#[121]⟩ : ByteArray), (⟨#[]⟩ : ByteArray), (⟨#[122, 122]⟩ : ByteArray)].length := by simp only [List.length_cons, List.length_nil]; omega
  have hall : ∀ k ∈ [(⟨#[120]⟩ : ByteArray), (⟨#[121]⟩ : ByteArray), (⟨#[]⟩ : ByteArray), (⟨#[122, 122]⟩ : ByteArray)], k.size ≤ 2 := by
    intro k hk
    simp only [List.mem_cons, List.not_mem_nil, or_false] at hk
    rcases hk with rfl | rfl | rfl | rfl <;> decide
  generalize [(⟨#[120]⟩ : ByteArray), (⟨#[121]⟩ : ByteArray), (⟨#[]⟩ : ByteArray), (⟨#[122, 122]⟩ : ByteArray)] = L at hm hall ⊢
  simp only [a1, b1, c1, d1, Option.bind_some, geti_lt L m hm, Int.toNat_natCast, List.getElem?_eq_getElem hm, wv]
  cases b with
  | true =>
    refine ⟨_, _, rfl, d2, ⟨a3, a4⟩, ?_, fun _ => rfl, ?_, ?_⟩
    · show (⟨#[]⟩ : ByteArray).size ≤ 2
      decide
    · show 1 ≤ 1 + v
      omega
    · show 1 + v ≤ 9
      omega
  | false =>
    refine ⟨_, _, rfl, d2, ⟨a3, a4⟩, hall _ (List.getElem_mem hm), (fun h => by cases h), ?_, ?_⟩
    · show 1 ≤ 1 + v
      omega
    · show 1 + v ≤ 9
      omega

theorem wr_one (r : RowT) (h : okDraw r) : wrC [(r.1, r.2.2)] = 0 := by
  obtain ⟨⟨h1, h2⟩, h3, h4, h5, h6⟩ := h
  have hr : rowC (r.1, (1, r.2.2)) = 0 := by
    unfold rowC
    have hk : inB ((r.1.size : Nat) : Int) 1 20 = true := by unfold inB; simp only [Bool.and_eq_true, decide_eq_true_eq]; omega
    have hg : (r.2.2.2 && !(r.2.2.1.toList == (⟨#[]⟩ : ByteArray).toList)) = false := by
      cases hg : r.2.2.2 with
      | false => rfl
      | true => rw [h4 hg]; simp
    have hs : decide (((r.2.2.1.size : Nat) : Int) > 100) = false := decide_eq_false (by omega)
    have hv : inB 1 1 1000000 = true := by decide
    simp only [hk, hg, hs, hv]
    rfl
  unfold wrC
  rw [if_neg (by simp)]
  have hp : (packL 1 [(r.1, r.2.2)]).length ≤ 500 := by
    show (num8 1 ++ packOne (r.1, r.2.2)).length ≤ 500
    have := packOne_len (r.1, r.2.2)
    rw [List.length_append, num8_len]; omega
  have hst : fstI (wrStep [(r.1, r.2.2)]) 0 [(r.1, r.2.2)] = none := by
    simp only [fstI]
    unfold wrStep
    rw [hr]
    rfl
  rw [hst]
  simp only
  rw [if_neg (by omega)]
theorem wr2 (n : Nat) (k : ByteArray) (b : Bool) : ∃ w, l_w35q_2 FU (k, ((⟨#[]⟩ : ByteArray), b)) = some w := by
  unfold l_w35q_2
  have _ := n
  refine lp_for (fun o => ∃ w, o = some w) (fun i z => i ≤ z.2.1.size ∧ z.2.1.size ≤ 100) 100 (fun i z hi hz => ?_) (fun z hz rec => ?_) FU _ (by unfold FU; omega) ⟨Nat.zero_le _, by show (⟨#[]⟩ : ByteArray).size ≤ 100; decide⟩
  · obtain ⟨z1, z2⟩ := hz
    have hsz : (⟨#[119]⟩ : ByteArray).size = 1 := by decide
    by_cases hlt : ((z.2.1.size : Nat) : Int) < 100
    · have m1 : Nat.ble (z.2.1.size + (⟨#[119]⟩ : ByteArray).size) 9223372036854775807 = true := Nat.ble_eq_true_of_le (by omega)
      refine .inr ⟨(z.1, ((z.2.1 ++ (⟨#[119]⟩ : ByteArray)), z.2.2)), ⟨?_, ?_⟩, fun rec => ?_⟩
      · show i + 1 ≤ (z.2.1 ++ (⟨#[119]⟩ : ByteArray)).size
        rw [ByteArray.size_append]; omega
      · show (z.2.1 ++ (⟨#[119]⟩ : ByteArray)).size ≤ 100
        rw [ByteArray.size_append]; omega
      · simp only [decide_eq_true hlt, cond_true, chk_true m1]
    · refine .inl fun rec => ⟨z, ?_⟩
      simp only [decide_eq_false hlt, cond_false]
  · obtain ⟨z1, z2⟩ := hz
    have hlt : ¬ ((z.2.1.size : Nat) : Int) < 100 := by omega
    exact ⟨z, by simp only [decide_eq_false hlt, cond_false]⟩
theorem wr3 (ws : List WriteT) (s : List Int × Int) (hl : ws.length ≤ 3) : ∃ w, l_w35q_3 FU s (ws, (0 : Int)) = some (w, s) ∧ w.length ≤ 8 := by
  unfold l_w35q_3
  refine lp_for (fun o => ∃ w : List WriteT, o = some (w, s) ∧ w.length ≤ 8) (fun i (z : List WriteT × Int) => z.2 = (i : Int) ∧ z.1.length ≤ 3 + i) 5 (fun i z hi hz => ?_) (fun z hz rec => ?_) FU _ (by unfold FU; omega) ⟨rfl, by simpa using hl⟩
  · obtain ⟨ws, j⟩ := z
    obtain ⟨z1, z2⟩ := hz
    simp only at z1 z2
    subst z1
    have hd : decide ((i : Int) < 5) = true := decide_eq_true (by omega)
    have hn : IntKind.wrap .i64 ((i : Int) + 1) = ((i + 1 : Nat) : Int) := nxt (by unfold B36; omega)
    have hk : (⟨#[107, 101, 121]⟩ : ByteArray).size = 3 := by decide
    have hs : (strOfNums [IntKind.wrap .u8 (IntKind.wrap .i64 ((65 : Int) + (i : Int)))]).size = 1 := by simp [strOfNums, ByteArray.size]
    have m1 : Nat.ble ((⟨#[107, 101, 121]⟩ : ByteArray).size + (strOfNums [IntKind.wrap .u8 (IntKind.wrap .i64 ((65 : Int) + (i : Int)))]).size) 9223372036854775807 = true := Nat.ble_eq_true_of_le (by omega)
    obtain ⟨w, hw⟩ := wr2 i ((⟨#[107, 101, 121]⟩ : ByteArray) ++ (strOfNums [IntKind.wrap .u8 (IntKind.wrap .i64 ((65 : Int) + (i : Int)))])) false
    have m2 : Nat.ble ((ws.length + [w].length) * 40) maxBytes = true := ble_mem (by rw [List.length_singleton]; unfold maxBytes; omega)
    refine .inr ⟨(ws ++ [w], ((i + 1 : Nat) : Int)), ⟨rfl, by simp; omega⟩, fun rec => ?_⟩
    simp only [hd, cond_true, chk_true m1]
    rw [hw]
    simp only [Option.bind_some, chk_true m2, hn]
  · obtain ⟨ws, j⟩ := z
    obtain ⟨z1, z2⟩ := hz
    simp only at z1 z2
    subst z1
    have hd : decide (((5 : Nat) : Int) < 5) = false := decide_eq_false (by omega)
    exact ⟨ws, by simp only [hd, cond_false], by omega⟩
theorem t_w35q (s : List Int × Int) (p : Int) (hs : Src p s) (hp : p ≤ 200000000) : ∃ ws s', m_w35q s = some (ws, s') ∧ Src (p + 20) s' ∧ ws.length ≤ 9 := by
  have up : ∀ {q q' : Int} {t : List Int × Int}, Src q t → q ≤ q' → Src q' t := fun h hq => ⟨h.1, h.2.1, h.2.2.1, Int.le_trans h.2.2.2 hq⟩
  obtain ⟨n, b1s, b1, b2, _, b4⟩ := nextS s 3 _ hs (by omega) (by omega)
  obtain ⟨g1, g2⟩ := b4 (by omega)
  have w1 : IntKind.wrap .i64 ((1 : Int) + n) = 1 + n := wrap64 (by omega) (by omega)
  show ∃ ws s', p_w35q FU s = _ ∧ _
  unfold p_w35q
  have key : ∃ ws s', l_w35q_1 FU ([], (1 + n, b1s)) = some (ws, s') ∧ Src (p + 13) s' ∧ ws.length ≤ 3 ∧ 0 < ws.length := by
    unfold l_w35q_1
    refine lp_for (fun o => ∃ (ws : List WriteT) (s' : List Int × Int), o = some (ws, s') ∧ Src (p + 13) s' ∧ ws.length ≤ 3 ∧ 0 < ws.length) (fun i (z : List WriteT × (Int × (List Int × Int))) => z.1.length ≤ i ∧ (0 < i → 0 < z.1.length) ∧ (i = 0 → z.1 = []) ∧ z.2.1 = 1 + n - i ∧ Src (p + 1 + 4 * i) z.2.2) 3 (fun i z hi hz => ?_) (fun z hz rec => ?_) FU _ (by unfold FU; omega) ⟨Nat.le_refl _, fun h => absurd h (by omega), fun _ => rfl, by simp, by simpa using b2⟩
    · obtain ⟨z1, z2, z3, z4, z5⟩ := hz
      by_cases hk : z.2.1 > 0
      · obtain ⟨r, s1, a1, a2, a3⟩ := t_w34q z.2.2 _ z5 (by omega)
        have w : IntKind.wrap .i64 (z.2.1 - 1) = z.2.1 - 1 := wrap64 (by omega) (by omega)
        have m1 : Nat.ble (z.1.length * 40) maxBytes = true := ble_mem (by unfold maxBytes; omega)
        have m2 : Nat.ble ((z.1.length + [(r.1, r.2.2)].length) * 40) maxBytes = true := ble_mem (by rw [List.length_singleton]; unfold maxBytes; omega)
        have hl : (z.1 ++ [(r.1, r.2.2)]).length = z.1.length + 1 := by simp
        by_cases hc : wrC (z.1 ++ [(r.1, r.2.2)]) = 0
        · refine .inr ⟨(z.1 ++ [(r.1, r.2.2)], (z.2.1 - 1, s1)), ⟨by simp only; omega, fun _ => by simp only; omega, fun h => absurd h (by omega), by simp only; omega, up a2 (by omega)⟩, fun rec => ?_⟩
          have hb : (wrC (z.1 ++ [(r.1, r.2.2)]) == 0) = true := by rw [hc]; rfl
          simp only [decide_eq_true hk, cond_true, a1, Option.bind_some, chk_true m1, chk_true m2, t_w17q (z.1 ++ [(r.1, r.2.2)]) (by omega), hb, w]
        · have hi0 : 0 < i := by
            rcases Nat.eq_zero_or_pos i with h | h
            · exfalso
              rw [z3 h, List.nil_append] at hc
              exact hc (wr_one r a3)
            · exact h
          refine .inr ⟨(z.1, (z.2.1 - 1, s1)), ⟨by simp only; omega, fun _ => z2 hi0, fun h => absurd h (by omega), by simp only; omega, up a2 (by omega)⟩, fun rec => ?_⟩
          have hb : (wrC (z.1 ++ [(r.1, r.2.2)]) == 0) = false := by simpa using hc
          simp only [decide_eq_true hk, cond_true, a1, Option.bind_some, chk_true m1, chk_true m2, t_w17q (z.1 ++ [(r.1, r.2.2)]) (by omega), hb, cond_false, w]
      · refine .inl fun rec => ⟨z.1, z.2.2, ?_, up z5 (by omega), by omega, z2 (by omega)⟩
        simp only [decide_eq_false hk, cond_false]
    · obtain ⟨z1, z2, z3, z4, z5⟩ := hz
      have hk : ¬ z.2.1 > 0 := by omega
      refine ⟨z.1, z.2.2, ?_, up z5 (by omega), by omega, z2 (by omega)⟩
      simp only [decide_eq_false hk, cond_false]
  obtain ⟨ws, s1, k1, k2, k3, k4⟩ := key
  obtain ⟨v, c1s, c1, c2, _, _⟩ := nextS s1 20 _ k2 (by omega) (by omega)
  have g0 : geti ws (0 : Int) = some ws[0] := geti_lt ws 0 k4
  have g00 : ws[(0 : Int).toNat]? = some ws[0] := List.getElem?_eq_getElem k4
  simp only [b1, Option.bind_some, w1, k1, c1, g0, g00]
  cases v == 0 with
  | true => exact ⟨_, _, rfl, up c2 (by omega), by rw [List.length_set]; omega⟩
  | false =>
    simp only [cond_false]
    cases v == 1 with
    | true =>
      have m1 : Nat.ble ((ws.length + [ws[0]].length) * 40) maxBytes = true := ble_mem (by rw [List.length_singleton]; unfold maxBytes; omega)
      simp only [cond_true, chk_true m1]
      exact ⟨_, _, rfl, up c2 (by omega), by simp; omega⟩
    | false =>
      simp only [cond_false]
      cases v == 2 with
      | true => exact ⟨_, _, rfl, up c2 (by omega), by simp⟩
      | false =>
        simp only [cond_false]
        cases v == 3 with
        | true =>
          have m1 : Nat.ble (40 * (9 : Int).toNat) maxBytes = true := by decide
          simp only [cond_true, if_true, chk_true m1, show (0 : Int) ≤ 9 from by decide]
          exact ⟨_, _, rfl, up c2 (by omega), by rw [List.length_replicate]; decide⟩
        | false =>
          simp only [cond_false]
          cases v == 4 with
          | true =>
            obtain ⟨w, hw, hl⟩ := wr3 ws c1s k3
            simp only [cond_true]
            rw [hw]
            exact ⟨_, _, rfl, up c2 (by omega), by omega⟩
          | false => exact ⟨_, _, rfl, up c2 (by omega), by omega⟩

theorem t_w36q (n : Int) (h0 : 0 ≤ n) (h1 : n < 65536) : m_w36q n = some [n / 256, n % 256] := by
  show p_w36q FU _ = _
  unfold p_w36q
  rw [show ((256 : Int) == 0) = false from rfl, cond_false, Int.tdiv_eq_ediv_of_nonneg h0, Int.tmod_eq_emod_of_nonneg h0, wrap64 (by omega) (by omega), wrapu8 (by omega), wrapu8 (by omega)]
  simp only [cond_false, Option.some.injEq, List.cons.injEq, and_true]
  omega

theorem t_w37q (p : List Int) (hb : byB p) (hl : p.length ≤ 500) : m_w37q p = some (frameD p) := by
  show p_w37q FU _ = _
  unfold p_w37q frameD
  have hk := chkB_ok hb
  rw [lenI_eq, t_w36q _ (by omega) (by omega), Option.bind_some, t_w10q p hb (by omega), Option.bind_some, t_w36q _ hk.1 (by omega), Option.bind_some, chk_true (ble_mem (by simp only [List.length_cons, List.length_nil]; unfold maxBytes; omega)), chk_true (ble_mem (by simp only [List.length_append, List.length_cons, List.length_nil]; unfold maxBytes; omega))]

theorem t_w38q (g : LogT) (p : List Int) (hb : byB p) (hl : p.length ≤ 500) (hg : g.1.length + g.2.length ≤ 6000) : m_w38q (g, p) = some ((g.1, g.2 ++ frameD p), if g.1.length + (g.2 ++ frameD p).length > 6000 then 2 else 0) := by
  show p_w38q FU _ = _
  unfold p_w38q
  have hf := frameD_len p
  simp only
  rw [t_w25q g (by omega) (by omega), Option.bind_some, t_w37q p hb hl, Option.bind_some, chk_true (ble_mem (by unfold maxBytes; omega)), t_w4q _ (by simp only; omega) (by simp only [List.length_append]; omega), Option.bind_some]

theorem t_w39q_1 (rs : List RowT) (g : LogT) (xs : List RowT) (z : List (List RowT) × Int) (hl : rs.length ≤ 1048576) (hx : xs.length ≤ 1048576) : l_w39q_1 FU rs ((0 : Int), (g, (xs, z))) = some (g, (rs.foldl putL xs, z)) := by
  unfold l_w39q_1
  refine Eq.trans (lp_foldI rs putL (fun i s => ((i : Int), (g, (s, z)))) (fun s => some (g, (s, z))) (fun i s => s.length ≤ xs.length + i) (by unfold B36; omega) xs (by omega) (fun i hi s hs => ?_) (fun s hs rec => ?_)).1 rfl
  · have := putL_len s rs[i]
    refine ⟨by omega, fun rec => ?_⟩
    simp only [lt_lenI hi, cond_true, geti_lt rs i hi, Option.bind_some, Int.toNat_natCast, List.getElem?_eq_getElem hi]
    rw [t_w21q s _ (by omega), Option.bind_some, nxt (by unfold B36; omega)]
  · simp only [ge_lenI, cond_false]
theorem t_w39q (e : EngT) (ws : List WriteT) (sync : Bool) (hb1 : byB e.1.1) (hb2 : byB e.1.2) (h1 : e.1.1.length ≤ 1048576) (h2 : e.1.2.length ≤ 1048576) (hl : ws.length ≤ 1048576) : m_w39q (e, (ws, sync)) = some (writeR e ws sync) := by
  show p_w39q FU _ = _
  unfold p_w39q writeR
  simp only
  rw [t_w24q e hb1 hb2 h1 h2, Option.bind_some]
  cases hc : (engC e == 0) with
  | false => rfl
  | true =>
    have hc0 := beq_iff_eq.1 hc
    obtain ⟨q1, q2, q3, q4⟩ := engC_zero hc0
    have m1 := (engC_more hc0).1
    have hl0 := (tabC_zero q2).1
    simp only [Bool.not_true, cond_false]
    rw [t_w17q ws hl, Option.bind_some]
    cases hw : (wrC ws == 0) with
    | false => rfl
    | true =>
      obtain ⟨w1, w2, w3, w4⟩ := wrC_zero (beq_iff_eq.1 hw)
      have hp := packL_len e.2.2.2 ws
      simp only [Bool.not_true, cond_false]
      cases hn : (e.2.2.2 == 1000000) with
      | true => rfl
      | false =>
        simp only [cond_false]
        rw [t_w26q e h1 h2 (by omega) (by omega) (fun t ht => by have := (tabC_zero (q4 t ht)).1; omega)]
        simp only [Option.bind_some, dup_eq, same_self]
        rw [t_w16q _ ws (by omega) (by omega) hl, Option.bind_some, t_w38q e.1 _ (byB_packL _ _) (by omega) q1, Option.bind_some]
        have hfr := frameD_len (packL e.2.2.2 ws)
        by_cases hbig : e.1.1.length + (e.1.2 ++ frameD (packL e.2.2.2 ws)).length > 6000
        · rw [if_pos hbig, decide_eq_true hbig]; rfl
        · rw [if_neg hbig, decide_eq_false hbig]
          simp only [cond_false, show (!((0 : Int) == 0)) = false from rfl]
          have hsync : (cond sync ((m_w9q (e.1.1, e.1.2 ++ frameD (packL e.2.2.2 ws))).bind fun r7 => some r7) (some (e.1.1, e.1.2 ++ frameD (packL e.2.2.2 ws)))) = some (cond sync (e.1.1 ++ (e.1.2 ++ frameD (packL e.2.2.2 ws)), []) (e.1.1, e.1.2 ++ frameD (packL e.2.2.2 ws))) := by
            cases sync
            · rfl
            · rw [cond_true, t_w9q _ (by simp only; omega)]; rfl
          rw [hsync, Option.bind_some, t_w20q _ ws hl, Option.bind_some, t_w39q_1 _ _ e.2.1 e.2.2 (by unfold rowsW; rw [List.length_map]; omega) (by omega), Option.bind_some]
          simp only
          cases decide (lenI ((rowsW e.2.2.2 ws).foldl putL e.2.1) > 200) with
          | true => rfl
          | false => rw [cond_false, cond_false, wrap64 (by omega) (by omega)]

theorem t_w41q (s : List Int × Int) (p : Int) (hs : Src p s) (hp : p ≤ 300000000) : ∃ r s', m_w41q s = some (r, s') ∧ Src (p + 200) s' := by
  have up : ∀ {q q' : Int} {t : List Int × Int}, Src q t → q ≤ q' → Src q' t := fun h hq => ⟨h.1, h.2.1, h.2.2.1, Int.le_trans h.2.2.2 hq⟩
  obtain ⟨r, s1, a1, a2, a3⟩ := t_w34q s p hs (by omega)
  obtain ⟨v, b1s, b1, b2, _, _⟩ := nextS s1 12 _ a2 (by omega) (by omega)
  show ∃ r s', p_w41q FU s = _ ∧ _
  unfold p_w41q
  simp only [a1, b1, Option.bind_some]
  cases v == 0 with
  | true =>
    obtain ⟨w, c1s, c1, c2, _, c4⟩ := nextS _ 3 _ b2 (by omega) (by omega)
    obtain ⟨f1, f2⟩ := c4 (by omega)
    obtain ⟨m, rfl⟩ := Int.eq_ofNat_of_zero_le f1
    simp only [cond_true, c1, Option.bind_some]
    generalize hL : [(⟨#[]⟩ : ByteArray), (⟨#[97, 98, 99, 100, 101, 102, 103, 104, 105, 106, 107, 108, 109, 110, 111, 112, 113, 114, 115, 116]⟩ : ByteArray), (⟨#[97, 98, 99, 100, 101, 102, 103, 104, 105, 106, 107, 108, 109, 110, 111, 112, 113, 114, 115, 116, 117]⟩ : ByteArray)] = L
    have hm : m < L.length := by rw [← hL]; simp only [List.length_cons, List.length_nil]; omega
    simp only [geti_lt L m hm, Int.toNat_natCast, List.getElem?_eq_getElem hm, Option.bind_some]
    exact ⟨_, _, rfl, up c2 (by omega)⟩
  | false =>
    simp only [cond_false]
    cases v == 1 with
    | true =>
      obtain ⟨w, c1s, c1, c2, _⟩ := pickS _ [(0 : Int), (-1 : Int), (1000000 : Int), (1000001 : Int)] _ b2 (by omega) (by simp) (by simp)
      simp only [cond_true, c1, Option.bind_some]
      exact ⟨_, _, rfl, up c2 (by omega)⟩
    | false =>
      simp only [cond_false]
      cases v == 2 with
      | false => exact ⟨_, _, rfl, up b2 (by omega)⟩
      | true =>
        simp only [cond_true]
        unfold l_w41q_1
        refine lp_for (fun o => ∃ r s', o = some (r, s') ∧ Src (p + 200) s') (fun i z => Src (p + 5 + i) z.1 ∧ i ≤ z.2.2.2.1.size ∧ z.2.2.2.1.size ≤ 102) 102 (fun i z hi hz => ?_) (fun z hz rec => ?_) FU _ (by unfold FU; omega) ⟨up b2 (by omega), Nat.zero_le _, by have := a3.2.1; simp only; omega⟩
        · obtain ⟨z1, z2, z3⟩ := hz
          obtain ⟨w, c1s, c1, c2, _, c4⟩ := nextS z.1 2 _ z1 (by omega) (by omega)
          obtain ⟨f1, f2⟩ := c4 (by omega)
          have ww : IntKind.wrap .i64 ((100 : Int) + w) = 100 + w := wrap64 (by omega) (by omega)
          have hsz : (⟨#[118]⟩ : ByteArray).size = 1 := by decide
          by_cases hlt : ((z.2.2.2.1.size : Nat) : Int) < 100 + w
          · have m1 : Nat.ble (z.2.2.2.1.size + (⟨#[118]⟩ : ByteArray).size) 9223372036854775807 = true := Nat.ble_eq_true_of_le (by omega)
            refine .inr ⟨(c1s, (z.2.1, (z.2.2.1, ((z.2.2.2.1 ++ (⟨#[118]⟩ : ByteArray)), z.2.2.2.2)))), ⟨?_, ?_, ?_⟩, fun rec => ?_⟩
            rotate_left 3
            · simp only [c1, Option.bind_some, ww, decide_eq_true hlt, cond_true, chk_true m1]
            · exact up c2 (by omega)
            · show i + 1 ≤ (z.2.2.2.1 ++ (⟨#[118]⟩ : ByteArray)).size
              rw [ByteArray.size_append]; omega
            · show (z.2.2.2.1 ++ (⟨#[118]⟩ : ByteArray)).size ≤ 102
              rw [ByteArray.size_append]; omega
          · refine .inl fun rec => ⟨z.2, c1s, ?_, up c2 (by omega)⟩
            simp only [c1, Option.bind_some, ww, decide_eq_false hlt, cond_false]
        · obtain ⟨z1, z2, z3⟩ := hz
          obtain ⟨w, c1s, c1, c2, _, c4⟩ := nextS z.1 2 _ z1 (by omega) (by omega)
          obtain ⟨f1, f2⟩ := c4 (by omega)
          have ww : IntKind.wrap .i64 ((100 : Int) + w) = 100 + w := wrap64 (by omega) (by omega)
          have hlt : ¬ ((z.2.2.2.1.size : Nat) : Int) < 100 + w := by omega
          refine ⟨z.2, c1s, ?_, up c2 (by omega)⟩
          simp only [c1, Option.bind_some, ww, decide_eq_false hlt, cond_false]

theorem t_w42q (s : List Int × Int) (p : Int) (hs : Src p s) (hp : p ≤ 200000000) : ∃ t s', m_w42q s = some (t, s') ∧ Src (p + 300) s' ∧ t.length ≤ 201 := by
  have up : ∀ {q q' : Int} {t : List Int × Int}, Src q t → q ≤ q' → Src q' t := fun h hq => ⟨h.1, h.2.1, h.2.2.1, Int.le_trans h.2.2.2 hq⟩
  obtain ⟨n, b1s, b1, b2, _, b4⟩ := nextS s 9 _ hs (by omega) (by omega)
  obtain ⟨g1, g2⟩ := b4 (by omega)
  show ∃ t s', p_w42q FU s = _ ∧ _
  unfold p_w42q
  generalize hK : (201 : Int) = K
  have hK0 : 0 ≤ K := by omega
  have hKn : K.toNat = 201 := by omega
  have key : ∃ t s', l_w42q_1 FU ([], (n, b1s)) = some (t, s') ∧ Src (p + 40) s' ∧ t.length ≤ 9 := by
    unfold l_w42q_1
    refine lp_for (fun o => ∃ (t : List RowT) (s' : List Int × Int), o = some (t, s') ∧ Src (p + 40) s' ∧ t.length ≤ 9) (fun i (z : List RowT × (Int × (List Int × Int))) => z.1.length ≤ i ∧ z.2.1 ≤ 9 - i ∧ Src (p + 1 + 4 * i) z.2.2) 9 (fun i z hi hz => ?_) (fun z hz rec => ?_) FU _ (by unfold FU; omega) ⟨Nat.le_refl _, by simp only; omega, by simpa using b2⟩
    · obtain ⟨z1, z2, z3⟩ := hz
      by_cases hk : z.2.1 > 0
      · obtain ⟨r, s1, a1, a2, a3⟩ := t_w34q z.2.2 _ z3 (by omega)
        have w : IntKind.wrap .i64 (z.2.1 - 1) = z.2.1 - 1 := wrap64 (by omega) (by omega)
        have hl := putL_len z.1 r
        refine .inr ⟨(putL z.1 r, (z.2.1 - 1, s1)), ⟨by simp only; omega, by simp only; omega, up a2 (by omega)⟩, fun rec => ?_⟩
        rw [decide_eq_true hk, cond_true, a1]
        simp only [Option.bind_some]
        rw [t_w21q z.1 r (by omega)]
        simp only [Option.bind_some]
        rw [w]
      · refine .inl fun rec => ⟨z.1, z.2.2, ?_, up z3 (by omega), by omega⟩
        simp only [decide_eq_false hk, cond_false]
    · obtain ⟨z1, z2, z3⟩ := hz
      have hk : ¬ z.2.1 > 0 := by omega
      refine ⟨z.1, z.2.2, ?_, up z3 (by omega), by omega⟩
      simp only [decide_eq_false hk, cond_false]
  obtain ⟨t, s1, k1, k2, k3⟩ := key
  rw [b1, Option.bind_some, k1, Option.bind_some]
  by_cases h0 : t.length = 0
  · have : (lenI t == 0) = true := by rw [lenI_eq, beq_iff_eq]; omega
    rw [this, cond_true]
    exact ⟨_, _, rfl, up k2 (by omega), by show t.length ≤ 201; omega⟩
  · have h0' : (lenI t == 0) = false := by rw [lenI_eq, beq_eq_false_iff_ne]; omega
    rw [h0', cond_false]
    obtain ⟨v, c1s, c1, c2, _, _⟩ := nextS s1 20 _ k2 (by omega) (by omega)
    rw [c1, Option.bind_some]
    by_cases q0 : v = 0
    · subst q0
      obtain ⟨w, d1s, d1, d2, _, d4⟩ := nextS c1s (lenI t) _ c2 (by omega) (by rw [lenI_eq]; omega)
      obtain ⟨f1, f2⟩ := d4 (by rw [lenI_eq]; omega)
      rw [lenI_eq] at f2
      obtain ⟨m, rfl⟩ := Int.eq_ofNat_of_zero_le f1
      obtain ⟨r, s2, e1, e2⟩ := t_w41q d1s _ d2 (by omega)
      have hm : m < t.length := by omega
      rw [beq_self_eq_true, cond_true, d1, Option.bind_some, e1, Option.bind_some, geti_lt t m hm, Option.bind_some, Int.toNat_natCast, List.getElem?_eq_getElem hm, Option.bind_some]
      exact ⟨_, _, rfl, up e2 (by omega), by rw [List.length_set]; show t.length ≤ 201; omega⟩
    · rw [show (v == 0) = false from beq_eq_false_iff_ne.2 q0, cond_false]
      by_cases q1 : v = 1
      · subst q1
        have hm : 0 < t.length := by omega
        have g0 : geti t (0 : Int) = some t[0] := geti_lt t 0 hm
        have g00 : t[(0 : Int).toNat]? = some t[0] := List.getElem?_eq_getElem hm
        have m1 : Nat.ble ((t.length + [t[0]].length) * 48) maxBytes = true := ble_mem (by rw [List.length_singleton]; unfold maxBytes; omega)
        rw [beq_self_eq_true, cond_true, g0, Option.bind_some, g00, Option.bind_some, chk_true m1]
        exact ⟨_, _, rfl, up c2 (by omega), by simp; omega⟩
      · rw [show (v == 1) = false from beq_eq_false_iff_ne.2 q1, cond_false]
        by_cases q2 : v = 2
        · subst q2
          have m1 : Nat.ble (48 * K.toNat) maxBytes = true := by rw [hKn, Nat.ble_eq]; unfold maxBytes; omega
          rw [beq_self_eq_true, cond_true, if_pos rfl, if_pos hK0, chk_true m1]
          exact ⟨_, _, rfl, up c2 (by omega), by rw [List.length_replicate]; omega⟩
        · rw [show (v == 2) = false from beq_eq_false_iff_ne.2 q2, cond_false]
          exact ⟨_, _, rfl, up c2 (by omega), by show t.length ≤ 201; omega⟩

theorem wrap8_byte (v : Int) : 0 ≤ IntKind.wrap .u8 v ∧ IntKind.wrap .u8 v < 256 := by
  have e : IntKind.wrap .u8 v = v % 256 := by simp [IntKind.wrap, IntKind.bits, IntKind.signed]
  rw [e]; omega
theorem t_w43q (s : List Int × Int) (p : Int) (hs : Src p s) (hp : p ≤ 500000000) : ∃ b s', m_w43q s = some (b, s') ∧ Src (p + 600) s' ∧ byB b ∧ b.length ≤ 501 := by
  have up : ∀ {q q' : Int} {t : List Int × Int}, Src q t → q ≤ q' → Src q' t := fun h hq => ⟨h.1, h.2.1, h.2.2.1, Int.le_trans h.2.2.2 hq⟩
  obtain ⟨n1, b1s, b1, b2, _, b4⟩ := nextS s 9 _ hs (by omega) (by omega)
  obtain ⟨n2, c1s, c1, c2, _, c4⟩ := nextS _ 9 _ b2 (by omega) (by omega)
  obtain ⟨n3, d1s, d1, d2, _, d4⟩ := nextS _ 9 _ c2 (by omega) (by omega)
  obtain ⟨g1, g2⟩ := b4 (by omega)
  obtain ⟨g3, g4⟩ := c4 (by omega)
  obtain ⟨g5, g6⟩ := d4 (by omega)
  have w1 : IntKind.wrap .i64 ((1 : Int) + n1) = 1 + n1 := wrap64 (by omega) (by omega)
  have w2 : IntKind.wrap .i64 ((1 : Int) + n2) = 1 + n2 := wrap64 (by omega) (by omega)
  have w3 : IntKind.wrap .i64 ((1 : Int) + n3) = 1 + n3 := wrap64 (by omega) (by omega)
  obtain ⟨n, e1s, e1, e2, e3⟩ := pickS _ [1 + n1, 1 + n2, 1 + n3, (0 : Int), (500 : Int), (501 : Int)] _ d2 (by omega) (by simp) (by simp)
  have hn : 0 ≤ n ∧ n ≤ 501 := by
    simp only [List.mem_cons, List.not_mem_nil, or_false] at e3
    omega
  show ∃ b s', p_w43q FU s = _ ∧ _
  unfold p_w43q
  generalize hL : l_w43q_1 FU = L
  rw [b1]
  simp only [Option.bind_some]
  rw [c1]
  simp only [Option.bind_some]
  rw [d1]
  simp only [Option.bind_some]
  rw [w1, w2, w3, e1]
  rw [Option.bind_some]
  subst hL
  unfold l_w43q_1
  refine lp_for (fun o => ∃ (b : List Int) (s' : List Int × Int), o = some (b, s') ∧ Src (p + 600) s' ∧ byB b ∧ b.length ≤ 501) (fun i (z : List Int × (Int × (List Int × Int))) => z.1.length ≤ i ∧ byB z.1 ∧ z.2.1 ≤ 501 - i ∧ Src (p + 4 + i) z.2.2) 501 (fun i z hi hz => ?_) (fun z hz rec => ?_) FU _ (by unfold FU; omega) ⟨Nat.le_refl _, fun b hb => (by cases hb), by simp only; omega, up e2 (by omega)⟩
  · obtain ⟨z1, z2, z3, z4⟩ := hz
    by_cases hk : z.2.1 > 0
    · obtain ⟨v, a1s, a1, a2, _, _⟩ := nextS z.2.2 256 _ z4 (by omega) (by omega)
      have w : IntKind.wrap .i64 (z.2.1 - 1) = z.2.1 - 1 := wrap64 (by omega) (by omega)
      have m1 : Nat.ble ((z.1.length + [IntKind.wrap .u8 v].length) * 1) maxBytes = true := ble_mem (by rw [List.length_singleton]; unfold maxBytes; omega)
      refine .inr ⟨(z.1 ++ [IntKind.wrap .u8 v], (z.2.1 - 1, a1s)), ⟨by simp; omega, byB_app z2 (fun b hb => by rw [List.mem_singleton] at hb; subst hb; exact wrap8_byte v), by simp only; omega, up a2 (by omega)⟩, fun rec => ?_⟩
      simp only [decide_eq_true hk, cond_true, a1, Option.bind_some, w, chk_true m1]
    · refine .inl fun rec => ⟨z.1, z.2.2, ?_, up z4 (by omega), z2, by omega⟩
      simp only [decide_eq_false hk, cond_false]
  · obtain ⟨z1, z2, z3, z4⟩ := hz
    have hk : ¬ z.2.1 > 0 := by omega
    refine ⟨z.1, z.2.2, ?_, up z4 (by omega), z2, by omega⟩
    simp only [decide_eq_false hk, cond_false]

theorem t_w44q (s : List Int × Int) (b : List Int) (p : Int) (hs : Src p s) (hp : p ≤ 500000000) (hb : byB b) (hl : b.length ≤ 100000) : ∃ c s', m_w44q (s, b) = some (c, s') ∧ Src (p + 3) s' ∧ byB c ∧ c.length ≤ b.length + 1 := by
  have up : ∀ {q q' : Int} {t : List Int × Int}, Src q t → q ≤ q' → Src q' t := fun h hq => ⟨h.1, h.2.1, h.2.2.1, Int.le_trans h.2.2.2 hq⟩
  have one : ∀ v : Int, byB [IntKind.wrap .u8 v] := fun v x hx => by rw [List.mem_singleton] at hx; subst hx; exact wrap8_byte v
  show ∃ c s', p_w44q FU (s, b) = _ ∧ _
  unfold p_w44q
  have m0 : Nat.ble ((([] : List Int).length + b.length) * 1) maxBytes = true := ble_mem (by rw [List.length_nil]; unfold maxBytes; omega)
  simp only [chk_true m0, List.nil_append]
  by_cases h0 : b.length = 0
  · have : (lenI b == 0) = true := by rw [lenI_eq, beq_iff_eq]; omega
    obtain ⟨v, a1s, a1, a2, _⟩ := nextS s 256 _ hs (by omega) (by omega)
    simp only [this, cond_true, a1, Option.bind_some]
    exact ⟨_, _, rfl, up a2 (by omega), one v, by simp⟩
  · have h0' : (lenI b == 0) = false := by rw [lenI_eq, beq_eq_false_iff_ne]; omega
    obtain ⟨v, a1s, a1, a2, _, a4⟩ := nextS s (lenI b) _ hs (by omega) (by rw [lenI_eq]; omega)
    obtain ⟨g1, g2⟩ := a4 (by rw [lenI_eq]; omega)
    rw [lenI_eq] at g2
    obtain ⟨m, rfl⟩ := Int.eq_ofNat_of_zero_le g1
    have hm : m < b.length := by omega
    obtain ⟨w, c1s, c1, c2, _⟩ := nextS _ 3 _ a2 (by omega) (by omega)
    simp only [h0', cond_false, a1, c1, Option.bind_some]
    cases w == 0 with
    | true =>
      obtain ⟨x, d1s, d1, d2, _⟩ := nextS _ 256 _ c2 (by omega) (by omega)
      simp only [cond_true, d1, Option.bind_some, geti_lt b m hm, Int.toNat_natCast, List.getElem?_eq_getElem hm]
      refine ⟨_, _, rfl, up d2 (by omega), fun y hy => ?_, by rw [List.length_set]; omega⟩
      rcases List.mem_or_eq_of_mem_set hy with hy | rfl
      · exact hb y hy
      · exact wrap8_byte x
    | false =>
      simp only [cond_false]
      cases w == 1 with
      | true =>
        have b1 : bndB none (some ((m : Nat) : Int)) none b.length = true := by simp [bndB]; omega
        simp only [cond_true, chk_true b1, Int.toNat_natCast]
        exact ⟨_, _, rfl, up c2 (by omega), byB_take hb m, by rw [List.length_take]; omega⟩
      | false =>
        simp only [cond_false]
        cases w == 2 with
        | true =>
          obtain ⟨x, d1s, d1, d2, _⟩ := nextS _ 6 _ c2 (by omega) (by omega)
          have m1 : Nat.ble ((b.length + [IntKind.wrap .u8 x].length) * 1) maxBytes = true := ble_mem (by rw [List.length_singleton]; unfold maxBytes; omega)
          simp only [cond_true, d1, Option.bind_some, chk_true m1]
          exact ⟨_, _, rfl, up d2 (by omega), byB_app hb (one x), by simp⟩
        | false => exact ⟨_, _, rfl, up c2 (by omega), hb, by omega⟩

theorem byB_frame {b : List Int} (hb : byB b) (hl : b.length ≤ 500) : byB (frameD b) := by
  have hc := chkB_ok hb
  unfold frameD
  refine byB_app (byB_app (fun x hx => ?_) (fun x hx => ?_)) hb
  · simp only [List.mem_cons, List.not_mem_nil, or_false] at hx
    rcases hx with rfl | rfl <;> omega
  · simp only [List.mem_cons, List.not_mem_nil, or_false] at hx
    rcases hx with rfl | rfl <;> omega
theorem t_w45q (s : List Int × Int) (p : Int) (hs : Src p s) (hp : p ≤ 200000000) : ∃ g s', m_w45q s = some (g, s') ∧ Src (p + 3100) s' ∧ byB g.1 ∧ byB g.2 ∧ g.1.length ≤ 10000 ∧ g.2.length ≤ 10000 := by
  have up : ∀ {q q' : Int} {t : List Int × Int}, Src q t → q ≤ q' → Src q' t := fun h hq => ⟨h.1, h.2.1, h.2.2.1, Int.le_trans h.2.2.2 hq⟩
  obtain ⟨n, b1s, b1, b2, _, b4⟩ := nextS s 6 _ hs (by omega) (by omega)
  obtain ⟨g1, g2⟩ := b4 (by omega)
  show ∃ g s', p_w45q FU s = _ ∧ _
  unfold p_w45q
  generalize hK : (6000 : Int) = K
  have key : ∃ g s', l_w45q_1 FU (n, (b1s, ([], []))) = some (s', g) ∧ Src (p + 3070) s' ∧ byB g.1 ∧ byB g.2 ∧ g.1.length + g.2.length ≤ 6000 := by
    unfold l_w45q_1
    refine lp_for (fun o => ∃ (g : LogT) (s' : List Int × Int), o = some (s', g) ∧ Src (p + 3070) s' ∧ byB g.1 ∧ byB g.2 ∧ g.1.length + g.2.length ≤ 6000) (fun i (z : Int × ((List Int × Int) × LogT)) => z.1 ≤ 5 - i ∧ Src (p + 1 + 601 * i) z.2.1 ∧ byB z.2.2.1 ∧ byB z.2.2.2 ∧ z.2.2.1.length + z.2.2.2.length ≤ 6000) 5 (fun i z hi hz => ?_) (fun z hz rec => ?_) FU _ (by unfold FU; omega) ⟨by simp only; omega, by simpa using b2, fun b hb => (by cases hb), fun b hb => (by cases hb), by simp⟩
    · obtain ⟨k, src, g⟩ := z
      obtain ⟨z1, z2, z3, z4, z5⟩ := hz
      simp only at z1 z2 z3 z4 z5
      by_cases hk : k > 0
      · obtain ⟨b, s1, a1, a2, a3, a4⟩ := t_w43q src _ z2 (by omega)
        have w : IntKind.wrap .i64 (k - 1) = k - 1 := wrap64 (by omega) (by omega)
        by_cases hsk : b.length < 1 ∨ b.length > 500
        · refine .inr ⟨(k - 1, (s1, g)), ⟨by simp only; omega, up a2 (by omega), z3, z4, z5⟩, fun rec => ?_⟩
          simp only [decide_eq_true hk, cond_true, a1, Option.bind_some, w]
          by_cases h1 : b.length < 1
          · rw [decide_eq_true (show lenI b < 1 by rw [lenI_eq]; omega)]; rfl
          · rw [decide_eq_false (show ¬ lenI b < 1 by rw [lenI_eq]; omega), decide_eq_true (show lenI b > 500 by rw [lenI_eq]; omega)]; rfl
        · have hbl : b.length ≤ 500 := by omega
          have e1 : decide (lenI b < 1) = false := decide_eq_false (by rw [lenI_eq]; omega)
          have e2 : decide (lenI b > 500) = false := decide_eq_false (by rw [lenI_eq]; omega)
          obtain ⟨ch, c1s, c1, c2⟩ := chanceS s1 3 _ a2 (by omega) (by omega)
          have ha := t_w38q g b a3 hbl z5
          have hfl := frameD_len b
          by_cases hq : g.1.length + (g.2 ++ frameD b).length > 6000
          · rw [if_pos hq] at ha
            cases ch with
            | true =>
              refine .inr ⟨(k - 1, (c1s, (g.1 ++ g.2, []))), ⟨by simp only; omega, up c2 (by omega), byB_app z3 z4, fun b hb => (by cases hb), by simp only [List.length_append, List.length_nil]; omega⟩, fun rec => ?_⟩
              simp only [decide_eq_true hk, cond_true, a1, Option.bind_some, w, e1, e2, cond_false, ha, c1, t_w9q g (by omega)]
              rfl
            | false =>
              refine .inr ⟨(k - 1, (c1s, g)), ⟨by simp only; omega, up c2 (by omega), z3, z4, z5⟩, fun rec => ?_⟩
              simp only [decide_eq_true hk, cond_true, a1, Option.bind_some, w, e1, e2, cond_false, ha, c1]
              rfl
          · rw [if_neg hq] at ha
            have hq' : g.1.length + (g.2 ++ frameD b).length ≤ 6000 := by omega
            cases ch with
            | true =>
              refine .inr ⟨(k - 1, (c1s, (g.1 ++ (g.2 ++ frameD b), []))), ⟨by simp only; omega, up c2 (by omega), byB_app z3 (byB_app z4 (byB_frame a3 hbl)), fun b hb => (by cases hb), by rw [List.length_append]; simp only [List.length_nil]; omega⟩, fun rec => ?_⟩
              simp only [decide_eq_true hk, cond_true, a1, Option.bind_some, w, e1, e2, cond_false, ha, c1, t_w9q (g.1, g.2 ++ frameD b) (by simp only; omega)]
              rfl
            | false =>
              refine .inr ⟨(k - 1, (c1s, (g.1, g.2 ++ frameD b))), ⟨by simp only; omega, up c2 (by omega), z3, byB_app z4 (byB_frame a3 hbl), hq'⟩, fun rec => ?_⟩
              simp only [decide_eq_true hk, cond_true, a1, Option.bind_some, w, e1, e2, cond_false, ha, c1]
              rfl
      · refine .inl fun rec => ⟨g, src, ?_, up z2 (by omega), z3, z4, z5⟩
        simp only [decide_eq_false hk, cond_false]
    · obtain ⟨k, src, g⟩ := z
      obtain ⟨z1, z2, z3, z4, z5⟩ := hz
      simp only at z1 z2 z3 z4 z5
      have hk : ¬ k > 0 := by omega
      refine ⟨g, src, ?_, up z2 (by omega), z3, z4, z5⟩
      simp only [decide_eq_false hk, cond_false]
  obtain ⟨g, s1, k1, k2, k3, k4, k5⟩ := key
  obtain ⟨v, c1s, c1, c2, _, _⟩ := nextS s1 16 _ k2 (by omega) (by omega)
  rw [b1, Option.bind_some, k1, Option.bind_some, c1, Option.bind_some]
  by_cases q0 : v = 0
  · subst q0
    obtain ⟨c, s2, d1, d2, d3, d4⟩ := t_w44q c1s g.2 _ c2 (by omega) k4 (by omega)
    rw [beq_self_eq_true, cond_true, d1, Option.bind_some]
    exact ⟨_, _, rfl, up d2 (by omega), k3, d3, by simp only; omega, by simp only; omega⟩
  · rw [show (v == 0) = false from beq_eq_false_iff_ne.2 q0, cond_false]
    by_cases q1 : v = 1
    · subst q1
      obtain ⟨c, s2, d1, d2, d3, d4⟩ := t_w44q c1s g.1 _ c2 (by omega) k3 (by omega)
      rw [beq_self_eq_true, cond_true, d1, Option.bind_some]
      exact ⟨_, _, rfl, up d2 (by omega), d3, k4, by simp only; omega, by simp only; omega⟩
    · rw [show (v == 1) = false from beq_eq_false_iff_ne.2 q1, cond_false]
      by_cases q2 : v = 2
      · subst q2
        obtain ⟨w, d1s, d1, d2, _, d4⟩ := nextS c1s 2 _ c2 (by omega) (by omega)
        obtain ⟨f1, f2⟩ := d4 (by omega)
        have ww : IntKind.wrap .i64 (K + w) = K + w := wrap64 (by omega) (by omega)
        have h0 : (0 : Int) ≤ K + w := by omega
        have m1 : Nat.ble (1 * (K + w).toNat) maxBytes = true := by rw [Nat.ble_eq]; unfold maxBytes; omega
        rw [beq_self_eq_true, cond_true, d1, Option.bind_some, if_pos rfl, ww, if_pos h0, chk_true m1]
        refine ⟨_, _, rfl, up d2 (by omega), fun x hx => ?_, k4, by simp only [List.length_replicate]; omega, by simp only; omega⟩
        have := List.eq_of_mem_replicate hx
        omega
      · rw [show (v == 2) = false from beq_eq_false_iff_ne.2 q2, cond_false]
        exact ⟨_, _, rfl, up c2 (by omega), k3, k4, by show g.1.length ≤ 10000; omega, by show g.2.length ≤ 10000; omega⟩

/-- What an engine is of which something was done. -/
def EI (e : EngT) : Prop := byB e.1.1 ∧ byB e.1.2 ∧ e.1.1.length ≤ 10000 ∧ e.1.2.length ≤ 10000 ∧ e.2.2.1.length ≤ 6
theorem byB_nil : byB [] := fun b hb => by cases hb
theorem EI_zE : EI zE.2 := ⟨byB_nil, byB_nil, by decide, by decide, by decide⟩
theorem EI_flush (e : EngT) : EI (flushR e).2.2 := by
  unfold flushR
  cases engC e == 0 with
  | false => exact EI_zE
  | true =>
    cases lenI e.2.1 == 0 with
    | true => exact EI_zE
    | false =>
      by_cases h : lenI e.2.2.1 ≥ 6
      · rw [decide_eq_true h]; exact EI_zE
      · rw [decide_eq_false h]
        rw [lenI_eq] at h
        exact ⟨byB_nil, byB_nil, by show ([] : List Int).length ≤ 10000; decide, by show ([] : List Int).length ≤ 10000; decide, by show ([e.2.1] ++ e.2.2.1).length ≤ 6; rw [List.length_append, List.length_singleton]; omega⟩
theorem EI_comp (e : EngT) (f : Int) (he : EI e) : EI (compR e f).2.2 := by
  unfold compR
  cases engC e == 0 with
  | false => exact EI_zE
  | true =>
    cases decide (e.2.2.1.length < 2) with
    | true => exact EI_zE
    | false =>
      cases (mrgR e.2.2.1).1 == 0 with
      | false => exact EI_zE
      | true => exact ⟨he.1, he.2.1, he.2.2.1, he.2.2.2.1, by show [cmpL (mrgR e.2.2.1).2 f].length ≤ 6; rw [List.length_singleton]; decide⟩
theorem EI_write (e : EngT) (ws : List WriteT) (b : Bool) (he : EI e) : EI (writeR e ws b).2.2 := by
  unfold writeR
  cases hc : engC e == 0 with
  | false => exact EI_zE
  | true =>
    obtain ⟨q1, q2, q3, q4⟩ := engC_zero (eq_of_beq hc)
    cases hw : wrC ws == 0 with
    | false => exact EI_zE
    | true =>
      cases e.2.2.2 == 1000000 with
      | true => exact EI_zE
      | false =>
        by_cases h : e.1.1.length + (e.1.2 ++ frameD (packL e.2.2.2 ws)).length > 6000
        · rw [decide_eq_true h]; exact EI_zE
        · rw [decide_eq_false h]
          cases decide (lenI ((rowsW e.2.2.2 ws).foldl putL e.2.1) > 200) with
          | true => exact EI_zE
          | false =>
            have hp : (packL e.2.2.2 ws).length ≤ 6000 := by
              have := frameD_len (packL e.2.2.2 ws)
              rw [List.length_append] at h
              omega
            have hbf : byB (frameD (packL e.2.2.2 ws)) := by
              have hb := byB_packL e.2.2.2 ws
              have hc := chkB_ok hb
              unfold frameD
              refine byB_app (byB_app (fun x hx => ?_) (fun x hx => ?_)) hb
              · simp only [List.mem_cons, List.not_mem_nil, or_false] at hx
                rcases hx with rfl | rfl <;> omega
              · simp only [List.mem_cons, List.not_mem_nil, or_false] at hx
                rcases hx with rfl | rfl <;> omega
            cases b with
            | true =>
              refine ⟨byB_app he.1 (byB_app he.2.1 hbf), byB_nil, ?_, by show ([] : List Int).length ≤ 10000; decide, he.2.2.2.2⟩
              show (e.1.1 ++ (e.1.2 ++ frameD (packL e.2.2.2 ws))).length ≤ 10000
              rw [List.length_append]; omega
            | false =>
              refine ⟨he.1, byB_app he.2.1 hbf, he.2.2.1, ?_, he.2.2.2.2⟩
              show (e.1.2 ++ frameD (packL e.2.2.2 ws)).length ≤ 10000
              omega
/-- What the draws' engine is at last: it may be wrong. -/
def EJ (e : EngT) : Prop := byB e.1.1 ∧ byB e.1.2 ∧ e.1.1.length ≤ 10002 ∧ e.1.2.length ≤ 10002
theorem t_l6loop (s : List Int × Int) (p n : Int) (e0 : EngT) (hs : Src p s) (hp : p ≤ 100000000) (hn : n ≤ 9) (he : EI e0) : ∃ e s', l_w46q_1 FU (n, (s, e0)) = some (s', e) ∧ Src (p + 300) s' ∧ EI e := by
  have up : ∀ {q q' : Int} {t : List Int × Int}, Src q t → q ≤ q' → Src q' t := fun h hq => ⟨h.1, h.2.1, h.2.2.1, Int.le_trans h.2.2.2 hq⟩
  unfold l_w46q_1
  refine lp_for (fun o => ∃ (e : EngT) (s' : List Int × Int), o = some (s', e) ∧ Src (p + 300) s' ∧ EI e) (fun i (z : Int × ((List Int × Int) × EngT)) => z.1 ≤ 9 - i ∧ Src (p + 22 * i) z.2.1 ∧ EI z.2.2) 9 (fun i z hi hz => ?_) (fun z hz rec => ?_) FU _ (by unfold FU; omega) ⟨by simpa using hn, by simpa using hs, he⟩
  · obtain ⟨k, src, e⟩ := z
    obtain ⟨z1, z2, z3⟩ := hz
    simp only at z1 z2 z3
    obtain ⟨y1, y2, y3, y4, y5⟩ := z3
    have z3 : EI e := ⟨y1, y2, y3, y4, y5⟩
    by_cases hk : k > 0
    · have w : IntKind.wrap .i64 (k - 1) = k - 1 := wrap64 (by omega) (by omega)
      -- what comes of one thing done
      have fin : ∀ (src' : List Int × Int) (r : Int × (Int × EngT)), Src (p + 22 * (i + 1 : Nat)) src' → EI r.2.2 → ∃ x' : Int × ((List Int × Int) × EngT), (x'.1 ≤ 9 - ((i + 1 : Nat) : Int) ∧ Src (p + 22 * ((i + 1 : Nat) : Int)) x'.2.1 ∧ EI x'.2.2) ∧ ∀ rec : Int × ((List Int × Int) × EngT) → Option ((List Int × Int) × EngT), (cond (r.1 == (0 : Int)) (rec (IntKind.wrap .i64 (k - (1 : Int)), (src', r.2.2))) (rec (IntKind.wrap .i64 (k - (1 : Int)), (src', e)))) = rec x' := by
        intro src' r h1 h2
        cases r.1 == 0 with
        | true => exact ⟨(k - 1, (src', r.2.2)), ⟨by simp only; omega, h1, h2⟩, fun rec => by rw [cond_true, w]⟩
        | false => exact ⟨(k - 1, (src', e)), ⟨by simp only; omega, h1, z3⟩, fun rec => by rw [cond_false, w]⟩
      obtain ⟨v, a1s, a1, a2, _, _⟩ := nextS src 6 _ z2 (by omega) (by omega)
      refine .inr ?_
      by_cases q0 : v = 0
      · obtain ⟨x', g1, g2⟩ := fin a1s (flushR e) (up a2 (by omega)) (EI_flush e)
        refine ⟨x', g1, fun rec => ?_⟩
        rw [decide_eq_true hk, cond_true, a1, Option.bind_some, q0, beq_self_eq_true, cond_true, t_w27q e y1 y2 (by omega) (by omega), Option.bind_some, Option.bind_some]
        exact g2 rec
      · by_cases q1 : v = 1
        · obtain ⟨f, b1s, b1, b2, _, _⟩ := nextS a1s 6 _ a2 (by omega) (by omega)
          obtain ⟨x', g1, g2⟩ := fin b1s (compR e f) (up b2 (by omega)) (EI_comp e f z3)
          refine ⟨x', g1, fun rec => ?_⟩
          rw [decide_eq_true hk, cond_true, a1, Option.bind_some, show (v == 0) = false from beq_eq_false_iff_ne.2 q0, cond_false, q1, beq_self_eq_true, cond_true, b1, Option.bind_some, t_w31q e f y1 y2 (by omega) (by omega), Option.bind_some, Option.bind_some]
          exact g2 rec
        · obtain ⟨ws, b1s, b1, b2, b3⟩ := t_w35q a1s _ a2 (by omega)
          obtain ⟨b, c1s, c1, c2⟩ := chanceS b1s 2 _ b2 (by omega) (by omega)
          obtain ⟨x', g1, g2⟩ := fin c1s (writeR e ws b) (up c2 (by omega)) (EI_write e ws b z3)
          refine ⟨x', g1, fun rec => ?_⟩
          rw [decide_eq_true hk, cond_true, a1, Option.bind_some, show (v == 0) = false from beq_eq_false_iff_ne.2 q0, cond_false, show (v == 1) = false from beq_eq_false_iff_ne.2 q1, cond_false, b1, Option.bind_some, c1, Option.bind_some, t_w39q e ws b y1 y2 (by omega) (by omega) (by omega), Option.bind_some, Option.bind_some]
          exact g2 rec
    · refine .inl fun rec => ⟨e, src, ?_, up z2 (by omega), z3⟩
      rw [decide_eq_false hk, cond_false]
  · obtain ⟨k, src, e⟩ := z
    obtain ⟨z1, z2, z3⟩ := hz
    simp only at z1 z2 z3
    have hk : ¬ k > 0 := by omega
    refine ⟨e, src, ?_, up z2 (by omega), z3⟩
    rw [decide_eq_false hk, cond_false]
theorem t_w46q (s : List Int × Int) (p : Int) (hs : Src p s) (hp : p ≤ 10000000) : ∃ e s', m_w46q s = some (e, s') ∧ Src (p + 4000) s' ∧ EJ e := by
  have up : ∀ {q q' : Int} {t : List Int × Int}, Src q t → q ≤ q' → Src q' t := fun h hq => ⟨h.1, h.2.1, h.2.2.1, Int.le_trans h.2.2.2 hq⟩
  have ej : ∀ {e : EngT}, EI e → EJ e := fun h => ⟨h.1, h.2.1, Nat.le_trans h.2.2.1 (by decide), Nat.le_trans h.2.2.2.1 (by decide)⟩
  obtain ⟨n, b1s, b1, b2, _, b4⟩ := nextS s 9 _ hs (by omega) (by omega)
  obtain ⟨g1, g2⟩ := b4 (by omega)
  have e1 : EI (([], []), ([], ([], 1))) := ⟨byB_nil, byB_nil, by decide, by decide, by decide⟩
  obtain ⟨e, s1, k1, k2, k3⟩ := t_l6loop b1s _ n _ b2 (by omega) (by omega) e1
  obtain ⟨v, c1s, c1, c2, _, _⟩ := nextS s1 24 _ k2 (by omega) (by omega)
  obtain ⟨y1, y2, y3, y4, y5⟩ := k3
  have k3 : EI e := ⟨y1, y2, y3, y4, y5⟩
  show ∃ e s', p_w46q FU s = _ ∧ _
  unfold p_w46q
  generalize l_w46q_1 FU = L at k1 ⊢
  rw [t_w2q 1 (by decide), Option.bind_some, b1, Option.bind_some, k1, Option.bind_some, c1, Option.bind_some]
  by_cases q0 : v = 0
  · obtain ⟨w, d1s, d1, d2, _⟩ := pickS c1s [(0 : Int), (1 : Int), (1000000 : Int), (1000001 : Int)] _ c2 (by omega) (by simp) (by simp)
    rw [q0, beq_self_eq_true, cond_true, d1, Option.bind_some]
    exact ⟨_, _, rfl, up d2 (by omega), ej k3⟩
  · rw [show (v == 0) = false from beq_eq_false_iff_ne.2 q0, cond_false]
    by_cases q1 : v = 1
    · obtain ⟨t, d1s, d1, d2, _⟩ := t_w42q c1s _ c2 (by omega)
      rw [q1, beq_self_eq_true, cond_true, d1, Option.bind_some]
      exact ⟨_, _, rfl, up d2 (by omega), ej k3⟩
    · rw [show (v == 1) = false from beq_eq_false_iff_ne.2 q1, cond_false]
      by_cases q2 : v = 2
      · obtain ⟨t, d1s, d1, d2, _⟩ := t_w42q c1s _ c2 (by omega)
        have m1 : Nat.ble ((e.2.2.1.length + [t].length) * 24) maxBytes = true := ble_mem (by rw [List.length_singleton]; unfold maxBytes; omega)
        rw [q2, beq_self_eq_true, cond_true, d1, Option.bind_some, chk_true m1]
        exact ⟨_, _, rfl, up d2 (by omega), (ej k3).1, (ej k3).2.1, (ej k3).2.2.1, (ej k3).2.2.2⟩
      · rw [show (v == 2) = false from beq_eq_false_iff_ne.2 q2, cond_false]
        by_cases q3 : v = 3
        · obtain ⟨g, d1s, d1, d2, d3, d4, d5, d6⟩ := t_w45q c1s _ c2 (by omega)
          rw [q3, beq_self_eq_true, cond_true, d1, Option.bind_some]
          exact ⟨_, _, rfl, up d2 (by omega), d3, d4, Nat.le_trans d5 (by decide), Nat.le_trans d6 (by decide)⟩
        · rw [show (v == 3) = false from beq_eq_false_iff_ne.2 q3, cond_false]
          by_cases q4 : v = 4
          · have m1 : Nat.ble (24 * (7 : Int).toNat) maxBytes = true := by decide
            rw [q4, beq_self_eq_true, cond_true, if_pos rfl, if_pos (by decide), chk_true m1]
            exact ⟨_, _, rfl, up c2 (by omega), (ej k3).1, (ej k3).2.1, (ej k3).2.2.1, (ej k3).2.2.2⟩
          · rw [show (v == 4) = false from beq_eq_false_iff_ne.2 q4, cond_false]
            by_cases q5 : v = 5
            · have m1 : Nat.ble ((e.1.2.length + [(0 : Int), (9 : Int)].length) * 1) maxBytes = true := ble_mem (by simp only [List.length_cons, List.length_nil]; unfold maxBytes; omega)
              rw [q5, beq_self_eq_true, cond_true, chk_true m1]
              refine ⟨_, _, rfl, up c2 (by omega), y1, byB_app y2 (fun x hx => ?_), Nat.le_trans y3 (by decide), ?_⟩
              · simp only [List.mem_cons, List.not_mem_nil, or_false] at hx
                rcases hx with rfl | rfl <;> decide
              · show (e.1.2 ++ [(0 : Int), (9 : Int)]).length ≤ 10002
                rw [List.length_append]; simp only [List.length_cons, List.length_nil]; omega
            · rw [show (v == 5) = false from beq_eq_false_iff_ne.2 q5, cond_false]
              exact ⟨_, _, rfl, up c2 (by omega), ej k3⟩

theorem t_w47q (x : List Int) (hl : x.length ≤ 1048576) (hb : ∀ b ∈ x, 0 ≤ b ∧ b ≤ 255) : ∃ e k, m_w47q x = some (e, k) ∧ EJ e := by
  have s0 : Src 0 (x, 0) := ⟨by show x.length ≤ 2097152; omega, hb, Int.le_refl _, Int.le_refl _⟩
  obtain ⟨e, s1, a1, a2, a3⟩ := t_w46q (x, 0) 0 s0 (by decide)
  have hle := a3.2.2.2
  have w : IntKind.wrap .i64 ((lenI e.1.2) + (1 : Int)) = ((e.1.2.length + 1 : Nat) : Int) := by rw [lenI_eq]; exact nxt (by unfold B36; omega)
  obtain ⟨v, b1s, b1, b2, _⟩ := nextS s1 ((e.1.2.length + 1 : Nat) : Int) _ a2 (by omega) (by omega)
  obtain ⟨u, c1s, c1, c2, _⟩ := nextS b1s ((e.1.2.length + 1 : Nat) : Int) _ b2 (by omega) (by omega)
  obtain ⟨k, d1s, d1, d2, _⟩ := pickS c1s [v, u, (0 : Int), lenI e.1.2, ((e.1.2.length + 1 : Nat) : Int), (-1 : Int)] _ c2 (by omega) (by simp) (by simp)
  show ∃ e k, p_w47q FU x = _ ∧ _
  unfold p_w47q
  rw [a1, Option.bind_some]
  simp only [w]
  rw [b1, Option.bind_some, c1, Option.bind_some, d1, Option.bind_some]
  exact ⟨_, _, rfl, a3⟩

theorem t_w48q (g : LogT) (h1 : g.1.length ≤ 1048576) (h2 : g.2.length ≤ 1048576) : m_w48q g = some (if g.1.length + g.2.length > 6000 then 2 else 0) := by
  show p_w48q FU _ = _
  unfold p_w48q
  rw [lenI_eq, lenI_eq, wrap64 (by omega) (by omega)]
  by_cases h : g.1.length + g.2.length > 6000
  · rw [if_pos h, decide_eq_true (by omega)]; rfl
  · rw [if_neg h, decide_eq_false (by omega)]; rfl

theorem t_w49q (a b c : Int) : m_w49q (a, b, c) = some (inB a b c) := by
  show p_w49q FU _ = _
  unfold p_w49q inB
  by_cases h : b ≤ a <;> simp [h]

theorem t_w50q (k : ByteArray) : m_w50q k = some (inB ((k.size : Nat) : Int) 1 20) := by
  show p_w50q FU _ = _
  unfold p_w50q
  simp only [t_w49q, Option.bind_some]

theorem t_w51q (k : Int) : m_w51q k = some (inB k 1 1000000) := by
  show p_w51q FU _ = _
  unfold p_w51q
  simp only [t_w49q, Option.bind_some]

theorem t_w52q (r : RowT) : m_w52q r = some (rowC r) := by
  show p_w52q FU _ = _
  unfold p_w52q rowC
  simp only [t_w50q, t_w51q, Option.bind_some]
  cases inB ((r.1.size : Nat) : Int) 1 20 <;> simp only [cond_true, cond_false, Option.bind_some, Bool.not_true, Bool.not_false, Bool.false_or, Bool.true_or]
  cases r.2.2.2 <;> simp only [cond_true, cond_false, Option.bind_some, Bool.true_and, Bool.false_and] <;> (try cases (r.2.2.1.toList == (⟨#[]⟩ : ByteArray).toList)) <;> (try simp only [cond_true, cond_false, Bool.not_true, Bool.not_false]) <;> cases (decide (((r.2.2.1.size : Nat) : Int) > 100)) <;> (try simp only [cond_true, cond_false]) <;> cases inB r.2.1 1 1000000 <;> rfl

theorem t_w54q (a b : ByteArray) : m_w54q (a, b) = some (cmpB a b) := by
  show p_w54q FU _ = _
  unfold p_w54q
  rfl

theorem t_w56q (a b : Int) : m_w56q (a, b) = some (if a < b then -1 else if a > b then 1 else 0) := by
  show p_w56q FU _ = _
  unfold p_w56q
  have e : ∀ a : Int, m_w55q a = some false := fun a => by
    show p_w55q FU a = _
    unfold p_w55q
    simp
  simp only [e, Option.bind_some, cond_false]
  by_cases h1 : a < b
  · simp [h1]
  · by_cases h2 : a > b <;> simp [h1, h2]

theorem t_w57q (a b : Int) : m_w57q [a, b] = some (if a = 0 then b else a) := by
  show p_w57q FU _ = _
  unfold p_w57q l_w57q_1
  obtain ⟨m, hm⟩ : ∃ m, FU = m + 1 + 1 + 1 := ⟨18446744073709551613, rfl⟩
  rw [hm]
  have w1 : IntKind.wrap .i64 1 = 1 := rfl
  have w2 : IntKind.wrap .i64 2 = 2 := rfl
  by_cases h1 : a = 0
  · by_cases h2 : b = 0
    · simp [lp, geti, lenI, h1, h2, w1, w2]
    · have hb : (b == 0) = false := by simp [h2]
      simp [lp, geti, lenI, h1, hb, w1, w2]
  · have hb : (a == 0) = false := by simp [h1]
    simp [lp, geti, lenI, h1, hb]

theorem t_w58q (a b : RowT) : m_w58q (a, b) = some (cfRow a b) := by
  show p_w58q FU _ = _
  unfold p_w58q
  simp only [t_w54q, t_w56q, t_w57q, Option.bind_some]
  rfl

theorem t_w59q (xs : List RowT) : m_w59q xs = some (tabC xs) := by
  show p_w59q FU _ = _
  unfold p_w59q tabC
  by_cases hl : xs.length > 200
  · rw [if_pos hl, decide_eq_true (show lenI xs > 200 by rw [lenI_eq]; omega)]; rfl
  · rw [if_neg hl, decide_eq_false (show ¬ lenI xs > 200 by rw [lenI_eq]; omega), cond_false]
    unfold l_w59q_1
    refine (lp_fst xs (tabStep xs) (some 0) (by unfold B36; omega) (fun i hi rec hw => ?_) (fun rec => ?_)).trans (by cases fstI (tabStep xs) 0 xs <;> rfl)
    · simp only [lt_lenI hi, cond_true, geti_lt xs i hi, Option.bind_some, t_w52q, tabStep, hw]
      cases (rowC xs[i] == 0)
      · rfl
      · simp only [Bool.not_true, cond_false]
        by_cases h0 : 0 < i
        · have hp : i - 1 < xs.length := by omega
          rw [decide_eq_true (show ((i : Int) > 0) by omega), decide_eq_true h0, prv (by unfold B36; omega) h0]
          simp only [geti_lt xs (i - 1) hp, List.getElem?_eq_getElem hp, Option.getD_some, t_w58q, Option.bind_some, cond_true, Bool.true_and]
          by_cases hc : cfRow xs[i - 1] xs[i] < 0
          · rw [decide_eq_true hc, decide_eq_false (show ¬ cfRow xs[i - 1] xs[i] ≥ 0 by omega)]; rfl
          · rw [decide_eq_false hc, decide_eq_true (show cfRow xs[i - 1] xs[i] ≥ 0 by omega)]; rfl
        · rw [decide_eq_false (show ¬ ((i : Int) > 0) by omega), decide_eq_false h0]
          simp only [cond_false, Option.bind_some, Bool.false_and]
    · simp only [ge_lenI, cond_false]

theorem t_w60q (a b : Int) : m_w60q [a, b] = some (if a = 0 then b else a) := by
  show p_w60q FU _ = _
  unfold p_w60q l_w60q_1
  obtain ⟨m, hm⟩ : ∃ m, FU = m + 1 + 1 + 1 := ⟨18446744073709551613, rfl⟩
  rw [hm]
  have w1 : IntKind.wrap .i64 1 = 1 := rfl
  have w2 : IntKind.wrap .i64 2 = 2 := rfl
  by_cases h1 : a = 0
  · by_cases h2 : b = 0
    · simp [lp, geti, lenI, h1, h2, w1, w2]
    · have hb : (b == 0) = false := by simp [h2]
      simp [lp, geti, lenI, h1, hb, w1, w2]
  · have hb : (a == 0) = false := by simp [h1]
    simp [lp, geti, lenI, h1, hb]
theorem t_impl_firstOf3 (a b c : Int) : m_w60q [a, b, c] = some (if a = 0 then (if b = 0 then c else b) else a) := by
  show p_w60q FU _ = _
  unfold p_w60q l_w60q_1
  obtain ⟨m, hm⟩ : ∃ m, FU = m + 1 + 1 + 1 + 1 := ⟨18446744073709551612, rfl⟩
  rw [hm]
  have w1 : IntKind.wrap .i64 1 = 1 := rfl
  have w2 : IntKind.wrap .i64 2 = 2 := rfl
  have w3 : IntKind.wrap .i64 3 = 3 := rfl
  by_cases h1 : a = 0
  · by_cases h2 : b = 0
    · by_cases h3 : c = 0
      · simp [lp, geti, lenI, h1, h2, h3, w1, w2, w3]
      · have hb : (c == 0) = false := by simp [h3]
        simp [lp, geti, lenI, h1, h2, hb, w1, w2, w3]
    · have hb : (b == 0) = false := by simp [h2]
      simp [lp, geti, lenI, h1, h2, hb, w1, w2]
  · have hb : (a == 0) = false := by simp [h1]
    simp [lp, geti, lenI, h1, hb]

theorem t_w61q (xss : List (List RowT)) (hl : xss.length ≤ 1048576) (hf : xss.flatten.length ≤ 2097152) : m_w61q xss = some xss.flatten := by
  show p_w61q FU _ = _
  unfold p_w61q
  have hle : ∀ i : Nat, (xss.take i).flatten.length ≤ xss.flatten.length := fun i => by
    conv => rhs; rw [← List.take_append_drop i xss]
    rw [List.flatten_append, List.length_append]; omega
  have hs : ∀ (i : Nat) (hi : i < xss.length), (xss.take (i + 1)).flatten = (xss.take i).flatten ++ xss[i] := fun i hi => by
    rw [List.take_succ_eq_append_getElem hi, List.flatten_append]; simp
  have e1 : l_w61q_1 FU xss ((0 : Int), (0 : Int)) = some (xss.flatten.length : Int) := by
    unfold l_w61q_1
    have key := lp_foldI xss (fun (s : Int) t => s + (t.length : Int)) (fun i s => (s, (i : Int))) (fun s => some s) (fun i s => s = ((xss.take i).flatten.length : Int)) (step := fun rec10 (z9 : Int × Int) =>
 (cond (decide (z9.2 < (lenI xss)))
  ((geti xss z9.2).bind fun y11 =>
  (cond (decide ((IntKind.wrap .i64 (z9.1 + (lenI y11))) < (0 : Int)))
   none
   (rec10 (IntKind.wrap .i64 (z9.1 + (lenI y11)), IntKind.wrap .i64 (z9.2 + (1 : Int))))))
  (some z9.1))) (by unfold B36; omega) 0 (by simp) (fun i hi s hs' => by
      have h1 := hle (i + 1)
      rw [hs i hi, List.length_append] at h1
      refine ⟨by rw [hs', hs i hi, List.length_append]; omega, fun rec => ?_⟩
      simp only [lt_lenI hi, cond_true, geti_lt xss i hi, Option.bind_some]
      rw [lenI_eq, wrap64 (by omega) (by omega), decide_eq_false (by omega), cond_false, nxt (by unfold B36; omega)]) (fun s hs' rec => by simp only [ge_lenI, cond_false])
    refine key.1.trans ?_
    have k2 := key.2
    rw [List.take_length] at k2
    rw [k2]
  have e2 : l_w61q_2 FU xss (([] : List RowT), (0 : Int)) = some xss.flatten := by
    unfold l_w61q_2
    have key := lp_foldI xss (fun (s : List RowT) t => s ++ t) (fun i s => (s, (i : Int))) (fun s => some s) (fun i s => s = (xss.take i).flatten) (step := fun rec18 (z17 : List RowT × Int) =>
 (cond (decide (z17.2 < (lenI xss)))
  ((geti xss z17.2).bind fun y19 =>
  (chk (Nat.ble ((z17.1.length + y19.length) * 48) maxBytes)
  (rec18 ((z17.1 ++ y19), IntKind.wrap .i64 (z17.2 + (1 : Int))))))
  (some z17.1))) (by unfold B36; omega) [] (by simp) (fun i hi s hs' => by
      have h1 := hle (i + 1)
      rw [hs i hi, List.length_append] at h1
      refine ⟨by rw [hs', hs i hi], fun rec => ?_⟩
      simp only [lt_lenI hi, cond_true, geti_lt xss i hi, Option.bind_some]
      rw [chk_true (ble_mem (by rw [hs']; unfold maxBytes; omega)), nxt (by unfold B36; omega)]) (fun s hs' rec => by simp only [ge_lenI, cond_false])
    refine key.1.trans ?_
    have k2 := key.2
    rw [List.take_length] at k2
    rw [k2]
  rw [e1, Option.bind_some, decide_eq_false (by omega), cond_false, show IntKind.wrap .i64 ((0 : Int) - (0 : Int)) = 0 from rfl, Int.sub_zero, wrap64 (by omega) (by omega)]
  by_cases h : xss.flatten.length = 0
  · rw [decide_eq_false (by omega), cond_false, Option.bind_some]; exact e2
  · rw [decide_eq_true (by omega), cond_true, chk_true (by simp [bndB]), chk_true (by simp only [Int.toNat_natCast, Bool.and_eq_true, Nat.ble_eq]; exact ⟨trivial, by unfold maxBytes; omega⟩), chk_true (by simp [bndB]), Option.bind_some, Int.toNat_zero, List.take_zero]; exact e2

theorem t_w62q (xs : List RowT) (hl : xs.length ≤ 1048576) : m_w62q xs = some (maxV xs) := by
  show p_w62q FU _ = _
  unfold p_w62q l_w62q_1 maxV
  refine (lp_fold xs (fun m r => if r.2.1 > m then r.2.1 else m) (fun i s => (s, (i : Int))) (fun s => some s) (by unfold B36; omega) (fun i hi s rec hw => ?_) (fun s rec => ?_) 0)
  · simp only [lt_lenI hi, cond_true, geti_lt xs i hi, Option.bind_some, hw]
  · simp only [ge_lenI, cond_false]

theorem t_w63q (xss : List (List Int)) (hl : xss.length ≤ 1048576) (hf : xss.flatten.length ≤ 2097152) : m_w63q xss = some xss.flatten := by
  show p_w63q FU _ = _
  unfold p_w63q
  have hle : ∀ i : Nat, (xss.take i).flatten.length ≤ xss.flatten.length := fun i => by
    conv => rhs; rw [← List.take_append_drop i xss]
    rw [List.flatten_append, List.length_append]; omega
  have hs : ∀ (i : Nat) (hi : i < xss.length), (xss.take (i + 1)).flatten = (xss.take i).flatten ++ xss[i] := fun i hi => by
    rw [List.take_succ_eq_append_getElem hi, List.flatten_append]; simp
  have e1 : l_w63q_1 FU xss ((0 : Int), (0 : Int)) = some (xss.flatten.length : Int) := by
    unfold l_w63q_1
    have key := lp_foldI xss (fun (s : Int) t => s + (t.length : Int)) (fun i s => (s, (i : Int))) (fun s => some s) (fun i s => s = ((xss.take i).flatten.length : Int)) (step := fun rec10 (z9 : Int × Int) =>
 (cond (decide (z9.2 < (lenI xss)))
  ((geti xss z9.2).bind fun y11 =>
  (cond (decide ((IntKind.wrap .i64 (z9.1 + (lenI y11))) < (0 : Int)))
   none
   (rec10 (IntKind.wrap .i64 (z9.1 + (lenI y11)), IntKind.wrap .i64 (z9.2 + (1 : Int))))))
  (some z9.1))) (by unfold B36; omega) 0 (by simp) (fun i hi s hs' => by
      have h1 := hle (i + 1)
      rw [hs i hi, List.length_append] at h1
      refine ⟨by rw [hs', hs i hi, List.length_append]; omega, fun rec => ?_⟩
      simp only [lt_lenI hi, cond_true, geti_lt xss i hi, Option.bind_some]
      rw [lenI_eq, wrap64 (by omega) (by omega), decide_eq_false (by omega), cond_false, nxt (by unfold B36; omega)]) (fun s hs' rec => by simp only [ge_lenI, cond_false])
    refine key.1.trans ?_
    have k2 := key.2
    rw [List.take_length] at k2
    rw [k2]
  have e2 : l_w63q_2 FU xss (([] : List Int), (0 : Int)) = some xss.flatten := by
    unfold l_w63q_2
    have key := lp_foldI xss (fun (s : List Int) t => s ++ t) (fun i s => (s, (i : Int))) (fun s => some s) (fun i s => s = (xss.take i).flatten) (step := fun rec18 (z17 : List Int × Int) =>
 (cond (decide (z17.2 < (lenI xss)))
  ((geti xss z17.2).bind fun y19 =>
  (chk (Nat.ble ((z17.1.length + y19.length) * 1) maxBytes)
  (rec18 ((z17.1 ++ y19), IntKind.wrap .i64 (z17.2 + (1 : Int))))))
  (some z17.1))) (by unfold B36; omega) [] (by simp) (fun i hi s hs' => by
      have h1 := hle (i + 1)
      rw [hs i hi, List.length_append] at h1
      refine ⟨by rw [hs', hs i hi], fun rec => ?_⟩
      simp only [lt_lenI hi, cond_true, geti_lt xss i hi, Option.bind_some]
      rw [chk_true (ble_mem (by rw [hs']; unfold maxBytes; omega)), nxt (by unfold B36; omega)]) (fun s hs' rec => by simp only [ge_lenI, cond_false])
    refine key.1.trans ?_
    have k2 := key.2
    rw [List.take_length] at k2
    rw [k2]
  rw [e1, Option.bind_some, decide_eq_false (by omega), cond_false, show IntKind.wrap .i64 ((0 : Int) - (0 : Int)) = 0 from rfl, Int.sub_zero, wrap64 (by omega) (by omega)]
  by_cases h : xss.flatten.length = 0
  · rw [decide_eq_false (by omega), cond_false, Option.bind_some]; exact e2
  · rw [decide_eq_true (by omega), cond_true, chk_true (by simp [bndB]), chk_true (by simp only [Int.toNat_natCast, Bool.and_eq_true, Nat.ble_eq]; exact ⟨trivial, by unfold maxBytes; omega⟩), chk_true (by simp [bndB]), Option.bind_some, Int.toNat_zero, List.take_zero]; exact e2

theorem t_w64q (bs : List Int) (hb : byB bs) (hl : bs.length ≤ 1048576) : m_w64q bs = some (chkB bs) := by
  show p_w64q FU _ = _
  unfold p_w64q l_w64q_1 chkB
  refine Eq.trans (lp_foldI bs chkF (fun i s => (s, (i : Int))) (fun s => some s) (fun i s => 0 ≤ s ∧ s < 65521) (by unfold B36; omega) 1 (by omega) (fun i hi s hs => ?_) (fun s hs rec => ?_)).1 rfl
  · have hbi := hb bs[i] (List.getElem_mem hi)
    refine ⟨by unfold chkF; rw [Int.tmod_eq_emod_of_nonneg (by omega)]; omega, fun rec => ?_⟩
    simp only [lt_lenI hi, cond_true, geti_lt bs i hi, Option.bind_some]
    rw [nxt (by unfold B36; omega), wrap64 (n := bs[i]) (by omega) (by omega), wrap64 (n := s * 257) (by omega) (by omega), wrap64 (n := s * 257 + bs[i]) (by omega) (by omega), wrap64 (n := s * 257 + bs[i] + 1) (by omega) (by omega)]
    rfl
  · simp only [ge_lenI, cond_false]

theorem t_w65q (r : Int) (h0 : 0 ≤ r) (h1 : r < 65536) : m_w65q r = some [r / 256, r % 256] := by
  show p_w65q FU _ = _
  unfold p_w65q
  rw [show (2 : Int) ^ (min (8 : Int).toNat 64) = 256 from rfl, Int.fdiv_eq_ediv_of_nonneg _ (by omega), wrapu8 (by omega), wrapu8 h0, chk_true (by decide)]
  congr 2
  omega

theorem t_w66q (x y : List Int) (hx : byB x) (hy : byB y) : m_w66q (x, y) = some (x == y) := by
  show p_w66q FU _ = _
  unfold p_w66q
  rw [strOf_eq hx hy]

theorem t_w67q (x : List Int) (hb : byB x) (hl : x.length ≤ 1048576) : ∃ y, m_w67q x = some (y, (unfr x).isSome) ∧ ∀ b, unfr x = some b → y = b := by
  show ∃ y, p_w67q FU _ = some (y, _) ∧ _
  unfold p_w67q
  match x, hb, hl with
  | [], _, _ => exact ⟨[], rfl, fun b h => by cases h⟩
  | [_], _, _ => exact ⟨[], rfl, fun b h => by cases h⟩
  | [_, _], _, _ => exact ⟨[], rfl, fun b h => by cases h⟩
  | [_, _, _], _, _ => exact ⟨[], rfl, fun b h => by cases h⟩
  | a :: b :: c :: d :: t, hb, hl =>
    obtain ⟨ha, hb⟩ := byB_cons hb
    obtain ⟨hbb, hb⟩ := byB_cons hb
    obtain ⟨hc, hb⟩ := byB_cons hb
    obtain ⟨hd, hb⟩ := byB_cons hb
    have hlen : (a :: b :: c :: d :: t).length = t.length + 4 := rfl
    rw [hlen] at hl
    rw [decide_eq_false (show ¬ lenI (a :: b :: c :: d :: t) < 4 by rw [lenI_eq, hlen]; omega), cond_false]
    rw [show geti (a :: b :: c :: d :: t) 0 = some a from rfl, show geti (a :: b :: c :: d :: t) 1 = some b from rfl]
    simp only [Option.bind_some]
    rw [chk_true (by decide), show (2 : Int) ^ (min (8 : Int).toNat 64) = 256 from rfl, wrap64 (n := a) (by omega) (by omega), wrap64 (n := b) (by omega) (by omega), wrap64 (n := a * 256) (by omega) (by omega), wrap64 (n := a * 256 + b) (by omega) (by omega)]
    obtain ⟨n, hn⟩ : ∃ n : Nat, a * 256 + b = (n : Int) := ⟨(a * 256 + b).toNat, by omega⟩
    rw [hn, t_w49q, wrap64 (n := 4 + (n : Int)) (by omega) (by omega)]
    simp only [Option.bind_some]
    have hu : unfr (a :: b :: c :: d :: t) = if (1 ≤ a * 256 + b ∧ a * 256 + b ≤ 500) ∧ a * 256 + b ≤ t.length ∧ chkB (t.take (a * 256 + b).toNat) = c * 256 + d then some (t.take (a * 256 + b).toNat) else none := rfl
    rw [hu, hn, Int.toNat_natCast]
    by_cases h1 : 1 ≤ (n : Int) ∧ (n : Int) ≤ 500
    · have e : inB (n : Int) 1 500 = true := by unfold inB; rw [decide_eq_true h1.1, decide_eq_true h1.2]; rfl
      rw [e, Bool.not_true, cond_false, Option.bind_some]
      by_cases h2 : (n : Int) ≤ t.length
      · rw [decide_eq_false (show ¬ lenI (a :: b :: c :: d :: t) < 4 + (n : Int) by rw [lenI_eq, hlen]; omega), cond_false, show (4 : Int) + (n : Int) = ((4 + n : Nat) : Int) by omega, hlen, show (some (4 : Int)) = some ((4 : Nat) : Int) from rfl, show (some (2 : Int)) = some ((2 : Nat) : Int) from rfl, chk_true (bnd_nat _ _ _ (by omega) (by omega)), chk_true (bnd_nat _ _ _ (by omega) (by omega)), cutL_nat, cutL_nat]
        rw [show 4 + n - 4 = n by omega, show List.take n (List.drop 4 (a :: b :: c :: d :: t)) = t.take n from rfl, show List.take (4 - 2) (List.drop 2 (a :: b :: c :: d :: t)) = [c, d] from rfl]
        have hk := chkB_ok (byB_take hb n)
        rw [t_w64q _ (byB_take hb n) (by rw [List.length_take]; omega), Option.bind_some, t_w65q _ hk.1 (by omega), Option.bind_some, t_w66q [c, d] _ (fun v hv => by
          simp only [List.mem_cons, List.not_mem_nil, or_false] at hv
          rcases hv with rfl | rfl <;> assumption) (fun v hv => by
          simp only [List.mem_cons, List.not_mem_nil, or_false] at hv
          rcases hv with rfl | rfl <;> omega), Option.bind_some]
        by_cases h3 : chkB (t.take n) = c * 256 + d
        · rw [if_pos ⟨h1, h2, h3⟩, h3]
          refine ⟨t.take n, ?_, fun b h => by simpa using h⟩
          rw [show ([c, d] == [(c * 256 + d) / 256, (c * 256 + d) % 256]) = true by
            rw [show (c * 256 + d) / 256 = c by omega, show (c * 256 + d) % 256 = d by omega]; simp]
          rfl
        · rw [if_neg (fun h => h3 h.2.2)]
          refine ⟨t.take n, ?_, fun b h => by cases h⟩
          rw [show ([c, d] == [chkB (t.take n) / 256, chkB (t.take n) % 256]) = false by
            rw [beq_eq_false_iff_ne]
            intro he
            simp only [List.cons.injEq, and_true] at he
            omega]
          rfl
      · rw [decide_eq_true (show lenI (a :: b :: c :: d :: t) < 4 + (n : Int) by rw [lenI_eq, hlen]; omega), cond_true, if_neg (fun h => h2 h.2.1)]
        exact ⟨[], rfl, fun b h => by cases h⟩
    · have e : inB (n : Int) 1 500 = false := by
        unfold inB
        by_cases h2 : 1 ≤ (n : Int)
        · rw [decide_eq_false (show ¬ (n : Int) ≤ 500 by omega), Bool.and_false]
        · rw [decide_eq_false h2]; rfl
      rw [e, Bool.not_false, cond_true, Option.bind_some, cond_true, if_neg (fun h => h1 h.1)]
      exact ⟨[], rfl, fun b h => by cases h⟩

theorem t_w68q (xs : List Int) (hl : xs.length ≤ 2097152) : m_w68q xs = some xs := by
  show p_w68q FU _ = _
  unfold p_w68q
  refine clone_same xs _ ?_
  rw [chk_true (ble_mem (by unfold maxBytes; simp only [List.length_nil]; omega)), List.nil_append]

theorem t_w69q (xs : List Int) : m_w69q xs = some (xs.length : Int) := by
  show p_w69q FU _ = _
  unfold p_w69q
  rfl

theorem t_w70q (D : List Int) (hb : byB D) (hl : D.length ≤ 6000) : m_w70q D = some ((0 : Int), (((recsL D).2 : Int), (recsL D).1)) := by
  show p_w70q FU _ = _
  unfold p_w70q l_w70q_1
  rw [decide_eq_false (show ¬ lenI D > 6000 by rw [lenI_eq]; omega), cond_false]
  refine lp_recs D (by omega) (fun s => ((0 : Int), ((s.2 : Int), s.1))) (fun s => ((0 : Int), ((s.2 : Int), s.1))) (fun s hs hn rec => ?_)
  simp only []
  rw [chk_true (bnd_from _ _ hs), cutL_from _ _ hs]
  obtain ⟨y, e1, e2⟩ := t_w67q (D.drop s.2) (byB_drop hb _) (by rw [List.length_drop]; omega)
  rw [e1, Option.bind_some]
  cases hu : unfr (D.drop s.2) with
  | none => rfl
  | some b =>
    obtain ⟨q1, q2, _⟩ := unfr_some hu
    rw [List.length_drop] at q2
    simp only [Option.isSome_some, Bool.not_true, cond_false, e2 b hu]
    rw [t_w68q b (by omega), Option.bind_some, chk_true (ble_mem (by simp only [List.length_cons, List.length_nil]; unfold maxBytes; omega)), t_w69q, Option.bind_some, wrap64 (n := 4 + (b.length : Int)) (by omega) (by omega), wrap64 (by omega) (by omega)]
    simp only [Int.natCast_add]
    rfl

theorem t_w71q (g : LogT) (hb1 : byB g.1) (hb2 : byB g.2) (hl : g.1.length + g.2.length ≤ 6000) : m_w71q g = some ((0 : Int), (((recsL (g.1 ++ g.2)).2 : Int), (recsL (g.1 ++ g.2)).1)) := by
  show p_w71q FU _ = _
  unfold p_w71q
  rw [t_w48q g (by omega) (by omega), Option.bind_some, if_neg (by omega)]
  have hf : [g.1, g.2].flatten = g.1 ++ g.2 := by simp
  rw [show (!((0 : Int) == 0)) = false from rfl, cond_false, t_w63q [g.1, g.2] (by simp) (by rw [hf, List.length_append]; omega), Option.bind_some, hf, t_w70q _ (byB_app hb1 hb2) (by rw [List.length_append]; omega), Option.bind_some]

theorem t_w72q (bs : List Int) (h : bs.length = 8) : m_w72q bs = some ((0 : Int), numB bs) := by
  show p_w72q FU _ = _
  unfold p_w72q l_w72q_1 numB
  rw [show (lenI bs == 8) = true by rw [lenI_eq, h]; rfl, Bool.not_true, cond_false]
  refine lp_fold bs numF (fun i s => (s, (i : Int))) (fun s => some ((0 : Int), IntKind.wrap .i64 s)) (by unfold B36; omega) (fun i hi s rec hw => ?_) (fun s rec => ?_) 0
  · simp only [lt_lenI hi, cond_true, geti_lt bs i hi, Option.bind_some, hw]
    rw [chk_true (by decide)]
    rfl
  · simp only [ge_lenI, cond_false]

theorem t_w73q (d : List Int) (hb : byB d) (hl : d.length ≤ 1048576) : m_w73q d = some (match takeT d with
    | some (t, r) => (t, (r, true))
    | none => ((⟨#[]⟩ : ByteArray), (([] : List Int), false))) := by
  show p_w73q FU _ = _
  unfold p_w73q
  cases d with
  | nil => rfl
  | cons a t =>
    obtain ⟨ha, hbt⟩ := byB_cons hb
    have hlen : (a :: t).length = t.length + 1 := rfl
    rw [hlen] at hl
    rw [show (lenI (a :: t) == 0) = false by rw [lenI_eq, hlen, beq_eq_false_iff_ne]; omega, cond_false, show geti (a :: t) 0 = some a from rfl]
    simp only [Option.bind_some]
    rw [wrap64 (n := a) (by omega) (by omega), wrap64 (n := 1 + a) (by omega) (by omega)]
    simp only [takeT]
    by_cases h : (t.length : Int) < a
    · rw [decide_eq_true (show lenI (a :: t) < 1 + a by rw [lenI_eq, hlen]; omega), cond_true, if_pos h]
    · rw [decide_eq_false (show ¬ lenI (a :: t) < 1 + a by rw [lenI_eq, hlen]; omega), cond_false, if_neg h]
      obtain ⟨n, hn⟩ : ∃ n : Nat, a = (n : Int) := ⟨a.toNat, by omega⟩
      subst hn
      rw [show (1 : Int) + (n : Int) = ((1 + n : Nat) : Int) by omega, show (some (1 : Int)) = some ((1 : Nat) : Int) from rfl, hlen, chk_true (bnd_nat _ _ _ (by omega) (by omega)), chk_true (bnd_from _ _ (by omega)), cutL_nat, cutL_from _ _ (by rw [hlen]; omega), show 1 + n - 1 = n by omega, show 1 + n = n + 1 by omega, Int.toNat_natCast]
      rfl

theorem t_w74q (d : List Int) (hd : d ≠ []) (hb : byB d) (hl : d.length ≤ 1048576) : ∃ y, m_w74q d = some y ∧ y.2.2 = (takeW d).isSome ∧ ∀ w r, takeW d = some (w, r) → y = (w, (r, true)) := by
  show ∃ y, p_w74q FU _ = _ ∧ _
  unfold p_w74q
  cases d with
  | nil => exact absurd rfl hd
  | cons f t =>
    obtain ⟨hf, hbt⟩ := byB_cons hb
    have hlen : (f :: t).length = t.length + 1 := rfl
    rw [hlen] at hl
    rw [show geti (f :: t) 0 = some f from rfl]
    simp only [Option.bind_some, takeW]
    by_cases h1 : f > 1
    · rw [decide_eq_true h1, cond_true, if_pos h1]
      exact ⟨_, rfl, rfl, fun w r h => by cases h⟩
    · rw [decide_eq_false h1, cond_false, if_neg h1, show (some (1 : Int)) = some ((1 : Nat) : Int) from rfl, hlen, chk_true (bnd_from _ _ (by omega)), cutL_from _ _ (by rw [hlen]; omega), show (f :: t).drop 1 = t from rfl, t_w73q t hbt (by omega)]
      cases ht : takeT t with
      | none =>
        exact ⟨_, rfl, rfl, fun w r h => by cases h⟩
      | some p =>
        obtain ⟨k, r1⟩ := p
        simp only [Option.bind_some, cond_true]
        by_cases h2 : f = 1
        · rw [h2, beq_self_eq_true, Bool.not_true, cond_false, if_pos rfl]
          exact ⟨_, rfl, rfl, fun w r h => by
            simp only [Option.some.injEq, Prod.mk.injEq] at h
            rw [← h.1, ← h.2]⟩
        · rw [show (f == 1) = false from beq_eq_false_iff_ne.2 h2, Bool.not_false, cond_true, if_neg h2]
          obtain ⟨i, hi, _, _⟩ := takeT_len hbt ht
          rw [t_w73q r1 (by rw [hi]; exact byB_drop hbt i) (by rw [hi, List.length_drop]; omega)]
          cases ht2 : takeT r1 with
          | none => exact ⟨_, rfl, rfl, fun w r h => by cases h⟩
          | some p =>
            obtain ⟨v, r2⟩ := p
            exact ⟨_, rfl, rfl, fun w r h => by
              simp only [Option.some.injEq, Prod.mk.injEq] at h
              rw [← h.1, ← h.2]⟩

theorem t_w75q (ws : List WriteT) : m_w75q ws = some (ws.length : Int) := by
  show p_w75q FU _ = _
  unfold p_w75q
  rfl

theorem t_w76q (w : WriteT) (v : Int) : m_w76q (w, v) = some (w.1, (v, w.2)) := by
  show p_w76q FU _ = _
  unfold p_w76q
  rfl

theorem t_w77q (v : Int) (h0 : 0 ≤ v) : m_w77q v = some (num8 v) := by
  show p_w77q FU _ = _
  unfold p_w77q l_w77q_1
  rw [if_pos rfl, if_pos (by omega), chk_true (by decide)]
  refine lp_for (fun r => r = some (num8 v)) (fun i z => z = ((i : Int), (num8 v).take i ++ List.replicate ((num8 v).length - i) (0 : Int))) 8 (fun i z hi hz => ?_) (fun z hz rec => ?_) FU _ (by unfold FU; omega) (by rw [num8_len]; rfl)
  · subst hz
    refine .inr ⟨_, rfl, fun rec => ?_⟩
    have hg : i < (num8 v).length := by rw [num8_len]; exact hi
    have hlen : i < ((num8 v).take i ++ List.replicate ((num8 v).length - i) (0 : Int)).length := by rw [List.length_append, List.length_take, List.length_replicate, num8_len]; omega
    simp only []
    rw [decide_eq_true (show (i : Int) < lenI (List.replicate (8 : Int).toNat (0 : Int)) by rw [lenI_eq, List.length_replicate]; omega), cond_true, wrap64 (n := 8 * (i : Int)) (by omega) (by omega), wrap64 (n := 56 - 8 * (i : Int)) (by omega) (by omega), chk_true (decide_eq_true (by omega)), geti_lt _ i hlen, Option.bind_some, Int.toNat_natCast, List.getElem?_eq_getElem hlen, Option.bind_some, nxt (by unfold B36; omega), ← set_step (num8 v) 0 i hg, num8_get, show min (56 - 8 * (i : Int)).toNat 64 = 8 * (7 - i) by omega, Int.fdiv_eq_ediv_of_nonneg _ (Int.le_of_lt (Int.pow_pos (by omega))), wrapu8 (Int.ediv_nonneg h0 (Int.le_of_lt (Int.pow_pos (by omega))))]
  · subst hz
    rw [num8_len, List.take_of_length_le (by rw [num8_len]; omega)]
    simp only [Nat.sub_self, List.replicate_zero, List.append_nil]
    rfl

theorem t_w78q (t : ByteArray) : m_w78q t = some (if t.size > 200 then 2 else 0, pT t) := by
  show p_w78q FU _ = _
  unfold p_w78q pT
  by_cases h : t.size > 200
  · rw [if_pos h, if_pos h, decide_eq_true (by omega)]; rfl
  · rw [if_neg h, if_neg h, decide_eq_false (by omega), cond_false, chk_true (by rw [Nat.ble_eq]; simp only [List.length_cons, List.length_nil]; unfold maxBytes; omega), wrapu8 (by omega), Int.emod_eq_of_lt (by omega) (by omega)]
    rfl

theorem t_w79q (v : Int) (ws : List WriteT) (h0 : 0 ≤ v) (hl : ws.length ≤ 1048576) : m_w79q (v, ws) = some (packL v ws) := by
  show p_w79q FU _ = _
  unfold p_w79q l_w79q_1 packL
  simp only
  rw [t_w77q v h0, Option.bind_some]
  refine Eq.trans (lp_foldI ws packF (fun i s => (s, (i : Int))) (fun s => some s) (fun i s => s.length ≤ 8 + 403 * i) (by unfold B36; omega) (num8 v) (by rw [num8_len]; omega) (fun i hi s hs => ?_) (fun s hs rec => ?_)).1 rfl
  · have hp := packOne_len ws[i]
    refine ⟨by unfold packF; rw [List.length_append]; omega, fun rec => ?_⟩
    have q1 := pT_len ws[i].1
    have q2 := pT_len ws[i].2.1
    simp only [lt_lenI hi, cond_true, geti_lt ws i hi, Option.bind_some, t_w78q]
    rw [nxt (by unfold B36; omega)]
    unfold packF packOne
    cases ws[i].2.2
    · simp only [cond_false, cond_true, Bool.not_false, Option.bind_some]
      rw [chk_true (ble_mem (by simp only [List.length_cons, List.length_nil]; unfold maxBytes; omega)), chk_true (ble_mem (by simp only [List.length_append, List.length_cons, List.length_nil]; unfold maxBytes; omega)), chk_true (ble_mem (by simp only [List.length_append, List.length_cons, List.length_nil]; unfold maxBytes; omega))]
      simp only [List.append_assoc]
    · simp only [cond_false, cond_true, Bool.not_true, Option.bind_some]
      rw [chk_true (ble_mem (by simp only [List.length_cons, List.length_nil]; unfold maxBytes; omega)), chk_true (ble_mem (by simp only [List.length_append, List.length_cons, List.length_nil]; unfold maxBytes; omega))]
      simp only [List.append_assoc, List.append_nil]
  · simp only [ge_lenI, cond_false]

theorem t_w80q_1 (ws : List WriteT) (i : Nat) (hi : i ≤ ws.length) (hl : ws.length ≤ 1048576) (k : ByteArray) : ∃ j : Int, l_w80q_1 FU (i : Int) ws k 0 = some j ∧ decide (j ≥ 0) = (ws.take i).any fun u => u.1.toList == k.toList := by
  unfold l_w80q_1
  have hlen : (ws.take i).length = i := by rw [List.length_take]; omega
  have hc : cutL none (some (i : Int)) ws = ws.take i := by simp [cutL]
  rw [hc, lp_place (ws.take i) (fun u => u.1.toList == k.toList) (fun j => some (j : Int)) (some (-1)) (by unfold B36; omega) (fun j hj rec hw => by simp only [lt_lenI hj, cond_true, geti_lt _ j hj, Option.bind_some, hw]) (fun rec => by simp only [ge_lenI, cond_false])]
  cases hf : (ws.take i).findIdx? fun u => u.1.toList == k.toList with
  | none => exact ⟨-1, rfl, by
      rw [List.findIdx?_eq_none_iff] at hf
      symm
      rw [show decide ((-1 : Int) ≥ 0) = false from rfl, List.any_eq_false]
      intro u hu
      rw [hf u hu]; decide⟩
  | some j => exact ⟨(j : Int), rfl, by
      obtain ⟨hj, hp, _⟩ := List.findIdx?_eq_some_iff_getElem.1 hf
      rw [decide_eq_true (by omega)]
      exact (List.any_eq_true.2 ⟨_, List.getElem_mem hj, hp⟩).symm⟩
theorem t_w80q (ws : List WriteT) (hl : ws.length ≤ 1048576) : m_w80q ws = some (wrC ws) := by
  show p_w80q FU _ = _
  unfold p_w80q wrC
  rw [t_w75q, Option.bind_some, t_w49q, Option.bind_some]
  by_cases h1 : ws.length < 1 ∨ ws.length > 8
  · have e : inB (ws.length : Int) 1 8 = false := by
      unfold inB
      rcases h1 with h1 | h1
      · rw [decide_eq_false (show ¬ (1 : Int) ≤ (ws.length : Int) by omega)]; rfl
      · rw [decide_eq_false (show ¬ (ws.length : Int) ≤ 8 by omega), Bool.and_false]
    rw [if_pos h1, e]; rfl
  · have e : inB (ws.length : Int) 1 8 = true := by
      unfold inB
      rw [decide_eq_true (show (1 : Int) ≤ (ws.length : Int) by omega), decide_eq_true (show (ws.length : Int) ≤ 8 by omega)]; rfl
    rw [if_neg h1, e, Bool.not_true, cond_false]
    have e : l_w80q_2 FU ws 0 = match fstI (fun i y => (wrStep ws i y).map (Sum.inr (α := Unit))) 0 ws with
        | some r => some r
        | none => some (Sum.inl ()) := by
      unfold l_w80q_2
      refine (lp_fst ws (fun i y => (wrStep ws i y).map (Sum.inr (α := Unit))) (some (Sum.inl ())) (by unfold B36; omega) (fun i hi rec hw => ?_) (fun rec => ?_)).trans (by cases fstI (fun i y => (wrStep ws i y).map (Sum.inr (α := Unit))) 0 ws <;> rfl)
      · simp only [lt_lenI hi, cond_true, geti_lt ws i hi, Option.bind_some, t_w52q, t_w76q, wrStep, hw]
        cases (rowC (ws[i].1, (1, ws[i].2)) == 0)
        · rfl
        · simp only [Bool.not_true, cond_false]
          obtain ⟨j, q1, q2⟩ := t_w80q_1 ws i (by omega) hl ws[i].1
          rw [chk_true (by simp [bndB]; omega), q1, Option.bind_some, q2]
          cases ((ws.take i).any fun u => u.1.toList == ws[i].1.toList) <;> rfl
      · simp only [ge_lenI, cond_false]
    rw [e, fstI_map]
    cases fstI (wrStep ws) 0 ws with
    | some r => rfl
    | none =>
      simp only [Option.map_none, Option.bind_some, Sum.elim_inl]
      rw [t_w79q 1 ws (by omega) hl, Option.bind_some]
      by_cases h : (packL 1 ws).length > 500
      · rw [if_pos h, decide_eq_true (by rw [lenI_eq]; omega), cond_true]
      · rw [if_neg h, decide_eq_false (by rw [lenI_eq]; omega), cond_false]

theorem t_w81q (v : Int) (ws : List WriteT) (hl : ws.length ≤ 1048576) : m_w81q (v, ws) = some (packW v ws) := by
  show p_w81q FU _ = _
  unfold p_w81q packW
  simp only [t_w51q, Option.bind_some, t_w80q ws hl]
  cases h : inB v 1 1000000
  · rfl
  · unfold inB at h
    simp only [Bool.and_eq_true, decide_eq_true_eq] at h
    rw [t_w79q v ws (by omega) hl]
    simp only [Bool.not_true, cond_false, Option.bind_some]
    cases (wrC ws == 0) <;> rfl

theorem t_w82q (x : List Int) (hb : byB x) (hl : x.length ≤ 1048576) : m_w82q x = some (unpR x) := by
  show p_w82q FU _ = _
  unfold p_w82q unpR
  by_cases h8 : x.length < 8
  · rw [if_pos h8, decide_eq_true (show lenI x < 8 by rw [lenI_eq]; omega), cond_true]
  · rw [if_neg h8, decide_eq_false (show ¬ lenI x < 8 by rw [lenI_eq]; omega), cond_false, show (some (8 : Int)) = some ((8 : Nat) : Int) from rfl, chk_true (by simp [bndB]; omega), show cutL none (some ((8 : Nat) : Int)) x = x.take 8 by simp [cutL], t_w72q _ (by rw [List.length_take]; omega), Option.bind_some, chk_true (bnd_from _ _ (by omega)), cutL_from _ _ (by omega)]
    have e : l_w82q_1 FU (([] : List WriteT), x.drop 8) = (wrsL (x.drop 8)).elim (some (Sum.inr ((0 : Int), ([], false)))) (fun ws => some (Sum.inl ws)) := by
      unfold l_w82q_1
      refine lp_wrs (x.drop 8) (byB_drop hb 8) (by rw [List.length_drop]; omega) (fun s => s) (fun o => o.elim (some (Sum.inr ((0 : Int), (([] : List WriteT), false)))) (fun ws => some (Sum.inl ws))) (fun s hs rec => ?_)
      obtain ⟨k, hk1, hk2, hk3⟩ := hs
      rw [List.length_drop] at hk2
      by_cases hd : s.2 = []
      · rw [if_pos hd, hd, decide_eq_false (show ¬ lenI ([] : List Int) > 0 by rw [lenI_eq]; simp), cond_false]
        rfl
      · have hpos : 0 < s.2.length := List.length_pos_iff.2 hd
        have hls : s.2.length ≤ x.length := by rw [hk1, List.length_drop, List.length_drop]; omega
        obtain ⟨y, q1, q2, q3⟩ := t_w74q s.2 hd (by rw [hk1]; exact byB_drop (byB_drop hb 8) k) (by omega)
        rw [if_neg hd, decide_eq_true (show lenI s.2 > 0 by rw [lenI_eq]; omega), cond_true, q1, Option.bind_some, q2]
        cases ht : takeW s.2 with
        | none => rfl
        | some p =>
          obtain ⟨w, r⟩ := p
          rw [q3 w r ht]
          simp only [Option.isSome_some, Bool.not_true, cond_false]
          rw [chk_true (ble_mem (by simp only [List.length_cons, List.length_nil]; unfold maxBytes; omega))]
    have e' : l_w82q_1 FU (([] : List (ByteArray × (ByteArray × Bool))), x.drop 8) = _ := e
    rw [e']
    cases hw : wrsL (x.drop 8) with
    | none => rfl
    | some ws =>
      simp only [Option.elim_some, Option.bind_some, Sum.elim_inl]
      have hlw : ws.length ≤ 1048576 := by
        have := wrsL_len (byB_drop hb 8) hw
        rw [List.length_drop] at this; omega
      rw [t_w81q _ ws hlw, Option.bind_some]
      cases hz : ((packW (numB (x.take 8)) ws).1 == 0) with
      | false => rfl
      | true =>
        have := unp_same hb h8 hw (beq_iff_eq.1 hz)
        rw [cond_true, this, t_w66q x x hb hb, Option.bind_some, beq_self_eq_true]

theorem t_w83q (v : Int) (ws : List WriteT) (hl : ws.length ≤ 1048576) : m_w83q (v, ws) = some (rowsW v ws) := by
  show p_w83q FU _ = _
  unfold p_w83q l_w83q_1
  have key := lp_foldI ws (fun (s : List RowT) w => s ++ [(w.1, (v, w.2))]) (fun i s => (s, (i : Int))) (fun s => some s) (fun i s => s = rowsW v (ws.take i)) (by unfold B36; omega) [] rfl (step := fun (rec5 : List RowT × Int → Option (List RowT)) (z4 : List RowT × Int) =>
 (cond (decide (z4.2 < (lenI ws)))
  ((geti ws z4.2).bind fun y6 =>
  ((m_w76q (y6, v)).bind fun r7 =>
  (chk (Nat.ble ((z4.1.length + [r7].length) * 48) maxBytes)
  (rec5 ((z4.1 ++ [r7]), IntKind.wrap .i64 (z4.2 + (1 : Int)))))))
  (some z4.1))) (fun i hi s hs => by
    refine ⟨by rw [hs, List.take_succ_eq_append_getElem hi]; unfold rowsW; rw [List.map_append]; rfl, fun rec => ?_⟩
    simp only [lt_lenI hi, cond_true, geti_lt ws i hi, Option.bind_some, t_w76q]
    rw [chk_true (ble_mem (by rw [hs]; simp only [rowsW, List.length_map, List.length_take, List.length_cons, List.length_nil]; unfold maxBytes; omega)), nxt (by unfold B36; omega)]) (fun s hs rec => by simp only [ge_lenI, cond_false])
  refine key.1.trans ?_
  rw [key.2, List.take_length]

theorem t_w85q (g : LogT) (nx : Int) (hb1 : byB g.1) (hb2 : byB g.2) (hl : g.1.length + g.2.length ≤ 6000) : m_w85q (g, nx) = some (logR g nx) := by
  show p_w85q FU _ = _
  unfold p_w85q logR
  have hb := byB_app hb1 hb2
  have hlD : (g.1 ++ g.2).length ≤ 6000 := by rw [List.length_append]; omega
  simp only
  rw [t_w71q g hb1 hb2 hl, Option.bind_some, t_w69q, Option.bind_some, t_w69q, Option.bind_some, wrap64 (by omega) (by omega)]
  obtain ⟨q1, q2, q3⟩ := recsL_ok hb
  rw [List.length_append] at q1
  by_cases hu : (recsL (g.1 ++ g.2)).2 < g.1.length + g.2.length
  · rw [if_pos hu, show (((recsL (g.1 ++ g.2)).2 : Int) == (g.1.length : Int) + (g.2.length : Int)) = false by rw [beq_eq_false_iff_ne]; omega, Bool.not_false, cond_true]
  · rw [if_neg hu, show (((recsL (g.1 ++ g.2)).2 : Int) == (g.1.length : Int) + (g.2.length : Int)) = true by rw [beq_iff_eq]; omega, Bool.not_true, cond_false]
    have key : l_w85q_1 FU (recsL (g.1 ++ g.2)).1 nx (([] : List RowT), ((0 : Int), (0 : Int))) = ((recsL (g.1 ++ g.2)).1.foldlM (logF nx) ([], 0)).elim (some (Sum.inr (([] : List RowT), false))) (fun s => some (Sum.inl s.1)) ∧ ∀ s, (recsL (g.1 ++ g.2)).1.foldlM (logF nx) ([], 0) = some s → logI (recsL (g.1 ++ g.2)).1.length s := by
      unfold l_w85q_1
      refine lp_opt (recsL (g.1 ++ g.2)).1 (logF nx) (fun i s => (s.1, (s.2, (i : Int)))) (fun s => some (Sum.inl s.1)) (some (Sum.inr ([], false))) logI (by unfold B36; omega) ([], 0) ⟨by simp, by simp, by simp⟩ (fun i hi s hs => ⟨fun rec => ?_, fun s' h => (logI_next hs h).1⟩) (fun s hs rec => ?_)
      · obtain ⟨w1, w2⟩ := q3 _ (List.getElem_mem hi)
        simp only [lt_lenI hi, cond_true, geti_lt _ i hi, Option.bind_some, Int.toNat_natCast, List.getElem?_eq_getElem hi]
        rw [t_w82q _ w2 (by omega), Option.bind_some, nxt (by unfold B36; omega)]
        unfold logF
        cases h1 : (unpR (recsL (g.1 ++ g.2)).1[i]).2.2 with
        | false => rfl
        | true =>
          have hok := (wrC_zero (unpR_ok h1).2).1
          simp only [Bool.not_true, cond_false, Bool.false_or]
          cases h2 : decide ((unpR (recsL (g.1 ++ g.2)).1[i]).1 ≥ nx) with
          | true => rfl
          | false =>
            cases h3 : decide ((unpR (recsL (g.1 ++ g.2)).1[i]).1 ≤ s.2) with
            | true => rfl
            | false =>
              have h5 := hs.1
              simp only [cond_false, Option.bind_some, Bool.or_false]
              rw [t_w83q _ _ (by omega), Option.bind_some, chk_true (ble_mem (by simp only [rowsW, List.length_map]; unfold maxBytes; omega)), Option.elim_some]
      · simp only [ge_lenI, cond_false]
    have k1 : l_w85q_1 FU (recsL (g.1 ++ g.2)).1 nx (([] : List (ByteArray × (Int × (ByteArray × Bool)))), ((0 : Int), (0 : Int))) = _ := key.1
    rw [k1]
    cases hf : (recsL (g.1 ++ g.2)).1.foldlM (logF nx) ([], 0) with
    | none => rfl
    | some s =>
      have hI := key.2 s hf
      simp only [Option.elim_some, Option.bind_some, Sum.elim_inl]
      have hsort : m_w84q (s.1, true) = some (s.1.foldl putL []) := by
        show p_w84q FU _ = _
        unfold p_w84q
        exact sort_put (rs := s.1) (by have := hI.1; omega) hI.2.1
      rw [hsort, Option.bind_some]

theorem t_w86q (xs ys : List RowT) (hl : xs.length ≤ 1048576) : m_w86q (xs, ys) = some (sameR xs ys) := by
  show p_w86q FU _ = _
  unfold p_w86q sameR
  by_cases he : xs.length = ys.length
  · have hz : (xs.zip ys).length = xs.length := by rw [List.length_zip]; omega
    simp only
    rw [show (lenI xs == lenI ys) = true by rw [lenI_eq, lenI_eq, he]; simp, Bool.not_true, cond_false, Bool.true_and]
    unfold l_w86q_1
    refine (lp_hit (xs.zip ys) (fun p => !(rowE p.1 p.2)) (some false) (some true) (by unfold B36; omega) (fun i hi rec hw => ?_) (fun rec => ?_)).trans (by cases (xs.zip ys).any fun p => !(rowE p.1 p.2) <;> rfl)
    · have hx : i < xs.length := by omega
      have hy : i < ys.length := by omega
      simp only [lt_lenI hx, cond_true, geti_lt xs i hx, geti_lt ys i hy, Option.bind_some, hw, List.getElem_zip]
      rfl
    · rw [hz]; simp only [ge_lenI, cond_false]
  · simp only
    rw [show (lenI xs == lenI ys) = false by rw [lenI_eq, lenI_eq, beq_eq_false_iff_ne]; omega]
    rfl

theorem t_w87q (e : EngT) (hb1 : byB e.1.1) (hb2 : byB e.1.2) (h1 : e.1.1.length ≤ 1048576) (h2 : e.1.2.length ≤ 1048576) : m_w87q e = some (engC e) := by
  show p_w87q FU _ = _
  unfold p_w87q engC
  rw [t_w48q e.1 h1 h2, Option.bind_some, t_w59q, Option.bind_some, t_w60q, Option.bind_some]
  by_cases c1 : e.1.1.length + e.1.2.length > 6000
  · rw [if_pos c1, if_pos c1]; rfl
  rw [if_neg c1, if_neg c1, if_pos rfl]
  by_cases c2 : tabC e.2.1 = 0
  case neg => rw [if_pos c2, show (tabC e.2.1 == 0) = false from beq_eq_false_iff_ne.2 c2]; rfl
  rw [if_neg (fun h => h c2), c2, show (!((0 : Int) == 0)) = false from rfl, cond_false]
  obtain ⟨hl0, hrow⟩ := tabC_zero c2
  by_cases c3 : e.2.2.1.length > 6
  · rw [if_pos c3, decide_eq_true (by rw [lenI_eq]; omega), cond_true]
  rw [if_neg c3, decide_eq_false (by rw [lenI_eq]; omega), cond_false]
  have e1 : l_w87q_1 FU e.2.2.1 0 = match fstI (fun i t => (cond (!(tabC t == 0)) (some (tabC t)) none).map (Sum.inr (α := Unit))) 0 e.2.2.1 with
      | some r => some r
      | none => some (Sum.inl ()) := by
    unfold l_w87q_1
    refine (lp_fst e.2.2.1 (fun i t => (cond (!(tabC t == 0)) (some (tabC t)) none).map (Sum.inr (α := Unit))) (some (Sum.inl ())) (by unfold B36; omega) (fun i hi rec hw => ?_) (fun rec => ?_)).trans (by cases fstI (fun i t => (cond (!(tabC t == 0)) (some (tabC t)) none).map (Sum.inr (α := Unit))) 0 e.2.2.1 <;> rfl)
    · simp only [lt_lenI hi, cond_true, geti_lt _ i hi, Option.bind_some, t_w59q, hw]
      cases (tabC e.2.2.1[i] == 0) <;> rfl
    · simp only [ge_lenI, cond_false]
  rw [e1, fstI_map (fun _ t => cond (!(tabC t == 0)) (some (tabC t)) none) (Sum.inr (α := Unit))]
  cases hf : fstI (fun _ t => cond (!(tabC t == 0)) (some (tabC t)) none) 0 e.2.2.1 with
  | some r => rfl
  | none =>
    have htab : ∀ t ∈ e.2.2.1, t.length ≤ 200 := tabs_len hf
    have hfl : e.2.2.1.flatten.length ≤ 200 * e.2.2.1.length := flat_len htab
    simp only [Option.map_none, Option.bind_some, Sum.elim_inl, Option.getD_none]
    rw [t_w61q _ (by omega) (by omega), Option.bind_some, t_w62q _ (by omega), Option.bind_some, t_w51q, Option.bind_some]
    cases hin : inB e.2.2.2 1 1000000 with
    | false => rfl
    | true =>
      simp only [Bool.not_true, cond_false, Bool.false_or]
      rw [t_w62q _ (by omega), Option.bind_some, Option.bind_some]
      have hpos : 0 < e.2.2.2 := by
        unfold inB at hin
        simp only [Bool.and_eq_true, decide_eq_true_eq] at hin
        omega
      have hmax : decide ((if maxV e.2.1 > maxV e.2.2.1.flatten then maxV e.2.1 else maxV e.2.2.1.flatten) ≥ e.2.2.2) = (!(belowB e.2.1 e.2.2.2) || (e.2.2.1.any fun t => !(belowB t e.2.2.2))) := by
        have m1 := maxV_lt e.2.1 e.2.2.2
        have m2 := maxV_lt e.2.2.1.flatten e.2.2.2
        rw [below_flat] at m2
        generalize maxV e.2.1 = a at *
        generalize maxV e.2.2.1.flatten = b at *
        cases hbo : belowB e.2.1 e.2.2.2 <;> cases hany : (e.2.2.1.any fun t => !(belowB t e.2.2.2)) <;> simp only [hbo, hany, Bool.not_true, Bool.not_false, Bool.or_true, Bool.or_false, Bool.false_eq_true, and_false, and_true, iff_false] at m1 m2 ⊢ <;> (first | (apply decide_eq_true; split <;> omega) | (apply decide_eq_false; split <;> omega))
      rw [hmax]
      cases (!(belowB e.2.1 e.2.2.2) || (e.2.2.1.any fun t => !(belowB t e.2.2.2))) with
      | true => rfl
      | false =>
        simp only [cond_false]
        rw [t_w85q e.1 e.2.2.2 hb1 hb2 (by omega), Option.bind_some]
        have hlr := logR_len e.1 e.2.2.2 (by omega)
        cases hlo : (logR e.1 e.2.2.2).2 with
        | false => rfl
        | true =>
          simp only [Bool.not_true, cond_false, Bool.false_or]
          rw [t_w86q _ _ (by omega), Option.bind_some]
          cases hsm : sameR (logR e.1 e.2.2.2).1 e.2.1 with
          | false => rfl
          | true =>
            simp only [Bool.not_true, cond_false]
            have e2 : ∃ j : Int, l_w87q_2 FU e.2.1 (maxV e.2.2.1.flatten) 0 = some j ∧ decide (j ≥ 0) = e.2.1.any fun y => decide (y.2.1 ≤ maxV e.2.2.1.flatten) := by
              unfold l_w87q_2
              rw [lp_place e.2.1 (fun y => decide (y.2.1 ≤ maxV e.2.2.1.flatten)) (fun j => some (j : Int)) (some (-1)) (by unfold B36; omega) (fun j hj rec hw => by simp only [lt_lenI hj, cond_true, geti_lt _ j hj, Option.bind_some, hw]) (fun rec => by simp only [ge_lenI, cond_false])]
              cases hq : e.2.1.findIdx? fun y => decide (y.2.1 ≤ maxV e.2.2.1.flatten) with
              | none => exact ⟨-1, rfl, by
                  rw [List.findIdx?_eq_none_iff] at hq
                  symm
                  rw [show decide ((-1 : Int) ≥ 0) = false from rfl, List.any_eq_false]
                  intro u hu
                  rw [hq u hu]; decide⟩
              | some j => exact ⟨(j : Int), rfl, by
                  obtain ⟨hj, hp, _⟩ := List.findIdx?_eq_some_iff_getElem.1 hq
                  rw [decide_eq_true (by omega)]
                  exact (List.any_eq_true.2 ⟨_, List.getElem_mem hj, hp⟩).symm⟩
            obtain ⟨j, q1, q2⟩ := e2
            rw [q1, Option.bind_some, q2, Option.bind_some, old_same hrow]
            cases e.2.1.any fun y => e.2.2.1.any fun t => !(belowB t y.2.1) <;> rfl

theorem t_w88q (g : LogT) (k : Int) (h : g.1.length + g.2.length ≤ 6000) : m_w88q (g, k) = some (cond (!(inB k 0 (lenI g.2))) (3, ([], [])) (0, (crashD g k, []))) := by
  show p_w88q FU _ = _
  unfold p_w88q
  simp only
  rw [t_w48q g (by omega) (by omega), Option.bind_some, if_neg (by omega), show (!((0 : Int) == 0)) = false from rfl, cond_false, t_w69q, Option.bind_some, t_w49q, Option.bind_some, ← lenI_eq]
  cases hi : inB k 0 (lenI g.2) with
  | false => rfl
  | true =>
    unfold inB at hi
    simp only [Bool.and_eq_true, decide_eq_true_eq] at hi
    rw [lenI_eq] at hi
    simp only [Bool.not_true, cond_false]
    have e1 : cutL none (some k) g.2 = g.2.take k.toNat := by simp [cutL]
    have hf : [g.1, g.2.take k.toNat].flatten = crashD g k := by simp [crashD]
    rw [e1, chk_true (by simp [bndB]; omega), t_w63q [g.1, g.2.take k.toNat] (by simp) (by rw [hf]; unfold crashD; rw [List.length_append, List.length_take]; omega), Option.bind_some, hf]

theorem t_w89q (g : LogT) (h1 : g.1.length ≤ 1048576) (h2 : g.2.length ≤ 1048576) : m_w89q g = some g := by
  show p_w89q FU _ = _
  unfold p_w89q
  rw [t_w68q _ (by omega), Option.bind_some, t_w68q _ (by omega), Option.bind_some]

theorem t_w90q (xs : List RowT) (hl : xs.length ≤ 2097152) : m_w90q xs = some xs := by
  show p_w90q FU _ = _
  unfold p_w90q
  refine clone_same xs _ ?_
  rw [chk_true (ble_mem (by unfold maxBytes; simp only [List.length_nil]; omega)), List.nil_append]

theorem t_w91q (xs : List (List RowT)) (h4 : xs.length ≤ 1048576) (h5 : ∀ t ∈ xs, t.length ≤ 1048576) : m_w91q xs = some xs := by
  show p_w91q FU _ = _
  unfold p_w91q l_w91q_1
  have key := lp_foldI xs (fun (s : List (List RowT)) t => s ++ [t]) (fun i s => (s, (i : Int))) (fun s => some s) (fun i s => s = xs.take i) (by unfold B36; omega) [] rfl (step := fun (rec5 : List (List RowT) × Int → Option (List (List RowT))) (z4 : List (List RowT) × Int) =>
 (cond (decide (z4.2 < (lenI xs)))
  ((geti xs z4.2).bind fun y6 =>
  ((m_w90q y6).bind fun r7 =>
  (chk (Nat.ble ((z4.1.length + [r7].length) * 24) maxBytes)
  (rec5 ((z4.1 ++ [r7]), IntKind.wrap .i64 (z4.2 + (1 : Int)))))))
  (some z4.1))) (fun i hi s hs => by
    refine ⟨by rw [hs, List.take_succ_eq_append_getElem hi], fun rec => ?_⟩
    have := h5 _ (List.getElem_mem hi)
    simp only [lt_lenI hi, cond_true, geti_lt _ i hi, Option.bind_some]
    rw [t_w90q _ (by omega), Option.bind_some, chk_true (ble_mem (by rw [hs, List.length_take]; simp only [List.length_cons, List.length_nil]; unfold maxBytes; omega)), nxt (by unfold B36; omega)]) (fun s hs rec => by simp only [ge_lenI, cond_false])
  refine key.1.trans ?_
  rw [key.2, List.take_length]

theorem t_w92q (e : EngT) (h1 : e.1.1.length ≤ 1048576) (h2 : e.1.2.length ≤ 1048576) (h3 : e.2.1.length ≤ 1048576) (h4 : e.2.2.1.length ≤ 1048576) (h5 : ∀ t ∈ e.2.2.1, t.length ≤ 1048576) : m_w92q e = some e := by
  show p_w92q FU _ = _
  unfold p_w92q
  rw [t_w89q e.1 h1 h2, Option.bind_some, t_w90q _ (by omega), Option.bind_some, t_w91q _ h4 h5, Option.bind_some]

theorem t_w93q (d : List Int) (hb : byB d) (hl : d.length ≤ 6000) : m_w93q (d, []) = some ((0 : Int), (trimD d, [])) := by
  show p_w93q FU _ = _
  unfold p_w93q trimD
  obtain ⟨q1, _, _⟩ := recsL_ok hb
  have e1 : cutL none (some ((recsL d).2 : Int)) d = d.take (recsL d).2 := by simp [cutL]
  rw [t_w48q (d, []) (by simp only; omega) (by simp), Option.bind_some, if_neg (by simp only [List.length_nil]; omega), show (!((0 : Int) == 0)) = false from rfl, cond_false]
  simp only
  rw [t_w70q d hb hl, Option.bind_some]
  simp only
  rw [e1, chk_true (by simp [bndB]; omega), t_w68q _ (by rw [List.length_take]; omega), Option.bind_some]

theorem t_w94q (e : EngT) (k : Int) (hc : engC e = 0) (hb1 : byB e.1.1) (hb2 : byB e.1.2) (h1 : e.1.1.length ≤ 1048576) (h2 : e.1.2.length ≤ 1048576) : m_w94q (e, k) = some (crashR e k) := by
  show p_w94q FU _ = _
  unfold p_w94q crashR
  obtain ⟨q1, q2, q3, q4⟩ := engC_zero hc
  have hl := (tabC_zero q2).1
  simp only [hc, beq_self_eq_true, Bool.not_true, cond_false]
  rw [t_w88q e.1 k q1, Option.bind_some]
  cases hi : inB k 0 (lenI e.1.2) with
  | false => rfl
  | true =>
    have hbD : byB (crashD e.1 k) := byB_app hb1 (byB_take hb2 _)
    have hlD : (crashD e.1 k).length ≤ 6000 := by unfold crashD; rw [List.length_append, List.length_take]; omega
    have hbT : byB (trimD (crashD e.1 k)) := byB_take hbD _
    have hlT : (trimD (crashD e.1 k)).length ≤ 6000 := by unfold trimD; rw [List.length_take]; omega
    have hrows := logR_rows (trimD (crashD e.1 k), []) e.2.2.2 (by simpa using hbT)
    have hfl : e.2.2.1.flatten.length ≤ 200 * e.2.2.1.length := flat_len (fun t ht => (tabC_zero (q4 t ht)).1)
    simp only [Bool.not_true, cond_false, show (!((0 : Int) == 0)) = false from rfl]
    rw [t_w92q e h1 h2 (by omega) (by omega) (fun t ht => by have := (tabC_zero (q4 t ht)).1; omega), Option.bind_some, t_w93q _ hbD hlD, Option.bind_some]
    simp only
    rw [t_w85q (trimD (crashD e.1 k), []) e.2.2.2 hbT (fun b hb => by cases hb) (by simpa using hlT), Option.bind_some]
    generalize logR (trimD (crashD e.1 k), []) e.2.2.2 = R at hrows ⊢
    simp only [List.length_nil, Nat.add_zero] at hrows
    rw [t_w62q _ (by omega), Option.bind_some, t_w61q _ (by omega) (by omega), Option.bind_some, t_w62q _ (by omega), Option.bind_some, maxV_app]
    have hb := maxV_bnd (xs := R.1 ++ e.2.2.1.flatten) (fun r hr => by
      rcases List.mem_append.1 hr with hr | hr
      · exact hrows.1 r hr
      · obtain ⟨t, ht, hr⟩ := List.mem_flatten.1 hr
        exact (tabC_zero (q4 t ht)).2 r hr)
    rw [wrap64 (by omega) (by omega)]

theorem t_w95q (e : EngT) (k : Int) (hb1 : byB e.1.1) (hb2 : byB e.1.2) (h1 : e.1.1.length ≤ 1048576) (h2 : e.1.2.length ≤ 1048576) : m_w95q (e, k) = some (crashR e k) := by
  show p_w95q FU _ = _
  unfold p_w95q
  simp only
  rw [t_w87q e hb1 hb2 h1 h2, Option.bind_some]
  cases hc : (engC e == 0) with
  | false => unfold crashR; rw [hc]; rfl
  | true =>
    rw [Bool.not_true, cond_false, t_w94q e k (beq_iff_eq.1 hc) hb1 hb2 h1 h2, Option.bind_some]

theorem t_w96q (g : LogT) (k : Int) (hk : 0 ≤ k) (hk2 : k ≤ g.2.length) (h : g.1.length + g.2.length ≤ 6000) : m_w96q (g, k) = some (crashD g k, []) := by
  show p_w96q FU _ = _
  unfold p_w96q crashD
  have e1 : cutL none (some k) g.2 = g.2.take k.toNat := by simp [cutL]
  simp only
  rw [e1, chk_true (by simp [bndB]; omega), chk_true (ble_mem (by unfold maxBytes; omega)), chk_true (ble_mem (by rw [List.length_take]; unfold maxBytes; omega))]

theorem t_w97q (g : LogT) (k : Int) (h : g.1.length + g.2.length ≤ 6000) : m_w97q (g, k) = some (cond (!(inB k 0 (lenI g.2))) (3, ([], [])) (0, (crashD g k, []))) := by
  show p_w97q FU _ = _
  unfold p_w97q
  simp only
  rw [t_w4q g (by omega) (by omega), Option.bind_some, if_neg (by omega), show (!((0 : Int) == 0)) = false from rfl, cond_false, t_w1q, Option.bind_some]
  cases hi : inB k 0 (lenI g.2) with
  | false => rfl
  | true =>
    unfold inB at hi
    simp only [Bool.and_eq_true, decide_eq_true_eq] at hi
    rw [lenI_eq] at hi
    simp only [Bool.not_true, cond_false]
    rw [t_w96q g k hi.1 hi.2 h, Option.bind_some]

theorem t_w98q (d : List Int) (hb : byB d) (hl : d.length ≤ 6000) : m_w98q (d, []) = some (trimD d, []) := by
  show p_w98q FU _ = _
  unfold p_w98q trimD
  obtain ⟨q1, _, _⟩ := recsL_ok hb
  have e1 : cutL none (some ((recsL d).2 : Int)) d = d.take (recsL d).2 := by simp [cutL]
  simp only
  rw [t_w11q d hb (by omega), Option.bind_some, e1, chk_true (by simp [bndB]; omega), chk_true (ble_mem (by rw [List.length_take]; simp only [List.length_nil]; unfold maxBytes; omega)), List.nil_append]

theorem t_w99q (e : EngT) (h : e.2.2.1.length ≤ 1048576) : m_w99q e = some (e.2.1 :: e.2.2.1) := by
  show p_w99q FU _ = _
  unfold p_w99q
  rw [chk_true (ble_mem (by simp only [List.length_cons, List.length_nil]; unfold maxBytes; omega))]
  rfl

theorem t_w100q (a b : Int) : m_w100q (a, b) = some (if a > b then a else b) := by
  show p_w100q FU _ = _
  unfold p_w100q
  by_cases h : a > b
  · rw [if_pos h, decide_eq_true h]; rfl
  · rw [if_neg h, decide_eq_false h]; rfl

theorem t_w101q_1 (tt : List (List RowT)) (i : Nat) (hi : i < tt.length) (hl : tt[i].length ≤ 1048576) (hr : ∀ r ∈ tt[i], rowC r = 0) (g : LogT) (own : List RowT) (tabs : List (List RowT)) (m : Int) : l_w101q_1 FU tt (i : Int) ((0 : Int), (g, (own, (tabs, 1 + m)))) = some (g, (own, (tabs, 1 + tt[i].foldl maxF m))) := by
  unfold l_w101q_1
  refine Eq.trans (lp_fold tt[i] (fun (s : Int) r => if s > r.2.1 + 1 then s else r.2.1 + 1) (fun j s => ((j : Int), (g, (own, (tabs, s))))) (fun s => some (g, (own, (tabs, s)))) (by unfold B36; omega) (fun j hj s rec hw => ?_) (fun s rec => ?_) (1 + m)) (by rw [nextF _ hr])
  · have hv := (rowC_zero (hr _ (List.getElem_mem hj))).2.2.2
    simp only [geti_lt tt i hi, Option.bind_some, Int.toNat_natCast, List.getElem?_eq_getElem hi, lt_lenI hj, cond_true, geti_lt _ j hj, hw, t_w100q]
    rw [wrap64 (n := tt[i][j].2.1 + 1) (by omega) (by omega)]
  · simp only [geti_lt tt i hi, Option.bind_some, Int.toNat_natCast, List.getElem?_eq_getElem hi, ge_lenI, cond_false]
theorem t_w101q (e : EngT) (k : Int) (hb1 : byB e.1.1) (hb2 : byB e.1.2) (h1 : e.1.1.length ≤ 1048576) (h2 : e.1.2.length ≤ 1048576) : m_w101q (e, k) = some (crashR e k) := by
  show p_w101q FU _ = _
  unfold p_w101q crashR
  simp only
  rw [t_w24q e hb1 hb2 h1 h2, Option.bind_some]
  cases hc : (engC e == 0) with
  | false => rfl
  | true =>
    obtain ⟨q1, q2, q3, q4⟩ := engC_zero (beq_iff_eq.1 hc)
    have hl := (tabC_zero q2).1
    simp only [Bool.not_true, cond_false]
    rw [t_w97q e.1 k q1, Option.bind_some]
    cases hi : inB k 0 (lenI e.1.2) with
    | false => rfl
    | true =>
      have hbD : byB (crashD e.1 k) := byB_app hb1 (byB_take hb2 _)
      have hlD : (crashD e.1 k).length ≤ 6000 := by unfold crashD; rw [List.length_append, List.length_take]; omega
      have hbT : byB (trimD (crashD e.1 k)) := byB_take hbD _
      have hlT : (trimD (crashD e.1 k)).length ≤ 6000 := by unfold trimD; rw [List.length_take]; omega
      have hrows := logR_rows (trimD (crashD e.1 k), []) e.2.2.2 (by simpa using hbT)
      simp only [Bool.not_true, cond_false, show (!((0 : Int) == 0)) = false from rfl]
      rw [t_w26q e h1 h2 (by omega) (by omega) (fun t ht => by have := (tabC_zero (q4 t ht)).1; omega), Option.bind_some, t_w98q _ hbD hlD, Option.bind_some, t_w22q (trimD (crashD e.1 k), []) e.2.2.2 hbT (fun b hb => by cases hb) (by simpa using hlT), Option.bind_some]
      generalize logR (trimD (crashD e.1 k), []) e.2.2.2 = R at hrows ⊢
      rw [t_w99q _ (by simp only; omega), Option.bind_some]
      simp only [List.length_nil, Nat.add_zero] at hrows
      unfold l_w101q_2
      have hall : ∀ t ∈ R.1 :: e.2.2.1, t.length ≤ 1048576 ∧ ∀ r ∈ t, rowC r = 0 := fun t ht => by
        rcases List.mem_cons.1 ht with rfl | ht
        · exact ⟨by omega, hrows.1⟩
        · have := tabC_zero (q4 t ht)
          exact ⟨by omega, this.2⟩
      refine Eq.trans (lp_fold (R.1 :: e.2.2.1) (fun (m : Int) t => t.foldl maxF m) (fun i m => ((i : Int), ((trimD (crashD e.1 k), ([] : List Int)), (R.1, (e.2.2.1, 1 + m))))) (fun m => some ((0 : Int), ((0 : Int), ((trimD (crashD e.1 k), ([] : List Int)), (R.1, (e.2.2.1, 1 + m)))))) (by unfold B36; rw [List.length_cons]; omega) (fun i hi m rec hw => ?_) (fun m rec => ?_) 0) ?_
      · have := hall _ (List.getElem_mem hi)
        simp only [lt_lenI hi, cond_true]
        rw [t_w101q_1 _ i hi this.1 this.2, Option.bind_some, hw]
      · simp only [ge_lenI, cond_false]
      · have hfl : ∀ (tt : List (List RowT)) (m : Int), tt.foldl (fun (m : Int) t => t.foldl maxF m) m = tt.flatten.foldl maxF m := by
          intro tt
          induction tt with
          | nil => intro m; rfl
          | cons t tt ih => intro m; rw [List.foldl_cons, ih, List.flatten_cons, List.foldl_append]
        rw [hfl, List.flatten_cons]
        rfl

theorem t_w102q (x : List Int) (hb : byB x) (hl : x.length ≤ 1048576) : m_w102q x = some (cond (!(unpR x).2.2) ((5 : Int), []) (0, rowsW (unpR x).1 (unpR x).2.1)) := by
  have h1 := unpR_len hb
  show p_w102q FU _ = _
  unfold p_w102q
  rw [t_w82q x hb hl, Option.bind_some]
  cases (unpR x).2.2 with
  | false => rfl
  | true =>
    rw [Bool.not_true, cond_false, cond_false, t_w83q _ _ (by omega), Option.bind_some]

theorem crash_find (M ws : List RowT) (j : Nat) (hj : j < ws.length) (hM : M.length ≤ 1048576) : l_w103q_1 FU M ws (j : Int) (false, (0 : Int)) = some (M.any fun y => rowE y ws[j]) := by
  unfold l_w103q_1
  refine lp_for (fun o => o = some (M.any fun y => rowE y ws[j])) (fun i z => z = ((M.take i).any (fun y => rowE y ws[j]), (i : Int))) M.length (fun i z hi hz => ?_) (fun z hz rec => ?_) FU _ (by unfold FU; omega) rfl
  · subst hz
    have hn : IntKind.wrap .i64 ((i : Int) + 1) = ((i + 1 : Nat) : Int) := nxt (by unfold B36; omega)
    refine .inr ⟨_, rfl, fun rec => ?_⟩
    rw [List.take_succ_eq_append_getElem hi, List.any_append]
    cases hb : (M.take i).any (fun y => rowE y ws[j]) with
    | true => simp only [lt_lenI hi, cond_true, hn, Bool.true_or]
    | false =>
      simp only [lt_lenI hi, cond_true, cond_false, geti_lt M i hi, geti_lt ws j hj, Int.toNat_natCast, List.getElem?_eq_getElem hi, List.getElem?_eq_getElem hj, Option.bind_some, hn, Bool.false_or, List.any_cons, List.any_nil, Bool.or_false]
      rfl
  · subst hz
    simp only [ge_lenI, cond_false, List.take_length]
theorem crash_rows (M ws : List RowT) (c : Nat) (hc : c ≤ 8000000) (hw : ws.length ≤ 1048576) (hM : M.length ≤ 1048576) (h : ∀ w ∈ ws, w ∈ M) : l_w103q_2 FU ws M ((c : Int), (0 : Int)) = some (Sum.inl ((c + ws.length : Nat) : Int)) := by
  unfold l_w103q_2
  refine lp_for (fun o => o = some (Sum.inl ((c + ws.length : Nat) : Int))) (fun i z => z = (((c + i : Nat) : Int), (i : Int))) ws.length (fun i z hi hz => ?_) (fun z hz rec => ?_) FU _ (by unfold FU; omega) rfl
  · subst hz
    have hn : IntKind.wrap .i64 ((i : Int) + 1) = ((i + 1 : Nat) : Int) := nxt (by unfold B36; omega)
    have hm : IntKind.wrap .i64 (((c + i : Nat) : Int) + 1) = ((c + (i + 1) : Nat) : Int) := nxt (i := c + i) (by unfold B36; omega)
    refine .inr ⟨_, rfl, fun rec => ?_⟩
    have hf : (M.any fun y => rowE y ws[i]) = true := List.any_eq_true.2 ⟨ws[i], h _ (List.getElem_mem hi), rowE_refl _⟩
    have k1 := crash_find M ws i hi hM
    rw [hf] at k1
    generalize l_w103q_1 FU = L at k1 ⊢
    simp only [lt_lenI hi, cond_true, k1, Option.bind_some, Bool.not_true, cond_false, Sum.elim_inl, hm, hn]
  · subst hz
    simp only [ge_lenI, cond_false]
theorem sum_flat (rs : List (List Int)) : (rs.flatMap fun r => rowsW (unpR r).1 (unpR r).2.1).length = ((rs.map fun r => (unpR r).2.1.length).sum) := by
  rw [List.length_flatMap]
  congr 1
  exact List.map_congr_left fun r _ => by unfold rowsW; rw [List.length_map]
theorem crash_all (M : List RowT) (rs : List (List Int)) (hM : M.length ≤ 1048576) (hr : ∀ r ∈ rs, byB r ∧ r.length ≤ 500 ∧ (unpR r).2.2 = true) (hl : rs.length ≤ 6000) (hin : ∀ y ∈ rs.flatMap fun r => rowsW (unpR r).1 (unpR r).2.1, y ∈ M) : l_w103q_3 FU rs M ((0 : Int), (0 : Int)) = some (Sum.inl (((rs.flatMap fun r => rowsW (unpR r).1 (unpR r).2.1).length : Nat) : Int)) := by
  have hc : ∀ i, i ≤ rs.length → ((rs.take i).flatMap fun r => rowsW (unpR r).1 (unpR r).2.1).length ≤ 500 * i := fun i => by
    induction i with
    | zero => intro _; simp
    | succ i ih =>
      intro hi
      rw [List.take_succ_eq_append_getElem (by omega), List.flatMap_append, List.length_append]
      have h1 := ih (by omega)
      obtain ⟨b1, b2, _⟩ := hr rs[i] (List.getElem_mem (by omega))
      have h2 := unpR_len b1
      simp only [List.flatMap_cons, List.flatMap_nil, List.append_nil]
      unfold rowsW
      rw [List.length_map]
      unfold rowsW at h1
      omega
  unfold l_w103q_3
  refine lp_for (fun o => o = some (Sum.inl (((rs.flatMap fun r => rowsW (unpR r).1 (unpR r).2.1).length : Nat) : Int))) (fun i z => z = ((((rs.take i).flatMap fun r => rowsW (unpR r).1 (unpR r).2.1).length : Int), (i : Int))) rs.length (fun i z hi hz => ?_) (fun z hz rec => ?_) FU _ (by unfold FU; omega) rfl
  · subst hz
    have hn : IntKind.wrap .i64 ((i : Int) + 1) = ((i + 1 : Nat) : Int) := nxt (by unfold B36; omega)
    refine .inr ⟨_, rfl, fun rec => ?_⟩
    obtain ⟨b1, b2, b3⟩ := hr rs[i] (List.getElem_mem hi)
    have h2 := unpR_len b1
    have h3 := hc i (by omega)
    have k1 := t_w102q rs[i] b1 (by omega)
    rw [b3, Bool.not_true, cond_false] at k1
    have k2 := crash_rows M (rowsW (unpR rs[i]).1 (unpR rs[i]).2.1) ((rs.take i).flatMap fun r => rowsW (unpR r).1 (unpR r).2.1).length (by omega) (by unfold rowsW; rw [List.length_map]; omega) hM (fun w hw => hin w (List.mem_flatMap.2 ⟨_, List.getElem_mem hi, hw⟩))
    have e : ((rs.take (i + 1)).flatMap fun r => rowsW (unpR r).1 (unpR r).2.1).length = ((rs.take i).flatMap fun r => rowsW (unpR r).1 (unpR r).2.1).length + (rowsW (unpR rs[i]).1 (unpR rs[i]).2.1).length := by
      rw [List.take_succ_eq_append_getElem hi, List.flatMap_append, List.length_append]
      simp only [List.flatMap_cons, List.flatMap_nil, List.append_nil]
    rw [e]
    generalize l_w103q_2 FU = L at k2 ⊢
    simp only [lt_lenI hi, cond_true, geti_lt rs i hi, Int.toNat_natCast, List.getElem?_eq_getElem hi, Option.bind_some, k1, beq_self_eq_true, Bool.not_true, cond_false, k2, Sum.elim_inl, hn]
  · subst hz
    simp only [ge_lenI, cond_false, List.take_length]
theorem law_w103q (x : List Int) (h : WFs S_w103q.ps x) : m_w103q x = some true := by
  have hbx : ∀ b ∈ x, 0 ≤ b ∧ b ≤ 255 := fun b hb => by have := byB_wf h b hb; omega
  show p_w103q FU _ = _
  unfold p_w103q
  rw [t_w0q, Option.bind_some]
  by_cases hbig : (x.length : Int) > 1048576
  · rw [decide_eq_true hbig]; rfl
  · rw [decide_eq_false hbig, cond_false]
    obtain ⟨e, k, q1, q2⟩ := t_w47q x (by omega) hbx
    obtain ⟨y1, y2, y3, y4⟩ := q2
    have l1 : e.1.1.length ≤ 1048576 := by omega
    have l2 : e.1.2.length ≤ 1048576 := by omega
    rw [q1, Option.bind_some, t_w95q e k y1 y2 l1 l2, Option.bind_some]
    by_cases hz : (crashR e k).1 = 0
    · obtain ⟨z1, z2⟩ := crash_zero hz
      have he := engC_ec z1
      obtain ⟨hW, hle⟩ := ec_crash he k
      obtain ⟨s, s1, s2, s3, s4, s5, s6, s7, s8⟩ := crash_log he k
      have hd : byB (crashD e.1 k) := byB_app y1 (byB_take y2 _)
      have ht : byB (trimD (crashD e.1 k)) := byB_take hd _
      have hlW := hW.len
      have hlog : (crashedE e k).1 = (trimD (crashD e.1 k), []) := rfl
      have hb2 : byB (crashedE e k).1.2 := fun b hb => by rw [hlog] at hb; cases hb
      have hb1 : byB (crashedE e k).1.1 := ht
      have k1 := t_w87q (crashedE e k) hb1 hb2 (by omega) (by omega)
      rw [engC_of hW] at k1
      have hel := he.len
      have k2 := t_w71q (e.1.1, []) y1 (fun b hb => by cases hb) (by simp only [List.length_nil]; omega)
      have k3 := t_w71q (crashedE e k).1 hb1 hb2 hlW
      obtain ⟨r1, r2⟩ := recsL_trim (crashD e.1 k)
      have ecat : (crashedE e k).1.1 ++ (crashedE e k).1.2 = trimD (crashD e.1 k) := List.append_nil _
      rw [ecat, r1] at k3
      simp only [List.append_nil] at k2
      obtain ⟨f1, f2⟩ := logF_recs _ _ _ s1
      rw [List.nil_append] at f2
      have hT := tabC_zero he.mem
      obtain ⟨g1, g2, g3⟩ := recsG_ok ((crashD e.1 k).length + 1) (crashD e.1 k)
      have hcd : (crashD e.1 k).length ≤ 6000 := by
        unfold crashD
        rw [List.length_append, List.length_take]; omega
      have k4 := crash_all (crashedE e k).2.1 (recsL (crashD e.1 k)).1 (by rw [s5]; omega) (fun r hr => ⟨fun b hb => hd b ((g3 r hr).2 b hb), (g3 r hr).1.2, f1 r hr⟩) (by unfold recsL; omega) (fun y hy => (s4 y).2 (by rw [f2]; exact hy))
      rw [← f2, ← s5] at k4
      obtain ⟨R, hR⟩ := recsL_pre e.1.1 (e.1.2.take k.toNat)
      have hge : (lenI (recsL (crashD e.1 k)).1) ≥ lenI (recsL e.1.1).1 := by
        have : (recsL (crashD e.1 k)).1 = (recsL e.1.1).1 ++ R := hR
        rw [lenI_eq, lenI_eq, this, List.length_append]; omega
      have htl : (crashedE e k).2.2.1 = e.2.2.1 := rfl
      rw [z2]
      generalize l_w103q_3 FU = L at k4 ⊢
      simp only [beq_self_eq_true, Bool.not_true, cond_false, k1, Option.bind_some, htl]
      rw [decide_eq_false (show ¬ (crashedE e k).2.2.2 > e.2.2.2 by omega), cond_false]
      simp only [Option.bind_some, cond_false, k2, k3, k4, Sum.elim_inl]
      rw [decide_eq_true hge, cond_true, lenI_eq, beq_self_eq_true]
    · rw [show ((crashR e k).1 == 0) = false from beq_eq_false_iff_ne.2 hz, Bool.not_false, cond_true, t_w101q e k y1 y2 l1 l2, Option.bind_some, beq_self_eq_true]
end Go.RvP
