/- Engines behind a crash: plain facts. No condition. -/
import Derived.Test.YtbeplmdadjgamaaGreatRvEt
namespace Go.Rv
theorem recsG_fuel : ∀ (n m : Nat) (r : List Int), r.length < n → r.length < m → recsG n r = recsG m r
  | 0, _, _, h, _ => by omega
  | _ + 1, 0, _, _, h => by omega
  | n + 1, m + 1, r, h1, h2 => by
    simp only [recsG]
    cases hu : unfr r with
    | none => rfl
    | some b =>
      obtain ⟨q1, q2, q3⟩ := unfr_some hu
      simp only
      rw [recsG_fuel n m (r.drop (4 + b.length)) (by rw [List.length_drop]; omega) (by rw [List.length_drop]; omega)]
theorem recsG_pre : ∀ (n : Nat) (r x : List Int) (m : Nat), ∃ R, (recsG ((recsG n r).1.length + m) (r ++ x)).1 = (recsG n r).1 ++ R
  | 0, r, x, m => ⟨_, rfl⟩
  | n + 1, r, x, m => by
    simp only [recsG]
    cases hu : unfr r with
    | none => exact ⟨_, rfl⟩
    | some b =>
      obtain ⟨q1, q2, q3⟩ := unfr_some hu
      obtain ⟨R, hR⟩ := recsG_pre n (r.drop (4 + b.length)) x m
      refine ⟨R, ?_⟩
      have hl : (b :: (recsG n (r.drop (4 + b.length))).1).length + m = ((recsG n (r.drop (4 + b.length))).1.length + m) + 1 := by rw [List.length_cons]; omega
      simp only
      rw [hl]
      simp only [recsG]
      rw [unfr_app hu x]
      simp only
      have hdx : (r ++ x).drop (4 + b.length) = r.drop (4 + b.length) ++ x := List.drop_append_of_le_length (by omega)
      rw [hdx, hR]
      rfl
theorem recsL_pre (r x : List Int) : ∃ R, (recsL (r ++ x)).1 = (recsL r).1 ++ R := by
  unfold recsL
  have hk := recsG_ok (r.length + 1) r
  obtain ⟨m, hm⟩ : ∃ m, (r ++ x).length + 1 = (recsG (r.length + 1) r).1.length + m := ⟨(r ++ x).length + 1 - (recsG (r.length + 1) r).1.length, by rw [List.length_append]; omega⟩
  rw [hm]
  exact recsG_pre _ r x m
theorem unfr_take {r b : List Int} (h : unfr r = some b) {j : Nat} (hj : 4 + b.length ≤ j) : unfr (r.take j) = some b := by
  obtain ⟨h1, h2, h3⟩ := unfr_some h
  unfold unfr at h
  split at h
  · rename_i a b' c d t
    split at h
    · rename_i hc
      simp only [Option.some.injEq] at h
      obtain ⟨c1, c2, c3⟩ := hc
      have hbl : b.length = (a * 256 + b').toNat := by rw [← h, List.length_take]; omega
      obtain ⟨i, rfl⟩ : ∃ i, j = i + 4 := ⟨j - 4, by omega⟩
      have ht : (t.take i).take (a * 256 + b').toNat = t.take (a * 256 + b').toNat := by rw [List.take_take]; congr 1; omega
      show unfr (a :: b' :: c :: d :: t.take i) = some b
      unfold unfr
      simp only
      rw [if_pos ⟨c1, by rw [List.length_take]; omega, by rw [ht]; exact c3⟩, ht, h]
    · cases h
  · cases h
theorem recsG_trim : ∀ (n : Nat) (r : List Int), recsG n (r.take (recsG n r).2) = recsG n r
  | 0, r => rfl
  | n + 1, r => by
    simp only [recsG]
    cases hu : unfr r with
    | none => rfl
    | some b =>
      obtain ⟨q1, q2, q3⟩ := unfr_some hu
      simp only
      rw [unfr_take hu (j := 4 + b.length + (recsG n (r.drop (4 + b.length))).2) (by omega)]
      simp only
      have e : (r.take (4 + b.length + (recsG n (r.drop (4 + b.length))).2)).drop (4 + b.length) = (r.drop (4 + b.length)).take (recsG n (r.drop (4 + b.length))).2 := by
        rw [List.drop_take]; congr 1; omega
      rw [e, recsG_trim n]
theorem recsL_trim (d : List Int) : recsL (trimD d) = recsL d ∧ (trimD d).length = (recsL d).2 := by
  have hk := (recsG_ok (d.length + 1) d).1
  have hl : (trimD d).length = (recsL d).2 := by
    unfold trimD recsL at *
    rw [List.length_take]; omega
  refine ⟨?_, hl⟩
  have h2 : (trimD d).length ≤ d.length := by rw [hl]; exact hk
  unfold recsL
  rw [recsG_fuel ((trimD d).length + 1) (d.length + 1) (trimD d) (by omega) (by omega)]
  exact recsG_trim (d.length + 1) d
theorem logF_some {nx : Int} {s t : List RowT × Int} {r : List Int} (h : logF nx s r = some t) : ((unpR r).2.2 = true ∧ (unpR r).1 < nx ∧ s.2 < (unpR r).1) ∧ t = (s.1 ++ rowsW (unpR r).1 (unpR r).2.1, (unpR r).1) := by
  unfold logF at h
  cases hc : (!(unpR r).2.2 || (decide ((unpR r).1 ≥ nx) || decide ((unpR r).1 ≤ s.2))) with
  | true => rw [hc] at h; cases h
  | false =>
    rw [hc] at h
    simp only [cond_false, Option.some.injEq] at h
    simp only [Bool.or_eq_false_iff, Bool.not_eq_false', decide_eq_false_iff_not] at hc
    exact ⟨⟨hc.1, by omega, by omega⟩, h.symm⟩
theorem logF_app {nx : Int} : ∀ (rs : List (List Int)) (s t : List RowT × Int), rs.foldlM (logF nx) s = some t → (∃ l, t.1 = s.1 ++ l) ∧ s.2 ≤ t.2
  | [], s, t, h => by
    simp only [List.foldlM_nil] at h
    cases h
    exact ⟨⟨[], by simp⟩, Int.le_refl _⟩
  | r :: rs, s, t, h => by
    simp only [List.foldlM_cons] at h
    cases hq : logF nx s r with
    | none => rw [hq] at h; cases h
    | some u =>
      rw [hq] at h
      obtain ⟨⟨l, hl⟩, h2⟩ := logF_app rs u t h
      obtain ⟨⟨_, _, p3⟩, rfl⟩ := logF_some hq
      exact ⟨⟨rowsW (unpR r).1 (unpR r).2.1 ++ l, by rw [hl, List.append_assoc]⟩, by simp only at h2; omega⟩
theorem logF_cap {nx ny : Int} : ∀ (rs : List (List Int)) (s t : List RowT × Int), (∀ y ∈ t.1, y.2.1 < ny) → rs.foldlM (logF nx) s = some t → rs.foldlM (logF ny) s = some t
  | [], s, t, _, h => by simpa using h
  | r :: rs, s, t, hb, h => by
    simp only [List.foldlM_cons] at h ⊢
    cases hq : logF nx s r with
    | none => rw [hq] at h; cases h
    | some u =>
      rw [hq] at h
      obtain ⟨⟨l, hl⟩, _⟩ := logF_app rs u t h
      obtain ⟨⟨p1, p2, p3⟩, rfl⟩ := logF_some hq
      obtain ⟨_, w0⟩ := unpR_ok p1
      obtain ⟨⟨w1, _⟩, _⟩ := wrC_zero w0
      have hv : (unpR r).1 < ny := by
        obtain ⟨w, hw⟩ := List.exists_mem_of_length_pos (l := (unpR r).2.1) (by omega)
        exact hb (w.1, ((unpR r).1, w.2)) (by
          rw [hl]
          exact List.mem_append_left _ (List.mem_append_right _ (rowsW_mem.2 ⟨w, hw, rfl⟩)))
      have e2 : logF ny s r = some (s.1 ++ rowsW (unpR r).1 (unpR r).2.1, (unpR r).1) := by
        unfold logF
        rw [p1, decide_eq_false (show ¬ (unpR r).1 ≥ ny by omega), decide_eq_false (show ¬ (unpR r).1 ≤ s.2 by omega)]
        rfl
      rw [e2]
      exact logF_cap rs _ t hb h
theorem logF_recs {nx : Int} : ∀ (rs : List (List Int)) (s t : List RowT × Int), rs.foldlM (logF nx) s = some t → (∀ r ∈ rs, (unpR r).2.2 = true) ∧ t.1 = s.1 ++ rs.flatMap fun r => rowsW (unpR r).1 (unpR r).2.1
  | [], s, t, h => by
    simp only [List.foldlM_nil] at h
    cases h
    exact ⟨fun r hr => (by cases hr), by simp⟩
  | r :: rs, s, t, h => by
    simp only [List.foldlM_cons] at h
    cases hq : logF nx s r with
    | none => rw [hq] at h; cases h
    | some u =>
      rw [hq] at h
      obtain ⟨h1, h2⟩ := logF_recs rs u t h
      obtain ⟨⟨p1, p2, p3⟩, rfl⟩ := logF_some hq
      refine ⟨fun x hx => ?_, ?_⟩
      · rcases List.mem_cons.1 hx with rfl | hx
        · exact p1
        · exact h1 x hx
      · rw [h2, List.flatMap_cons, List.append_assoc]
theorem logF_I {nx : Int} : ∀ (rs : List (List Int)) (i : Nat) (s t : List RowT × Int), logI i s → rs.foldlM (logF nx) s = some t → logI (i + rs.length) t
  | [], i, s, t, hI, h => by
    simp only [List.foldlM_nil] at h
    cases h
    exact hI
  | r :: rs, i, s, t, hI, h => by
    simp only [List.foldlM_cons] at h
    cases hq : logF nx s r with
    | none => rw [hq] at h; cases h
    | some u =>
      rw [hq] at h
      have := logF_I rs (i + 1) u t (logI_next hI hq).1 h
      rw [List.length_cons, show i + (rs.length + 1) = i + 1 + rs.length by omega]
      exact this
theorem put_len {rs : List RowT} (h : rs.Pairwise fun a b => cfRow a b ≠ 0) : (rs.foldl putL []).length = rs.length := by
  have key : ∀ (rs xs : List RowT), rs.Pairwise (fun a b => cfRow a b ≠ 0) → xs.Pairwise (fun a b => cfRow a b < 0) → (∀ x ∈ xs, ∀ r ∈ rs, cfRow x r ≠ 0) → (rs.foldl putL xs).length = xs.length + rs.length := by
    intro rs
    induction rs with
    | nil => intro xs _ _ _; rfl
    | cons r rs ih =>
      intro xs h1 h2 h3
      rw [List.pairwise_cons] at h1
      obtain ⟨q1, q2⟩ := putLR_ok h2 (r := r) (fun x hx => h3 x hx r List.mem_cons_self)
      rw [List.foldl_cons, ih (putL xs r) h1.2 q1 (fun x hx s hs => by
        rcases (q2 x).1 hx with rfl | hx
        · exact h1.1 s hs
        · exact h3 x hx s (List.mem_cons_of_mem _ hs))]
      have hn : (decide (putAtR xs r < xs.length) && !(decide (cfRow r (xs[putAtR xs r]?.getD r) < 0))) = false := by
        by_cases hlt : putAtR xs r < xs.length
        · rw [List.getElem?_eq_getElem hlt, Option.getD_some]
          have hnot : ¬ cfRow xs[putAtR xs r] r < 0 := by
            have := (takeWhile_at (aheadR r) xs).2.2 hlt
            unfold aheadR at this
            exact of_decide_eq_false this
          rw [decide_eq_true (cfR_tri hnot (h3 _ (List.getElem_mem hlt) r List.mem_cons_self)), Bool.not_true, Bool.and_false]
        · rw [decide_eq_false hlt, Bool.false_and]
      have e : (putL xs r).length = xs.length + 1 := by
        unfold putL
        rw [hn, cond_false]
        have := putAtR_le xs r
        simp only [List.length_append, List.length_take, List.length_drop, List.length_cons, List.length_nil]
        omega
      rw [e, List.length_cons]; omega
  have := key rs [] h List.Pairwise.nil (fun x hx => by cases hx)
  simpa using this
theorem logR_true {g : LogT} {nx : Int} (h : (logR g nx).2 = true) : ∃ t, (recsL (g.1 ++ g.2)).1.foldlM (logF nx) ([], 0) = some t ∧ (recsL (g.1 ++ g.2)).2 = (g.1 ++ g.2).length ∧ (logR g nx).1 = t.1.foldl putL [] := by
  unfold logR at h ⊢
  by_cases hlt : (recsL (g.1 ++ g.2)).2 < g.1.length + g.2.length
  · rw [if_pos hlt] at h; cases h
  · rw [if_neg hlt] at h ⊢
    cases hf : (recsL (g.1 ++ g.2)).1.foldlM (logF nx) ([], 0) with
    | none => rw [hf] at h; cases h
    | some t =>
      have := (recsG_ok ((g.1 ++ g.2).length + 1) (g.1 ++ g.2)).1
      refine ⟨t, rfl, ?_, rfl⟩
      rw [List.length_append] at *
      unfold recsL at hlt ⊢
      rw [List.length_append] at *
      omega
theorem logR_of {g : LogT} {nx : Int} {t : List RowT × Int} (h1 : (recsL (g.1 ++ g.2)).1.foldlM (logF nx) ([], 0) = some t) (h2 : (recsL (g.1 ++ g.2)).2 = (g.1 ++ g.2).length) : logR g nx = (t.1.foldl putL [], true) := by
  unfold logR
  rw [List.length_append] at h2
  rw [if_neg (by omega), h1]
  rfl
def crashedE (e : EngT) (k : Int) : EngT := ((trimD (crashD e.1 k), []), ((logR (trimD (crashD e.1 k), []) e.2.2.2).1, (e.2.2.1, 1 + maxV ((logR (trimD (crashD e.1 k), []) e.2.2.2).1 ++ e.2.2.1.flatten))))
theorem crash_zero {e : EngT} {k : Int} (h : (crashR e k).1 = 0) : engC e = 0 ∧ crashR e k = (0, (0, crashedE e k)) := by
  unfold crashR at h ⊢
  cases hc : engC e == 0 with
  | false => rw [hc] at h; exact absurd h (by have := hc; simpa using this)
  | true =>
    rw [hc] at h
    simp only [Bool.not_true, cond_false] at h ⊢
    cases hk : inB k 0 (lenI e.1.2) with
    | false => rw [hk] at h; exact absurd (show (3 : Int) = 0 from h) (by decide)
    | true => exact ⟨eq_of_beq hc, rfl⟩
theorem crash_log {e : EngT} (he : EC e) (k : Int) : ∃ s : List RowT × Int, (recsL (crashD e.1 k)).1.foldlM (logF e.2.2.2) ([], 0) = some s ∧ (crashedE e k).2.1 = s.1.foldl putL [] ∧ s.1.Pairwise (fun a b => cfRow a b ≠ 0) ∧ (∀ y, y ∈ (crashedE e k).2.1 ↔ y ∈ s.1) ∧ (crashedE e k).2.1.length = s.1.length ∧ (∀ y ∈ s.1, y ∈ e.2.1) ∧ s.1.length ≤ e.2.1.length ∧ ssrt (crashedE e k).2.1 := by
  obtain ⟨t, t1, t2, t3⟩ := logR_true he.log.1
  have hm := sameR_eq he.log.2
  have hsplit : e.1.1 ++ e.1.2 = crashD e.1 k ++ e.1.2.drop k.toNat := by
    unfold crashD
    rw [List.append_assoc, List.take_append_drop]
  obtain ⟨R, hR⟩ := recsL_pre (crashD e.1 k) (e.1.2.drop k.toNat)
  rw [hsplit, hR, List.foldlM_append] at t1
  cases hf : (recsL (crashD e.1 k)).1.foldlM (logF e.2.2.2) ([], 0) with
  | none => rw [hf] at t1; cases t1
  | some s =>
    rw [hf] at t1
    obtain ⟨⟨l, hl⟩, _⟩ := logF_app R s t t1
    have hI0 : logI 0 ([], 0) := ⟨by simp, List.Pairwise.nil, fun r hr => by cases hr⟩
    have hIs := logF_I _ 0 _ s hI0 hf
    have hIt := logF_I R _ s t hIs t1
    obtain ⟨r1, r2⟩ := recsL_trim (crashD e.1 k)
    have hmem : (crashedE e k).2.1 = s.1.foldl putL [] := by
      show (logR (trimD (crashD e.1 k), []) e.2.2.2).1 = _
      rw [logR_of (t := s) (by rw [List.append_nil, r1]; exact hf) (by rw [List.append_nil, r1, r2])]
    obtain ⟨p1, p2⟩ := putFR_ok s.1 [] List.Pairwise.nil hIs.2.1 (fun x hx => by cases hx)
    obtain ⟨u1, u2⟩ := putFR_ok t.1 [] List.Pairwise.nil hIt.2.1 (fun x hx => by cases hx)
    have het : e.2.1 = t.1.foldl putL [] := by rw [← hm, t3]
    refine ⟨s, rfl, hmem, hIs.2.1, fun y => ?_, ?_, fun y hy => ?_, ?_, ?_⟩
    · rw [hmem, p2]; simp
    · rw [hmem, put_len hIs.2.1]
    · rw [het, u2, hl]
      exact .inl (List.mem_append_left _ hy)
    · rw [het, put_len hIt.2.1, hl, List.length_append]; omega
    · rw [hmem]; exact p1
theorem ec_crash {e : EngT} (he : EC e) (k : Int) : EC (crashedE e k) ∧ (crashedE e k).2.2.2 ≤ e.2.2.2 := by
  obtain ⟨s, s1, s2, s3, s4, s5, s6, s7, s8⟩ := crash_log he k
  have hn := he.nxt
  unfold inB at hn
  simp only [Bool.and_eq_true, decide_eq_true_eq] at hn
  have hbm := below_mem.1 he.bm
  have hlt : maxV ((crashedE e k).2.1 ++ e.2.2.1.flatten) < e.2.2.2 := by
    refine (maxV_lt _ _).2 ⟨by omega, below_mem.2 fun r hr => ?_⟩
    rcases List.mem_append.1 hr with q | q
    · exact hbm r (s6 r ((s4 r).1 q))
    · obtain ⟨t, ht, hrt⟩ := List.mem_flatten.1 q
      exact below_mem.1 (he.bt t ht) r hrt
  have hle : (crashedE e k).2.2.2 = 1 + maxV ((crashedE e k).2.1 ++ e.2.2.1.flatten) := rfl
  have hab := (maxV_lt ((crashedE e k).2.1 ++ e.2.2.1.flatten) (1 + maxV ((crashedE e k).2.1 ++ e.2.2.1.flatten))).1 (by omega)
  have hall := below_mem.1 hab.2
  obtain ⟨r1, r2⟩ := recsL_trim (crashD e.1 k)
  have hT := tabC_zero he.mem
  refine ⟨⟨?_, ?_, he.cnt, he.tabs, ?_, ?_, fun t ht => ?_, ?_, fun y hy t ht => he.ord y (s6 y ((s4 y).1 hy)) t ht⟩, by omega⟩
  · show (trimD (crashD e.1 k)).length + 0 ≤ 6000
    have h1 := he.len
    have h2 := (recsG_ok ((crashD e.1 k).length + 1) (crashD e.1 k)).1
    have h3 : (crashD e.1 k).length ≤ e.1.1.length + e.1.2.length := by
      unfold crashD
      rw [List.length_append, List.length_take]; omega
    rw [r2]
    unfold recsL
    omega
  · exact tabC_of s8 (fun r hr => hT.2 r (s6 r ((s4 r).1 hr))) (by have := hT.1; omega)
  · rw [hle]
    unfold inB; simp only [Bool.and_eq_true, decide_eq_true_eq]; omega
  · refine below_mem.2 fun r hr => ?_
    rw [hle]
    exact hall r (List.mem_append_left _ hr)
  · refine below_mem.2 fun r hr => ?_
    rw [hle]
    exact hall r (List.mem_append_right _ (List.mem_flatten.2 ⟨t, ht, hr⟩))
  · have hc : (recsL (crashD e.1 k)).1.foldlM (logF (crashedE e k).2.2.2) ([], 0) = some s := logF_cap _ _ s (fun y hy => by
      rw [hle]
      exact hall y (List.mem_append_left _ ((s4 y).2 hy))) s1
    have := logR_of (g := (crashedE e k).1) (nx := (crashedE e k).2.2.2) (t := s) (by
      show (recsL (trimD (crashD e.1 k) ++ [])).1.foldlM _ _ = _
      rw [List.append_nil, r1]; exact hc) (by
      show (recsL (trimD (crashD e.1 k) ++ [])).2 = (trimD (crashD e.1 k) ++ []).length
      rw [List.append_nil, r1, r2])
    rw [this]
    exact ⟨rfl, by rw [s2]; exact sameR_refl _⟩
end Go.Rv
