/- A vote of a shard: plain facts. No condition. -/
import Derived.Test.YtbeplmdadjgamaaGreatRvU
import Derived.Test.YtbeplmdadjgamaaGreatRvM
namespace Go.Rv
/-! A shard's vote. -/
/-- The first place whose key is not less. -/
def atK {α : Type} (k : α → Int) (xs : List α) (c : Int) : Nat := (xs.findIdx? fun y => !(decide (k y < c))).getD xs.length
def putAt {α : Type} (xs : List α) (j : Nat) (x : α) : List α := xs.take j ++ [x] ++ xs.drop j
theorem atK_le {α : Type} (k : α → Int) (xs : List α) (c : Int) : atK k xs c ≤ xs.length := by
  unfold atK
  cases h : xs.findIdx? (fun y => !(decide (k y < c))) with
  | none => exact Nat.le_refl _
  | some j => exact Nat.le_of_lt (List.findIdx?_eq_some_iff_getElem.1 h).1
theorem atK_of {α : Type} (k : α → Int) {xs : List α} {c : Int} {j : Nat} (hj : j ≤ xs.length) (h1 : ∀ (i : Nat) (h : i < xs.length), i < j → k xs[i] < c) (h2 : ∀ (i : Nat) (h : i < xs.length), j ≤ i → ¬ k xs[i] < c) : atK k xs c = j := by
  unfold atK
  by_cases hlt : j < xs.length
  · have : xs.findIdx? (fun y => !(decide (k y < c))) = some j := by
      rw [List.findIdx?_eq_some_iff_getElem]
      refine ⟨hlt, by simp [h2 j hlt (Nat.le_refl _)], fun i hij => by simp [h1 i (by omega) hij]⟩
    rw [this]; rfl
  · have : xs.findIdx? (fun y => !(decide (k y < c))) = none := by
      rw [List.findIdx?_eq_none_iff]
      intro y hy
      obtain ⟨i, hi, rfl⟩ := List.getElem_of_mem hy
      simp [h1 i hi (by omega)]
    rw [this]
    show xs.length = j
    omega
theorem putAt_len {α : Type} (xs : List α) {j : Nat} (hj : j ≤ xs.length) (x : α) : (putAt xs j x).length = xs.length + 1 := by
  unfold putAt; simp; omega
theorem putAt_mem {α : Type} (xs : List α) (j : Nat) (x y : α) : y ∈ putAt xs j x ↔ y ∈ xs ∨ y = x := by
  unfold putAt
  have e := List.take_append_drop j xs
  constructor
  · intro h
    simp only [List.mem_append, List.mem_singleton] at h
    rcases h with (h | h) | h
    · exact .inl (List.mem_of_mem_take h)
    · exact .inr h
    · exact .inl (List.mem_of_mem_drop h)
  · rintro (h | h)
    · rw [← e] at h
      simp only [List.mem_append, List.mem_singleton] at h ⊢
      rcases h with h | h
      · exact .inl (.inl h)
      · exact .inr h
    · simp [h]
def readyB (s : ShdT) (c : ConT) : Bool := (findM s.2.2.2.2.1 c.1 == 0) && (!(s.2.2.2.1.any fun o => touchL (legsA c.2 s.1) (legsA o.2 s.1)) && (legsB s.2.1 (legsA c.2 s.1) == 0))
def zS5 : ShdT := (0, ([], ([], ([], ([], [])))))
abbrev ShR := Int × (Int × ShdT)
def votedS (s : ShdT) (c : ConT) : ShR := cond (readyB s c)
  (0, (1, (s.1, (s.2.1, (putAt s.2.2.1 (atK (·.1) s.2.2.1 c.1) (c.1, 1), (putAt s.2.2.2.1 (atK (·.1) s.2.2.2.1 c.1) c, s.2.2.2.2))))))
  (0, (2, (s.1, (s.2.1, (putAt s.2.2.1 (atK (·.1) s.2.2.1 c.1) (c.1, 2), s.2.2.2)))))
def voteS (s : ShdT) (c : ConT) : ShR := cond (!(findM s.2.2.1 c.1 == 0)) (0, (findM s.2.2.1 c.1, s)) (cond (decide (100 ≤ s.2.2.1.length)) (2, (0, zS5)) (votedS s c))
def voteR (s : ShdT) (c : ConT) : ShR := cond (!(shardC s == 0)) (shardC s, (0, zS5)) (cond (!(conC c == 0)) (conC c, (0, zS5)) (cond (legsA c.2 s.1).isEmpty (4, (0, zS5)) (voteS s c)))
theorem shardC_len {s : ShdT} (h : shardC s = 0) : s.2.1.length ≤ 18 ∧ s.2.2.1.length ≤ 100 ∧ s.2.2.2.1.length ≤ 100 ∧ s.2.2.2.2.1.length ≤ 100 ∧ s.2.2.2.2.2.length ≤ 100 := by
  unfold shardC at h
  cases hi : inB s.1 0 2 with
  | false => rw [hi] at h; exact absurd (show (3 : Int) = 0 from h) (by decide)
  | true =>
    rw [hi] at h
    simp only [Bool.not_true, cond_false] at h
    by_cases hb : balCode s.2.1 = 0
    · rw [if_neg (fun h => h hb)] at h
      have := balCode_len hb
      by_cases hl : 100 < s.2.2.1.length ∨ 100 < s.2.2.2.1.length ∨ 100 < s.2.2.2.2.1.length ∨ 100 < s.2.2.2.2.2.length
      · rw [if_pos hl] at h; exact absurd h (by decide)
      · omega
    · rw [if_pos hb] at h; exact absurd h hb
/-- What a shard without fault is. -/
theorem shardC_zero {s : ShdT} (h : shardC s = 0) : inB s.1 0 2 = true ∧ balCode s.2.1 = 0 ∧ markC s.2.2.1 = 0 ∧ markC s.2.2.2.2.1 = 0 ∧ heldC s = 0 ∧ (s.2.2.1.any (openB s) = false) ∧ appB s = true ∧ fstI (meetStep s) 0 s.2.2.2.1 = none ∧ ∀ c ∈ s.2.2.2.1, legsB s.2.1 (legsA c.2 s.1) = 0 := by
  have hlen := shardC_len h
  unfold shardC at h
  cases hi : inB s.1 0 2 with
  | false => rw [hi] at h; exact absurd (show (3 : Int) = 0 from h) (by decide)
  | true =>
    rw [hi] at h
    simp only [Bool.not_true, cond_false] at h
    by_cases hb : balCode s.2.1 = 0
    · rw [if_neg (fun h => h hb), if_neg (by omega)] at h
      by_cases hm : markC s.2.2.1 = 0
      · rw [if_neg (fun h => h hm)] at h
        by_cases hd : markC s.2.2.2.2.1 = 0
        · rw [if_neg (fun h => h hd)] at h
          unfold heldAll at h
          by_cases hh : heldC s = 0
          · rw [if_neg (fun h => h hh)] at h
            cases ho : s.2.2.1.any (openB s) || !(appB s) with
            | true => rw [ho] at h; exact absurd (show (1 : Int) = 0 from h) (by decide)
            | false =>
              rw [ho] at h
              simp only [Bool.or_eq_false_iff, Bool.not_eq_false'] at ho
              simp only [cond_false] at h
              have hmt : fstI (meetStep s) 0 s.2.2.2.1 = none := by
                cases hf : fstI (meetStep s) 0 s.2.2.2.1 with
                | none => rfl
                | some r =>
                  exfalso
                  rw [hf, Option.getD_some] at h
                  have ne : ∀ i x, meetStep s i x ≠ some 0 := fun i x => by
                    unfold meetStep
                    cases (s.2.2.2.1.take i).any fun o => touchL (legsA x.2 s.1) (legsA o.2 s.1) <;> simp
                  have := (fst_getD ne s.2.2.2.1 0).1 (by rw [hf]; exact h)
                  rw [hf] at this; cases this
              rw [hmt, Option.getD_none] at h
              have hn := (fst_getD (fun i x => nz_ne _) s.2.2.2.1 0).1 h
              refine ⟨rfl, hb, hm, hd, hh, ho.1, ho.2, hmt, fun c hc => ?_⟩
              obtain ⟨j, hj, rfl⟩ := List.getElem_of_mem hc
              have := fst_none hn j hj
              unfold nz at this
              cases hq : legsB s.2.1 (legsA s.2.2.2.1[j].2 s.1) == 0 with
              | true => exact eq_of_beq hq
              | false => rw [hq] at this; cases this
          · rw [if_pos hh] at h; exact absurd h hh
        · rw [if_pos hd] at h; exact absurd h hd
      · rw [if_pos hm] at h; exact absurd h hm
    · rw [if_pos hb] at h; exact absurd h hb
theorem drop_take_all {α : Type} (xs : List α) (j : Nat) : (xs.drop j).take (xs.length - j) = xs.drop j := List.take_of_length_le (by simp)
theorem cut_take {α : Type} (xs : List α) (j : Nat) : cutL none (some (j : Int)) xs = xs.take j := by simp [cutL]
theorem cut_drop {α : Type} (xs : List α) (j : Nat) : cutL (some (j : Int)) none xs = xs.drop j := by simp only [cutL, Option.getD_some, Option.getD_none, Int.toNat_natCast]; exact List.take_of_length_le (by simp)
theorem bnd_take {α : Type} (xs : List α) {j : Nat} (hj : j ≤ xs.length) : bndB none (some (j : Int)) none xs.length = true := by simp [bndB]; omega
theorem bnd_drop {α : Type} (xs : List α) {j : Nat} (hj : j ≤ xs.length) : bndB (some (j : Int)) none none xs.length = true := by simp [bndB]; omega
end Go.Rv
namespace Go.Rv
/-! A shard is told an outcome. -/
def keyB (y : BalT) : Int := y.1 * 3 + y.2.1
/-- The list with a place set: taken out at 0, else put where it belongs. -/
def setB (xs : List BalT) (a b v : Int) : List BalT := xs.filter (fun y => decide (keyB y < a * 3 + b)) ++ ((cond (v == 0) [] [(a, (b, v))]) ++ xs.filter (fun y => decide (a * 3 + b < keyB y)))
def GoodB (xs : List BalT) : Prop := (xs.Pairwise fun x y => keyB x < keyB y) ∧ ∀ y ∈ xs, plB y.1 y.2.1 = true
theorem plB_bnd {a b : Int} (h : plB a b = true) : 0 ≤ a ∧ a ≤ 5 ∧ 0 ≤ b ∧ b ≤ 2 := by
  unfold plB inB at h
  simp only [Bool.and_eq_true, decide_eq_true_eq] at h
  omega
theorem keyB_cmp {x y : BalT} (hx : plB x.1 x.2.1 = true) (hy : plB y.1 y.2.1 = true) : cmpP x y < 0 ↔ keyB x < keyB y := by
  have h1 := plB_bnd hx
  have h2 := plB_bnd hy
  rw [cmpP_lt]
  unfold keyB
  omega
theorem keyB_eq {x y : BalT} (hx : plB x.1 x.2.1 = true) (hy : plB y.1 y.2.1 = true) : keyB x = keyB y ↔ (x.1 = y.1 ∧ x.2.1 = y.2.1) := by
  have h1 := plB_bnd hx
  have h2 := plB_bnd hy
  unfold keyB
  omega
theorem keyB_hit {x : BalT} {a b : Int} (hx : plB x.1 x.2.1 = true) (hy : plB a b = true) : ((x.1 == a) && (x.2.1 == b)) = decide (keyB x = a * 3 + b) := by
  have h1 := plB_bnd hx
  have h2 := plB_bnd hy
  unfold keyB
  by_cases h : x.1 * 3 + x.2.1 = a * 3 + b
  · rw [decide_eq_true h]
    have e1 : x.1 = a := by omega
    have e2 : x.2.1 = b := by omega
    rw [e1, e2]; simp
  · rw [decide_eq_false h, Bool.and_eq_false_iff, beq_eq_false_iff_ne, beq_eq_false_iff_ne]
    omega
theorem upB_of {xs : List BalT} (h : GoodB xs) : ∀ i j (hi : i < xs.length) (hj : j < xs.length), i < j → cmpP xs[i] xs[j] < 0 := fun i j hi hj hij =>
  (keyB_cmp (h.2 _ (List.getElem_mem hi)) (h.2 _ (List.getElem_mem hj))).2 (List.pairwise_iff_getElem.1 h.1 i j hi hj hij)
theorem setB_mem {xs : List BalT} {a b v : Int} {y : BalT} (h : y ∈ setB xs a b v) : y ∈ xs ∨ y = (a, (b, v)) := by
  unfold setB at h
  rcases List.mem_append.1 h with h | h
  · exact .inl (List.mem_filter.1 h).1
  · rcases List.mem_append.1 h with h | h
    · cases hv : v == 0 with
      | true => rw [hv] at h; cases h
      | false => rw [hv] at h; exact .inr (by simpa using h)
    · exact .inl (List.mem_filter.1 h).1
theorem setB_good {xs : List BalT} {a b : Int} (v : Int) (h : GoodB xs) (hp : plB a b = true) : GoodB (setB xs a b v) := by
  constructor
  · unfold setB
    refine List.pairwise_append.2 ⟨h.1.sublist List.filter_sublist, List.pairwise_append.2 ⟨?_, h.1.sublist List.filter_sublist, ?_⟩, ?_⟩
    · cases v == 0 <;> simp
    · intro x hx y hy
      have h2 := of_decide_eq_true (List.mem_filter.1 hy).2
      cases hv : v == 0 with
      | true => rw [hv] at hx; cases hx
      | false =>
        rw [hv] at hx
        have : x = (a, (b, v)) := by simpa using hx
        rw [this]; exact h2
    · intro x hx y hy
      have h1 := of_decide_eq_true (List.mem_filter.1 hx).2
      rcases List.mem_append.1 hy with hy | hy
      · cases hv : v == 0 with
        | true => rw [hv] at hy; cases hy
        | false =>
          rw [hv] at hy
          have : y = (a, (b, v)) := by simpa using hy
          rw [this]; exact h1
      · have h2 := of_decide_eq_true (List.mem_filter.1 hy).2
        omega
  · intro y hy
    rcases setB_mem hy with hy | rfl
    · exact h.2 y hy
    · exact hp
theorem filter_two {xs : List BalT} (c : Int) : (xs.filter (fun y => decide (keyB y < c))).length + (xs.filter (fun y => decide (c < keyB y))).length ≤ xs.length := by
  induction xs with
  | nil => simp
  | cons x r ih =>
    simp only [List.filter_cons]
    by_cases h1 : keyB x < c
    · have h2 : ¬ c < keyB x := by omega
      simp only [h1, h2, decide_true, decide_false, if_true, Bool.false_eq_true, if_false, List.length_cons]; omega
    · by_cases h2 : c < keyB x <;> simp only [h1, h2, decide_true, decide_false, if_true, Bool.false_eq_true, if_false, List.length_cons] <;> omega
theorem setB_len (xs : List BalT) (a b v : Int) : (setB xs a b v).length ≤ xs.length + 1 := by
  unfold setB
  have := filter_two (xs := xs) (a * 3 + b)
  simp only [List.length_append]
  have : (cond (v == 0) [] [(a, (b, v))] : List BalT).length ≤ 1 := by cases v == 0 <;> simp
  omega
/-! What the reference does: a walk. -/
def setStep (a b v : Int) (st : List BalT × Bool) (y : BalT) : List BalT × Bool :=
  cond ((y.1 == a) && (y.2.1 == b)) st (cond (!st.2 && decide (a * 3 + b < keyB y)) (st.1 ++ [(a, (b, v))] ++ [y], true) (st.1 ++ [y], st.2))
theorem setStep_done (a b v : Int) (hp : plB a b = true) : ∀ (xs out : List BalT), (∀ y ∈ xs, plB y.1 y.2.1 = true) → xs.foldl (setStep a b v) (out, true) = (out ++ xs.filter (fun y => !(decide (keyB y = a * 3 + b))), true)
  | [], out, _ => by simp
  | y :: r, out, h => by
    have ih := fun o => setStep_done a b v hp r o (fun z hz => h z (List.mem_cons_of_mem _ hz))
    rw [List.foldl_cons]
    have e : setStep a b v (out, true) y = (cond (decide (keyB y = a * 3 + b)) out (out ++ [y]), true) := by
      unfold setStep
      rw [keyB_hit (h y (by simp)) hp]
      cases decide (keyB y = a * 3 + b) <;> rfl
    rw [e, ih, List.filter_cons]
    cases decide (keyB y = a * 3 + b) <;> simp
theorem setStep_open (a b v : Int) (hp : plB a b = true) : ∀ (xs out : List BalT), GoodB xs → (let st := xs.foldl (setStep a b v) (out, false); cond st.2 st.1 (st.1 ++ [(a, (b, v))])) = out ++ (xs.filter (fun y => decide (keyB y < a * 3 + b)) ++ ([(a, (b, v))] ++ xs.filter (fun y => decide (a * 3 + b < keyB y))))
  | [], out, _ => by simp
  | y :: r, out, h => by
    have hr : GoodB r := ⟨(List.pairwise_cons.1 h.1).2, fun z hz => h.2 z (List.mem_cons_of_mem _ hz)⟩
    have hy := (List.pairwise_cons.1 h.1).1
    have ih := fun o => setStep_open a b v hp r o hr
    rw [List.foldl_cons, List.filter_cons, List.filter_cons]
    rcases Int.lt_trichotomy (keyB y) (a * 3 + b) with q | q | q
    · have e : setStep a b v (out, false) y = (out ++ [y], false) := by
        unfold setStep
        rw [keyB_hit (h.2 y (by simp)) hp, decide_eq_false (show ¬ keyB y = a * 3 + b by omega), decide_eq_false (show ¬ a * 3 + b < keyB y by omega)]; rfl
      rw [e, ih, decide_eq_true q, decide_eq_false (show ¬ a * 3 + b < keyB y by omega)]
      simp
    · have e : setStep a b v (out, false) y = (out, false) := by
        unfold setStep
        rw [keyB_hit (h.2 y (by simp)) hp, decide_eq_true q]; rfl
      rw [e, ih, decide_eq_false (show ¬ keyB y < a * 3 + b by omega), decide_eq_false (show ¬ a * 3 + b < keyB y by omega)]
      simp
    · have e : setStep a b v (out, false) y = (out ++ [(a, (b, v))] ++ [y], true) := by
        unfold setStep
        rw [keyB_hit (h.2 y (by simp)) hp, decide_eq_false (show ¬ keyB y = a * 3 + b by omega), decide_eq_true q]; rfl
      rw [e, setStep_done a b v hp r _ hr.2, decide_eq_false (show ¬ keyB y < a * 3 + b by omega), decide_eq_true q]
      have f1 : r.filter (fun y => decide (keyB y < a * 3 + b)) = [] := by
        rw [List.filter_eq_nil_iff]; intro z hz; have := hy z hz; simp; omega
      have f2 : r.filter (fun y => !(decide (keyB y = a * 3 + b))) = r := by
        rw [List.filter_eq_self]; intro z hz; have := hy z hz; simp; omega
      have f3 : r.filter (fun y => decide (a * 3 + b < keyB y)) = r := by
        rw [List.filter_eq_self]; intro z hz; have := hy z hz; simp; omega
      rw [f1, f2, f3]
      simp
theorem filter_ne_split (c : Int) : ∀ xs : List BalT, (xs.Pairwise fun x y => keyB x < keyB y) → xs.filter (fun y => !(decide (keyB y = c))) = xs.filter (fun y => decide (keyB y < c)) ++ xs.filter (fun y => decide (c < keyB y))
  | [], _ => rfl
  | y :: r, h => by
    have ih := filter_ne_split c r (List.pairwise_cons.1 h).2
    have hy := (List.pairwise_cons.1 h).1
    rw [List.filter_cons, List.filter_cons, List.filter_cons]
    rcases Int.lt_trichotomy (keyB y) c with q | q | q
    · rw [decide_eq_false (show ¬ keyB y = c by omega), decide_eq_true q, decide_eq_false (show ¬ c < keyB y by omega), ih]; simp
    · rw [decide_eq_true q, decide_eq_false (show ¬ keyB y < c by omega), decide_eq_false (show ¬ c < keyB y by omega), ih]; simp
    · have f1 : r.filter (fun y => decide (keyB y < c)) = [] := by
        rw [List.filter_eq_nil_iff]; intro z hz; have := hy z hz; simp; omega
      rw [f1] at ih
      rw [decide_eq_false (show ¬ keyB y = c by omega), decide_eq_true q, decide_eq_false (show ¬ keyB y < c by omega), f1, ih]; simp
/-- The walk from the start: what is told at its end. -/
theorem setStep_all (a b v : Int) (hp : plB a b = true) (xs : List BalT) (h : GoodB xs) : (let st := xs.foldl (setStep a b v) ([], v == 0); cond st.2 st.1 (st.1 ++ [(a, (b, v))])) = setB xs a b v := by
  unfold setB
  cases hv : v == 0 with
  | true =>
    rw [setStep_done a b v hp xs [] h.2]
    show [] ++ _ = _
    rw [List.nil_append, filter_ne_split _ xs h.1]
    rfl
  | false =>
    have := setStep_open a b v hp xs [] h
    rw [List.nil_append] at this
    exact this
/-! What the program does: the place by a search. -/
theorem filter_at {α : Type} (p : α → Bool) {xs : List α} {j : Nat} (h1 : ∀ (i : Nat) (h : i < xs.length), i < j → p xs[i] = true) (h2 : ∀ (i : Nat) (h : i < xs.length), j ≤ i → p xs[i] = false) : xs.filter p = xs.take j := by
  conv => lhs; rw [← List.take_append_drop j xs]
  rw [List.filter_append]
  have e1 : (xs.take j).filter p = xs.take j := by
    rw [List.filter_eq_self]
    intro y hy
    obtain ⟨i, hi, rfl⟩ := List.getElem_of_mem hy
    rw [List.length_take] at hi
    rw [List.getElem_take]
    exact h1 i (by omega) (by omega)
  have e2 : (xs.drop j).filter p = [] := by
    rw [List.filter_eq_nil_iff]
    intro y hy
    obtain ⟨i, hi, rfl⟩ := List.getElem_of_mem hy
    rw [List.length_drop] at hi
    rw [List.getElem_drop, h2 (j + i) (by omega) (by omega)]
    exact Bool.false_ne_true
  rw [e1, e2, List.append_nil]
theorem filter_from {α : Type} (p : α → Bool) {xs : List α} {j : Nat} (h1 : ∀ (i : Nat) (h : i < xs.length), i < j → p xs[i] = false) (h2 : ∀ (i : Nat) (h : i < xs.length), j ≤ i → p xs[i] = true) : xs.filter p = xs.drop j := by
  conv => lhs; rw [← List.take_append_drop j xs]
  rw [List.filter_append]
  have e1 : (xs.take j).filter p = [] := by
    rw [List.filter_eq_nil_iff]
    intro y hy
    obtain ⟨i, hi, rfl⟩ := List.getElem_of_mem hy
    rw [List.length_take] at hi
    rw [List.getElem_take, h1 i (by omega) (by omega)]
    exact Bool.false_ne_true
  have e2 : (xs.drop j).filter p = xs.drop j := by
    rw [List.filter_eq_self]
    intro y hy
    obtain ⟨i, hi, rfl⟩ := List.getElem_of_mem hy
    rw [List.length_drop] at hi
    rw [List.getElem_drop]
    exact h2 (j + i) (by omega) (by omega)
  rw [e1, e2, List.nil_append]
/-- The first place that is not less: what stands ahead of it, what there, what behind. -/
theorem setB_at {xs : List BalT} {a b : Int} (v : Int) (h : GoodB xs) (hp : plB a b = true) {j : Nat} (h1 : ∀ (i : Nat) (hi : i < xs.length), i < j → keyB xs[i] < a * 3 + b) (h2 : ∀ (i : Nat) (hi : i < xs.length), j ≤ i → ¬ keyB xs[i] < a * 3 + b) :
    setB xs a b v = xs.take j ++ ((cond (v == 0) [] [(a, (b, v))]) ++ xs.drop (cond ((xs[j]?).elim false fun y => (y.1 == a) && (y.2.1 == b)) (j + 1) j)) := by
  unfold setB
  rw [filter_at (fun y => decide (keyB y < a * 3 + b)) (fun i hi q => decide_eq_true (h1 i hi q)) (fun i hi q => decide_eq_false (h2 i hi q))]
  congr 2
  by_cases hj : j < xs.length
  · rw [List.getElem?_eq_getElem hj, Option.elim_some]
    rw [keyB_hit (h.2 _ (List.getElem_mem hj)) hp]
    have hlt := h2 j hj (Nat.le_refl _)
    by_cases q : keyB xs[j] = a * 3 + b
    · rw [decide_eq_true q, cond_true]
      refine filter_from _ (fun i hi hij => decide_eq_false ?_) (fun i hi hij => decide_eq_true ?_)
      · rcases Nat.lt_or_ge i j with e | e
        · have := h1 i hi e; omega
        · have : i = j := by omega
          subst this; omega
      · have := List.pairwise_iff_getElem.1 h.1 j i hj hi (by omega); omega
    · rw [decide_eq_false q, cond_false]
      refine filter_from _ (fun i hi hij => decide_eq_false ?_) (fun i hi hij => decide_eq_true ?_)
      · have := h1 i hi hij; omega
      · rcases Nat.eq_or_lt_of_le hij with e | e
        · subst e; omega
        · have := List.pairwise_iff_getElem.1 h.1 j i hj hi e; omega
  · rw [List.getElem?_eq_none (by omega), Option.elim_none, cond_false]
    refine filter_from _ (fun i hi hij => decide_eq_false ?_) (fun i hi hij => by omega)
    have := h1 i hi (by omega); omega
/-! Legs added, one after the other. -/
def addL (xs : List BalT) (l : LegT) : List BalT := setB xs l.2.1 l.2.2.1 (IntKind.wrap .i64 (hasB xs l.2.1 l.2.2.1 + l.2.2.2))
theorem addL_fold : ∀ (ls : List LegT) (xs : List BalT), GoodB xs → (∀ l ∈ ls, plB l.2.1 l.2.2.1 = true) → GoodB (ls.foldl addL xs) ∧ (ls.foldl addL xs).length ≤ xs.length + ls.length
  | [], xs, h, _ => ⟨h, by simp⟩
  | l :: r, xs, h, hl => by
    have := addL_fold r (addL xs l) (setB_good _ h (hl l (by simp))) (fun z hz => hl z (List.mem_cons_of_mem _ hz))
    have h2 := setB_len xs l.2.1 l.2.2.1 (IntKind.wrap .i64 (hasB xs l.2.1 l.2.2.1 + l.2.2.2))
    rw [List.foldl_cons, List.length_cons]
    refine ⟨this.1, ?_⟩
    have h3 := this.2
    have h4 : (addL xs l).length ≤ xs.length + 1 := h2
    omega
/-! The contract that is told of, among those that are held. -/
def outS (s : ShdT) (c o : Int) : ShdT :=
  (s.1, (cond (o == 1) ((s.2.2.2.1.find? fun x => x.1 == c).elim s.2.1 fun x => (legsA x.2 s.1).foldl addL s.2.1) s.2.1, (s.2.2.1, (s.2.2.2.1.filter (fun x => !(x.1 == c)), (putAt s.2.2.2.2.1 (atK (·.1) s.2.2.2.2.1 c) (c, o), cond (o == 1) (s.2.2.2.2.2 ++ [c]) s.2.2.2.2.2)))))
def decS (s : ShdT) (c o : Int) : ShR :=
  cond (!(findM s.2.2.2.2.1 c == 0)) (cond (findM s.2.2.2.2.1 c == o) (0, (0, s)) (7, (0, zS5)))
   (cond ((o == 1) && !(s.2.2.2.1.any fun x => x.1 == c)) (1, (0, zS5)) (cond (decide (100 ≤ s.2.2.2.2.1.length)) (2, (0, zS5)) (0, (0, outS s c o))))
def decR (s : ShdT) (c o : Int) : ShR := cond (!(shardC s == 0)) (shardC s, (0, zS5)) (cond (!(idB c && vlu o)) (3, (0, zS5)) (decS s c o))
/-- The walk over those that are held meets it once at most. -/
def outStep (a c o : Int) (st : List ConT × (List BalT × List Int)) (x : ConT) : List ConT × (List BalT × List Int) :=
  cond (!(x.1 == c)) (st.1 ++ [x], st.2) (cond (o == 1) (st.1, ((legsA x.2 a).foldl addL st.2.1, st.2.2 ++ [c])) st)
theorem outStep_no (a c o : Int) : ∀ (xs : List ConT) (st : List ConT × (List BalT × List Int)), (∀ x ∈ xs, x.1 ≠ c) → xs.foldl (outStep a c o) st = (st.1 ++ xs, st.2)
  | [], st, _ => by simp
  | x :: r, st, h => by
    rw [List.foldl_cons]
    have hx : (x.1 == c) = false := by rw [beq_eq_false_iff_ne]; exact h x (by simp)
    have e : outStep a c o st x = (st.1 ++ [x], st.2) := by unfold outStep; rw [hx]; rfl
    rw [e, outStep_no a c o r _ (fun z hz => h z (List.mem_cons_of_mem _ hz))]
    simp
theorem outStep_all (a c o : Int) : ∀ (xs : List ConT) (h : List ConT) (b : List BalT) (ap : List Int), (xs.Pairwise fun x y => x.1 < y.1) → xs.foldl (outStep a c o) (h, (b, ap)) =
    (h ++ xs.filter (fun x => !(x.1 == c)), (cond (o == 1) ((xs.find? fun x => x.1 == c).elim b fun x => (legsA x.2 a).foldl addL b) b, cond ((o == 1) && (xs.any fun x => x.1 == c)) (ap ++ [c]) ap))
  | [], h, b, ap, _ => by cases o == 1 <;> simp
  | x :: r, h, b, ap, hp => by
    rw [List.foldl_cons, List.filter_cons, List.find?_cons, List.any_cons]
    cases hx : x.1 == c with
    | false =>
      have e : outStep a c o (h, (b, ap)) x = (h ++ [x], (b, ap)) := by unfold outStep; rw [hx]; rfl
      rw [e, outStep_all a c o r _ _ _ (List.pairwise_cons.1 hp).2]
      simp
    | true =>
      have hne : ∀ z ∈ r, z.1 ≠ c := fun z hz q => by
        have := (List.pairwise_cons.1 hp).1 z hz
        have := eq_of_beq hx
        omega
      have ef : r.filter (fun x => !(x.1 == c)) = r := by
        rw [List.filter_eq_self]; intro z hz; have := hne z hz; simpa using this
      rw [outStep_no a c o r _ hne, ef]
      unfold outStep
      rw [hx]
      cases o == 1 <;> simp
/-- A contract taken out at its place. -/
theorem filter_del {xs : List ConT} {c : Int} (hp : xs.Pairwise fun x y => x.1 < y.1) {j : Nat} (hj : j < xs.length) (h : xs[j].1 = c) : xs.filter (fun x => !(x.1 == c)) = xs.take j ++ xs.drop (j + 1) := by
  conv => lhs; rw [← List.take_append_drop j xs, List.drop_eq_getElem_cons hj]
  rw [List.filter_append, List.filter_cons]
  have e1 : (xs.take j).filter (fun x => !(x.1 == c)) = xs.take j := by
    rw [List.filter_eq_self]
    intro y hy
    obtain ⟨i, hi, rfl⟩ := List.getElem_of_mem hy
    rw [List.length_take] at hi
    rw [List.getElem_take]
    have := List.pairwise_iff_getElem.1 hp i j (by omega) hj (by omega)
    simp; omega
  have e2 : (xs.drop (j + 1)).filter (fun x => !(x.1 == c)) = xs.drop (j + 1) := by
    rw [List.filter_eq_self]
    intro y hy
    obtain ⟨i, hi, rfl⟩ := List.getElem_of_mem hy
    rw [List.length_drop] at hi
    rw [List.getElem_drop]
    have := List.pairwise_iff_getElem.1 hp j (j + 1 + i) hj (by omega) (by omega)
    simp; omega
  rw [e1, e2, h]
  simp
/-! The place in the middle. -/
theorem mid_get {α : Type} (A : List α) (x : α) (B : List α) : (A ++ ([x] ++ B))[A.length]? = some x := by simp
theorem mid_set {α : Type} (A : List α) (x y : α) (B : List α) : (A ++ ([x] ++ B)).set A.length y = A ++ ([y] ++ B) := by
  rw [List.set_append_right _ _ (Nat.le_refl _)]; simp
theorem mid_take {α : Type} (A : List α) (x : α) (B : List α) : (A ++ ([x] ++ B)).take A.length = A := by simp
theorem mid_drop {α : Type} (A : List α) (x : α) (B : List α) : (A ++ ([x] ++ B)).drop (A.length + 1) = B := by
  rw [List.drop_append, List.drop_eq_nil_of_le (by omega)]; simp
theorem find_congr {α : Type} (p q : α → Bool) : ∀ xs : List α, (∀ x ∈ xs, p x = q x) → xs.find? p = xs.find? q
  | [], _ => rfl
  | x :: r, h => by
    rw [List.find?_cons, List.find?_cons, h x (by simp), find_congr p q r (fun y hy => h y (List.mem_cons_of_mem _ hy))]
/-- What stands at the place found, and the list set there. -/
theorem setB_mid {xs : List BalT} {a b : Int} (h : GoodB xs) (hp : plB a b = true) {j : Nat} (hj : j ≤ xs.length) (h1 : ∀ (i : Nat) (hi : i < xs.length), i < j → keyB xs[i] < a * 3 + b) (h2 : ∀ (i : Nat) (hi : i < xs.length), j ≤ i → ¬ keyB xs[i] < a * 3 + b) :
    ∃ B, (∀ hlt : j < xs.length, ((xs[j].1 == a) && (xs[j].2.1 == b)) = true → xs = xs.take j ++ ([(a, (b, hasB xs a b))] ++ B)) ∧
      ((∀ hlt : j < xs.length, ((xs[j].1 == a) && (xs[j].2.1 == b)) = false) → hasB xs a b = 0 ∧ B = xs.drop j) ∧ ∀ v, setB xs a b v = xs.take j ++ ((cond (v == 0) [] [(a, (b, v))]) ++ B) := by
  refine ⟨_, fun hlt hh => ?_, fun hn => ?_, fun v => setB_at v h hp h1 h2⟩
  · rw [List.getElem?_eq_getElem hlt, Option.elim_some, hh, cond_true]
    have ef : xs.find? (fun y => (y.1 == a) && (y.2.1 == b)) = some xs[j] := by
      rw [find_congr _ (fun m => keyB m == a * 3 + b) xs (fun x hx => by rw [keyB_hit (h.2 x hx) hp]; rfl), up_find keyB h.1 (a * 3 + b) j hj h1 h2, dif_pos hlt, if_pos]
      rw [keyB_hit (h.2 _ (List.getElem_mem hlt)) hp] at hh
      exact of_decide_eq_true hh
    have e : (a, (b, hasB xs a b)) = xs[j] := by
      unfold hasB
      rw [ef, Option.map_some, Option.getD_some]
      simp only [Bool.and_eq_true, beq_iff_eq] at hh
      rw [← hh.1, ← hh.2]
    rw [e]
    show xs = xs.take j ++ (xs[j] :: xs.drop (j + 1))
    rw [← List.drop_eq_getElem_cons hlt, List.take_append_drop]
  · have ef : xs.find? (fun y => (y.1 == a) && (y.2.1 == b)) = none := by
      rw [find_congr _ (fun m => keyB m == a * 3 + b) xs (fun x hx => by rw [keyB_hit (h.2 x hx) hp]; rfl), up_find keyB h.1 (a * 3 + b) j hj h1 h2]
      by_cases hlt : j < xs.length
      · have := hn hlt
        rw [keyB_hit (h.2 _ (List.getElem_mem hlt)) hp] at this
        rw [dif_pos hlt, if_neg (of_decide_eq_false this)]
      · rw [dif_neg hlt]
    constructor
    · unfold hasB; rw [ef]; rfl
    · by_cases hlt : j < xs.length
      · rw [List.getElem?_eq_getElem hlt, Option.elim_some, hn hlt, cond_false]
      · rw [List.getElem?_eq_none (by omega), Option.elim_none, cond_false]
theorem good_upB {xs : List BalT} (h : GoodB xs) {i k : Nat} (hi : i < xs.length) (hk : k < xs.length) (hik : i ≤ k) {y : BalT} (hp : plB y.1 y.2.1 = true) (hc : cmpP xs[k] y < 0) : cmpP xs[i] y < 0 := by
  rw [keyB_cmp (h.2 _ (List.getElem_mem _)) hp] at hc ⊢
  rcases Nat.eq_or_lt_of_le hik with e | e
  · subst e; exact hc
  · have := List.pairwise_iff_getElem.1 h.1 i k hi hk e; omega
/-- Those held: the one told of, at its place. -/
theorem held_one {xs : List ConT} {c : Int} (hp : xs.Pairwise fun x y => x.1 < y.1) {j : Nat} (hj : j ≤ xs.length) (h1 : ∀ (i : Nat) (h : i < xs.length), i < j → xs[i].1 < c) (h2 : ∀ (i : Nat) (h : i < xs.length), j ≤ i → ¬ xs[i].1 < c) (f : Bool) (hf : ∀ hlt : j < xs.length, f = (xs[j].1 == c)) (hn : ¬ j < xs.length → f = false) :
    (xs.any fun x => x.1 == c) = f ∧ (f = true → ∃ hlt : j < xs.length, xs[j].1 = c ∧ xs.find? (fun x => x.1 == c) = some xs[j]) := by
  have e := up_find (fun x : ConT => x.1) hp c j hj h1 h2
  by_cases hlt : j < xs.length
  · rw [dif_pos hlt] at e
    have hf := hf hlt
    by_cases hc : xs[j].1 = c
    · rw [if_pos hc] at e
      rw [hc, beq_self_eq_true] at hf
      refine ⟨?_, fun _ => ⟨hlt, hc, e⟩⟩
      rw [hf, List.any_eq_true]
      exact ⟨xs[j], List.getElem_mem hlt, by simpa using hc⟩
    · rw [if_neg hc] at e
      have : (xs[j].1 == c) = false := by simpa using hc
      rw [this] at hf
      refine ⟨?_, fun q => by rw [hf] at q; cases q⟩
      rw [hf, List.any_eq_false]
      intro x hx
      exact List.find?_eq_none.1 e x hx
  · rw [dif_neg hlt] at e
    have hf := hn hlt
    refine ⟨?_, fun q => by rw [hf] at q; cases q⟩
    rw [hf, List.any_eq_false]
    intro x hx
    exact List.find?_eq_none.1 e x hx
theorem balCode_good {xs : List BalT} (hu : xs.Pairwise fun a b => cmpP a b < 0) (hok : ∀ b ∈ xs, okBal b = true) : GoodB xs := by
  have hp : ∀ y ∈ xs, plB y.1 y.2.1 = true := fun y hy => by
    have := hok y hy
    unfold okBal at this
    simp only [Bool.and_eq_true] at this
    exact this.1
  refine ⟨List.pairwise_iff_getElem.2 fun i j hi hj hij => ?_, hp⟩
  exact (keyB_cmp (hp _ (List.getElem_mem hi)) (hp _ (List.getElem_mem hj))).1 (List.pairwise_iff_getElem.1 hu i j hi hj hij)
theorem legStep_ne (xs : List LegT) (i : Nat) (l : LegT) : legStep xs i l ≠ some 0 := by
  unfold legStep
  cases hc : legC l == 0 with
  | true => cases (xs.take i).any fun o => sameP o l <;> simp
  | false =>
    simp only [cond_false, ne_eq, Option.some.injEq]
    simpa using hc
theorem conC_none {c : ConT} (h : conC c = 0) : fstI (legStep c.2) 0 c.2 = none := by
  refine (fst_getD (legStep_ne c.2) c.2 0).1 ?_
  unfold conC at h
  cases h1 : idB c.1 with
  | false => rw [h1] at h; exact absurd (show (3 : Int) = 0 from h) (by decide)
  | true =>
    rw [h1] at h
    simp only [Bool.not_true, cond_false] at h
    by_cases hl : c.2.length < 2 ∨ 8 < c.2.length
    · rw [if_pos hl] at h; exact absurd h (by decide)
    · rw [if_neg hl] at h
      cases hf : fstI (legStep c.2) 0 c.2 with
      | none => rfl
      | some r => rw [hf] at h; exact h
theorem conC_pl {c : ConT} (h : conC c = 0) : ∀ l ∈ c.2, plB l.2.1 l.2.2.1 = true := fun l hl => by
  have := legC_zero (fst_ok c.2 0 (conC_none h) l hl)
  unfold plB inB
  simp only [Bool.and_eq_true, decide_eq_true_eq]
  exact ⟨this.2.1, this.2.2.1⟩
end Go.Rv
