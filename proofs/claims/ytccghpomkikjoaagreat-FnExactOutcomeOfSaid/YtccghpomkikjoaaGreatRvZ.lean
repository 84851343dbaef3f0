/- Contracts over several shards: plain facts. No condition. -/
import Derived.Test.YtccghpomkikjoaaGreatRvU
import Derived.Test.YtccghpomkikjoaaGreatRvV
namespace Go.Rv
/-! Contracts over several shards: plain facts. -/
theorem dd_up : ∀ (xs : List Int), xs.Pairwise (· ≤ ·) → (dd xs).Pairwise (· < ·)
  | [], _ => List.Pairwise.nil
  | [x], _ => by simp [dd]
  | x :: y :: r, h => by
    obtain ⟨h1, h2⟩ := List.pairwise_cons.1 h
    have ih := dd_up (y :: r) h2
    simp only [dd]
    cases hc : x == y with
    | true => exact ih
    | false =>
      refine List.pairwise_cons.2 ⟨fun z hz => ?_, ih⟩
      rw [dd_mem] at hz
      have hxy : x ≠ y := by simpa using hc
      have h3 := h1 y (by simp)
      have h4 : y ≤ z := by
        rcases List.mem_cons.1 hz with rfl | hz
        · exact Int.le_refl _
        · exact (List.pairwise_cons.1 h2).1 z hz
      omega
theorem conC_zero {c : ConT} (h : conC c = 0) : idB c.1 = true ∧ c.2.length ≤ 8 ∧ ∀ l ∈ c.2, shB l.1 = true := by
  unfold conC at h
  cases h1 : idB c.1 with
  | false => rw [h1] at h; exact absurd (show (3 : Int) = 0 from h) (by decide)
  | true =>
    rw [h1] at h
    simp only [Bool.not_true, cond_false] at h
    split at h
    · exact absurd h (by decide)
    · rename_i hl
      refine ⟨rfl, by omega, ?_⟩
      have hf : fstI (legStep c.2) 0 c.2 = none := by
        cases hs : fstI (legStep c.2) 0 c.2 with
        | none => rfl
        | some r =>
          rw [hs] at h
          simp only at h
          exfalso
          have key : ∀ (ys : List LegT) (i : Nat), fstI (legStep c.2) i ys = some r → r ≠ 0 := by
            intro ys
            induction ys with
            | nil => intro i h; cases h
            | cons y ys ih =>
              intro i h
              simp only [fstI] at h
              cases hq : legStep c.2 i y with
              | none => rw [hq] at h; exact ih (i + 1) h
              | some q =>
                rw [hq] at h
                simp only [Option.some.injEq] at h
                subst h
                unfold legStep at hq
                cases hc : legC y == 0 with
                | true =>
                  rw [hc] at hq
                  cases hd : (c.2.take i).any fun o => sameP o y with
                  | true => rw [hd] at hq; simp only [cond_true, Option.some.injEq] at hq; omega
                  | false => rw [hd] at hq; cases hq
                | false =>
                  rw [hc] at hq
                  simp only [cond_false, Option.some.injEq] at hq
                  rw [← hq]; simpa using hc
          exact key _ _ hs h
      intro l hl
      exact (legC_zero (fst_ok c.2 0 hf l hl)).1
/-- The value that is chosen, or 0. -/
noncomputable def chV (xs : List SlotT) : Int := open Classical in if h : ∃ out, chosenOK xs out then (match Classical.choose h with | [] => 0 | v :: _ => v.2) else 0
theorem chV_eq {xs : List SlotT} {out : List VoteT} (h : chosenOK xs out) : chV xs = match out with | [] => 0 | v :: _ => v.2 := by
  unfold chV
  have hex : ∃ out, chosenOK xs out := ⟨out, h⟩
  rw [dif_pos hex, chosen_same (Classical.choose_spec hex) h]
  cases out <;> rfl
/-- 2: something was refused; 0: something is open; 1: all is settled. -/
def outc (b : Bool) (vs : List Int) : Int := cond (vs.any (· == 2)) 2 (cond (b && !(vs.any (· == 0))) 1 0)
theorem outc_cons (b : Bool) (v : Int) (vs : List Int) : outc b (v :: vs) = cond (v == 2) 2 (outc (b && !(v == 0)) vs) := by
  unfold outc
  simp only [List.any_cons]
  cases h2 : v == 2 with
  | true => rfl
  | false =>
    simp only [Bool.false_or, cond_false]
    cases vs.any (· == 2) with
    | true => rfl
    | false => cases b <;> cases (v == 0) <;> cases vs.any (· == 0) <;> rfl
theorem outc_nil (b : Bool) : outc b [] = cond b 1 0 := by cases b <;> rfl
end Go.Rv
