/- A vote of a shard: plain facts. No condition. -/
import Derived.Test.YtccghpomkikjoaaGreatRvU
import Derived.Test.YtccghpomkikjoaaGreatRvM
namespace Go.Rv
/-! A shard's vote. -/
/-- The first place whose key is not less. -/
def atK {α : Type} (k : α → Int) (xs : List α) (c : Int) : Nat := (xs.findIdx? fun y => !(decide (k y < c))).getD xs.length
def putAt {α : Type} (xs : List α) (j : Nat) (x : α) : List α := xs.take j ++ [x] ++ xs.drop j
theorem atK_le {α : Type} (k : α → Int) (xs : List α) (c : Int) : atK k xs c ≤ xs.length := by
  unfold atK
  cases h : xs.findIdx? (fun y => !(decide (k y < c))) with
  | none => exact Nat.le_refl _
  | some j => exact Nat.le_of_lt (List.findIdx?_eq_some_iff_getElem.1 h).1
theorem atK_of {α : Type} (k : α → Int) {xs : List α} {c : Int} {j : Nat} (hj : j ≤ xs.length) (h1 : ∀ (i : Nat) (h : i < xs.length), i < j → k xs[i] < c) (h2 : ∀ (i : Nat) (h : i < xs.length), j ≤ i → ¬ k xs[i] < c) : atK k xs c = j := by
  unfold atK
  by_cases hlt : j < xs.length
  · have : xs.findIdx? (fun y => !(decide (k y < c))) = some j := by
      rw [List.findIdx?_eq_some_iff_getElem]
      refine ⟨hlt, by simp [h2 j hlt (Nat.le_refl _)], fun i hij => by simp [h1 i (by omega) hij]⟩
    rw [this]; rfl
  · have : xs.findIdx? (fun y => !(decide (k y < c))) = none := by
      rw [List.findIdx?_eq_none_iff]
      intro y hy
      obtain ⟨i, hi, rfl⟩ := List.getElem_of_mem hy
      simp [h1 i hi (by omega)]
    rw [this]
    show xs.length = j
    omega
theorem putAt_len {α : Type} (xs : List α) {j : Nat} (hj : j ≤ xs.length) (x : α) : (putAt xs j x).length = xs.length + 1 := by
  unfold putAt; simp; omega
theorem putAt_mem {α : Type} (xs : List α) (j : Nat) (x y : α) : y ∈ putAt xs j x ↔ y ∈ xs ∨ y = x := by
  unfold putAt
  have e := List.take_append_drop j xs
  constructor
  · intro h
    simp only [List.mem_append, List.mem_singleton] at h
    rcases h with (h | h) | h
    · exact .inl (List.mem_of_mem_take h)
    · exact .inr h
    · exact .inl (List.mem_of_mem_drop h)
  · rintro (h | h)
    · rw [← e] at h
      simp only [List.mem_append, List.mem_singleton] at h ⊢
      rcases h with h | h
      · exact .inl (.inl h)
      · exact .inr h
    · simp [h]
def readyB (s : ShdT) (c : ConT) : Bool := (findM s.2.2.2.2.1 c.1 == 0) && (!(s.2.2.2.1.any fun o => touchL (legsA c.2 s.1) (legsA o.2 s.1)) && (legsB s.2.1 (legsA c.2 s.1) == 0))
def zS5 : ShdT := (0, ([], ([], ([], ([], [])))))
abbrev ShR := Int × (Int × ShdT)
def votedS (s : ShdT) (c : ConT) : ShR := cond (readyB s c)
  (0, (1, (s.1, (s.2.1, (putAt s.2.2.1 (atK (·.1) s.2.2.1 c.1) (c.1, 1), (putAt s.2.2.2.1 (atK (·.1) s.2.2.2.1 c.1) c, s.2.2.2.2))))))
  (0, (2, (s.1, (s.2.1, (putAt s.2.2.1 (atK (·.1) s.2.2.1 c.1) (c.1, 2), s.2.2.2)))))
def voteS (s : ShdT) (c : ConT) : ShR := cond (!(findM s.2.2.1 c.1 == 0)) (0, (findM s.2.2.1 c.1, s)) (cond (decide (100 ≤ s.2.2.1.length)) (2, (0, zS5)) (votedS s c))
def voteR (s : ShdT) (c : ConT) : ShR := cond (!(shardC s == 0)) (shardC s, (0, zS5)) (cond (!(conC c == 0)) (conC c, (0, zS5)) (cond (legsA c.2 s.1).isEmpty (4, (0, zS5)) (voteS s c)))
theorem shardC_len {s : ShdT} (h : shardC s = 0) : s.2.1.length ≤ 18 ∧ s.2.2.1.length ≤ 100 ∧ s.2.2.2.1.length ≤ 100 ∧ s.2.2.2.2.1.length ≤ 100 ∧ s.2.2.2.2.2.length ≤ 100 := by
  unfold shardC at h
  cases hi : inB s.1 0 2 with
  | false => rw [hi] at h; exact absurd (show (3 : Int) = 0 from h) (by decide)
  | true =>
    rw [hi] at h
    simp only [Bool.not_true, cond_false] at h
    by_cases hb : balCode s.2.1 = 0
    · rw [if_neg (fun h => h hb)] at h
      have := balCode_len hb
      by_cases hl : 100 < s.2.2.1.length ∨ 100 < s.2.2.2.1.length ∨ 100 < s.2.2.2.2.1.length ∨ 100 < s.2.2.2.2.2.length
      · rw [if_pos hl] at h; exact absurd h (by decide)
      · omega
    · rw [if_pos hb] at h; exact absurd h hb
/-- What a shard without fault is. -/
theorem shardC_zero {s : ShdT} (h : shardC s = 0) : inB s.1 0 2 = true ∧ balCode s.2.1 = 0 ∧ markC s.2.2.1 = 0 ∧ markC s.2.2.2.2.1 = 0 ∧ heldC s = 0 ∧ (s.2.2.1.any (openB s) = false) ∧ appB s = true ∧ fstI (meetStep s) 0 s.2.2.2.1 = none ∧ ∀ c ∈ s.2.2.2.1, legsB s.2.1 (legsA c.2 s.1) = 0 := by
  have hlen := shardC_len h
  unfold shardC at h
  cases hi : inB s.1 0 2 with
  | false => rw [hi] at h; exact absurd (show (3 : Int) = 0 from h) (by decide)
  | true =>
    rw [hi] at h
    simp only [Bool.not_true, cond_false] at h
    by_cases hb : balCode s.2.1 = 0
    · rw [if_neg (fun h => h hb), if_neg (by omega)] at h
      by_cases hm : markC s.2.2.1 = 0
      · rw [if_neg (fun h => h hm)] at h
        by_cases hd : markC s.2.2.2.2.1 = 0
        · rw [if_neg (fun h => h hd)] at h
          unfold heldAll at h
          by_cases hh : heldC s = 0
          · rw [if_neg (fun h => h hh)] at h
            cases ho : s.2.2.1.any (openB s) || !(appB s) with
            | true => rw [ho] at h; exact absurd (show (1 : Int) = 0 from h) (by decide)
            | false =>
              rw [ho] at h
              simp only [Bool.or_eq_false_iff, Bool.not_eq_false'] at ho
              simp only [cond_false] at h
              have hmt : fstI (meetStep s) 0 s.2.2.2.1 = none := by
                cases hf : fstI (meetStep s) 0 s.2.2.2.1 with
                | none => rfl
                | some r =>
                  exfalso
                  rw [hf, Option.getD_some] at h
                  have ne : ∀ i x, meetStep s i x ≠ some 0 := fun i x => by
                    unfold meetStep
                    cases (s.2.2.2.1.take i).any fun o => touchL (legsA x.2 s.1) (legsA o.2 s.1) <;> simp
                  have := (fst_getD ne s.2.2.2.1 0).1 (by rw [hf]; exact h)
                  rw [hf] at this; cases this
              rw [hmt, Option.getD_none] at h
              have hn := (fst_getD (fun i x => nz_ne _) s.2.2.2.1 0).1 h
              refine ⟨rfl, hb, hm, hd, hh, ho.1, ho.2, hmt, fun c hc => ?_⟩
              obtain ⟨j, hj, rfl⟩ := List.getElem_of_mem hc
              have := fst_none hn j hj
              unfold nz at this
              cases hq : legsB s.2.1 (legsA s.2.2.2.1[j].2 s.1) == 0 with
              | true => exact eq_of_beq hq
              | false => rw [hq] at this; cases this
          · rw [if_pos hh] at h; exact absurd h hh
        · rw [if_pos hd] at h; exact absurd h hd
      · rw [if_pos hm] at h; exact absurd h hm
    · rw [if_pos hb] at h; exact absurd h hb
theorem drop_take_all {α : Type} (xs : List α) (j : Nat) : (xs.drop j).take (xs.length - j) = xs.drop j := List.take_of_length_le (by simp)
theorem cut_take {α : Type} (xs : List α) (j : Nat) : cutL none (some (j : Int)) xs = xs.take j := by simp [cutL]
theorem cut_drop {α : Type} (xs : List α) (j : Nat) : cutL (some (j : Int)) none xs = xs.drop j := by simp only [cutL, Option.getD_some, Option.getD_none, Int.toNat_natCast]; exact List.take_of_length_le (by simp)
theorem bnd_take {α : Type} (xs : List α) {j : Nat} (hj : j ≤ xs.length) : bndB none (some (j : Int)) none xs.length = true := by simp [bndB]; omega
theorem bnd_drop {α : Type} (xs : List α) {j : Nat} (hj : j ≤ xs.length) : bndB (some (j : Int)) none none xs.length = true := by simp [bndB]; omega
end Go.Rv
