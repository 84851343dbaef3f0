/- A vote of a shard: plain facts. No condition. -/
import Derived.Test.YtjamkpjjlpmofaaGreatRvU
import Derived.Test.YtjamkpjjlpmofaaGreatRvM
namespace Go.Rv
theorem shardC_len {s : ShdT} (h : shardC s = 0) : s.2.1.length ≤ 18 ∧ s.2.2.1.length ≤ 100 ∧ s.2.2.2.1.length ≤ 100 ∧ s.2.2.2.2.1.length ≤ 100 ∧ s.2.2.2.2.2.length ≤ 100 := by
 unfold shardC at h
 cases hi : inB s.1 0 2 with
 | false => rw [hi] at h; exact absurd (show (3 : Int) = 0 from h) (by decide)
 | true =>
  rw [hi] at h
  simp only [Bool.not_true,cond_false] at h
  by_cases hb : balCode s.2.1 = 0
  ·rw [if_neg (fun h => h hb)] at h
   have := balCode_len hb
   by_cases hl : 100 < s.2.2.1.length ∨ 100 < s.2.2.2.1.length ∨ 100 < s.2.2.2.2.1.length ∨ 100 < s.2.2.2.2.2.length
   ·rw [if_pos hl] at h; exact absurd h (by decide)
   ·omega
  ·rw [if_pos hb] at h; exact absurd h hb
theorem shardC_zero {s : ShdT} (h : shardC s = 0) : inB s.1 0 2 = true ∧ balCode s.2.1 = 0 ∧ markC s.2.2.1 = 0 ∧ markC s.2.2.2.2.1 = 0 ∧ heldC s = 0 ∧ (s.2.2.1.any (openB s) = false) ∧ appB s = true ∧ fstI (meetStep s) 0 s.2.2.2.1 = none ∧ ∀ c ∈ s.2.2.2.1,legsB s.2.1 (legsA c.2 s.1) = 0 := by
 have hlen := shardC_len h
 unfold shardC at h
 cases hi : inB s.1 0 2 with
 | false => rw [hi] at h; exact absurd (show (3 : Int) = 0 from h) (by decide)
 | true =>
  rw [hi] at h
  simp only [Bool.not_true,cond_false] at h
  by_cases hb : balCode s.2.1 = 0
  ·rw [if_neg (fun h => h hb),if_neg (by omega)] at h
   by_cases hm : markC s.2.2.1 = 0
   ·rw [if_neg (fun h => h hm)] at h
    by_cases hd : markC s.2.2.2.2.1 = 0
    ·rw [if_neg (fun h => h hd)] at h
     unfold heldAll at h
     by_cases hh : heldC s = 0
     ·rw [if_neg (fun h => h hh)] at h
      cases ho : s.2.2.1.any (openB s) || !(appB s) with
      | true => rw [ho] at h; exact absurd (show (1 : Int) = 0 from h) (by decide)
      | false =>
       rw [ho] at h
       simp only [Bool.or_eq_false_iff,Bool.not_eq_false'] at ho
       simp only [cond_false] at h
       have hmt : fstI (meetStep s) 0 s.2.2.2.1 = none := by
        cases hf : fstI (meetStep s) 0 s.2.2.2.1 with
        | none => rfl
        | some r =>
         exfalso
         rw [hf,Option.getD_some] at h
         have ne : ∀ i x,meetStep s i x ≠ some 0 := fun i x => by
          unfold meetStep
          cases (s.2.2.2.1.take i).any fun o => touchL (legsA x.2 s.1) (legsA o.2 s.1) <;> simp
         have := (fst_getD ne s.2.2.2.1 0).1 (by rw [hf]; exact h)
         rw [hf] at this; cases this
       rw [hmt,Option.getD_none] at h
       have hn := (fst_getD (fun i x => nz_ne _) s.2.2.2.1 0).1 h
       refine ⟨rfl,hb,hm,hd,hh,ho.1,ho.2,hmt,fun c hc => ?_⟩
       obtain ⟨j,hj,rfl⟩ := List.getElem_of_mem hc
       have := fst_none hn j hj
       unfold nz at this
       cases hq : legsB s.2.1 (legsA s.2.2.2.1[j].2 s.1) == 0 with
       | true => exact eq_of_beq hq
       | false => rw [hq] at this; cases this
     ·rw [if_pos hh] at h; exact absurd h hh
    ·rw [if_pos hd] at h; exact absurd h hd
   ·rw [if_pos hm] at h; exact absurd h hm
  ·rw [if_pos hb] at h; exact absurd h hb
theorem bnd_take {α : Type} (xs : List α) {j : Nat} (hj : j ≤ xs.length) : bndB none (some (j : Int)) none xs.length = true := by simp [bndB]; omega
end Go.Rv
namespace Go.Rv
end Go.Rv
