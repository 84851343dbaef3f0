/- Votes: plain facts. No condition. -/
import Derived.Test.YtjamkpjjlpmofaaGreatRvM
import Derived.Test.YtjamkpjjlpmofaaGreatRvMo
namespace Go.Rv
abbrev VoteT := Int × Int
def ordV (u v : VoteT) : Prop := u.1 ≤ v.1 ∧ (u.1 = v.1 → u = v)

theorem castGo_ord : ∀ (xs : List VoteT) (p : Option VoteT),castGo p xs = 0 → (∀ u,p = some u → ∀ v ∈ xs,ordV u v) ∧ xs.Pairwise ordV ∧ ∀ v ∈ xs,votB v = true
 | [],p,_ => ⟨fun _ _ v h => absurd h (by simp),List.Pairwise.nil,fun v h => absurd h (by simp)⟩
 | v :: r,p,h => by
  simp only [castGo] at h
  cases hv : votB v with
  | false => rw [hv] at h; simp at h
  | true =>
   rw [hv] at h
   simp only [Bool.not_true,cond_false] at h
   have hb : ∀ u,p = some u → badP u v = false := by
    intro u hu
    subst hu
    cases hb : badP u v with
    | false => rfl
    | true => simp only [hb,cond_true] at h; cases h
   have hg : castGo (some v) r = 0 := by
    cases p with
    | none => simpa using h
    | some u => simpa only [hb u rfl,cond_false] using h
   obtain ⟨h1,h2,h3⟩ := castGo_ord r (some v) hg
   have hpv : ∀ u,p = some u → ordV u v := by
    intro u hu
    have hb := hb u hu
    simp only [badP,Bool.or_eq_false_iff,decide_eq_false_iff_not,Bool.and_eq_false_iff,Bool.not_eq_false',beq_eq_false_iff_ne,beq_iff_eq] at hb
    obtain ⟨q1,q2⟩ := hb
    refine ⟨by omega,fun e => ?_⟩
    obtain ⟨u1,u2⟩ := u; obtain ⟨v1,v2⟩ := v
    simp only at q1 q2 e
    rcases q2 with q2 | q2
    ·exact absurd e.symm q2
    ·rw [e,q2]
   refine ⟨fun u hu w hw => ?_,List.pairwise_cons.2 ⟨h1 v rfl,h2⟩,fun w hw => ?_⟩
   ·rcases List.mem_cons.1 hw with rfl | hw
    ·exact hpv u hu
    ·have a := hpv u hu
     have b := h1 v rfl w hw
     refine ⟨Int.le_trans a.1 b.1,fun e => ?_⟩
     have e1 : u.1 = v.1 := by have := a.1; have := b.1; omega
     rw [a.2 e1] at e ⊢
     exact b.2 e
   ·rcases List.mem_cons.1 hw with rfl | hw
    ·exact hv
    ·exact h3 w hw

def quo (n : Nat) : Nat := n / 2 + 1
end Go.Rv
namespace Go.Rv
end Go.Rv
