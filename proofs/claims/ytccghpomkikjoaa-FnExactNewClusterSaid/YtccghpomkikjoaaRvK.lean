/- Ledgers and new clusters: plain facts. No condition. -/
import Derived.Test.YtccghpomkikjoaaRvV
namespace Go.Rv
/-! Ledgers, and new clusters. -/
def ledF (y : List BalT) : Option Int := cond (!(balCode y == 0)) (some (balCode y)) none
def ledCode (g : List (List BalT)) : Int := cond (!(inB (g.length : Int) 1 3)) 2 (match fstI (fun _ y => ledF y) 0 g with | some r => r | none => 0)
theorem ledCode_zero {g : List (List BalT)} (h : ledCode g = 0) : 1 ≤ g.length ∧ g.length ≤ 3 ∧ ∀ y ∈ g, balCode y = 0 := by
  unfold ledCode at h
  cases hb : inB (g.length : Int) 1 3 with
  | false => rw [hb] at h; exact absurd (show (2 : Int) = 0 from h) (by decide)
  | true =>
    rw [hb] at h
    simp only [inB, Bool.and_eq_true, decide_eq_true_eq] at hb
    refine ⟨by omega, by omega, ?_⟩
    have key : ∀ (ys : List (List BalT)) (i : Nat), (∀ r, fstI (fun _ y => ledF y) i ys = some r → r = 0) → ∀ y ∈ ys, balCode y = 0 := by
      intro ys
      induction ys with
      | nil => intro i _ y hy; cases hy
      | cons y ys ih =>
        intro i hr z hz
        simp only [fstI] at hr
        cases hc : balCode y == 0 with
        | false =>
          have e : ledF y = some (balCode y) := by unfold ledF; rw [hc]; rfl
          rw [e] at hr
          have := hr _ rfl
          rw [this] at hc; cases hc
        | true =>
          have e : ledF y = none := by unfold ledF; rw [hc]; rfl
          rw [e] at hr
          rcases List.mem_cons.1 hz with rfl | hz
          · exact eq_of_beq hc
          · exact ih (i + 1) hr z hz
    refine key g 0 fun r hr => ?_
    rw [hr] at h
    exact h
abbrev LdT := Int × (List (Int × (Int × (Int × (Int × (List Int × List (Int × Int)))))) × List (Int × (Int × (Int × (Int × Int)))))
abbrev ClT := List ConT × (List ShT × (List (List SlotT) × (List LdT × List MsgT)))
def zCl : ClT := ([], ([], ([], ([], []))))
def putSh (s : List ShT) (b : List BalT) : List ShT := s ++ [((s.length : Int), (b, ([], ([], ([], [])))))]
def newC (g : List (List BalT)) (n : Int) : Int × ClT := cond (!(ledCode g == 0)) (ledCode g, zCl) (cond (!(inB n 1 5)) (3, zCl) (0, ([], (g.foldl putSh [], (List.replicate n.toNat [], (List.replicate 2 (0, ([], [])), []))))))
theorem putSh_len : ∀ (g : List (List BalT)) (s : List ShT), (g.foldl putSh s).length = s.length + g.length
  | [], s => rfl
  | b :: g, s => by rw [List.foldl_cons, putSh_len g]; unfold putSh; simp; omega
theorem putSh_mem : ∀ (g : List (List BalT)) (s : List ShT) (x : ShT), x ∈ g.foldl putSh s → x ∈ s ∨ ∃ b ∈ g, x.2 = (b, ([], ([], ([], []))))
  | [], s, x, h => .inl h
  | b :: g, s, x, h => by
    rw [List.foldl_cons] at h
    rcases putSh_mem g _ x h with h | ⟨c, hc, he⟩
    · unfold putSh at h
      rcases List.mem_append.1 h with h | h
      · exact .inl h
      · rw [List.mem_singleton.1 h]; exact .inr ⟨b, List.mem_cons_self, rfl⟩
    · exact .inr ⟨c, List.mem_cons_of_mem _ hc, he⟩
end Go.Rv
