/- The plain law: spec and program answer alike, for FnExactNewSlot. Condition: the data are such as can come in. -/
import Derived.Test.YtekndmbpphncmaaRvP6
import Derived.Test.YtekndmbpphncmaaRvM
namespace Go.RvP
open Go.Rv
theorem t_spec_l1In (a b c : Int) : m_spec_l1In (a, b, c) = some (inB a b c) := by
  show p_spec_l1In FU _ = _
  unfold p_spec_l1In inB
  by_cases h : b ≤ a <;> simp [h]

theorem t_spec_l1Id (a : Int) : m_spec_l1Id a = some (idB a) := by
  show p_spec_l1Id FU _ = _
  unfold p_spec_l1Id idB
  rw [t_spec_l1In]; rfl

theorem t_spec_l8None : m_spec_l8None () = some (-1, 0) := rfl

def newR (a b : Int) : Int × ((Int × Int) × SlotT) := cond (!(idB a && shB b)) (3, zS) (0, ((0, 0), (a, (b, (-1, ((-1, 0), []))))))
theorem t_spec_NewSlot (a b : Int) : m_spec_NewSlot (a, b) = some (newR a b) := by
  show p_spec_NewSlot FU _ = _
  unfold p_spec_NewSlot newR shB
  simp only [t_spec_l1Id, t_spec_l1In, t_spec_l8None, Option.bind_some]
  cases idB a <;> cases inB b 0 2 <;> rfl

theorem t_impl_within (a b c : Int) : m_impl_within (a, b, c) = some (inB a b c) := by
  show p_impl_within FU _ = _
  unfold p_impl_within inB
  by_cases h : b ≤ a <;> simp [h]

theorem t_impl_isId (a : Int) : m_impl_isId a = some (idB a) := by
  show p_impl_isId FU _ = _
  unfold p_impl_isId idB
  rw [t_impl_within]; rfl

theorem t_impl_isShard (a : Int) : m_impl_isShard a = some (shB a) := by
  show p_impl_isShard FU _ = _
  unfold p_impl_isShard shB
  rw [t_impl_within]; rfl

theorem t_impl_noVote : m_impl_noVote () = some (-1, 0) := rfl

theorem t_impl_newSlot (a b : Int) : m_impl_newSlot (a, b) = some (a, (b, (-1, ((-1, 0), [])))) := by
  show p_impl_newSlot FU _ = _
  unfold p_impl_newSlot
  simp only [t_impl_noVote, Option.bind_some]

theorem t_impl_NewSlot (a b : Int) : m_impl_NewSlot (a, b) = some (newR a b) := by
  show p_impl_NewSlot FU _ = _
  unfold p_impl_NewSlot newR
  simp only [t_impl_isId, t_impl_isShard, t_impl_newSlot, Option.bind_some]
  cases idB a <;> cases shB b <;> rfl

theorem t_laws_eqVote (a : Int × Int) : m_laws_eqVote (a, a) = some true := by
  show p_laws_eqVote FU _ = _
  unfold p_laws_eqVote
  simp

theorem t_laws_eqVoteS (xs : List (Int × Int)) (hl : xs.length ≤ 1048576) : m_laws_eqVoteS (xs, xs) = some true := by
  show p_laws_eqVoteS FU _ = _
  unfold p_laws_eqVoteS
  simp only [beq_self_eq_true, Bool.not_true, cond_false]
  exact eq_loop xs m_laws_eqVote (fun x hx => t_laws_eqVote x) hl

theorem t_laws_eqSlot (x : SlotT) (h : x.2.2.2.2.length ≤ 1048576) : m_laws_eqSlot (x, x) = some true := by
  show p_laws_eqSlot FU _ = _
  unfold p_laws_eqSlot
  simp only [beq_self_eq_true, Bool.not_true, cond_false, t_laws_eqVote, t_laws_eqVoteS _ h, Option.bind_some]

theorem t_laws_eqSlotResult (x : Int × ((Int × Int) × SlotT)) (h : x.2.2.2.2.2.2.length ≤ 1048576) : m_laws_eqSlotResult (x, x) = some true := by
  show p_laws_eqSlotResult FU _ = _
  unfold p_laws_eqSlotResult
  simp only [beq_self_eq_true, Bool.not_true, cond_false, t_laws_eqVote, t_laws_eqSlot x.2.2 h, Option.bind_some]

theorem t_laws_heldVoteS (xs : List (Int × Int)) (k : Int) (hl : xs.length ≤ B36) (h0 : 0 ≤ k) (hk : k + 2 * xs.length ≤ B40) : m_laws_heldVoteS (markAll 2 mkVote k xs, k) = some (k + 2 * xs.length) := by
  show p_laws_heldVoteS FU _ = _
  unfold p_laws_heldVoteS l_laws_heldVoteS_1
  exact held_VoteS xs k hl h0 hk

theorem t_laws_heldSlot (x : SlotT) (k : Int) (hl : x.2.2.2.2.length ≤ B36) (h0 : 0 ≤ k) (hk : k + 2 * x.2.2.2.2.length ≤ B40) : m_laws_heldSlot ((x.1, (x.2.1, (x.2.2.1, (x.2.2.2.1, markAll 2 mkVote k x.2.2.2.2)))), k) = some (k + 2 * x.2.2.2.2.length) := by
  show p_laws_heldSlot FU _ = _
  unfold p_laws_heldSlot
  simp only [t_laws_heldVoteS _ k hl h0 hk, Option.bind_some]
  have : decide (k + 2 * (x.2.2.2.2.length : Int) < 0) = false := decide_eq_false (by omega)
  rw [this]; rfl

theorem t_laws_heldSlotResult (x : Int × ((Int × Int) × SlotT)) (k : Int) (hl : x.2.2.2.2.2.2.length ≤ B36) (h0 : 0 ≤ k) (hk : k + 2 * x.2.2.2.2.2.2.length ≤ B40) : m_laws_heldSlotResult ((x.1, (x.2.1, (x.2.2.1, (x.2.2.2.1, (x.2.2.2.2.1, (x.2.2.2.2.2.1, markAll 2 mkVote k x.2.2.2.2.2.2)))))), k) = some (k + 2 * x.2.2.2.2.2.2.length) := by
  show p_laws_heldSlotResult FU _ = _
  unfold p_laws_heldSlotResult
  simp only [t_laws_heldSlot x.2.2 k hl h0 hk, Option.bind_some]
  have : decide (k + 2 * (x.2.2.2.2.2.2.length : Int) < 0) = false := decide_eq_false (by omega)
  rw [this]; rfl

theorem law_laws_FnExactNewSlot (x : Int × Int) (h : WFs S_laws_FnExactNewSlot.ps x) : m_laws_FnExactNewSlot x = some true := by
  obtain ⟨a, b⟩ := x
  show p_laws_FnExactNewSlot FU _ = _
  unfold p_laws_FnExactNewSlot
  have hr : (newR a b).2.2.2.2.2.2.length ≤ 1048576 := by
    unfold newR
    cases (idB a && shB b) <;> exact Nat.zero_le _
  have l2 : l_laws_FnExactNewSlot_1 FU ((1 : Int), (0 : Int), (newR a b).2.2.2.2.2.2) = some (1 + 2 * ((newR a b).2.2.2.2.2.2.length : Int), markAll 2 mkVote 1 (newR a b).2.2.2.2.2.2) := by
    unfold l_laws_FnExactNewSlot_1
    exact mark_VoteS _ 1 (by unfold B36; omega) (by omega) (by unfold B40; omega)
  have l3 := t_laws_heldSlotResult (newR a b) 1 (by unfold B36; omega) (by omega) (by unfold B40; omega)
  have d2 : decide (1 + 2 * ((newR a b).2.2.2.2.2.2.length : Int) < 0) = false := decide_eq_false (by omega)
  simp only [t_spec_NewSlot, t_impl_NewSlot, Option.bind_some, t_laws_eqSlotResult _ hr, Bool.not_true, cond_false, l2, l3, d2, beq_self_eq_true]
end Go.RvP
