/- The plain law: spec and program answer alike, for FnExactPickValue. Condition: the data are such as can come in. -/
import Derived.Test.YtekndmbpphncmaaRvP5
import Derived.Test.YtekndmbpphncmaaRvM
namespace Go.RvP
open Go.Rv
theorem t_laws_szVoteS (xs : List (Int × Int)) (h : (xs.length : Int) ≤ 9223372036854775807) : m_laws_szVoteS (xs, 1048576) = some (if 1048576 - (xs.length : Int) < 0 then -1 else 1048576 - (xs.length : Int)) := by
  show p_laws_szVoteS FU _ = _
  unfold p_laws_szVoteS
  have hw : IntKind.wrap .i64 (1048576 - (xs.length : Int)) = 1048576 - (xs.length : Int) := wrap64 (by omega) (by omega)
  simp only [lenI_eq, hw]
  by_cases hh : (1048576 : Int) - (xs.length : Int) < 0 <;> simp [hh]

theorem t_laws_toVote (a : Int × Int) : m_laws_toVote a = some a := rfl

theorem t_laws_toVoteS (xs : List (Int × Int)) (hl : xs.length ≤ 1048576) : m_laws_toVoteS xs = some xs := by
  show p_laws_toVoteS FU xs = _
  unfold p_laws_toVoteS
  rw [if_pos rfl, if_pos (by simp [lenI_eq])]
  have hb : Nat.ble (16 * (lenI xs).toNat) maxBytes = true := by rw [Nat.ble_eq]; simp only [lenI_eq, Int.toNat_natCast, maxBytes]; omega
  simp only [hb, chk, cond_true]
  exact copy_loop2 xs _ m_laws_toVote (fun x hx => t_laws_toVote x) hl

theorem t_spec_l1In (a b c : Int) : m_spec_l1In (a, b, c) = some (decide (b ≤ a) && decide (a ≤ c)) := by
  show p_spec_l1In FU _ = _
  unfold p_spec_l1In
  by_cases h : b ≤ a <;> simp [h]

theorem t_spec_l8Ballot (a : Int) : m_spec_l8Ballot a = some (bal a) := by
  show p_spec_l8Ballot FU _ = _
  unfold p_spec_l8Ballot bal
  rw [t_spec_l1In]; rfl

theorem t_spec_l8Value (a : Int) : m_spec_l8Value a = some (vlu a) := by
  show p_spec_l8Value FU _ = _
  unfold p_spec_l8Value vlu
  cases h : (a == (1 : Int)) <;> simp

theorem t_spec_l8Pick (xs : List (Int × Int)) (own : Int) (hl : xs.length ≤ 9) : m_spec_l8Pick (xs, own) = some (xs.foldl bestV (-1, own)).2 := by
  show p_spec_l8Pick FU _ = _
  unfold p_spec_l8Pick
  have e2 : ∀ s, l_spec_l8Pick_1 FU xs ((0 : Int), s) = some (xs.foldl bestV s) := by
    intro s
    unfold l_spec_l8Pick_1
    refine lp_fold xs bestV (fun i s => ((i : Int), s)) (fun s => some s) (by unfold B36; omega) (fun i hi s rec hw => ?_) (fun s rec => ?_) s
    · simp only [lt_lenI hi, cond_true, geti_lt xs i hi, Option.bind_some, hw, bestV]
      by_cases hh : xs[i].1 > s.1 <;> simp [hh]
    · simp only [ge_lenI, cond_false]
  show ((l_spec_l8Pick_1 FU xs ((0 : Int), ((-1 : Int), (0 : Int)))).bind fun j18 => cond (decide (j18.1 < (0 : Int))) (some own) (some j18.2)) = _
  rw [e2]
  have := pick_fold own xs (-1, 0) (by simp) (by simp)
  simp only [show ((-1 : Int) < 0) from by decide, if_true] at this
  simp only [Option.bind_some]
  by_cases h : (xs.foldl bestV (-1, 0)).1 < 0
  · rw [this.1 h]; simp [h]
  · rw [this.2 h]; simp [h]

theorem t_spec_PickValue (xs : List (Int × Int)) (own : Int) : m_spec_PickValue (xs, own) = some (pickV xs own) := by
  show p_spec_PickValue FU _ = _
  unfold p_spec_PickValue pickV
  by_cases hl : xs.length > 9
  · have : decide (lenI xs > 9) = true := by simp [lenI_eq]; omega
    simp only [this, cond_true, if_pos hl]
  · have : decide (lenI xs > 9) = false := by simp [lenI_eq]; omega
    simp only [this, cond_false, if_neg hl]
    have e1 : l_spec_PickValue_1 FU xs 0 = cond (xs.any badV) (some (Sum.inr (3, 0))) (some (Sum.inl ())) := by
      unfold l_spec_PickValue_1
      refine lp_hit xs badV (some (Sum.inr (3, 0))) (some (Sum.inl ())) (by unfold B36; omega) (fun i hi rec hw => ?_) (fun rec => ?_)
      · have : m_spec_l8None () = some (-1, 0) := rfl
        simp only [lt_lenI hi, cond_true, geti_lt xs i hi, Option.bind_some, hw, this, badV, t_spec_l8Ballot, t_spec_l8Value]
        cases (xs[i].1 == -1 && (xs[i].2 == 0 && true)) <;> cases bal xs[i].1 <;> cases vlu xs[i].2 <;> rfl
      · simp only [ge_lenI, cond_false]
    rw [e1]
    cases hb : xs.any badV with
    | true => simp
    | false =>
      simp only [cond_false, Option.bind_some, Sum.elim_inl, t_spec_l8Value, Bool.false_or]
      cases vlu own with
      | false => simp
      | true => simp [t_spec_l8Pick xs own (by omega)]

theorem t_impl_within (a b c : Int) : m_impl_within (a, b, c) = some (decide (b ≤ a) && decide (a ≤ c)) := t_spec_l1In a b c

theorem t_impl_isBallot (a : Int) : m_impl_isBallot a = some (bal a) := t_spec_l8Ballot a

theorem t_impl_isValue (a : Int) : m_impl_isValue a = some (vlu a) := t_spec_l8Value a

theorem t_impl_isVote (a : Int × Int) : m_impl_isVote a = some (bal a.1 && vlu a.2) := by
  show p_impl_isVote FU _ = _
  unfold p_impl_isVote
  rw [t_impl_isBallot, t_impl_isValue]
  cases bal a.1 <;> rfl

theorem t_impl_PickValue_1 (v : Int × Int) : m_impl_PickValue_1 v = some (badV v) := by
  show p_impl_PickValue_1 FU v = _
  unfold p_impl_PickValue_1 badV
  show (cond (!(v.1 == -1 && (v.2 == 0 && true))) ((m_impl_isVote v).bind fun r2 => some (!r2)) (some false)) = _
  rw [t_impl_isVote]
  cases (v.1 == -1 && (v.2 == 0 && true)) <;> rfl

theorem t_impl_PickValue (xs : List (Int × Int)) (own : Int) : m_impl_PickValue (xs, own) = some (pickV xs own) := by
  show p_impl_PickValue FU _ = _
  unfold p_impl_PickValue pickV
  by_cases hl : xs.length > 9
  · have : decide (lenI xs > 9) = true := by simp [lenI_eq]; omega
    simp only [this, cond_true, if_pos hl]
  · have : decide (lenI xs > 9) = false := by simp [lenI_eq]; omega
    simp only [this, cond_false, if_neg hl]
    have e1 : l_impl_PickValue_1 FU xs 0 = match xs.findIdx? badV with
        | some i => some (i : Int)
        | none => some (-1) := by
      unfold l_impl_PickValue_1
      refine lp_place xs badV (fun i => some (i : Int)) (some (-1)) (by unfold B36; omega) (fun i hi rec hw => ?_) (fun rec => ?_)
      · simp only [lt_lenI hi, cond_true, geti_lt xs i hi, Option.bind_some, t_impl_PickValue_1, hw]
      · simp only [ge_lenI, cond_false]
    have e2 : ∀ s, l_impl_PickValue_2 FU xs ((0 : Int), s) = some ((0 : Int), (xs.foldl bestV s).2) := by
      intro s
      unfold l_impl_PickValue_2
      refine lp_fold xs bestV (fun i s => ((i : Int), s)) (fun s => some ((0 : Int), s.2)) (by unfold B36; omega) (fun i hi s rec hw => ?_) (fun s rec => ?_) s
      · simp only [lt_lenI hi, cond_true, geti_lt xs i hi, Option.bind_some, hw, bestV]
        by_cases hh : xs[i].1 > s.1 <;> simp [hh]
      · simp only [ge_lenI, cond_false]
    rw [e1]
    have e3 : xs.any badV = (xs.findIdx? badV).isSome := by simp
    cases hf : xs.findIdx? badV with
    | some i =>
      rw [e3, hf]
      have : decide ((i : Int) ≥ 0) = true := by simp
      simp only [Option.bind_some, this, cond_true, Option.isSome_some, Bool.true_or, if_true]
    | none =>
      rw [e3, hf]
      have : decide ((-1 : Int) ≥ 0) = false := by decide
      simp only [Option.bind_some, this, cond_false, Option.isSome_none, Bool.false_or, t_impl_isValue]
      cases vlu own with
      | false => simp
      | true => simp [e2]

theorem t_laws_eqVote (a : Int × Int) : m_laws_eqVote (a, a) = some true := by
  show p_laws_eqVote FU _ = _
  unfold p_laws_eqVote
  simp

theorem t_laws_eqVoteS (xs : List (Int × Int)) (hl : xs.length ≤ 1048576) : m_laws_eqVoteS (xs, xs) = some true := by
  show p_laws_eqVoteS FU _ = _
  unfold p_laws_eqVoteS
  simp only [beq_self_eq_true, Bool.not_true, cond_false]
  exact eq_loop xs m_laws_eqVote (fun x hx => t_laws_eqVote x) hl

theorem law_laws_FnExactPickValue (x : List (Int × Int) × Int) (h : WFs S_laws_FnExactPickValue.ps x) : m_laws_FnExactPickValue x = some true := by
  obtain ⟨xs, own⟩ := x
  have hm : maxLen = 9223372036854775807 := rfl
  have hl : xs.length ≤ maxLen := h.1.1
  show p_laws_FnExactPickValue FU _ = _
  unfold p_laws_FnExactPickValue
  simp only [t_laws_szVoteS xs (by omega), Option.bind_some]
  by_cases hh : 1048576 - (xs.length : Int) < 0
  · simp [hh]
  · have e0 : xs.length ≤ 1048576 := by omega
    have : ∀ r, m_laws_eqIntResult (r, r) = some true := fun r => by
      show p_laws_eqIntResult FU _ = _
      unfold p_laws_eqIntResult
      simp
    simp [hh, t_laws_toVoteS xs e0, t_spec_PickValue, t_impl_PickValue, t_laws_eqVoteS xs e0, this]
end Go.RvP
