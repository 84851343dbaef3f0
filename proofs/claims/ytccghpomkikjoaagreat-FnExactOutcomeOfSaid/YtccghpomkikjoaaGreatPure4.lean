/- The plain law: spec and program answer alike, for FnExactOutcomeOf. Condition: the data are such as can come in. -/
import Derived.Test.YtccghpomkikjoaaGreatRvP4
import Derived.Test.YtccghpomkikjoaaGreatRvM
import Derived.Test.YtccghpomkikjoaaGreatRvV
import Derived.Test.YtccghpomkikjoaaGreatRvZ
namespace Go.RvP
open Go.Rv
def W_VoteS (xs : (List (Int × Int))) : Nat := xs.length

theorem z_laws_szVoteS (xs : (List (Int × Int))) (h : WFk (.sl none (.pair (.int .i64) (.int .i64))) xs) : SZ m_laws_szVoteS W_VoteS xs := szf xs h.1

def W_Slot (x : (Int × (Int × (Int × ((Int × Int) × (List (Int × Int))))))) : Nat := W_VoteS x.2.2.2.2

theorem z_laws_szSlot (x : (Int × (Int × (Int × ((Int × Int) × (List (Int × Int))))))) (h : WFk (.pair (.int .i64) (.pair (.int .i64) (.pair (.int .i64) (.pair (.pair (.int .i64) (.int .i64)) (.sl none (.pair (.int .i64) (.int .i64))))))) x) : SZ m_laws_szSlot W_Slot x := by
  intro left h0 h1
  have hm : maxLen = 9223372036854775807 := rfl
  show p_laws_szSlot FU _ = _ ∨ (p_laws_szSlot FU _ = _ ∧ _)
  unfold p_laws_szSlot W_Slot
  have b1 : 0 ≤ left := by omega
  rcases z_laws_szVoteS x.2.2.2.2 h.2.2.2.2 (left) (by omega) (by omega) with e1 | ⟨e1, f1⟩
  · left; simp only [e1, Option.bind_some]; rfl
  · have d1 : decide (left - (W_VoteS x.2.2.2.2 : Int) < 0) = false := decide_eq_false (by omega)
    exact .inr ⟨by simp only [e1, d1, Option.bind_some, cond_false], f1⟩

def W_SlotS (xs : (List (Int × (Int × (Int × ((Int × Int) × (List (Int × Int)))))))) : Nat := xs.length + wsum W_Slot xs

theorem z_laws_szSlotS (xs : (List (Int × (Int × (Int × ((Int × Int) × (List (Int × Int)))))))) (h : WFk (.sl none (.pair (.int .i64) (.pair (.int .i64) (.pair (.int .i64) (.pair (.pair (.int .i64) (.int .i64)) (.sl none (.pair (.int .i64) (.int .i64)))))))) xs) : SZ m_laws_szSlotS W_SlotS xs := szl xs m_laws_szSlot W_Slot h.1 (fun x hx => z_laws_szSlot x (h.2 x hx))

def W_Acceptor (x : (List (Int × (Int × (Int × ((Int × Int) × (List (Int × Int)))))))) : Nat := W_SlotS x

theorem z_laws_szAcceptor (x : (List (Int × (Int × (Int × ((Int × Int) × (List (Int × Int)))))))) (h : WFk (.one (.sl none (.pair (.int .i64) (.pair (.int .i64) (.pair (.int .i64) (.pair (.pair (.int .i64) (.int .i64)) (.sl none (.pair (.int .i64) (.int .i64))))))))) x) : SZ m_laws_szAcceptor W_Acceptor x := by
  intro left h0 h1
  have hm : maxLen = 9223372036854775807 := rfl
  show p_laws_szAcceptor FU _ = _ ∨ (p_laws_szAcceptor FU _ = _ ∧ _)
  unfold p_laws_szAcceptor W_Acceptor
  have b1 : 0 ≤ left := by omega
  rcases z_laws_szSlotS x h (left) (by omega) (by omega) with e1 | ⟨e1, f1⟩
  · left; simp only [e1, Option.bind_some]; rfl
  · have d1 : decide (left - (W_SlotS x : Int) < 0) = false := decide_eq_false (by omega)
    exact .inr ⟨by simp only [e1, d1, Option.bind_some, cond_false], f1⟩

def W_AcceptorS (xs : (List (List (Int × (Int × (Int × ((Int × Int) × (List (Int × Int))))))))) : Nat := xs.length + wsum W_Acceptor xs

theorem z_laws_szAcceptorS (xs : (List (List (Int × (Int × (Int × ((Int × Int) × (List (Int × Int))))))))) (h : WFk (.sl none (.one (.sl none (.pair (.int .i64) (.pair (.int .i64) (.pair (.int .i64) (.pair (.pair (.int .i64) (.int .i64)) (.sl none (.pair (.int .i64) (.int .i64)))))))))) xs) : SZ m_laws_szAcceptorS W_AcceptorS xs := szl xs m_laws_szAcceptor W_Acceptor h.1 (fun x hx => z_laws_szAcceptor x (h.2 x hx))

def W_LegS (xs : (List (Int × (Int × (Int × Int))))) : Nat := xs.length

theorem z_laws_szLegS (xs : (List (Int × (Int × (Int × Int))))) (h : WFk (.sl none (.pair (.int .i64) (.pair (.int .i64) (.pair (.int .i64) (.int .i64))))) xs) : SZ m_laws_szLegS W_LegS xs := szf xs h.1

def W_Contract (x : (Int × (List (Int × (Int × (Int × Int)))))) : Nat := W_LegS x.2

theorem z_laws_szContract (x : (Int × (List (Int × (Int × (Int × Int)))))) (h : WFk (.pair (.int .i64) (.sl none (.pair (.int .i64) (.pair (.int .i64) (.pair (.int .i64) (.int .i64)))))) x) : SZ m_laws_szContract W_Contract x := by
  intro left h0 h1
  have hm : maxLen = 9223372036854775807 := rfl
  show p_laws_szContract FU _ = _ ∨ (p_laws_szContract FU _ = _ ∧ _)
  unfold p_laws_szContract W_Contract
  have b1 : 0 ≤ left := by omega
  rcases z_laws_szLegS x.2 h.2 (left) (by omega) (by omega) with e1 | ⟨e1, f1⟩
  · left; simp only [e1, Option.bind_some]; rfl
  · have d1 : decide (left - (W_LegS x.2 : Int) < 0) = false := decide_eq_false (by omega)
    exact .inr ⟨by simp only [e1, d1, Option.bind_some, cond_false], f1⟩

theorem o_laws_toVote (x : (Int × Int)) : m_laws_toVote x = some x := by
  show p_laws_toVote FU _ = _
  unfold p_laws_toVote
  rfl

theorem o_laws_toVoteS (xs : (List (Int × Int))) (h : W_VoteS xs ≤ 1048576) : m_laws_toVoteS xs = some xs := by
  unfold W_VoteS at h
  show p_laws_toVoteS FU xs = _
  unfold p_laws_toVoteS
  rw [if_pos rfl, if_pos (by simp [lenI_eq])]
  have hb : Nat.ble (16 * (lenI xs).toNat) maxBytes = true := by rw [Nat.ble_eq]; simp only [lenI_eq, Int.toNat_natCast, maxBytes]; omega
  rw [chk_true hb]
  exact copy_loop2 xs _ m_laws_toVote (fun x _ => o_laws_toVote x) (by omega)

theorem o_laws_toSlot (x : (Int × (Int × (Int × ((Int × Int) × (List (Int × Int))))))) (h : W_Slot x ≤ 1048576) : m_laws_toSlot x = some x := by
  unfold W_Slot at h
  show p_laws_toSlot FU _ = _
  unfold p_laws_toSlot
  simp only [o_laws_toVote x.2.2.2.1, o_laws_toVoteS x.2.2.2.2 (by omega), Option.bind_some]

theorem o_laws_toSlotS (xs : (List (Int × (Int × (Int × ((Int × Int) × (List (Int × Int)))))))) (h : W_SlotS xs ≤ 1048576) : m_laws_toSlotS xs = some xs := by
  unfold W_SlotS at h
  show p_laws_toSlotS FU xs = _
  unfold p_laws_toSlotS
  rw [if_pos rfl, if_pos (by simp [lenI_eq])]
  have hb : Nat.ble (64 * (lenI xs).toNat) maxBytes = true := by rw [Nat.ble_eq]; simp only [lenI_eq, Int.toNat_natCast, maxBytes]; omega
  rw [chk_true hb]
  exact copy_loop2 xs _ m_laws_toSlot (fun x hx => o_laws_toSlot x (by have := wsum_mem W_Slot xs x hx; omega)) (by omega)

theorem o_laws_toAcceptor (x : (List (Int × (Int × (Int × ((Int × Int) × (List (Int × Int)))))))) (h : W_Acceptor x ≤ 1048576) : m_laws_toAcceptor x = some x := by
  unfold W_Acceptor at h
  show p_laws_toAcceptor FU _ = _
  unfold p_laws_toAcceptor
  simp only [o_laws_toSlotS x (by omega), Option.bind_some]

theorem o_laws_toAcceptorS (xs : (List (List (Int × (Int × (Int × ((Int × Int) × (List (Int × Int))))))))) (h : W_AcceptorS xs ≤ 1048576) : m_laws_toAcceptorS xs = some xs := by
  unfold W_AcceptorS at h
  show p_laws_toAcceptorS FU xs = _
  unfold p_laws_toAcceptorS
  rw [if_pos rfl, if_pos (by simp [lenI_eq])]
  have hb : Nat.ble (24 * (lenI xs).toNat) maxBytes = true := by rw [Nat.ble_eq]; simp only [lenI_eq, Int.toNat_natCast, maxBytes]; omega
  rw [chk_true hb]
  exact copy_loop2 xs _ m_laws_toAcceptor (fun x hx => o_laws_toAcceptor x (by have := wsum_mem W_Acceptor xs x hx; omega)) (by omega)

theorem o_laws_toLeg (x : (Int × (Int × (Int × Int)))) : m_laws_toLeg x = some x := by
  show p_laws_toLeg FU _ = _
  unfold p_laws_toLeg
  rfl

theorem o_laws_toLegS (xs : (List (Int × (Int × (Int × Int))))) (h : W_LegS xs ≤ 1048576) : m_laws_toLegS xs = some xs := by
  unfold W_LegS at h
  show p_laws_toLegS FU xs = _
  unfold p_laws_toLegS
  rw [if_pos rfl, if_pos (by simp [lenI_eq])]
  have hb : Nat.ble (32 * (lenI xs).toNat) maxBytes = true := by rw [Nat.ble_eq]; simp only [lenI_eq, Int.toNat_natCast, maxBytes]; omega
  rw [chk_true hb]
  exact copy_loop2 xs _ m_laws_toLeg (fun x _ => o_laws_toLeg x) (by omega)

theorem o_laws_toContract (x : (Int × (List (Int × (Int × (Int × Int)))))) (h : W_Contract x ≤ 1048576) : m_laws_toContract x = some x := by
  unfold W_Contract at h
  show p_laws_toContract FU _ = _
  unfold p_laws_toContract
  simp only [o_laws_toLegS x.2 (by omega), Option.bind_some]

theorem eq_laws_eqIntResult (x : (Int × Int)) : m_laws_eqIntResult (x, x) = some true := by
  show p_laws_eqIntResult FU _ = _
  unfold p_laws_eqIntResult
  simp only [beq_self_eq_true, Bool.not_true, cond_false]

theorem eq_laws_eqVote (x : (Int × Int)) : m_laws_eqVote (x, x) = some true := by
  show p_laws_eqVote FU _ = _
  unfold p_laws_eqVote
  simp only [beq_self_eq_true, Bool.not_true, cond_false]

theorem eq_laws_eqVoteS (xs : (List (Int × Int))) (h : W_VoteS xs ≤ 1048576) : m_laws_eqVoteS (xs, xs) = some true := by
  unfold W_VoteS at h
  show p_laws_eqVoteS FU _ = _
  unfold p_laws_eqVoteS
  simp only [beq_self_eq_true, Bool.not_true, cond_false]
  exact eq_loop xs m_laws_eqVote (fun x _ => eq_laws_eqVote x) (by omega)

theorem eq_laws_eqSlot (x : (Int × (Int × (Int × ((Int × Int) × (List (Int × Int))))))) (h : W_Slot x ≤ 1048576) : m_laws_eqSlot (x, x) = some true := by
  unfold W_Slot at h
  show p_laws_eqSlot FU _ = _
  unfold p_laws_eqSlot
  simp only [beq_self_eq_true, Bool.not_true, cond_false, eq_laws_eqVote x.2.2.2.1, eq_laws_eqVoteS x.2.2.2.2 (by omega), Option.bind_some]

theorem eq_laws_eqSlotS (xs : (List (Int × (Int × (Int × ((Int × Int) × (List (Int × Int)))))))) (h : W_SlotS xs ≤ 1048576) : m_laws_eqSlotS (xs, xs) = some true := by
  unfold W_SlotS at h
  show p_laws_eqSlotS FU _ = _
  unfold p_laws_eqSlotS
  simp only [beq_self_eq_true, Bool.not_true, cond_false]
  exact eq_loop xs m_laws_eqSlot (fun x hx => eq_laws_eqSlot x (by have := wsum_mem W_Slot xs x hx; omega)) (by omega)

theorem eq_laws_eqAcceptor (x : (List (Int × (Int × (Int × ((Int × Int) × (List (Int × Int)))))))) (h : W_Acceptor x ≤ 1048576) : m_laws_eqAcceptor (x, x) = some true := by
  unfold W_Acceptor at h
  show p_laws_eqAcceptor FU _ = _
  unfold p_laws_eqAcceptor
  simp only [Bool.not_true, cond_false, eq_laws_eqSlotS x (by omega), Option.bind_some]

theorem eq_laws_eqAcceptorS (xs : (List (List (Int × (Int × (Int × ((Int × Int) × (List (Int × Int))))))))) (h : W_AcceptorS xs ≤ 1048576) : m_laws_eqAcceptorS (xs, xs) = some true := by
  unfold W_AcceptorS at h
  show p_laws_eqAcceptorS FU _ = _
  unfold p_laws_eqAcceptorS
  simp only [beq_self_eq_true, Bool.not_true, cond_false]
  exact eq_loop xs m_laws_eqAcceptor (fun x hx => eq_laws_eqAcceptor x (by have := wsum_mem W_Acceptor xs x hx; omega)) (by omega)

theorem eq_laws_eqLeg (x : (Int × (Int × (Int × Int)))) : m_laws_eqLeg (x, x) = some true := by
  show p_laws_eqLeg FU _ = _
  unfold p_laws_eqLeg
  simp only [beq_self_eq_true, Bool.not_true, cond_false]

theorem eq_laws_eqLegS (xs : (List (Int × (Int × (Int × Int))))) (h : W_LegS xs ≤ 1048576) : m_laws_eqLegS (xs, xs) = some true := by
  unfold W_LegS at h
  show p_laws_eqLegS FU _ = _
  unfold p_laws_eqLegS
  simp only [beq_self_eq_true, Bool.not_true, cond_false]
  exact eq_loop xs m_laws_eqLeg (fun x _ => eq_laws_eqLeg x) (by omega)

theorem eq_laws_eqContract (x : (Int × (List (Int × (Int × (Int × Int)))))) (h : W_Contract x ≤ 1048576) : m_laws_eqContract (x, x) = some true := by
  unfold W_Contract at h
  show p_laws_eqContract FU _ = _
  unfold p_laws_eqContract
  simp only [beq_self_eq_true, Bool.not_true, cond_false, eq_laws_eqLegS x.2 (by omega), Option.bind_some]

theorem t_laws_szVoteS (xs : List (Int × Int)) (h : (xs.length : Int) ≤ 9223372036854775807) : m_laws_szVoteS (xs, 1048576) = some (if 1048576 - (xs.length : Int) < 0 then -1 else 1048576 - (xs.length : Int)) := by
  show p_laws_szVoteS FU _ = _
  unfold p_laws_szVoteS
  have hw : IntKind.wrap .i64 (1048576 - (xs.length : Int)) = 1048576 - (xs.length : Int) := wrap64 (by omega) (by omega)
  simp only [lenI_eq, hw]
  by_cases hh : (1048576 : Int) - (xs.length : Int) < 0 <;> simp [hh]

theorem sz_laws_szSlot (x : SlotT) (h : x.2.2.2.2.length ≤ maxLen) : SZ m_laws_szSlot (fun x => x.2.2.2.2.length) x := by
  intro left h0 h1
  have hm : maxLen = 9223372036854775807 := rfl
  show p_laws_szSlot FU _ = _ ∨ (p_laws_szSlot FU _ = _ ∧ _)
  unfold p_laws_szSlot
  have e : m_laws_szVoteS (x.2.2.2.2, left) = some (if left - (x.2.2.2.2.length : Int) < 0 then -1 else left - (x.2.2.2.2.length : Int)) := by
    show p_laws_szVoteS FU _ = _
    unfold p_laws_szVoteS
    have hw : IntKind.wrap .i64 (left - (x.2.2.2.2.length : Int)) = left - (x.2.2.2.2.length : Int) := wrap64 (by omega) (by omega)
    simp only [lenI_eq, hw]
    by_cases hh : left - (x.2.2.2.2.length : Int) < 0 <;> simp [hh]
  rw [e]
  by_cases hh : left - (x.2.2.2.2.length : Int) < 0
  · simp [hh]
  · right
    simp [hh]
    omega

theorem t_laws_szSlot (x : SlotT) (h : (x.2.2.2.2.length : Int) ≤ 9223372036854775807) : m_laws_szSlot (x, 1048576) = some (if 1048576 - (x.2.2.2.2.length : Int) < 0 then -1 else 1048576 - (x.2.2.2.2.length : Int)) := by
  show p_laws_szSlot FU _ = _
  unfold p_laws_szSlot
  rw [t_laws_szVoteS _ h]
  by_cases hh : (1048576 : Int) - (x.2.2.2.2.length : Int) < 0 <;> simp [hh]

def wSlots (xs : List SlotT) : Nat := xs.length + (xs.map fun x => x.2.2.2.2.length).sum

theorem sz_laws_szSlotS (xs : List SlotT) (hl : xs.length ≤ maxLen) (h : ∀ x ∈ xs, x.2.2.2.2.length ≤ maxLen) : SZ m_laws_szSlotS wSlots xs := by
  intro left h0 h1
  have hm : maxLen = 9223372036854775807 := rfl
  show p_laws_szSlotS FU _ = _ ∨ (p_laws_szSlotS FU _ = _ ∧ _)
  unfold p_laws_szSlotS wSlots
  have hw : IntKind.wrap .i64 (left - (xs.length : Int)) = left - (xs.length : Int) := wrap64 (by omega) (by omega)
  simp only [lenI_eq, hw]
  by_cases hh : left - (xs.length : Int) < 0
  · left; simp [hh]
  · have := sz_loop xs m_laws_szSlot (fun x => x.2.2.2.2.length) (fun x hx => sz_laws_szSlot x (h x hx)) (by omega) (left - (xs.length : Int)) (by omega) (by omega)
    simp only [hh, decide_false, cond_false]
    rcases this with h2 | ⟨h2, h3⟩
    · exact .inl h2
    · right
      refine ⟨?_, by omega⟩
      rw [show left - ((xs.length + (xs.map fun x => x.2.2.2.2.length).sum : Nat) : Int) = left - (xs.length : Int) - (((xs.map fun x => x.2.2.2.2.length).sum : Nat) : Int) from by omega]
      exact h2

theorem t_laws_toVote (a : Int × Int) : m_laws_toVote a = some a := rfl

theorem t_laws_toVoteS (xs : List (Int × Int)) (hl : xs.length ≤ 1048576) : m_laws_toVoteS xs = some xs := by
  show p_laws_toVoteS FU xs = _
  unfold p_laws_toVoteS
  rw [if_pos rfl, if_pos (by simp [lenI_eq])]
  have hb : Nat.ble (16 * (lenI xs).toNat) maxBytes = true := by rw [Nat.ble_eq]; simp only [lenI_eq, Int.toNat_natCast, maxBytes]; omega
  simp only [hb, chk, cond_true]
  exact copy_loop2 xs _ m_laws_toVote (fun x hx => t_laws_toVote x) hl

theorem t_laws_toSlot (x : SlotT) (h : x.2.2.2.2.length ≤ 1048576) : m_laws_toSlot x = some x := by
  show p_laws_toSlot FU _ = _
  unfold p_laws_toSlot
  simp only [t_laws_toVote, Option.bind_some, t_laws_toVoteS _ h]

theorem t_laws_toSlotS (xs : List SlotT) (hl : xs.length ≤ 1048576) (h : ∀ x ∈ xs, x.2.2.2.2.length ≤ 1048576) : m_laws_toSlotS xs = some xs := by
  show p_laws_toSlotS FU xs = _
  unfold p_laws_toSlotS
  rw [if_pos rfl, if_pos (by simp [lenI_eq])]
  have hb : Nat.ble (64 * (lenI xs).toNat) maxBytes = true := by rw [Nat.ble_eq]; simp only [lenI_eq, Int.toNat_natCast, maxBytes]; omega
  simp only [hb, chk, cond_true]
  exact copy_loop2 xs _ m_laws_toSlot (fun x hx => t_laws_toSlot x (h x hx)) hl

theorem t_spec_l1In (a b c : Int) : m_spec_l1In (a, b, c) = some (inB a b c) := by
  show p_spec_l1In FU _ = _
  unfold p_spec_l1In inB
  by_cases h : b ≤ a <;> simp [h]

theorem t_spec_l1Id (a : Int) : m_spec_l1Id a = some (idB a) := by
  show p_spec_l1Id FU _ = _
  unfold p_spec_l1Id idB
  rw [t_spec_l1In]; rfl

theorem t_spec_l8Ballot (a : Int) : m_spec_l8Ballot a = some (bal a) := by
  show p_spec_l8Ballot FU _ = _
  unfold p_spec_l8Ballot bal
  rw [t_spec_l1In]; rfl

theorem t_spec_l8Value (a : Int) : m_spec_l8Value a = some (vlu a) := by
  show p_spec_l8Value FU _ = _
  unfold p_spec_l8Value vlu
  cases h : (a == (1 : Int)) <;> simp

theorem t_spec_l8None : m_spec_l8None () = some (-1, 0) := rfl

theorem t_spec_l8Last (x : SlotT) (h : x.2.2.2.2.length ≤ 60) : m_spec_l8Last x = some (lastV x.2.2.2.2) := by
  obtain ⟨a, b, c, d, xs⟩ := x
  simp only at h
  show p_spec_l8Last FU _ = _
  unfold p_spec_l8Last lastV
  simp only
  by_cases h0 : xs.length = 0
  · have : xs = [] := List.eq_nil_of_length_eq_zero h0
    subst this
    rfl
  · have h1 : (lenI xs == 0) = false := by rw [lenI_eq, beq_eq_false_iff_ne]; omega
    have h2 : IntKind.wrap .i64 (lenI xs - 1) = ((xs.length - 1 : Nat) : Int) := by rw [lenI_eq, wrap64 (by omega) (by omega)]; omega
    have hlt : xs.length - 1 < xs.length := by omega
    simp only [h1, cond_false, h2, geti_lt xs _ hlt, Option.bind_some]
    rw [List.getLast?_eq_getElem?, List.getElem?_eq_getElem hlt]
    rfl

theorem t_spec_SlotFault (x : SlotT) : m_spec_SlotFault x = some (slotCode x) := by
  obtain ⟨a, b, c, d, xs⟩ := x
  show p_spec_SlotFault FU _ = _
  unfold p_spec_SlotFault slotCode
  simp only [t_spec_l1Id, t_spec_l1In, Option.bind_some]
  have e0 : (cond (!idB a) (some true) (cond (!inB b 0 2) (some true) (some (!inB c (-1) 1000)))) = some (!(idB a && (shB b && inB c (-1) 1000))) := by
    unfold shB
    cases idB a <;> cases inB b 0 2 <;> rfl
  rw [e0]
  simp only [Option.bind_some]
  cases (idB a && (shB b && inB c (-1) 1000)) with
  | false => rfl
  | true =>
    simp only [Bool.not_true, cond_false]
    by_cases hl : xs.length > 60
    · have : decide (lenI xs > 60) = true := by simp [lenI_eq]; omega
      simp [this, hl]
    · have : decide (lenI xs > 60) = false := by simp [lenI_eq]; omega
      simp only [this, cond_false, if_neg hl]
      have e1 : l_spec_SlotFault_1 FU xs 0 = match fstI (castF xs) 0 xs with
          | some r => some (Sum.inr r)
          | none => some (Sum.inl ()) := by
        unfold l_spec_SlotFault_1
        refine (lp_fst xs (fun i v => (castF xs i v).map Sum.inr) (some (Sum.inl ())) (by unfold B36; omega) (fun i hi rec hw => ?_) (fun rec => ?_)).trans ?_
        · simp only [lt_lenI hi, cond_true, geti_lt xs i hi, Option.bind_some, t_spec_l8Ballot, t_spec_l8Value, castF, hw, votB]
          cases bal xs[i].1 with
          | false => rfl
          | true =>
            cases vlu xs[i].2 with
            | false => rfl
            | true =>
              simp only [Bool.not_true, cond_false, Bool.and_self, Option.bind_some]
              by_cases h0 : 0 < i
              · have hd : decide ((i : Int) > 0) = true := by simp; omega
                have hp := prv (i := i) (by unfold B36; omega) h0
                have hi1 : i - 1 < xs.length := by omega
                simp only [hd, cond_true, hp, geti_lt xs _ hi1, Option.bind_some, h0, decide_true, Bool.true_and, List.getElem?_eq_getElem hi1, Option.getD_some, badP]
                cases decide (xs[i].1 < xs[i - 1].1) <;> cases (xs[i].1 == xs[i - 1].1) <;> cases (xs[i].2 == xs[i - 1].2) <;> rfl
              · have hd : decide ((i : Int) > 0) = false := by simp; omega
                simp only [hd, cond_false, Option.bind_some, h0, decide_false, Bool.false_and, Option.map_none]
        · simp only [ge_lenI, cond_false]
        · have : ∀ (ys : List (Int × Int)) (i : Nat), fstI (R := Unit ⊕ Int) (fun i v => (castF xs i v).map Sum.inr) i ys = (fstI (castF xs) i ys).map Sum.inr := by
            intro ys
            induction ys with
            | nil => intro i; rfl
            | cons y ys ih =>
              intro i
              simp only [fstI]
              cases castF xs i y with
              | some r => rfl
              | none => exact ih (i + 1)
          rw [this]
          cases fstI (castF xs) 0 xs <;> rfl
      rw [e1]
      have hc := cast_all xs
      have nz : ∀ (ys : List (Int × Int)) (i : Nat) r, fstI (castF xs) i ys = some r → r ≠ 0 := by
        intro ys
        induction ys with
        | nil => intro i r h; cases h
        | cons y ys ih =>
          intro i r h
          simp only [fstI] at h
          split at h
          · rename_i q hq
            simp only [Option.some.injEq] at h
            subst h
            unfold castF at hq
            cases hv : votB y <;> rw [hv] at hq <;> simp only [Bool.not_true, Bool.not_false, cond_true, cond_false, Option.some.injEq] at hq
            · omega
            · cases hv2 : (decide (0 < i) && badP (xs[i - 1]?.getD (0, 0)) y) <;> rw [hv2] at hq <;> simp only [cond_true, cond_false, Option.some.injEq] at hq
              · cases hq
              · omega
          · exact ih _ _ h
      cases hf : fstI (castF xs) 0 xs with
      | some r =>
        rw [hf] at hc
        simp only at hc
        have hr : r ≠ 0 := nz _ _ _ hf
        rw [← hc]
        simp [hr]
      | none =>
        rw [hf] at hc
        simp only at hc
        rw [← hc]
        simp only [Option.bind_some, Sum.elim_inl, t_spec_l8Last (a, b, c, d, xs) (by show xs.length ≤ 60; omega)]
        obtain ⟨d1, d2⟩ := d
        have e2 : (!((d1 == (lastV xs).1) && ((d2 == (lastV xs).2) && true))) = !((d1, d2) == lastV xs) := by
          rw [Bool.and_true]; rfl
        rw [e2]
        cases ((d1, d2) == lastV xs) with
        | false => simp
        | true => by_cases hh : d1 > c <;> simp [hh]



theorem t_spec_l9Ahead (a b : SlotT) : m_spec_l9Ahead (a, b) = some (aheadB a b) := by
  show p_spec_l9Ahead FU _ = _
  unfold p_spec_l9Ahead aheadB
  by_cases h : a.1 = b.1
  · simp [h]
  · have hb : (a.1 == b.1) = false := by simp [h]
    simp [hb, h]
theorem t_spec_AcceptorFault (xs : List SlotT) : m_spec_AcceptorFault xs = some (accCode xs) := by
  show p_spec_AcceptorFault FU xs = _
  unfold p_spec_AcceptorFault accCode
  by_cases hl : xs.length > 60
  · have : decide (lenI xs > 60) = true := by simp [lenI_eq]; omega
    rw [this, if_pos hl]; rfl
  · have : decide (lenI xs > 60) = false := by simp [lenI_eq]; omega
    rw [this, if_neg hl, cond_false]
    unfold l_spec_AcceptorFault_1
    refine (lp_fst xs (accStep xs) (some 0) (by unfold B36; omega) (fun i hi rec hw => ?_) (fun rec => ?_)).trans (by cases fstI (accStep xs) 0 xs <;> rfl)
    · simp only [lt_lenI hi, cond_true, geti_lt xs i hi, Option.bind_some, t_spec_SlotFault, accStep, hw]
      cases (slotCode xs[i] == 0) with
      | false => rfl
      | true =>
        simp only [Bool.not_true, cond_false]
        by_cases h0 : 0 < i
        · have hd : decide ((i : Int) > 0) = true := by simp; omega
          have hi1 : i - 1 < xs.length := by omega
          simp only [hd, cond_true, prv (i := i) (by unfold B36; omega) h0, geti_lt xs _ hi1, Option.bind_some, t_spec_l9Ahead, h0, decide_true, Bool.true_and, List.getElem?_eq_getElem hi1, Option.getD_some]
          cases aheadB xs[i - 1] xs[i] <;> rfl
        · have hd : decide ((i : Int) > 0) = false := by simp; omega
          simp only [hd, cond_false, Option.bind_some, h0, decide_false, Bool.false_and]
    · simp only [ge_lenI, cond_false]

theorem t_spec_l9List (xs : List (List SlotT)) (hl : xs.length ≤ 1048576) : m_spec_l9List xs = some (accsCode xs) := by
  show p_spec_l9List FU xs = _
  unfold p_spec_l9List accsCode
  by_cases h1 : xs.length < 1
  · have : decide (lenI xs < 1) = true := decide_eq_true (by rw [lenI_eq]; omega)
    rw [this, if_pos (.inl h1)]; rfl
  · have e1 : decide (lenI xs < 1) = false := decide_eq_false (by rw [lenI_eq]; omega)
    by_cases h2 : xs.length > 5
    · have : decide (lenI xs > 5) = true := decide_eq_true (by rw [lenI_eq]; omega)
      rw [e1, this, if_pos (.inr h2)]; rfl
    · have : decide (lenI xs > 5) = false := decide_eq_false (by rw [lenI_eq]; omega)
      rw [e1, this, if_neg (by omega)]
      simp only [cond_false, Option.bind_some]
      unfold l_spec_l9List_1
      refine (lp_fst xs (fun _ y => accsF y) (some 0) (by unfold B36; omega) (fun i hi rec hw => ?_) (fun rec => ?_)).trans (by cases fstI (fun _ y => accsF y) 0 xs <;> rfl)
      · simp only [lt_lenI hi, cond_true, geti_lt xs i hi, Option.bind_some, t_spec_AcceptorFault, accsF, hw]
        cases (accCode xs[i] == 0) <;> rfl
      · simp only [ge_lenI, cond_false]

theorem t_spec_LegFault (l : LegT) : m_spec_LegFault l = some (legC l) := by
  show p_spec_LegFault FU _ = _
  unfold p_spec_LegFault legC plB
  simp only [t_spec_l1In, Option.bind_some]
  cases inB l.1 0 2 with
  | false => rfl
  | true =>
    cases inB l.2.1 0 5 with
    | false => rfl
    | true =>
      cases inB l.2.2.1 0 2 with
      | false => rfl
      | true =>
        cases inB l.2.2.2 (-1000000000000) 1000000000000 with
        | false => rfl
        | true => cases h : (l.2.2.2 == 0) <;> simp [h]

theorem t_spec_CF_1 (xs : List LegT) (i : Nat) (hi : i < xs.length) (hl : xs.length ≤ 8) (l : LegT) : l_spec_ContractFault_1 FU (i : Int) xs l.1 l.2.1 l.2.2.1 (0 : Int) = some (cond ((xs.take i).any fun o => sameP o l) (Sum.inr (Sum.inr (Sum.inr (7 : Int)))) (Sum.inl ())) := by
  unfold l_spec_ContractFault_1
  have hlen : (xs.take i).length = i := by rw [List.length_take]; omega
  refine (lp_hit (xs.take i) (fun o => sameP o l) (some (Sum.inr (Sum.inr (Sum.inr (7 : Int))))) (some (Sum.inl ())) (by rw [hlen]; unfold B36; omega) (fun j hj rec hw => ?_) (fun rec => ?_)).trans ?_
  · rw [hlen] at hj
    have hd : decide ((j : Int) < (i : Int)) = true := decide_eq_true (by omega)
    have hg : geti xs (j : Int) = some xs[j] := geti_lt xs j (by omega)
    have ht : (xs.take i)[j]'(by rw [hlen]; exact hj) = xs[j] := List.getElem_take
    simp only [hd, cond_true, hg, Option.bind_some, hw, ht, sameP]
    cases (xs[j].1 == l.1) with
    | false => rfl
    | true => cases (xs[j].2.1 == l.2.1) <;> rfl
  · rw [hlen]
    have hd : decide ((i : Int) < (i : Int)) = false := decide_eq_false (by omega)
    simp only [hd, cond_false]
  · cases (xs.take i).any fun o => sameP o l <;> rfl
def sums3 (xs : List LegT) : List Int := [sumA xs 0, sumA xs 1, sumA xs 2]
theorem sums3_set (xs : List LegT) (l : LegT) (a : Nat) (ha : a < 3) (hla : l.2.2.1 = (a : Int)) (hb : -(8 * 1000000000000) ≤ sumA xs a + l.2.2.2 ∧ sumA xs a + l.2.2.2 ≤ 8 * 1000000000000) :
    (sums3 xs)[a]? = some (sumA xs a) ∧ (sums3 xs).set a (IntKind.wrap .i64 (sumA xs a + l.2.2.2)) = sums3 (xs ++ [l]) := by
  have hw : IntKind.wrap .i64 (sumA xs a + l.2.2.2) = sumA xs a + l.2.2.2 := wrap64 (by omega) (by omega)
  rw [hw]
  unfold sums3
  rw [sumA_snoc, sumA_snoc, sumA_snoc, hla]
  rcases (by omega : a = 0 ∨ a = 1 ∨ a = 2) with rfl | rfl | rfl <;> simp
theorem t_spec_ContractFault (c : ConT) (hl : c.2.length ≤ 1048576) : m_spec_ContractFault c = some (conC c) := by
  obtain ⟨id, xs⟩ := c
  show p_spec_ContractFault FU _ = _
  unfold p_spec_ContractFault conC
  simp only [t_spec_l1Id, Option.bind_some]
  cases idB id with
  | false => rfl
  | true =>
    simp only [Bool.not_true, cond_false]
    by_cases h1 : xs.length < 2
    · have : decide (lenI xs < 2) = true := decide_eq_true (by rw [lenI_eq]; omega)
      rw [this, if_pos (show xs.length < 2 ∨ 8 < xs.length from .inl h1)]; rfl
    · have d1 : decide (lenI xs < 2) = false := decide_eq_false (by rw [lenI_eq]; omega)
      by_cases h2 : 8 < xs.length
      · have : decide (lenI xs > 8) = true := decide_eq_true (by rw [lenI_eq]; omega)
        rw [d1, this, if_pos (show xs.length < 2 ∨ 8 < xs.length from .inr h2)]; rfl
      · have d2 : decide (lenI xs > 8) = false := decide_eq_false (by rw [lenI_eq]; omega)
        have hn : ¬ (xs.length < 2 ∨ 8 < xs.length) := by omega
        have hm : Nat.ble (8 * (3 : Int).toNat) maxBytes = true := rfl
        have h3 : (3 : Int).toNat = 3 := rfl
        rw [d1, d2, if_neg hn]
        simp only [cond_false, Option.bind_some, if_true, show (0 : Int) ≤ 3 from by omega, chk, hm, cond_true]
        have e1 : l_spec_ContractFault_2 FU xs ((0 : Int), (List.replicate (3 : Int).toNat (0 : Int))) = (fstI (legStep xs) 0 xs).elim (some (Sum.inl (sums3 xs))) (fun r => some (Sum.inr r)) := by
          unfold l_spec_ContractFault_2
          refine (lp_fstS xs (fun i l => (legStep xs i l).map (Sum.inr (α := List Int))) (fun i => ((i : Int), sums3 (xs.take i))) (some (Sum.inl (sums3 xs))) (fun i => ∀ l ∈ xs.take i, legC l = 0) (by unfold B36; omega) (fun l h => by cases h) (fun i hi hall => ⟨fun rec => ?_, fun hq l hl => ?_⟩) (fun _ rec => ?_)).trans ?_
          · have hw := wrap_next hi (Nat.le_trans (Nat.le_of_not_lt h2) (by omega))
            simp only [lt_lenI hi, cond_true, geti_lt xs i hi, Option.bind_some, t_spec_LegFault, legStep, hw]
            cases hc : legC xs[i] == 0 with
            | false => rfl
            | true =>
              simp only [Bool.not_true, cond_false, cond_true, t_spec_CF_1 xs i hi (Nat.le_of_not_lt h2) xs[i], Option.bind_some]
              cases (xs.take i).any fun o => sameP o xs[i] with
              | true => rfl
              | false =>
                simp only [cond_false, Sum.elim_inl]
                have hz := legC_zero (by simpa using hc : legC xs[i] = 0)
                obtain ⟨a, ha⟩ : ∃ a : Nat, xs[i].2.2.1 = (a : Int) := ⟨xs[i].2.2.1.toNat, by omega⟩
                have ha3 : a < 3 := by have := hz.2.2.1; omega
                have hb := sumA_bnd (xs.take i) a (fun l hl => (legC_zero (hall l hl)).2.2.2.1)
                have hlt : (xs.take i).length ≤ 7 := by rw [List.length_take]; omega
                obtain ⟨s1, s2⟩ := sums3_set (xs.take i) xs[i] a ha3 ha (by have := hz.2.2.2.1; omega)
                have hg : geti (sums3 (xs.take i)) (a : Int) = some (sumA (xs.take i) a) := by rw [geti_nat, s1]
                rw [List.take_succ_eq_append_getElem hi, ← s2]
                simp only [ha, hg, Option.bind_some, Int.toNat_natCast, s1, Sum.elim_inl, Option.map_none, Option.elim_none]
          · rw [List.take_succ_eq_append_getElem hi] at hl
            rcases List.mem_append.1 hl with hl | hl
            · exact hall l hl
            · rw [List.mem_singleton] at hl
              subst hl
              cases hs : legStep xs i xs[i] with
              | some r => rw [hs] at hq; cases hq
              | none =>
                unfold legStep at hs
                cases hc : legC xs[i] == 0 with
                | true => simpa using hc
                | false => rw [hc] at hs; cases hs
          · simp only [ge_lenI, cond_false, List.take_length]
          · rw [fstI_map]
            cases fstI (legStep xs) 0 xs <;> rfl
        rw [e1]
        cases fstI (legStep xs) 0 xs with
        | some r => rfl
        | none =>
          simp only [Option.elim_none, Option.bind_some, Sum.elim_inl]
          unfold l_spec_ContractFault_3
          refine (lp_hit (sums3 xs) (fun a => !(a == 0)) (some (1 : Int)) (some 0) (by simp [sums3, B36]) (fun j hj rec hw => ?_) (fun rec => ?_)).trans ?_
          · simp only [lt_lenI hj, cond_true, geti_lt _ j hj, Option.bind_some, Int.toNat_natCast, List.getElem?_eq_getElem hj, hw]
          · simp only [ge_lenI, cond_false]
          · unfold sums3
            simp only [List.any_cons, List.any_nil, Bool.or_false]
            by_cases q0 : sumA xs 0 = 0 <;> by_cases q1 : sumA xs 1 = 0 <;> by_cases q2 : sumA xs 2 = 0 <;> simp [q0, q1, q2, beq_eq_false_iff_ne.2]

/-- A number put into a rising list. -/
def put1 (xs : List Int) (a : Int) : List Int := match xs.findIdx? (fun y => !(decide (y < a))) with
  | some j => if xs[j]? = some a then xs else xs.take j ++ [a] ++ xs.drop j
  | none => xs ++ [a]
theorem put1_len (xs : List Int) (a : Int) : (put1 xs a).length ≤ xs.length + 1 := by
  unfold put1
  split
  · split
    · omega
    · simp; omega
  · simp
theorem put1_mem (xs : List Int) (a b : Int) : b ∈ put1 xs a ↔ b ∈ xs ∨ b = a := by
  unfold put1
  split
  · rename_i j hj
    split
    · rename_i h
      constructor
      · exact .inl
      · rintro (h1 | rfl)
        · exact h1
        · exact List.mem_of_getElem? h
    · have e := List.take_append_drop j xs
      constructor
      · intro h
        simp only [List.mem_append, List.mem_singleton] at h
        rcases h with (h | h) | h
        · exact .inl (List.mem_of_mem_take h)
        · exact .inr h
        · exact .inl (List.mem_of_mem_drop h)
      · rintro (h | h)
        · rw [← e] at h
          simp only [List.mem_append, List.mem_singleton] at h ⊢
          rcases h with h | h
          · exact .inl (.inl h)
          · exact .inr h
        · simp [h]
  · simp
theorem t_spec_l1Put (xs : List Int) (a : Int) (hl : xs.length ≤ 2097152) : m_spec_l1Put (xs, a) = some (put1 xs a) := by
  show p_spec_l1Put FU _ = _
  unfold p_spec_l1Put
  simp only
  have e1 : l_spec_l1Put_1 FU xs a 0 = some (match xs.findIdx? (fun y => !(decide (y < a))) with | some j => (j : Int) | none => (xs.length : Int)) := by
    unfold l_spec_l1Put_1
    refine (lp_place xs (fun y => !(decide (y < a))) (fun j => some (j : Int)) (some (xs.length : Int)) (by unfold B36; omega) (fun j hj rec hw => ?_) (fun rec => ?_)).trans (by cases xs.findIdx? (fun y => !(decide (y < a))) <;> rfl)
    · simp only [lt_lenI hj, cond_true, geti_lt xs j hj, Option.bind_some, hw]
      cases decide (xs[j] < a) <;> rfl
    · simp only [ge_lenI, cond_false, Option.bind_some]
  rw [e1]
  unfold put1
  cases hf : xs.findIdx? (fun y => !(decide (y < a))) with
  | none =>
    have hd : decide ((xs.length : Int) < lenI xs) = false := ge_lenI
    have b1 : bndB none (some (xs.length : Int)) none xs.length = true := by simp [bndB]
    have b2 : bndB (some (xs.length : Int)) none none xs.length = true := by simp [bndB]
    have c1 : cutL none (some (xs.length : Int)) xs = xs := by simp [cutL]
    have c2 : cutL (some (xs.length : Int)) none xs = [] := by simp [cutL]
    have m1 : Nat.ble (xs.length * 8) maxBytes = true := ble_mem (by simp only [maxBytes]; omega)
    have m2 : Nat.ble ((xs.length + [a].length) * 8) maxBytes = true := ble_mem (by simp only [maxBytes, List.length_singleton]; omega)
    have m3 : Nat.ble (((xs ++ [a]).length + ([] : List Int).length) * 8) maxBytes = true := ble_mem (by simp only [maxBytes, List.length_append, List.length_singleton, List.length_nil]; omega)
    simp only [Option.bind_some, hd, cond_false, b1, b2, c1, c2, chk_true, m1, m2, m3, List.append_nil]
  | some j =>
    have hj : j < xs.length := (List.findIdx?_eq_some_iff_getElem.1 hf).1
    simp only [Option.bind_some, lt_lenI hj, cond_true, geti_lt xs j hj, List.getElem?_eq_getElem hj, Option.some.injEq]
    by_cases hx : xs[j] = a
    · simp [hx]
    · have hb : (xs[j] == a) = false := by simp [hx]
      have b1 : bndB none (some (j : Int)) none xs.length = true := by simp [bndB]; omega
      have b2 : bndB (some (j : Int)) none none xs.length = true := by simp [bndB]; omega
      have c1 : cutL none (some (j : Int)) xs = xs.take j := by simp [cutL]
      have c2 : cutL (some (j : Int)) none xs = xs.drop j := by simp only [cutL, Option.getD_some, Option.getD_none, Int.toNat_natCast]; exact List.take_of_length_le (by simp)
      have l1 : (xs.take j).length = j := by simp; omega
      have m1 : Nat.ble ((xs.take j).length * 8) maxBytes = true := ble_mem (by rw [l1]; simp only [maxBytes]; omega)
      have m2 : Nat.ble (((xs.take j).length + [a].length) * 8) maxBytes = true := ble_mem (by rw [l1]; simp only [maxBytes, List.length_singleton]; omega)
      have m3 : Nat.ble (((xs.take j ++ [a]).length + (xs.drop j).length) * 8) maxBytes = true := ble_mem (by simp only [maxBytes, List.length_append, List.length_singleton, l1, List.length_drop]; omega)
      simp only [hb, cond_false, b1, b2, c1, c2, chk_true, m1, m2, m3, if_neg hx]

/-- The shards of some legs, rising. -/
def shardsL (xs : List (Int × (Int × (Int × Int)))) : List Int := xs.foldl (fun s y => put1 s y.1) []
theorem fold_put (xs : List (Int × (Int × (Int × Int)))) : ∀ s : List Int, (xs.foldl (fun s y => put1 s y.1) s).length ≤ s.length + xs.length ∧ ∀ b, b ∈ xs.foldl (fun s y => put1 s y.1) s ↔ b ∈ s ∨ ∃ y ∈ xs, y.1 = b := by
  induction xs with
  | nil => intro s; simp
  | cons x xs ih =>
    intro s
    obtain ⟨h1, h2⟩ := ih (put1 s x.1)
    have h3 := put1_len s x.1
    refine ⟨by rw [List.foldl_cons, List.length_cons]; omega, fun b => ?_⟩
    rw [List.foldl_cons, h2, put1_mem]
    constructor
    · rintro ((h | h) | ⟨y, hy, h⟩)
      · exact .inl h
      · exact .inr ⟨x, by simp, h.symm⟩
      · exact .inr ⟨y, by simp [hy], h⟩
    · rintro (h | ⟨y, hy, h⟩)
      · exact .inl (.inl h)
      · rcases List.mem_cons.1 hy with rfl | hy
        · exact .inl (.inr h.symm)
        · exact .inr ⟨y, hy, h⟩
theorem t_spec_l1Shards (a : Int) (xs : List (Int × (Int × (Int × Int)))) (hl : xs.length ≤ 1048576) : m_spec_l1Shards (a, xs) = some (shardsL xs) := by
  show p_spec_l1Shards FU _ = _
  unfold p_spec_l1Shards l_spec_l1Shards_1 shardsL
  simp only
  refine lp_for (fun r => r = some (xs.foldl (fun s y => put1 s y.1) [])) (fun i z => z = ((xs.take i).foldl (fun s y => put1 s y.1) [], (i : Int))) xs.length (fun i z hi hz => ?_) (fun z hz rec => ?_) FU _ (FU_gt hl) rfl
  · subst hz
    have h := (fold_put (xs.take i) []).1
    simp only [List.length_nil, List.length_take] at h
    refine .inr ⟨_, rfl, fun rec => ?_⟩
    simp only [lt_lenI hi, cond_true, geti_lt xs i hi, Option.bind_some, t_spec_l1Put _ _ (show ((xs.take i).foldl (fun s y => put1 s y.1) []).length ≤ 2097152 by omega), wrap_next hi hl]
    rw [List.take_succ_eq_append_getElem hi, List.foldl_append]
    rfl
  · subst hz
    simp only [ge_lenI, cond_false, List.take_length]

theorem t_spec_l8Copy (x : SlotT) (h : x.2.2.2.2.length ≤ 1048576) : m_spec_l8Copy x = some x := by
  show p_spec_l8Copy FU _ = _
  unfold p_spec_l8Copy
  have hb : Nat.ble ((([] : List (Int × Int)).length + x.2.2.2.2.length) * 16) maxBytes = true := ble_mem (by simp only [List.length_nil, maxBytes]; omega)
  rw [chk_true hb]
  rfl

theorem t_spec_NewSlot (a b : Int) : m_spec_NewSlot (a, b) = some (newR a b) := by
  show p_spec_NewSlot FU _ = _
  unfold p_spec_NewSlot newR shB
  simp only [t_spec_l1Id, t_spec_l1In, t_spec_l8None, Option.bind_some]
  cases idB a <;> cases inB b 0 2 <;> rfl

theorem t_spec_l9Slot (xs : List SlotT) (c d : Int) (hl : xs.length ≤ 1048576) (hc : ∀ x ∈ xs, x.2.2.2.2.length ≤ 1048576) (hn : (idB c && shB d) = true) : m_spec_l9Slot (xs, c, d) = some (slotOf xs c d) := by
  show p_spec_l9Slot FU _ = _
  unfold p_spec_l9Slot slotOf
  simp only
  have e1 : l_spec_l9Slot_1 FU xs c d 0 = match xs.findIdx? (isSlot c d) with
      | some i => (xs[i]?).map Sum.inr
      | none => some (Sum.inl ()) := by
    unfold l_spec_l9Slot_1
    refine lp_place xs (isSlot c d) (fun i => (xs[i]?).map Sum.inr) (some (Sum.inl ())) (by unfold B36; omega) (fun i hi rec hw => ?_) (fun rec => ?_)
    · simp only [lt_lenI hi, cond_true, geti_lt xs i hi, Option.bind_some, hw, isSlot, t_spec_l8Copy _ (hc _ (List.getElem_mem hi)), List.getElem?_eq_getElem hi, Option.map_some]
      cases (xs[i].1 == c) <;> cases (xs[i].2.1 == d) <;> rfl
    · simp only [ge_lenI, cond_false]
  rw [e1, t_spec_NewSlot]
  have e2 : xs.find? (isSlot c d) = (xs.findIdx? (isSlot c d)).bind fun i => xs[i]? := by
    clear e1 hc hl hn
    induction xs with
    | nil => rfl
    | cons x xs ih =>
      rw [List.find?_cons, List.findIdx?_cons]
      cases isSlot c d x with
      | true => rfl
      | false =>
        simp only [ih]
        cases xs.findIdx? (isSlot c d) <;> simp
  rw [e2]
  cases hf : xs.findIdx? (isSlot c d) with
  | none =>
    simp only [Option.bind_some, Sum.elim_inl, Option.bind_none, Option.getD_none, newR, hn, Bool.not_true, cond_false, newS]
  | some i =>
    have hi : i < xs.length := (List.findIdx?_eq_some_iff_getElem.1 hf).1
    simp only [Option.bind_some, List.getElem?_eq_getElem hi, Option.map_some, Sum.elim_inr, Option.getD_some]

theorem t_spec_l9Slots (xs : List (List SlotT)) (c d : Int) (hl : xs.length ≤ 1048576) (h2 : ∀ x ∈ xs, x.length ≤ 1048576) (h3 : ∀ x ∈ xs, ∀ y ∈ x, y.2.2.2.2.length ≤ 1048576) (hn : (idB c && shB d) = true) : m_spec_l9Slots (xs, c, d) = some (xs.map fun x => slotOf x c d) := by
  show p_spec_l9Slots FU _ = _
  unfold p_spec_l9Slots l_spec_l9Slots_1
  exact grow_loop 64 (by omega) xs (fun x => m_spec_l9Slot (x, c, d)) _ (fun x hx => t_spec_l9Slot x c d (h2 x hx) (h3 x hx) hn) hl

theorem t_spec_l8Cast (s : SlotT) (v : VoteT) (hl : (castS s).length ≤ 1048576) : m_spec_l8Cast (s, v) = some ((castS s).contains v) := by
  show p_spec_l8Cast FU _ = _
  unfold p_spec_l8Cast l_spec_l8Cast_1
  refine (lp_hit (castS s) (fun u => u == v) (some true) (some false) (by unfold B36; omega) (fun i hi rec hw => ?_) (fun rec => ?_)).trans ?_
  · show cond (decide ((i : Int) < lenI (castS s))) ((geti (castS s) (i : Int)).bind _) _ = _
    simp only [lt_lenI hi, cond_true, geti_lt _ i hi, Option.bind_some, hw]
    have e : (((castS s)[i].1 == v.1) && (((castS s)[i].2 == v.2) && true)) = ((castS s)[i] == v) := by rw [Bool.and_true]; rfl
    rw [e]
  · show cond (decide (((castS s).length : Int) < lenI (castS s))) _ _ = _
    simp only [ge_lenI, cond_false]
  · have e : (castS s).any (fun u => u == v) = (castS s).contains v := by
      rw [Bool.eq_iff_iff]
      simp [List.any_eq_true]
    rw [e]
    cases (castS s).contains v <;> rfl

theorem t_spec_l8Quorum (n : Nat) (hn : n ≤ B36) : m_spec_l8Quorum (n : Int) = some ((quo n : Nat) : Int) := by
  show p_spec_l8Quorum FU _ = _
  unfold p_spec_l8Quorum quo
  unfold B36 at hn
  have e1 : ((2 : Int) == 0) = false := rfl
  rw [e1, cond_false, Int.tdiv_eq_ediv_of_nonneg (by omega), wrap64 (n := (n : Int) / 2) (by omega) (by omega), wrap64 (by omega) (by omega)]
  rfl

theorem t_l8Chosen_1 (xs : List SlotT) (v : VoteT) (hl : xs.length ≤ 9) (hc : ∀ s ∈ xs, (castS s).length ≤ 60) : l_spec_l8Chosen_1 FU xs v ((0 : Int), (0 : Int)) = some ((cntV xs v : Nat) : Int) := by
  unfold l_spec_l8Chosen_1
  refine lp_for (fun r => r = some ((cntV xs v : Nat) : Int)) (fun i z => z = (((cntV (xs.take i) v : Nat) : Int), (i : Int))) xs.length (fun i z hi hz => ?_) (fun z hz rec => ?_) FU _ (FU_gt (by omega)) (by simp [cntV])
  · subst hz
    have hb := cntV_le (xs.take i) v
    have e : cntV (xs.take (i + 1)) v = cntV (xs.take i) v + if v ∈ castS xs[i] then 1 else 0 := by
      rw [List.take_succ_eq_append_getElem hi]
      unfold cntV
      rw [List.countP_append, List.countP_singleton]
      simp
    have hlt : (xs.take i).length ≤ 9 := by rw [List.length_take]; omega
    have hw : IntKind.wrap .i64 (((cntV (xs.take i) v : Nat) : Int) + 1) = ((cntV (xs.take i) v + 1 : Nat) : Int) := by rw [wrap64 (by omega) (by omega)]; omega
    refine .inr ⟨_, rfl, fun rec => ?_⟩
    simp only [lt_lenI hi, cond_true, geti_lt xs i hi, Option.bind_some, t_spec_l8Cast xs[i] v (Nat.le_trans (hc _ (List.getElem_mem hi)) (by omega)), wrap_next hi (Nat.le_trans hl (by omega)), hw]
    rw [e]
    by_cases hm : v ∈ castS xs[i]
    · have : (castS xs[i]).contains v = true := by simpa using hm
      rw [this, if_pos hm]; rfl
    · have : (castS xs[i]).contains v = false := by simpa using hm
      rw [this, if_neg hm]; rfl
  · subst hz
    simp only [ge_lenI, cond_false, List.take_length]
theorem t_l8Chosen_2 (out : List VoteT) (b : Int) (hl : out.length ≤ 1048576) : l_spec_l8Chosen_2 FU out b (0 : Int) = some ((atV out b : Nat) : Int) := by
  unfold l_spec_l8Chosen_2
  refine lp_for (fun r => r = some ((atV out b : Nat) : Int)) (fun i z => z = (i : Int) ∧ ∀ (j : Nat) (hj : j < i) (h : j < out.length), out[j].1 < b) out.length (fun i z hi hz => ?_) (fun z hz rec => ?_) FU _ (FU_gt hl) ⟨rfl, fun j hj => by omega⟩
  · obtain ⟨rfl, hz⟩ := hz
    by_cases hb : out[i].1 < b
    · refine .inr ⟨((i + 1 : Nat) : Int), ⟨rfl, fun j hj h => ?_⟩, fun rec => ?_⟩
      · rcases Nat.lt_or_ge j i with q | q
        · exact hz j q h
        · have : j = i := by omega
          subst this; exact hb
      · simp only [lt_lenI hi, cond_true, geti_lt out i hi, Int.toNat_natCast, List.getElem?_eq_getElem hi, Option.bind_some, decide_eq_true hb, wrap_next hi hl]
    · refine .inl fun rec => ?_
      have e := takeWhile_len (fun u : VoteT => decide (u.1 < b)) out i (by omega) (fun j hj => by simpa using hz j hj (by omega)) (fun h => by simpa using hb)
      simp only [lt_lenI hi, cond_true, geti_lt out i hi, Int.toNat_natCast, List.getElem?_eq_getElem hi, Option.bind_some, decide_eq_false hb, cond_false]
      unfold atV; rw [e]
  · obtain ⟨rfl, hz⟩ := hz
    have e := takeWhile_len (fun u : VoteT => decide (u.1 < b)) out out.length (by omega) (fun j hj => by simpa using hz j hj hj) (fun h => by omega)
    simp only [ge_lenI, cond_false, Option.bind_some]
    unfold atV; rw [e]
def upTo (xs : List SlotT) (i : Nat) (out : List VoteT) : Prop :=
  out.Pairwise (fun a b => a.1 < b.1) ∧ (∀ v, v ∈ out ↔ quo xs.length ≤ cntV xs v ∧ ∃ s ∈ xs.take i, v ∈ castS s) ∧ out.length ≤ 60 * i
theorem t_l8Chosen_3 (xs : List SlotT) (hl : xs.length ≤ 9) (hc : ∀ s ∈ xs, (castS s).length ≤ 60) (ho : ∀ s ∈ xs, castGo none (castS s) = 0) (i : Nat) (hi : i < xs.length) (out : List VoteT) (h : upTo xs i out) :
    ∃ out', l_spec_l8Chosen_3 FU xs (i : Int) (out, (0 : Int)) = some out' ∧ upTo xs (i + 1) out' := by
  unfold l_spec_l8Chosen_3
  have hci := hc _ (List.getElem_mem hi)
  have hQ : quo xs.length ≤ xs.length + 1 := by unfold quo; omega
  refine lp_for (fun r => ∃ out', r = some out' ∧ upTo xs (i + 1) out') (fun k z => z.2 = (k : Int) ∧ z.1.Pairwise (fun a b => a.1 < b.1) ∧ (∀ v, v ∈ z.1 ↔ quo xs.length ≤ cntV xs v ∧ ((∃ s ∈ xs.take i, v ∈ castS s) ∨ v ∈ (castS xs[i]).take k)) ∧ z.1.length ≤ 60 * i + k) (castS xs[i]).length (fun k z hk hz => ?_) (fun z hz rec => ?_) FU _ (FU_gt (by omega)) ⟨rfl, h.1, fun v => by rw [h.2.1]; simp, by simpa using h.2.2⟩
  · obtain ⟨o, kk⟩ := z
    obtain ⟨rfl, h1, h2, h3⟩ := hz
    simp only at h1 h2 h3
    have hol : o.length ≤ 1048576 := by omega
    have hv : (castS xs[i])[k] ∈ castS xs[i] := List.getElem_mem hk
    generalize hve : (castS xs[i])[k] = v at hv
    have hgo : geti (castS xs[i]) (k : Int) = some v := by rw [geti_lt _ k hk, hve]
    have hgi : geti xs (i : Int) = some xs[i] := geti_lt xs i hi
    have hcs : castS xs[i] = xs[i].2.2.2.2 := rfl
    have hcn := cntV_le xs v
    have hq : m_spec_l8Quorum (lenI xs) = some ((quo xs.length : Nat) : Int) := t_spec_l8Quorum xs.length (by unfold B36; omega)
    have tk : ∀ u, u ∈ (castS xs[i]).take (k + 1) ↔ u ∈ (castS xs[i]).take k ∨ u = v := by
      intro u
      rw [List.take_succ_eq_append_getElem hk, hve, List.mem_append, List.mem_singleton]
    obtain ⟨a1, _, _⟩ := takeWhile_at (fun u : VoteT => decide (u.1 < v.1)) o
    change atV o v.1 ≤ o.length at a1
    rw [hcs] at hgo hk
    by_cases hqc : quo xs.length ≤ cntV xs v
    · have hnew := ins_new (v := v) h1
      have hdq : decide (((cntV xs v : Nat) : Int) ≥ ((quo xs.length : Nat) : Int)) = true := by simpa using hqc
      by_cases hm : v ∈ o
      · refine .inr ⟨(o, ((k + 1 : Nat) : Int)), ⟨rfl, h1, fun u => ?_, by show o.length ≤ _; omega⟩, fun rec => ?_⟩
        · rw [h2, tk]
          constructor
          · rintro ⟨q1, q2 | q2⟩
            · exact ⟨q1, .inl q2⟩
            · exact ⟨q1, .inr (.inl q2)⟩
          · rintro ⟨q1, q2 | q2 | rfl⟩
            · exact ⟨q1, .inl q2⟩
            · exact ⟨q1, .inr q2⟩
            · exact (h2 u).1 hm
        · have hlt : atV o v.1 < o.length := by
            rcases Nat.lt_or_ge (atV o v.1) o.length with q | q
            · exact q
            · exact absurd hm (hnew.1 (.inl (by omega)))
          have he : o[atV o v.1] = v := by
            by_cases e : o[atV o v.1] = v
            · exact e
            · exact absurd hm (hnew.1 (.inr ⟨hlt, e⟩))
          have d1 : (((atV o v.1 : Nat) : Int) == lenI o) = false := by rw [lenI_eq, beq_eq_false_iff_ne]; omega
          have d2 : ((v.1 == v.1) && ((v.2 == v.2) && true)) = true := by simp
          simp only [hgi, Option.bind_some, lt_lenI hk, cond_true, hgo, t_l8Chosen_1 xs v hl hc, t_l8Chosen_2 o v.1 hol, hq, hdq, d1, cond_false, geti_lt o _ hlt, Int.toNat_natCast, List.getElem?_eq_getElem hlt, he, d2, Bool.not_true, wrap_next hk (Nat.le_trans hci (by omega))]
      · have hins := ins_sorted h1 (fun u hu e => quo_one ho ((h2 u).1 hu).1 hqc e) hm
        have hlen : (o.take (atV o v.1) ++ [v] ++ o.drop (atV o v.1)).length = o.length + 1 := by simp; omega
        refine .inr ⟨(o.take (atV o v.1) ++ [v] ++ o.drop (atV o v.1), ((k + 1 : Nat) : Int)), ⟨rfl, hins, fun u => ?_, by show List.length (o.take (atV o v.1) ++ [v] ++ o.drop (atV o v.1)) ≤ _; rw [hlen]; omega⟩, fun rec => ?_⟩
        · rw [ins_mem, h2, tk]
          constructor
          · rintro (rfl | ⟨q1, q2 | q2⟩)
            · exact ⟨hqc, .inr (.inr rfl)⟩
            · exact ⟨q1, .inl q2⟩
            · exact ⟨q1, .inr (.inl q2)⟩
          · rintro ⟨q1, q2 | q2 | rfl⟩
            · exact .inr ⟨q1, .inl q2⟩
            · exact .inr ⟨q1, .inr q2⟩
            · exact .inl rfl
        · have hcond : (cond (((atV o v.1 : Nat) : Int) == lenI o) (some true) ((geti o ((atV o v.1 : Nat) : Int)).bind fun _ => (o[((atV o v.1 : Nat) : Int).toNat]?).bind fun y753 => some (!((y753.1 == v.1) && ((y753.2 == v.2) && true))))) = some true := by
            rcases hnew.2 hm with e | ⟨hlt, e⟩
            · have d1 : (((atV o v.1 : Nat) : Int) == lenI o) = true := by rw [lenI_eq, e]; simp
              rw [d1, cond_true]
            · have d1 : (((atV o v.1 : Nat) : Int) == lenI o) = false := by rw [lenI_eq, beq_eq_false_iff_ne]; omega
              have d2 : ((o[atV o v.1].1 == v.1) && ((o[atV o v.1].2 == v.2) && true)) = false := by
                rw [Bool.and_true]
                have : (o[atV o v.1] == v) = false := by simpa using e
                exact this
              simp only [d1, cond_false, geti_lt o _ hlt, Option.bind_some, Int.toNat_natCast, List.getElem?_eq_getElem hlt, d2, Bool.not_false]
          simp only [Int.toNat_natCast] at hcond
          have b1 : bndB none (some ((atV o v.1 : Nat) : Int)) none o.length = true := by simp [bndB]; omega
          have b2 : bndB (some ((atV o v.1 : Nat) : Int)) none none o.length = true := by simp [bndB]; omega
          have eD : (o.drop (atV o v.1)).take (o.length - atV o v.1) = o.drop (atV o v.1) := List.take_of_length_le (by rw [List.length_drop]; omega)
          have n1 : Nat.ble ((o.take (atV o v.1)).length * 16) maxBytes = true := by rw [Nat.ble_eq, List.length_take]; unfold maxBytes; omega
          have n2 : Nat.ble (((o.take (atV o v.1)).length + [v].length) * 16) maxBytes = true := by rw [Nat.ble_eq, List.length_take]; simp only [List.length_singleton]; unfold maxBytes; omega
          have n3 : Nat.ble (((o.take (atV o v.1) ++ [v]).length + (o.drop (atV o v.1)).length) * 16) maxBytes = true := by rw [Nat.ble_eq, List.length_append, List.length_take, List.length_drop]; simp only [List.length_singleton]; unfold maxBytes; omega
          simp only [hgi, Option.bind_some, lt_lenI hk, cond_true, hgo, t_l8Chosen_1 xs v hl hc, t_l8Chosen_2 o v.1 hol, hq, hdq, hcond, Int.toNat_natCast, List.drop_zero, b1, b2, eD, n1, n2, n3, chk, wrap_next hk (Nat.le_trans hci (by omega))]
    · have hdq : decide (((cntV xs v : Nat) : Int) ≥ ((quo xs.length : Nat) : Int)) = false := by simpa using hqc
      refine .inr ⟨(o, ((k + 1 : Nat) : Int)), ⟨rfl, h1, fun u => ?_, by show o.length ≤ _; omega⟩, fun rec => ?_⟩
      · rw [h2, tk]
        constructor
        · rintro ⟨q1, q2 | q2⟩
          · exact ⟨q1, .inl q2⟩
          · exact ⟨q1, .inr (.inl q2)⟩
        · rintro ⟨q1, q2 | q2 | rfl⟩
          · exact ⟨q1, .inl q2⟩
          · exact ⟨q1, .inr q2⟩
          · exact absurd q1 hqc
      · simp only [hgi, Option.bind_some, lt_lenI hk, cond_true, hgo, t_l8Chosen_1 xs v hl hc, t_l8Chosen_2 o v.1 hol, hq, hdq, cond_false, wrap_next hk (Nat.le_trans hci (by omega))]
  · obtain ⟨o, kk⟩ := z
    obtain ⟨rfl, h1, h2, h3⟩ := hz
    simp only at h1 h2 h3
    have hgi : geti xs (i : Int) = some xs[i] := geti_lt xs i hi
    refine ⟨o, ?_, h1, fun v => ?_, by omega⟩
    · simp only [hgi, Option.bind_some]
      show cond (decide (((castS xs[i]).length : Int) < lenI (castS xs[i]))) _ _ = _
      simp only [ge_lenI, cond_false]
    · rw [h2, List.take_length, List.take_succ_eq_append_getElem hi]
      constructor
      · rintro ⟨q1, ⟨s, hs, q2⟩ | q2⟩
        · exact ⟨q1, s, List.mem_append_left _ hs, q2⟩
        · exact ⟨q1, xs[i], List.mem_append_right _ (by simp), q2⟩
      · rintro ⟨q1, s, hs, q2⟩
        rcases List.mem_append.1 hs with hs | hs
        · exact ⟨q1, .inl ⟨s, hs, q2⟩⟩
        · rw [List.mem_singleton] at hs; subst hs; exact ⟨q1, .inr q2⟩
theorem t_spec_l8Chosen (xs : List SlotT) (hl : xs.length ≤ 9) (hc : ∀ s ∈ xs, (castS s).length ≤ 60) (ho : ∀ s ∈ xs, castGo none (castS s) = 0) : ∃ out, m_spec_l8Chosen xs = some out ∧ chosenOK xs out ∧ out.length ≤ 540 := by
  show ∃ out, p_spec_l8Chosen FU xs = some out ∧ _
  unfold p_spec_l8Chosen l_spec_l8Chosen_4
  refine lp_for (fun r => ∃ out, r = some out ∧ chosenOK xs out ∧ out.length ≤ 540) (fun i z => z.2 = (i : Int) ∧ upTo xs i z.1) xs.length (fun i z hi hz => ?_) (fun z hz rec => ?_) FU _ (FU_gt (by omega)) ⟨rfl, List.Pairwise.nil, fun v => by simp, by simp⟩
  · obtain ⟨o, ii⟩ := z
    obtain ⟨rfl, h⟩ := hz
    obtain ⟨o', e, h'⟩ := t_l8Chosen_3 xs hl hc ho i hi o h
    refine .inr ⟨(o', ((i + 1 : Nat) : Int)), ⟨rfl, h'⟩, fun rec => ?_⟩
    simp only [lt_lenI hi, cond_true, e, Option.bind_some, wrap_next hi (Nat.le_trans hl (by omega))]
  · obtain ⟨o, ii⟩ := z
    obtain ⟨rfl, h1, h2, h3⟩ := hz
    simp only at h1 h2 h3
    refine ⟨o, by simp only [ge_lenI, cond_false], ⟨h1, fun v => ?_⟩, by omega⟩
    rw [h2, List.take_length]
    constructor
    · exact fun h => h.1
    · intro h
      refine ⟨h, ?_⟩
      have : 0 < cntV xs v := by unfold quo at h; omega
      obtain ⟨s, hs, h⟩ := List.countP_pos_iff.1 this
      exact ⟨s, hs, by simpa using h⟩

theorem t_spec_l9Chosen (xs : List (List SlotT)) (c d : Int) (he : accsCode xs = 0) (hn : (idB c && shB d) = true) : m_spec_l9Chosen (xs, c, d) = some (chV (xs.map fun x => slotOf x c d)) := by
  have hz := acc_sizes he
  have ha := slots_ask he hn
  obtain ⟨q1, q2, q3⟩ := ask_cast ha
  obtain ⟨out, e, ho, hlo⟩ := t_spec_l8Chosen _ q1 q2 q3
  have hsl : m_spec_l9Slots (xs, c, d) = some (xs.map fun x => slotOf x c d) := t_spec_l9Slots xs c d (by have := hz.1; omega) (fun x hx => Nat.le_trans (hz.2.1 x hx) (by omega)) (fun x hx y hy => Nat.le_trans (hz.2.2 x hx y hy) (by omega)) hn
  rw [chV_eq ho]
  show p_spec_l9Chosen FU _ = _
  unfold p_spec_l9Chosen
  simp only [hsl, e, Option.bind_some]
  cases out with
  | nil => rfl
  | cons v r =>
    have d : (lenI (v :: r) == 0) = false := by rw [lenI_eq, beq_eq_false_iff_ne, List.length_cons]; omega
    have hz : geti (v :: r) (0 : Int) = some v := rfl
    simp only [d, cond_false, hz, Option.bind_some]
    rfl

theorem shards_mem (xs : List LegT) {v : Int} (h : v ∈ shardsL xs) : ∃ l ∈ xs, l.1 = v := by
  have := (fold_put xs []).2 v
  unfold shardsL at h
  rw [this] at h
  simpa using h
theorem shards_len (xs : List LegT) : (shardsL xs).length ≤ xs.length := by have := (fold_put xs []).1; simpa [shardsL] using this
noncomputable def outV (xs : List (List SlotT)) (c : ConT) : Int := outc true ((shardsL c.2).map fun d => chV (xs.map fun x => slotOf x c.1 d))
theorem t_spec_l9Outcome (xs : List (List SlotT)) (c : ConT) (he : accsCode xs = 0) (hc : conC c = 0) : m_spec_l9Outcome (xs, c) = some (outV xs c) := by
  obtain ⟨c1, c2, c3⟩ := conC_zero hc
  show p_spec_l9Outcome FU _ = _
  unfold p_spec_l9Outcome
  have hsl := shards_len c.2
  have hch : ∀ d ∈ shardsL c.2, m_spec_l9Chosen (xs, c.1, d) = some (chV (xs.map fun x => slotOf x c.1 d)) := fun d hd => by
    obtain ⟨l, hl, rfl⟩ := shards_mem c.2 hd
    exact t_spec_l9Chosen xs c.1 l.1 he (by rw [c1, c3 l hl]; rfl)
  obtain ⟨ci, legs⟩ := c
  have e0 := t_spec_l1Shards ci legs (by simp only at c2; omega)
  simp only [e0, Option.bind_some]
  simp only at hsl hch c2
  unfold l_spec_l9Outcome_1 outV
  refine lp_for (fun r => r = some (outc true ((shardsL legs).map fun d => chV (xs.map fun x => slotOf x ci d)))) (fun i z => ∃ b : Bool, z = (cond b (1 : Int) 0, (i : Int)) ∧ outc true ((shardsL legs).map fun d => chV (xs.map fun x => slotOf x ci d)) = outc b (((shardsL legs).drop i).map fun d => chV (xs.map fun x => slotOf x ci d))) (shardsL legs).length (fun i z hi hz => ?_) (fun z hz rec => ?_) FU _ (FU_gt (by omega)) ⟨true, rfl, rfl⟩
  · obtain ⟨b, rfl, hz⟩ := hz
    rw [List.drop_eq_getElem_cons hi, List.map_cons, outc_cons] at hz
    have hw : IntKind.wrap .i64 ((i : Int) + 1) = ((i + 1 : Nat) : Int) := wrap_next hi (by omega)
    cases h2 : chV (xs.map fun x => slotOf x ci (shardsL legs)[i]) == 2 with
    | true =>
      rw [h2] at hz
      refine .inl fun rec => ?_
      simp only [lt_lenI hi, cond_true, geti_lt _ i hi, Option.bind_some, hch _ (List.getElem_mem hi), h2]
      rw [hz]; rfl
    | false =>
      rw [h2] at hz
      refine .inr ⟨_, ⟨_, rfl, hz⟩, fun rec => ?_⟩
      simp only [lt_lenI hi, cond_true, geti_lt _ i hi, Option.bind_some, hch _ (List.getElem_mem hi), h2, cond_false, hw]
      cases chV (xs.map fun x => slotOf x ci (shardsL legs)[i]) == 0 <;> cases b <;> rfl
  · obtain ⟨b, rfl, hz⟩ := hz
    rw [List.drop_length, List.map_nil, outc_nil] at hz
    simp only [ge_lenI, cond_false]
    rw [hz]

noncomputable def outR (xs : List (List SlotT)) (c : ConT) : Int × Int := if accsCode xs ≠ 0 then (accsCode xs, 0) else if conC c ≠ 0 then (conC c, 0) else (0, outV xs c)
theorem t_spec_OutcomeOf (xs : List (List SlotT)) (c : ConT) (hl : xs.length ≤ 1048576) (hc : c.2.length ≤ 1048576) : m_spec_OutcomeOf (xs, c) = some (outR xs c) := by
  show p_spec_OutcomeOf FU _ = _
  unfold p_spec_OutcomeOf outR
  simp only [t_spec_l9List xs hl, t_spec_ContractFault c hc, Option.bind_some]
  by_cases h1 : accsCode xs = 0
  · have b1 : (accsCode xs == 0) = true := by rw [h1]; rfl
    rw [if_neg (by simp [h1]), b1]
    by_cases h2 : conC c = 0
    · have b2 : (conC c == 0) = true := by rw [h2]; rfl
      rw [if_neg (by simp [h2]), b2]
      simp only [Bool.not_true, cond_false, t_spec_l9Outcome xs c h1 h2, Option.bind_some]
    · have b2 : (conC c == 0) = false := by simpa using h2
      rw [if_pos h2, b2]; rfl
  · have b1 : (accsCode xs == 0) = false := by simpa using h1
    rw [if_pos h1, b1]; rfl

theorem t_impl_within (a b c : Int) : m_impl_within (a, b, c) = some (inB a b c) := by
  show p_impl_within FU _ = _
  unfold p_impl_within inB
  by_cases h : b ≤ a <;> simp [h]

theorem t_impl_isId (a : Int) : m_impl_isId a = some (idB a) := by
  show p_impl_isId FU _ = _
  unfold p_impl_isId idB
  rw [t_impl_within]; rfl

theorem t_impl_isShard (a : Int) : m_impl_isShard a = some (shB a) := by
  show p_impl_isShard FU _ = _
  unfold p_impl_isShard shB
  rw [t_impl_within]; rfl

theorem t_impl_isBallot (a : Int) : m_impl_isBallot a = some (bal a) := by
  show p_impl_isBallot FU _ = _
  unfold p_impl_isBallot bal
  rw [t_impl_within]; rfl

theorem t_impl_isValue (a : Int) : m_impl_isValue a = some (vlu a) := by
  show p_impl_isValue FU _ = _
  unfold p_impl_isValue vlu
  cases h : (a == (1 : Int)) <;> simp

theorem t_impl_isVote (a : Int × Int) : m_impl_isVote a = some (votB a) := by
  show p_impl_isVote FU _ = _
  unfold p_impl_isVote votB
  rw [t_impl_isBallot, t_impl_isValue]
  cases bal a.1 <;> rfl

theorem t_impl_castFault (xs : List (Int × Int)) (h : xs.length ≤ 60) : m_impl_castFault xs = some (castGo none xs) := by
  show p_impl_castFault FU _ = _
  unfold p_impl_castFault l_impl_castFault_1
  rw [← cast_all]
  refine (lp_fst xs (castF xs) (some 0) (by unfold B36; omega) (fun i hi rec hw => ?_) (fun rec => ?_)).trans (by cases fstI (castF xs) 0 xs <;> rfl)
  · simp only [lt_lenI hi, cond_true, geti_lt xs i hi, Option.bind_some, t_impl_isVote, castF, hw]
    cases votB xs[i] with
    | false => rfl
    | true =>
      simp only [Bool.not_true, cond_false]
      by_cases h0 : 0 < i
      · have hd : decide ((i : Int) > 0) = true := by simp; omega
        have hp := prv (i := i) (by unfold B36; omega) h0
        have hi1 : i - 1 < xs.length := by omega
        simp only [hd, cond_true, hp, geti_lt xs _ hi1, Option.bind_some, h0, decide_true, Bool.true_and, List.getElem?_eq_getElem hi1, Option.getD_some, badP]
        cases decide (xs[i].1 < xs[i - 1].1) <;> cases (xs[i].1 == xs[i - 1].1) <;> cases (xs[i].2 == xs[i - 1].2) <;> rfl
      · have hd : decide ((i : Int) > 0) = false := by simp; omega
        simp only [hd, cond_false, Option.bind_some, h0, decide_false, Bool.false_and, cond_false]
  · simp only [ge_lenI, cond_false]

theorem t_impl_noVote : m_impl_noVote () = some (-1, 0) := rfl

theorem t_impl_lastCast (xs : List (Int × Int)) (h : xs.length ≤ 60) : m_impl_lastCast xs = some (lastV xs) := by
  show p_impl_lastCast FU _ = _
  unfold p_impl_lastCast lastV
  by_cases h0 : xs.length = 0
  · have : xs = [] := List.eq_nil_of_length_eq_zero h0
    subst this
    rfl
  · have h1 : (lenI xs == 0) = false := by rw [lenI_eq, beq_eq_false_iff_ne]; omega
    have h2 : IntKind.wrap .i64 (lenI xs - 1) = ((xs.length - 1 : Nat) : Int) := by rw [lenI_eq, wrap64 (by omega) (by omega)]; omega
    have hlt : xs.length - 1 < xs.length := by omega
    simp only [h1, cond_false, h2, geti_lt xs _ hlt, Option.bind_some]
    rw [List.getLast?_eq_getElem?, List.getElem?_eq_getElem hlt]
    rfl

theorem t_impl_SlotFault (x : SlotT) : m_impl_SlotFault x = some (slotCode x) := by
  obtain ⟨a, b, c, d, xs⟩ := x
  show p_impl_SlotFault FU _ = _
  unfold p_impl_SlotFault slotCode
  simp only [t_impl_isId, t_impl_isShard, t_impl_within, Option.bind_some]
  have e0 : (cond (!idB a) (some true) (cond (!shB b) (some true) (some (!inB c (-1) 1000)))) = some (!(idB a && (shB b && inB c (-1) 1000))) := by
    cases idB a <;> cases shB b <;> rfl
  rw [e0]
  simp only [Option.bind_some]
  cases (idB a && (shB b && inB c (-1) 1000)) with
  | false => rfl
  | true =>
    simp only [Bool.not_true, cond_false]
    by_cases hl : xs.length > 60
    · have : decide (lenI xs > 60) = true := by simp [lenI_eq]; omega
      simp [this, hl]
    · have : decide (lenI xs > 60) = false := by simp [lenI_eq]; omega
      simp only [this, cond_false, if_neg hl, t_impl_castFault xs (by omega), t_impl_lastCast xs (by omega), Option.bind_some]
      by_cases hc : castGo none xs = 0
      · obtain ⟨d1, d2⟩ := d
        have e2 : (!((d1 == (lastV xs).1) && ((d2 == (lastV xs).2) && true))) = !((d1, d2) == lastV xs) := by
          rw [Bool.and_true]; rfl
        simp only [hc, e2]
        cases ((d1, d2) == lastV xs) with
        | false => simp
        | true => by_cases hh : d1 > c <;> simp [hh]
      · have hb : (castGo none xs == 0) = false := by rw [beq_eq_false_iff_ne]; exact hc
        simp [hc, hb]

theorem t_cmp_Compare_int64 (a b : Int) : m_cmp_Compare_int64 (a, b) = some (if a < b then -1 else if a > b then 1 else 0) := by
  show p_cmp_Compare_int64 FU _ = _
  unfold p_cmp_Compare_int64
  have e : ∀ a : Int, m_cmp_isNaN_int64 a = some false := fun a => by
    show p_cmp_isNaN_int64 FU a = _
    unfold p_cmp_isNaN_int64
    simp
  simp only [e, Option.bind_some, cond_false]
  by_cases h1 : a < b
  · simp [h1]
  · by_cases h2 : a > b <;> simp [h1, h2]

theorem t_cmp_Or_int (a b : Int) : m_cmp_Or_int [a, b] = some (if a = 0 then b else a) := by
  show p_cmp_Or_int FU _ = _
  unfold p_cmp_Or_int l_cmp_Or_int_1
  obtain ⟨m, hm⟩ : ∃ m, FU = m + 1 + 1 + 1 := ⟨18446744073709551613, rfl⟩
  rw [hm]
  have w1 : IntKind.wrap .i64 1 = 1 := rfl
  have w2 : IntKind.wrap .i64 2 = 2 := rfl
  by_cases h1 : a = 0
  · by_cases h2 : b = 0
    · simp [lp, geti, lenI, h1, h2, w1, w2]
    · have hb : (b == 0) = false := by simp [h2]
      simp [lp, geti, lenI, h1, hb, w1, w2]
  · have hb : (a == 0) = false := by simp [h1]
    simp [lp, geti, lenI, h1, hb]

theorem t_impl_compareSlots (a b : SlotT) : m_impl_compareSlots (a, b) = some (cmpS a b) := by
  show p_impl_compareSlots FU _ = _
  unfold p_impl_compareSlots cmpS
  simp only [t_cmp_Compare_int64, t_cmp_Or_int, Option.bind_some]

theorem t_impl_AcceptorFault (xs : List SlotT) : m_impl_AcceptorFault xs = some (accCode xs) := by
  show p_impl_AcceptorFault FU xs = _
  unfold p_impl_AcceptorFault accCode
  by_cases hl : xs.length > 60
  · have : decide (lenI xs > 60) = true := by simp [lenI_eq]; omega
    rw [this, if_pos hl]; rfl
  · have : decide (lenI xs > 60) = false := by simp [lenI_eq]; omega
    rw [this, if_neg hl, cond_false]
    unfold l_impl_AcceptorFault_1
    refine (lp_fst xs (accStep xs) (some 0) (by unfold B36; omega) (fun i hi rec hw => ?_) (fun rec => ?_)).trans (by cases fstI (accStep xs) 0 xs <;> rfl)
    · simp only [lt_lenI hi, cond_true, geti_lt xs i hi, Option.bind_some, t_impl_SlotFault, accStep, hw]
      cases (slotCode xs[i] == 0) with
      | false => rfl
      | true =>
        simp only [Bool.not_true, cond_false]
        by_cases h0 : 0 < i
        · have hd : decide ((i : Int) > 0) = true := by simp; omega
          have hi1 : i - 1 < xs.length := by omega
          simp only [hd, cond_true, prv (i := i) (by unfold B36; omega) h0, geti_lt xs _ hi1, Option.bind_some, t_impl_compareSlots, cmpS_ahead, h0, decide_true, Bool.true_and, List.getElem?_eq_getElem hi1, Option.getD_some]
          cases aheadB xs[i - 1] xs[i] <;> rfl
        · have hd : decide ((i : Int) > 0) = false := by simp; omega
          simp only [hd, cond_false, Option.bind_some, h0, decide_false, Bool.false_and]
    · simp only [ge_lenI, cond_false]

theorem t_impl_listFault (xs : List (List SlotT)) (hl : xs.length ≤ 1048576) : m_impl_listFault xs = some (accsCode xs) := by
  show p_impl_listFault FU xs = _
  unfold p_impl_listFault accsCode
  have e0 : m_impl_size_impl_Acceptor xs = some (lenI xs) := rfl
  rw [e0]
  simp only [Option.bind_some, t_impl_within, inB]
  by_cases h1 : xs.length < 1
  · have : decide ((1 : Int) ≤ lenI xs) = false := decide_eq_false (by rw [lenI_eq]; omega)
    rw [this, if_pos (.inl h1)]; rfl
  · have e1 : decide ((1 : Int) ≤ lenI xs) = true := decide_eq_true (by rw [lenI_eq]; omega)
    by_cases h2 : xs.length > 5
    · have : decide (lenI xs ≤ 5) = false := decide_eq_false (by rw [lenI_eq]; omega)
      rw [e1, this, if_pos (.inr h2)]; rfl
    · have : decide (lenI xs ≤ 5) = true := decide_eq_true (by rw [lenI_eq]; omega)
      rw [e1, this, if_neg (by omega)]
      simp only [Bool.and_self, Bool.not_true, cond_false]
      unfold l_impl_listFault_1
      refine (lp_fst xs (fun _ y => accsF y) (some 0) (by unfold B36; omega) (fun i hi rec hw => ?_) (fun rec => ?_)).trans (by cases fstI (fun _ y => accsF y) 0 xs <;> rfl)
      · simp only [lt_lenI hi, cond_true, geti_lt xs i hi, Option.bind_some, t_impl_AcceptorFault, accsF, hw]
        cases (accCode xs[i] == 0) <;> rfl
      · simp only [ge_lenI, cond_false]

theorem t_impl_size_impl_Leg (xs : List LegT) : m_impl_size_impl_Leg xs = some (lenI xs) := rfl

theorem t_impl_isAsset (a : Int) : m_impl_isAsset a = some (inB a 0 2) := by
  show p_impl_isAsset FU _ = _
  unfold p_impl_isAsset
  simp only [t_impl_within, Option.bind_some]

theorem t_impl_isPlace (a b : Int) : m_impl_isPlace (a, b) = some (plB a b) := by
  show p_impl_isPlace FU _ = _
  unfold p_impl_isPlace plB
  simp only [t_impl_within, t_impl_isAsset, Option.bind_some]
  cases inB a 0 5 <;> rfl

theorem t_impl_LegFault (l : LegT) : m_impl_LegFault l = some (legC l) := by
  show p_impl_LegFault FU _ = _
  unfold p_impl_LegFault legC
  simp only [t_impl_isShard, t_impl_isPlace, t_impl_within, Option.bind_some]
  unfold shB
  cases inB l.1 0 2 with
  | false => rfl
  | true =>
    cases plB l.2.1 l.2.2.1 with
    | false => rfl
    | true =>
      cases inB l.2.2.2 (-1000000000000) 1000000000000 with
      | false => rfl
      | true => cases h : (l.2.2.2 == 0) <;> simp [h]

theorem t_impl_samePlace (a b : LegT) : m_impl_samePlace (a, b) = some (sameP a b) := by
  show p_impl_samePlace FU _ = _
  unfold p_impl_samePlace sameP
  simp only
  cases (a.1 == b.1) with
  | false => rfl
  | true => cases (a.2.1 == b.2.1) <;> rfl

def mapA : List LegT → List (Int × Int) := fun xs => xs.foldl (fun m l => mupd (.int .i64) m l.2.2.1 (mlook (.int .i64) m l.2.2.1 + l.2.2.2)) []
theorem mapA_snoc (xs : List LegT) (l : LegT) : mapA (xs ++ [l]) = mupd (.int .i64) (mapA xs) l.2.2.1 (mlook (.int .i64) (mapA xs) l.2.2.1 + l.2.2.2) := by
  unfold mapA; rw [List.foldl_append]; rfl
theorem mapA_ok : ∀ (n : Nat) (xs : List LegT), xs.length = n → ((mapA xs).map (·.1)).Nodup ∧ (∀ a, mlook (.int .i64) (mapA xs) a = sumA xs a) ∧ ∀ a, a ∈ (mapA xs).map (·.1) → ∃ l ∈ xs, l.2.2.1 = a
  | 0, xs, h => by
    have : xs = [] := List.length_eq_zero_iff.1 h
    subst this
    exact ⟨List.nodup_nil, fun a => rfl, fun a h => by cases h⟩
  | n + 1, xs, h => by
    obtain ⟨ys, l, rfl⟩ : ∃ ys l, xs = ys ++ [l] := ⟨xs.dropLast, xs.getLast (by intro e; rw [e] at h; cases h), (List.dropLast_concat_getLast _).symm⟩
    obtain ⟨h1, h2, h3⟩ := mapA_ok n ys (by simpa using h)
    rw [mapA_snoc]
    obtain ⟨k1, k2⟩ := mupd_keys (mapA ys) l.2.2.1 (mlook (.int .i64) (mapA ys) l.2.2.1 + l.2.2.2) h1
    refine ⟨k1, fun a => ?_, fun a ha => ?_⟩
    · rw [mlook_upd, h2, h2, sumA_snoc]
      by_cases e : a = l.2.2.1
      · subst e
        simp
      · have e1 : (a == l.2.2.1) = false := by simpa using e
        have e2 : (l.2.2.1 == a) = false := by rw [beq_eq_false_iff_ne]; exact fun h => e h.symm
        rw [e1, e2]; simp
    · rcases (k2 a).1 ha with q | q
      · obtain ⟨x, hx, e⟩ := h3 a q
        exact ⟨x, List.mem_append_left _ hx, e⟩
      · exact ⟨l, by simp, q.symm⟩
theorem mapA_len (xs : List LegT) : (mapA xs).length ≤ xs.length := by
  have key : ∀ (ys : List LegT) (m : List (Int × Int)), (ys.foldl (fun m l => mupd (.int .i64) m l.2.2.1 (mlook (.int .i64) m l.2.2.1 + l.2.2.2)) m).length ≤ m.length + ys.length := by
    intro ys
    induction ys with
    | nil => intro m; simp
    | cons y ys ih =>
      intro m
      rw [List.foldl_cons]
      have h1 := ih (mupd (.int .i64) m y.2.2.1 (mlook (.int .i64) m y.2.2.1 + y.2.2.2))
      have h2 : (mupd (.int .i64) m y.2.2.1 (mlook (.int .i64) m y.2.2.1 + y.2.2.2)).length ≤ m.length + 1 := by
        unfold mupd
        split
        · unfold mset; rw [List.length_modify]; omega
        · rw [List.length_append, List.length_singleton]; omega
      rw [List.length_cons]; omega
  simpa [mapA] using key xs []
theorem t_impl_CF_1 (xs : List LegT) (i : Nat) (hi : i < xs.length) (hl : xs.length ≤ 8) (l : LegT) : ∃ j : Int, l_impl_ContractFault_1 FU (i : Int) xs l (0 : Int) = some j ∧ decide (j ≥ 0) = (xs.take i).any fun o => sameP o l := by
  have hcut : cutL none (some (i : Int)) xs = xs.take i := by simp [cutL]
  have e : l_impl_ContractFault_1 FU (i : Int) xs l (0 : Int) = ((xs.take i).findIdx? fun o => sameP o l).elim (some (-1)) (fun j => some (j : Int)) := by
    unfold l_impl_ContractFault_1
    rw [hcut]
    have hlen : (xs.take i).length ≤ 8 := by rw [List.length_take]; omega
    refine (lp_place (xs.take i) (fun o => sameP o l) (fun j => some (j : Int)) (some (-1 : Int)) (by unfold B36; omega) (fun j hj rec hw => ?_) (fun rec => ?_)).trans ?_
    · simp only [lt_lenI hj, cond_true, geti_lt _ j hj, Option.bind_some, t_impl_samePlace, hw]
    · simp only [ge_lenI, cond_false]
    · cases (xs.take i).findIdx? fun o => sameP o l <;> rfl
  cases hf : (xs.take i).findIdx? fun o => sameP o l with
  | none =>
    refine ⟨-1, by rw [e, hf]; rfl, ?_⟩
    have : (xs.take i).any (fun o => sameP o l) = false := by
      rw [List.findIdx?_eq_none_iff] at hf
      rw [List.any_eq_false]
      intro s hs
      simpa using hf s hs
    rw [this]; rfl
  | some j =>
    refine ⟨(j : Int), by rw [e, hf]; rfl, ?_⟩
    have : (xs.take i).any (fun o => sameP o l) = true := by
      rw [List.findIdx?_eq_some_iff_getElem] at hf
      obtain ⟨h, h1, _⟩ := hf
      rw [List.any_eq_true]
      exact ⟨_, List.getElem_mem h, h1⟩
    rw [this]
    exact decide_eq_true (by omega)
theorem t_impl_ContractFault (c : ConT) (hl : c.2.length ≤ 1048576) : m_impl_ContractFault c = some (conC c) := by
  obtain ⟨id, xs⟩ := c
  show p_impl_ContractFault FU _ = _
  unfold p_impl_ContractFault conC
  simp only [t_impl_isId, t_impl_size_impl_Leg, t_impl_within, Option.bind_some]
  cases idB id with
  | false => rfl
  | true =>
    simp only [Bool.not_true, cond_false]
    by_cases hn : xs.length < 2 ∨ 8 < xs.length
    · have : inB (lenI xs) 2 8 = false := by
        unfold inB; rw [lenI_eq]
        rcases hn with h | h
        · rw [decide_eq_false (show ¬ (2 : Int) ≤ (xs.length : Int) by omega)]; rfl
        · rw [decide_eq_false (show ¬ (xs.length : Int) ≤ 8 by omega), Bool.and_false]
      simp only [this, Bool.not_false, cond_true, if_pos hn]
    · have : inB (lenI xs) 2 8 = true := by
        unfold inB; rw [lenI_eq, decide_eq_true (show (2 : Int) ≤ (xs.length : Int) by omega), decide_eq_true (show (xs.length : Int) ≤ 8 by omega)]; rfl
      simp only [this, Bool.not_true, cond_false, if_neg hn]
      have h8 : xs.length ≤ 8 := by omega
      have e1 : l_impl_ContractFault_2 FU xs ((0 : Int), ([] : List (Int × Int))) = (fstI (legStep xs) 0 xs).elim (some (Sum.inl (mapA xs))) (fun r => some (Sum.inr r)) := by
        unfold l_impl_ContractFault_2
        refine (lp_fstS xs (fun i l => (legStep xs i l).map (Sum.inr (α := List (Int × Int)))) (fun i => ((i : Int), mapA (xs.take i))) (some (Sum.inl (mapA xs))) (fun i => ∀ l ∈ xs.take i, legC l = 0) (by unfold B36; omega) (fun l h => by cases h) (fun i hi hall => ⟨fun rec => ?_, fun hq l hl => ?_⟩) (fun _ rec => ?_)).trans ?_
        · have hw := wrap_next hi (Nat.le_trans h8 (by omega))
          have hbd : bndB none (some (i : Int)) none xs.length = true := by simp [bndB]; omega
          obtain ⟨j, ej, hj⟩ := t_impl_CF_1 xs i hi h8 xs[i]
          simp only [lt_lenI hi, cond_true, geti_lt xs i hi, Option.bind_some, t_impl_LegFault, legStep, hw]
          cases hc : legC xs[i] == 0 with
          | false => rfl
          | true =>
            simp only [Bool.not_true, cond_false, cond_true, chk, hbd, ej, Option.bind_some, hj]
            cases (xs.take i).any fun o => sameP o xs[i] with
            | true => rfl
            | false =>
              have hz := legC_zero (by simpa using hc : legC xs[i] = 0)
              have hb := sumA_bnd (xs.take i) xs[i].2.2.1 (fun l hl => (legC_zero (hall l hl)).2.2.2.1)
              have hlt : (xs.take i).length ≤ 7 := by rw [List.length_take]; omega
              have hm := (mapA_ok _ (xs.take i) rfl).2.1 xs[i].2.2.1
              have hwr : IntKind.wrap .i64 (mlook (.int .i64) (mapA (xs.take i)) xs[i].2.2.1 + xs[i].2.2.2) = mlook (.int .i64) (mapA (xs.take i)) xs[i].2.2.1 + xs[i].2.2.2 := by
                rw [hm]
                have := hz.2.2.2.1
                exact wrap64 (by omega) (by omega)
              rw [List.take_succ_eq_append_getElem hi, mapA_snoc]
              simp only [cond_false, hwr, Option.map_none, Option.elim_none]
        · rw [List.take_succ_eq_append_getElem hi] at hl
          rcases List.mem_append.1 hl with hl | hl
          · exact hall l hl
          · rw [List.mem_singleton] at hl
            subst hl
            cases hs : legStep xs i xs[i] with
            | some r => rw [hs] at hq; cases hq
            | none =>
              unfold legStep at hs
              cases hc : legC xs[i] == 0 with
              | true => simpa using hc
              | false => rw [hc] at hs; cases hs
        · simp only [ge_lenI, cond_false, List.take_length]
        · rw [fstI_map]
          cases fstI (legStep xs) 0 xs <;> rfl
      rw [e1]
      cases hf : fstI (legStep xs) 0 xs with
      | some r => rfl
      | none =>
        have hall := fst_ok xs 0 hf
        obtain ⟨k1, k2, k3⟩ := mapA_ok _ xs rfl
        have hml := mapA_len xs
        simp only [Option.elim_none, Option.bind_some, Sum.elim_inl]
        have e2 : l_impl_ContractFault_3 FU (mapA xs) (lenI (mapA xs), ([] : List Int)) = some (cond ((mapA xs).any fun p => !(p.2 == 0)) 1 0) := by
          unfold l_impl_ContractFault_3
          refine draw_any (m := mapA xs) (fun p => !(p.2 == 0)) 1 0 (by unfold B36; omega) (fun rec seen => ?_)
          have hlc : (((mapA xs).length : Int) == lenI (mapA xs)) = true := by rw [lenI_eq]; simp
          simp only [chk, hlc, cond_true, List.getLast?_concat, Option.bind_some]
          congr 1
          funext j
          cases geti (mapA xs) j <;> rfl
        rw [e2]
        have : ((mapA xs).any fun p => !(p.2 == 0)) = !decide (sumA xs 0 = 0 ∧ sumA xs 1 = 0 ∧ sumA xs 2 = 0) := by
          rw [Bool.eq_iff_iff]
          simp only [List.any_eq_true, Bool.not_eq_true', beq_eq_false_iff_ne, decide_eq_false_iff_not]
          constructor
          · rintro ⟨p, hp, hne⟩ ⟨q0, q1, q2⟩
            have hlk := mlook_mem (mapA xs) k1 p hp
            rw [k2] at hlk
            obtain ⟨l, hl, ha⟩ := k3 p.1 (List.mem_map.2 ⟨p, hp, rfl⟩)
            have hz := (legC_zero (hall l hl)).2.2.1
            rcases (by omega : p.1 = 0 ∨ p.1 = 1 ∨ p.1 = 2) with e | e | e
            · rw [e] at hlk; omega
            · rw [e] at hlk; omega
            · rw [e] at hlk; omega
          · intro hne
            have : ∃ a, sumA xs a ≠ 0 := by
              by_cases q0 : sumA xs 0 = 0
              · by_cases q1 : sumA xs 1 = 0
                · by_cases q2 : sumA xs 2 = 0
                  · exact absurd ⟨q0, q1, q2⟩ hne
                  · exact ⟨2, q2⟩
                · exact ⟨1, q1⟩
              · exact ⟨0, q0⟩
            obtain ⟨a, ha⟩ := this
            have hk : a ∈ (mapA xs).map (·.1) := by
              by_cases h : a ∈ (mapA xs).map (·.1)
              · exact h
              · have := mlook_none (mapA xs) a h
                rw [k2] at this
                exact absurd this ha
            obtain ⟨p, hp, e⟩ := List.mem_map.1 hk
            refine ⟨p, hp, ?_⟩
            have hlk := mlook_mem (mapA xs) k1 p hp
            rw [k2, e] at hlk
            rw [← hlk]; exact ha
        rw [this]
        by_cases q : sumA xs 0 = 0 ∧ sumA xs 1 = 0 ∧ sumA xs 2 = 0
        · rw [if_pos q, decide_eq_true q]; rfl
        · rw [if_neg q, decide_eq_false q]; rfl

theorem t_impl_firstOf (a b : Int) : m_impl_firstOf [a, b] = some (if a = 0 then b else a) := by
  show p_impl_firstOf FU _ = _
  unfold p_impl_firstOf l_impl_firstOf_1
  obtain ⟨m, hm⟩ : ∃ m, FU = m + 1 + 1 + 1 := ⟨18446744073709551613, rfl⟩
  rw [hm]
  have w1 : IntKind.wrap .i64 1 = 1 := rfl
  have w2 : IntKind.wrap .i64 2 = 2 := rfl
  by_cases h1 : a = 0
  · by_cases h2 : b = 0
    · simp [lp, geti, lenI, h1, h2, w1, w2]
    · have hb : (b == 0) = false := by simp [h2]
      simp [lp, geti, lenI, h1, hb, w1, w2]
  · have hb : (a == 0) = false := by simp [h1]
    simp [lp, geti, lenI, h1, hb]
theorem t_impl_firstOf3 (a b c : Int) : m_impl_firstOf [a, b, c] = some (if a = 0 then (if b = 0 then c else b) else a) := by
  show p_impl_firstOf FU _ = _
  unfold p_impl_firstOf l_impl_firstOf_1
  obtain ⟨m, hm⟩ : ∃ m, FU = m + 1 + 1 + 1 + 1 := ⟨18446744073709551612, rfl⟩
  rw [hm]
  have w1 : IntKind.wrap .i64 1 = 1 := rfl
  have w2 : IntKind.wrap .i64 2 = 2 := rfl
  have w3 : IntKind.wrap .i64 3 = 3 := rfl
  by_cases h1 : a = 0
  · by_cases h2 : b = 0
    · by_cases h3 : c = 0
      · simp [lp, geti, lenI, h1, h2, h3, w1, w2, w3]
      · have hb : (c == 0) = false := by simp [h3]
        simp [lp, geti, lenI, h1, h2, hb, w1, w2, w3]
    · have hb : (b == 0) = false := by simp [h2]
      simp [lp, geti, lenI, h1, h2, hb, w1, w2]
  · have hb : (a == 0) = false := by simp [h1]
    simp [lp, geti, lenI, h1, hb]

theorem t_slices_Sort_int64_int64 (xs : List Int) (h : xs.length ≤ 1048576) : m_slices_Sort_int64_int64 xs = some (sortI xs) := by
  show sortIRun xs = _
  unfold sortIRun
  rw [if_pos (by omega)]

theorem t_slices_Compact_int64_int64 (x : List Int) (hl : x.length ≤ 1048576) : m_slices_Compact_int64_int64 x = some (dd x, true) := by
  show p_slices_Compact_int64_int64 FU x = _
  unfold p_slices_Compact_int64_int64
  by_cases h2 : x.length < 2
  · have : decide (lenI x < 2) = true := decide_eq_true (by rw [lenI_eq]; omega)
    rw [this, cond_true, dd_same x (fun i hi => by omega)]
  · have : decide (lenI x < 2) = false := decide_eq_false (by rw [lenI_eq]; omega)
    rw [this, cond_false]
    unfold l_slices_Compact_int64_int64_2
    refine lp_for (fun r => r = some (dd x, true)) (fun i z => z = ((i + 1 : Nat) : Int) ∧ ∀ (j : Nat) (h : j + 1 < i + 1) (h' : j + 1 < x.length), (x[j + 1] == x[j]) = false) (x.length - 1) (fun i z hi hz => ?_) (fun z hz rec => ?_) FU _ (FU_gt (by omega)) ⟨rfl, fun j hj => by omega⟩
    · obtain ⟨rfl, hz⟩ := hz
      have hi1 : i + 1 < x.length := by omega
      have wp : IntKind.wrap .i64 (((i + 1 : Nat) : Int) - 1) = ((i : Nat) : Int) := by rw [wrap64 (by omega) (by omega)]; omega
      have wn : IntKind.wrap .i64 (((i + 1 : Nat) : Int) + 1) = ((i + 1 + 1 : Nat) : Int) := by rw [wrap64 (by omega) (by omega)]; omega
      cases hq : x[i + 1] == x[i] with
      | false =>
        refine .inr ⟨((i + 1 + 1 : Nat) : Int), ⟨rfl, fun j hj h' => ?_⟩, fun rec => ?_⟩
        · rcases Nat.lt_or_ge (j + 1) (i + 1) with q | q
          · exact hz j q h'
          · have : j = i := by omega
            subst this; exact hq
        · simp only [lt_lenI hi1, cond_true, geti_lt x (i + 1) hi1, wp, geti_lt x i (by omega), Int.toNat_natCast, List.getElem?_eq_getElem hi1, List.getElem?_eq_getElem (show i < x.length by omega), Option.bind_some, hq, cond_false, Sum.elim_inl, wn]
      | true =>
        obtain ⟨w, cur, e1, e2, e3, e4⟩ := compact1 (fun a b : Int => a == b) (fun _ _ => rfl) x hl (i + 1) (by omega) hi1 (fun j h => hz j h (by omega)) hq
        have e1' : l_slices_Compact_int64_int64_1 FU x ((i + 1 : Nat) : Int) (((i + 1 : Nat) : Int), (1 : Int), x) = some (((w : Nat) : Int), cur) := e1
        refine .inl fun rec => ?_
        have b1 : bndB (some ((i + 1 : Nat) : Int)) none none x.length = true := by simp [bndB]; omega
        have b2 : bndB (some ((w : Nat) : Int)) none none cur.length = true := by simp [bndB]; omega
        have hlen : (cur.take w ++ List.replicate (cur.length - w) (0 : Int) ++ cur.drop (w + (cur.length - w))).length = cur.length := by simp; omega
        have b3 : bndB none (some ((w : Nat) : Int)) none (cur.take w ++ List.replicate (cur.length - w) (0 : Int) ++ cur.drop (w + (cur.length - w))).length = true := by rw [hlen]; simp [bndB]; omega
        have ht : (cur.take w ++ List.replicate (cur.length - w) (0 : Int) ++ cur.drop (w + (cur.length - w))).take w = dd x := by
          rw [List.append_assoc, List.take_append_of_le_length (by rw [List.length_take]; omega), List.take_take, Nat.min_self, e4]
        simp only [lt_lenI hi1, cond_true, geti_lt x (i + 1) hi1, wp, geti_lt x i (by omega), Int.toNat_natCast, List.getElem?_eq_getElem hi1, List.getElem?_eq_getElem (show i < x.length by omega), Option.bind_some, hq, chk, b1, e1', b2, b3, ht, Sum.elim_inr]
    · obtain ⟨rfl, hz⟩ := hz
      have : decide (((x.length - 1 + 1 : Nat) : Int) < lenI x) = false := decide_eq_false (by rw [lenI_eq]; omega)
      simp only [this, cond_false]
      rw [dd_same x (fun i hi => hz i (by omega) hi)]

theorem put1_up {xs : List Int} (h : xs.Pairwise (· < ·)) (a : Int) : (put1 xs a).Pairwise (· < ·) := by
  unfold put1
  have hlt : ∀ i j (hi : i < xs.length) (hj : j < xs.length), i < j → xs[i] < xs[j] := fun i j hi hj hij => (List.pairwise_iff_getElem.1 h) i j hi hj hij
  cases hf : xs.findIdx? (fun y => !(decide (y < a))) with
  | none =>
    simp only
    rw [List.findIdx?_eq_none_iff] at hf
    refine List.pairwise_append.2 ⟨h, by simp, fun x hx y hy => ?_⟩
    rw [List.mem_singleton.1 hy]
    simpa using hf x hx
  | some j =>
    simp only
    obtain ⟨hj, h1, h2⟩ := List.findIdx?_eq_some_iff_getElem.1 hf
    split
    · exact h
    · rename_i hne
      have hja : a < xs[j] := by
        have h3 : ¬ xs[j] < a := by simpa using h1
        have h4 : xs[j] ≠ a := fun e => hne (by rw [List.getElem?_eq_getElem hj, e])
        omega
      rw [List.append_assoc]
      refine List.pairwise_append.2 ⟨h.sublist (List.take_sublist _ _), ?_, fun x hx y hy => ?_⟩
      · refine List.pairwise_append.2 ⟨by simp, h.sublist (List.drop_sublist _ _), fun x hx y hy => ?_⟩
        rw [List.mem_singleton.1 hx]
        obtain ⟨k, hk, rfl⟩ := List.getElem_of_mem hy
        rw [List.getElem_drop]
        rw [List.length_drop] at hk
        rcases Nat.eq_zero_or_pos k with rfl | hp
        · simpa using hja
        · have := hlt j (j + k) hj (by omega) (by omega); omega
      · obtain ⟨k, hk, rfl⟩ := List.getElem_of_mem hx
        rw [List.length_take] at hk
        rw [List.getElem_take]
        have hka : xs[k] < a := by have := h2 k (by omega); simpa using this
        rcases List.mem_append.1 hy with hy | hy
        · rw [List.mem_singleton.1 hy]; exact hka
        · obtain ⟨m, hm, rfl⟩ := List.getElem_of_mem hy
          rw [List.getElem_drop]
          rw [List.length_drop] at hm
          exact hlt k (j + m) (by omega) (by omega) (by omega)
theorem shardsL_up (xs : List LegT) : (shardsL xs).Pairwise (· < ·) := by
  unfold shardsL
  have key : ∀ (ys : List LegT) (s : List Int), s.Pairwise (· < ·) → (ys.foldl (fun s y => put1 s y.1) s).Pairwise (· < ·) := by
    intro ys
    induction ys with
    | nil => intro s h; exact h
    | cons y ys ih => intro s h; exact ih _ (put1_up h y.1)
  exact key xs [] List.Pairwise.nil
theorem shardsL_eq (xs : List LegT) : shardsL xs = dd (sortI (xs.map (·.1))) := by
  refine up_same _ _ (shardsL_up xs) (dd_up _ (sortI_le _)) fun v => ?_
  rw [dd_mem, (sortI_perm _).mem_iff]
  have := (fold_put xs []).2 v
  unfold shardsL
  rw [this]
  simp [List.mem_map]
theorem t_impl_shardsOf (c : ConT) (hl : c.2.length ≤ 1048576) : m_impl_shardsOf c = some (shardsL c.2) := by
  show p_impl_shardsOf FU _ = _
  unfold p_impl_shardsOf
  have e1 : l_impl_shardsOf_1 FU c.2 (([] : List Int), (0 : Int)) = some (c.2.map (·.1)) := by
    unfold l_impl_shardsOf_1
    exact grow_loop 8 (by omega) c.2 (fun y => some y.1) (·.1) (fun x _ => rfl) hl
  have h1 : (sortI (c.2.map (·.1))).length ≤ 1048576 := by rw [(sortI_perm _).length_eq, List.length_map]; exact hl
  simp only [e1, Option.bind_some, t_slices_Sort_int64_int64 _ (show (c.2.map (·.1)).length ≤ 1048576 by rw [List.length_map]; exact hl), t_slices_Compact_int64_int64 _ h1]
  rw [shardsL_eq]

/-- The place of a slot, and whether it is there. -/
theorem t_impl_Acceptor_slotAt (xs : List SlotT) (c d : Int) (hl : xs.length ≤ 1048576) (h : ∀ i (hi : i + 1 < xs.length), aheadB xs[i] xs[i + 1] = true) :
    ∃ j : Nat, j ≤ xs.length ∧ m_impl_Acceptor_slotAt (xs, c, d) = some ((j : Int), (xs.find? (isSlot c d)).isSome) ∧ ((xs.find? (isSlot c d)).isSome = true → xs[j]? = xs.find? (isSlot c d)) ∧ (∀ i (hi : i < xs.length), i < j → cmpS xs[i] (keyS c d) < 0) ∧ (∀ i (hi : i < xs.length), j ≤ i → ¬ cmpS xs[i] (keyS c d) < 0) := by
  have hlt := acc_lt h
  let p : Nat → Bool := fun i => match xs[i]? with | some x => decide (cmpS x (keyS c d) < 0) | none => false
  have hp : ∀ i (hi : i < xs.length), p i = decide (cmpS xs[i] (keyS c d) < 0) := fun i hi => by simp only [p, List.getElem?_eq_getElem hi]
  have hmono : ∀ i j, i ≤ j → j < xs.length → p j = true → p i = true := by
    intro i j hij hj hpj
    rcases Nat.lt_or_ge i j with h' | h'
    · rw [hp i (by omega)]
      rw [hp j hj] at hpj
      have h1 := of_decide_eq_true hpj
      have h2 := hlt i j h' hj
      exact decide_eq_true ((ahead_iff _ _).1 (ahead_trans h2 ((ahead_iff _ _).2 h1)))
    · have : i = j := by omega
      subst this; exact hpj
  show ∃ j : Nat, j ≤ xs.length ∧ p_impl_Acceptor_slotAt FU _ = _ ∧ _
  unfold p_impl_Acceptor_slotAt l_impl_Acceptor_slotAt_1
  simp only
  obtain ⟨j, hj, e, hj1, hj2⟩ := bs_loop xs.length (by unfold B36; omega) p hmono (step := fun rec13 (z12 : (Int × Int)) =>
     (cond (decide (z12.1 < z12.2))
      (chk (decide (0 ≤ (1 : Int)))
       ((geti xs (IntKind.wrap .i64 (Int.fdiv (IntKind.wrap .u64 (IntKind.wrap .i64 (z12.1 + z12.2))) (2 ^ (min (1 : Int).toNat 64))))).bind fun y14 =>
       ((m_impl_compareSlots (y14, (c, (d, ((0 : Int), (((0 : Int), (0 : Int)), [])))))).bind fun r15 =>
       (cond (decide (r15 < (0 : Int)))
        (rec13 (IntKind.wrap .i64 ((IntKind.wrap .i64 (Int.fdiv (IntKind.wrap .u64 (IntKind.wrap .i64 (z12.1 + z12.2))) (2 ^ (min (1 : Int).toNat 64)))) + (1 : Int)), z12.2))
        (rec13 (z12.1, IntKind.wrap .i64 (Int.fdiv (IntKind.wrap .u64 (IntKind.wrap .i64 (z12.1 + z12.2))) (2 ^ (min (1 : Int).toNat 64)))))))))
      (some z12.1)))
    (fun a b rec hab hb => by
      have hm : (a + b) / 2 < xs.length := by omega
      have hd : decide ((a : Int) < (b : Int)) = true := decide_eq_true (by omega)
      simp only [hd, cond_true, mid_eq (show a ≤ B36 by unfold B36; omega) (show b ≤ B36 by unfold B36; omega), geti_lt xs _ hm, Option.bind_some, t_impl_compareSlots, nxt (show (a + b) / 2 ≤ B36 by unfold B36; omega), hp _ hm]
      rfl)
    (fun a rec => by
      have hd : decide ((a : Int) < (a : Int)) = false := decide_eq_false (by omega)
      simp only [hd, cond_false])
  have e' : lenI xs = ((xs.length : Nat) : Int) := rfl
  rw [e', e]
  simp only [Option.bind_some]
  have hlo : ∀ i (hi : i < xs.length), i < j → cmpS xs[i] (keyS c d) < 0 := fun i hi hij => of_decide_eq_true ((hp i hi).symm.trans (hj1 i hij))
  have hhi : ∀ i (hi : i < xs.length), j ≤ i → ¬ cmpS xs[i] (keyS c d) < 0 := fun i hi hij => of_decide_eq_false ((hp i hi).symm.trans (hj2 i hij hi))
  have hz : ∀ s : SlotT, isSlot c d s = (cmpS s (keyS c d) == 0) := fun s => by
    have h0 := cmpS_zero s (keyS c d)
    unfold isSlot
    rw [Bool.eq_iff_iff, Bool.and_eq_true, beq_iff_eq, beq_iff_eq, beq_iff_eq]
    exact h0.symm
  have hneg : ∀ (i : Nat) (hi : i < xs.length), i < j → isSlot c d xs[i] = false := fun i hi hij => by
    rw [hz, beq_eq_false_iff_ne]
    have := hlo i hi hij
    omega
  refine ⟨j, hj, ?_⟩
  rcases Nat.lt_or_ge j xs.length with hjl | hjl
  · have hd : decide ((j : Int) < (xs.length : Int)) = true := decide_eq_true (by omega)
    rw [hd]
    simp only [cond_true, geti_lt xs j hjl, Option.bind_some, t_impl_compareSlots]
    have hpos : ∀ i (hi : i < xs.length), j < i → isSlot c d xs[i] = false := fun i hi hij => by
      rw [hz, beq_eq_false_iff_ne]
      intro h0
      have h1 := hhi j hjl (Nat.le_refl _)
      have h2 := (ahead_iff _ _).1 (hlt j i hij hi)
      have h3 := (cmpS_zero _ _).1 h0
      have h4 := (cmpS_lt xs[j] xs[i]).1 h2
      have h5 : ¬ (xs[j].1 < (keyS c d).1 ∨ xs[j].1 = (keyS c d).1 ∧ xs[j].2.1 < (keyS c d).2.1) := fun q => h1 ((cmpS_lt xs[j] (keyS c d)).2 q)
      rw [← h3.1, ← h3.2] at h5
      exact h5 h4
    cases hb : isSlot c d xs[j] with
    | true =>
      have hf : xs.find? (isSlot c d) = some xs[j] := by
        rw [List.find?_eq_some_iff_getElem]
        exact ⟨hb, j, hjl, rfl, fun k hk => by rw [hneg k (by omega) hk]; rfl⟩
      rw [hf]
      rw [hz] at hb
      exact ⟨by show some ((j : Int), (cmpS xs[j] (keyS c d) == 0)) = _; rw [hb]; rfl, fun _ => List.getElem?_eq_getElem hjl, hlo, hhi⟩
    | false =>
      have hf : xs.find? (isSlot c d) = none := by
        rw [List.find?_eq_none]
        intro s hs
        obtain ⟨i, hi, rfl⟩ := List.getElem_of_mem hs
        rcases Nat.lt_trichotomy i j with h' | h' | h'
        · rw [hneg i hi h']; decide
        · subst h'; rw [hb]; decide
        · rw [hpos i hi h']; decide
      rw [hf]
      rw [hz] at hb
      exact ⟨by show some ((j : Int), (cmpS xs[j] (keyS c d) == 0)) = _; rw [hb]; rfl, (fun h => by cases h), hlo, hhi⟩
  · have hd : decide ((j : Int) < (xs.length : Int)) = false := decide_eq_false (by omega)
    rw [hd]
    have hf : xs.find? (isSlot c d) = none := by
      rw [List.find?_eq_none]
      intro s hs
      obtain ⟨i, hi, rfl⟩ := List.getElem_of_mem hs
      rw [hneg i hi (by omega)]; decide
    rw [hf]
    exact ⟨rfl, (fun h => by cases h), hlo, hhi⟩

theorem t_impl_newSlot (a b : Int) : m_impl_newSlot (a, b) = some (a, (b, (-1, ((-1, 0), [])))) := by
  show p_impl_newSlot FU _ = _
  unfold p_impl_newSlot
  simp only [t_impl_noVote, Option.bind_some]

theorem t_slices_Clone_impl_Vote_impl_Vote (xs : List (Int × Int)) (h : xs.length ≤ 1048576) : m_slices_Clone_impl_Vote_impl_Vote xs = some xs := by
  show p_slices_Clone_impl_Vote_impl_Vote FU _ = _
  unfold p_slices_Clone_impl_Vote_impl_Vote
  have hb : Nat.ble ((([] : List (Int × Int)).length + xs.length) * 16) maxBytes = true := ble_mem (by simp only [List.length_nil, maxBytes]; omega)
  rw [chk_true hb]
  exact clone_same xs _ rfl

theorem t_impl_copySlot (x : SlotT) (h : x.2.2.2.2.length ≤ 1048576) : m_impl_copySlot x = some x := by
  show p_impl_copySlot FU _ = _
  unfold p_impl_copySlot
  rw [t_slices_Clone_impl_Vote_impl_Vote _ h]
  rfl

theorem t_impl_Acceptor_slot (xs : List SlotT) (c d : Int) (hl : xs.length ≤ 1048576) (hc : ∀ x ∈ xs, x.2.2.2.2.length ≤ 1048576) (h : ∀ i (hi : i + 1 < xs.length), aheadB xs[i] xs[i + 1] = true) : m_impl_Acceptor_slot (xs, c, d) = some (slotOf xs c d) := by
  obtain ⟨j, hj, e, h1, _⟩ := t_impl_Acceptor_slotAt xs c d hl h
  show p_impl_Acceptor_slot FU _ = _
  unfold p_impl_Acceptor_slot slotOf
  simp only [e, Option.bind_some]
  cases hf : xs.find? (isSlot c d) with
  | none =>
    simp only [Option.isSome_none, Bool.not_false, cond_true, t_impl_newSlot, Option.bind_some, Option.getD_none, newS]
  | some s =>
    rw [hf] at h1
    have hs := List.mem_of_find?_eq_some hf
    simp only [Option.isSome_some, Bool.not_true, cond_false, geti_nat, h1 rfl, Option.bind_some, t_impl_copySlot s (hc s hs), Option.getD_some]

theorem t_impl_slotsFor (xs : List (List SlotT)) (c d : Int) (hl : xs.length ≤ 1048576) (h2 : ∀ x ∈ xs, x.length ≤ 1048576) (h3 : ∀ x ∈ xs, ∀ y ∈ x, y.2.2.2.2.length ≤ 1048576) (h : ∀ x ∈ xs, ∀ i (hi : i + 1 < x.length), aheadB x[i] x[i + 1] = true) : m_impl_slotsFor (xs, c, d) = some (xs.map fun x => slotOf x c d) := by
  show p_impl_slotsFor FU _ = _
  unfold p_impl_slotsFor l_impl_slotsFor_1
  exact grow_loop 64 (by omega) xs (fun x => m_impl_Acceptor_slot (x, c, d)) _ (fun x hx => t_impl_Acceptor_slot x c d (h2 x hx) (h3 x hx) (h x hx)) hl

theorem t_impl_size_impl_Slot (xs : List SlotT) : m_impl_size_impl_Slot xs = some (lenI xs) := rfl

theorem t_impl_slotsFault (xs : List SlotT) (hl : xs.length ≤ 1048576) : m_impl_slotsFault xs = some (askCode xs) := by
  show p_impl_slotsFault FU _ = _
  unfold p_impl_slotsFault askCode
  have hB : xs.length ≤ B36 := by unfold B36; omega
  have e1 : l_impl_slotsFault_1 FU xs 0 = match fstI askF 0 xs with
      | some r => some (Sum.inr r)
      | none => some (Sum.inl ()) := by
    unfold l_impl_slotsFault_1
    refine (lp_fst xs (fun i v => (askF i v).map Sum.inr) (some (Sum.inl ())) hB (fun i hi rec hw => ?_) (fun rec => ?_)).trans ?_
    · simp only [lt_lenI hi, cond_true, geti_lt xs i hi, Option.bind_some, t_impl_SlotFault, askF, hw]
      cases slotCode xs[i] == 0 <;> rfl
    · simp only [ge_lenI, cond_false]
    · rw [fstI_map]
      cases fstI askF 0 xs <;> rfl
  rw [e1]
  cases fstI askF 0 xs with
  | some r => rfl
  | none =>
    simp only [Option.bind_some, Sum.elim_inl, t_impl_size_impl_Slot, t_impl_within]
    by_cases hn : xs.length < 1 ∨ 9 < xs.length
    · have : inB (lenI xs) 1 9 = false := by
        unfold inB; rw [lenI_eq]
        rcases hn with h | h
        · have : decide ((1 : Int) ≤ (xs.length : Int)) = false := decide_eq_false (by omega)
          rw [this]; rfl
        · have : decide ((xs.length : Int) ≤ (9 : Int)) = false := decide_eq_false (by omega)
          rw [this, Bool.and_false]
      simp only [this, Bool.not_false, cond_true, if_pos hn]
    · have : inB (lenI xs) 1 9 = true := by
        unfold inB; rw [lenI_eq, decide_eq_true (show (1 : Int) ≤ (xs.length : Int) by omega), decide_eq_true (show (xs.length : Int) ≤ 9 by omega)]; rfl
      simp only [this, Bool.not_true, cond_false, if_neg hn]
      unfold l_impl_slotsFault_2
      have h0 : 0 < xs.length := by omega
      have e2 := lp_place (R := Int) xs (fun s => !(s.1 == (xs[0]?.getD s).1) || !(s.2.1 == (xs[0]?.getD s).2.1)) (fun i => some (i : Int)) (some (-1 : Int)) (step := fun rec44 (z43 : Int) =>
        (cond (decide (z43 < (lenI xs))) ((geti xs z43).bind fun y45 => (Option.bind ((geti xs (0 : Int)).bind fun y48 => (cond (!(y45.1 == y48.1)) (some true) ((geti xs (0 : Int)).bind fun y49 => some (!(y45.2.1 == y49.2.1))))) fun j50 => (cond j50 (some z43) (rec44 (IntKind.wrap .i64 (z43 + (1 : Int))))))) (some (-1 : Int)))) hB (fun i hi rec hw => by
          have hz : geti xs (0 : Int) = some xs[0] := geti_lt xs 0 h0
          have hz2 : xs[0]? = some xs[0] := List.getElem?_eq_getElem h0
          simp only [lt_lenI hi, cond_true, geti_lt xs i hi, hz, hz2, Option.bind_some, Option.getD_some, hw]
          cases (xs[i].1 == xs[0].1) with
          | false => rfl
          | true => cases (xs[i].2.1 == xs[0].2.1) <;> rfl) (fun rec => by simp only [ge_lenI, cond_false])
      rw [e2]
      cases hf : xs.findIdx? (fun s => !(s.1 == (xs[0]?.getD s).1) || !(s.2.1 == (xs[0]?.getD s).2.1)) with
      | none =>
        have : xs.any (fun s => !(s.1 == (xs[0]?.getD s).1) || !(s.2.1 == (xs[0]?.getD s).2.1)) = false := by
          rw [List.findIdx?_eq_none_iff] at hf
          rw [List.any_eq_false]
          intro s hs
          have := hf s hs
          simpa using this
        rw [this]; rfl
      | some i =>
        have : xs.any (fun s => !(s.1 == (xs[0]?.getD s).1) || !(s.2.1 == (xs[0]?.getD s).2.1)) = true := by
          rw [List.findIdx?_eq_some_iff_getElem] at hf
          obtain ⟨h, h1, _⟩ := hf
          rw [List.any_eq_true]
          exact ⟨_, List.getElem_mem h, h1⟩
        rw [this]
        simp only [Option.bind_some, cond_true]
        have : decide ((i : Int) ≥ 0) = true := decide_eq_true (by omega)
        rw [this, cond_true]

theorem t_slices_Compact_impl_Vote_impl_Vote (x : List VoteT) (hl : x.length ≤ 1048576) : m_slices_Compact_impl_Vote_impl_Vote x = some (dd x, true) := by
  show p_slices_Compact_impl_Vote_impl_Vote FU x = _
  unfold p_slices_Compact_impl_Vote_impl_Vote
  by_cases h2 : x.length < 2
  · have : decide (lenI x < 2) = true := decide_eq_true (by rw [lenI_eq]; omega)
    rw [this, cond_true, dd_same x (fun i hi => by omega)]
  · have : decide (lenI x < 2) = false := decide_eq_false (by rw [lenI_eq]; omega)
    rw [this, cond_false]
    unfold l_slices_Compact_impl_Vote_impl_Vote_2
    have hee : ∀ a b : VoteT, ((a.1 == b.1) && ((a.2 == b.2) && true)) = (a == b) := fun a b => by rw [Bool.and_true]; rfl
    refine lp_for (fun r => r = some (dd x, true)) (fun i z => z = ((i + 1 : Nat) : Int) ∧ ∀ (j : Nat) (h : j + 1 < i + 1) (h' : j + 1 < x.length), (x[j + 1] == x[j]) = false) (x.length - 1) (fun i z hi hz => ?_) (fun z hz rec => ?_) FU _ (FU_gt (by omega)) ⟨rfl, fun j hj => by omega⟩
    · obtain ⟨rfl, hz⟩ := hz
      have hi1 : i + 1 < x.length := by omega
      have wp : IntKind.wrap .i64 (((i + 1 : Nat) : Int) - 1) = ((i : Nat) : Int) := by rw [wrap64 (by omega) (by omega)]; omega
      have wn : IntKind.wrap .i64 (((i + 1 : Nat) : Int) + 1) = ((i + 1 + 1 : Nat) : Int) := by rw [wrap64 (by omega) (by omega)]; omega
      cases hq : x[i + 1] == x[i] with
      | false =>
        refine .inr ⟨((i + 1 + 1 : Nat) : Int), ⟨rfl, fun j hj h' => ?_⟩, fun rec => ?_⟩
        · rcases Nat.lt_or_ge (j + 1) (i + 1) with q | q
          · exact hz j q h'
          · have : j = i := by omega
            subst this; exact hq
        · simp only [lt_lenI hi1, cond_true, geti_lt x (i + 1) hi1, wp, geti_lt x i (by omega), Int.toNat_natCast, List.getElem?_eq_getElem hi1, List.getElem?_eq_getElem (show i < x.length by omega), Option.bind_some, hee, hq, cond_false, Sum.elim_inl, wn]
      | true =>
        obtain ⟨w, cur, e1, e2, e3, e4⟩ := compact1 (fun a b : VoteT => (a.1 == b.1) && ((a.2 == b.2) && true)) hee x hl (i + 1) (by omega) hi1 (fun j h => hz j h (by omega)) hq
        have e1' : l_slices_Compact_impl_Vote_impl_Vote_1 FU x ((i + 1 : Nat) : Int) (((i + 1 : Nat) : Int), (1 : Int), x) = some (((w : Nat) : Int), cur) := e1
        refine .inl fun rec => ?_
        have b1 : bndB (some ((i + 1 : Nat) : Int)) none none x.length = true := by simp [bndB]; omega
        have b2 : bndB (some ((w : Nat) : Int)) none none cur.length = true := by simp [bndB]; omega
        have hlen : (cur.take w ++ List.replicate (cur.length - w) ((0 : Int), (0 : Int)) ++ cur.drop (w + (cur.length - w))).length = cur.length := by simp; omega
        have b3 : bndB none (some ((w : Nat) : Int)) none (cur.take w ++ List.replicate (cur.length - w) ((0 : Int), (0 : Int)) ++ cur.drop (w + (cur.length - w))).length = true := by rw [hlen]; simp [bndB]; omega
        have ht : (cur.take w ++ List.replicate (cur.length - w) ((0 : Int), (0 : Int)) ++ cur.drop (w + (cur.length - w))).take w = dd x := by
          rw [List.append_assoc, List.take_append_of_le_length (by rw [List.length_take]; omega), List.take_take, Nat.min_self, e4]
        simp only [lt_lenI hi1, cond_true, geti_lt x (i + 1) hi1, wp, geti_lt x i (by omega), Int.toNat_natCast, List.getElem?_eq_getElem hi1, List.getElem?_eq_getElem (show i < x.length by omega), Option.bind_some, hee, hq, chk, b1, e1', b2, b3, ht, Sum.elim_inr]
    · obtain ⟨rfl, hz⟩ := hz
      have : decide (((x.length - 1 + 1 : Nat) : Int) < lenI x) = false := decide_eq_false (by rw [lenI_eq]; omega)
      simp only [this, cond_false]
      rw [dd_same x (fun i hi => hz i (by omega) hi)]

theorem t_impl_quorum (n : Nat) (hn : n ≤ B36) : m_impl_quorum (n : Int) = some ((quo n : Nat) : Int) := by
  show p_impl_quorum FU _ = _
  unfold p_impl_quorum quo
  unfold B36 at hn
  have e1 : ((2 : Int) == 0) = false := rfl
  rw [e1, cond_false, Int.tdiv_eq_ediv_of_nonneg (by omega), wrap64 (n := (n : Int) / 2) (by omega) (by omega), wrap64 (by omega) (by omega)]
  rfl

theorem t_slices_SortFunc_impl_Vote_impl_Vote (o : List VoteT) : m_slices_SortFunc_impl_Vote_impl_Vote (o, true) = sortRun okVote ((0 : Int), (0 : Int)) rfl cfVote o := by
  show p_slices_SortFunc_impl_Vote_impl_Vote FU _ = _
  unfold p_slices_SortFunc_impl_Vote_impl_Vote
  rfl

theorem keq_vote : ∀ a b : (Kd.pair (.int .i64) (.int .i64)).ty, keqB (.pair (.int .i64) (.int .i64)) a b = true ↔ a = b := by
  intro a b
  rw [keqB_vote a b]
  exact beq_iff_eq (α := VoteT)
def cntK (xs : List SlotT) (i : Nat) (D : List VoteT) (k : Nat) (v : VoteT) : Nat := cntV (xs.take i) v + if v ∈ D.take k then 1 else 0
def chI (xs : List SlotT) (c : VoteT → Nat) (n : Nat) (o : List VoteT) (m : List (VoteT × Int)) : Prop :=
  o.Nodup ∧ (∀ v, v ∈ o ↔ quo xs.length ≤ c v) ∧ (∀ v, mlook (.pair (.int .i64) (.int .i64)) m v = ((c v : Nat) : Int)) ∧ o.length ≤ n
theorem chI_of {xs : List SlotT} {c c' : VoteT → Nat} {n n' : Nat} {o : List VoteT} {m : List (VoteT × Int)} (h : chI xs c n o m) (hc : ∀ v, c' v = c v) (hn : n ≤ n') : chI xs c' n' o m :=
  ⟨h.1, fun v => by rw [hc]; exact h.2.1 v, fun v => by rw [hc]; exact h.2.2.1 v, Nat.le_trans h.2.2.2 hn⟩
theorem t_chosen_1 (f : Nat) (hf : 70 < f) (xs : List SlotT) (hl : xs.length ≤ 9) (i : Nat) (D : List VoteT) (hD : D.Nodup) (hDl : D.length ≤ 60) (hi : i < 9) (n : Nat) (hn : n ≤ 540) (o : List VoteT) (m : List (VoteT × Int)) (h : chI xs (cntV (xs.take i)) n o m) :
    ∃ o' m', l_impl_chosen_1 f D xs (o, (0 : Int), m) = some (o', m') ∧ chI xs (cntK xs i D D.length) (n + D.length) o' m' := by
  unfold l_impl_chosen_1
  refine lp_for (fun r => ∃ o' m', r = some (o', m') ∧ chI xs (cntK xs i D D.length) (n + D.length) o' m') (fun k z => z.2.1 = (k : Int) ∧ chI xs (cntK xs i D k) (n + k) z.1 z.2.2) D.length (fun k z hk hz => ?_) (fun z hz rec => ?_) f _ (by omega) ⟨rfl, chI_of h (fun v => by simp [cntK]) (by omega)⟩
  · obtain ⟨o, kk, m⟩ := z
    obtain ⟨rfl, h1, h2, h3, h4⟩ := hz
    simp only at h1 h2 h3 h4
    generalize hy : D[k] = y
    have hgy : geti D (k : Int) = some y := by rw [geti_lt D k hk, hy]
    have hgy2 : D[k]? = some y := by rw [List.getElem?_eq_getElem hk, hy]
    have hyn : y ∉ D.take k := by
      intro hm
      obtain ⟨j, hj, e⟩ := List.getElem_of_mem hm
      rw [List.length_take] at hj
      rw [List.getElem_take] at e
      exact nodup_ne hD (show j < k by omega) hk (e.trans hy.symm)
    have hcK : ∀ v, cntK xs i D (k + 1) v = cntK xs i D k v + if v = y then 1 else 0 := by
      intro v
      unfold cntK
      rw [List.take_succ_eq_append_getElem hk, hy]
      simp only [List.mem_append, List.mem_singleton]
      by_cases e : v = y
      · subst e
        rw [if_neg hyn, if_pos (.inr rfl), if_pos rfl]
      · rw [if_neg e]
        by_cases e2 : v ∈ D.take k
        · rw [if_pos (.inl e2), if_pos e2]
        · rw [if_neg (by rintro (q | q); exact e2 q; exact e q), if_neg e2]
    have hle : cntK xs i D k y ≤ 10 := by
      have := cntV_le (xs.take i) y
      rw [List.length_take] at this
      unfold cntK
      split <;> omega
    have hw : IntKind.wrap .i64 (mlook (.pair (.int .i64) (.int .i64)) m y + (1 : Int)) = ((cntK xs i D k y + 1 : Nat) : Int) := by rw [h3, wrap64 (by omega) (by omega)]; omega
    have hput := fun v c => mlook_set1 (.pair (.int .i64) (.int .i64)) keq_vote m y v c
    have hf := (hput y 0).1
    have hgf : geti (mput (.pair (.int .i64) (.int .i64)) m y) ((mfind (.pair (.int .i64) (.int .i64)) m y : Nat) : Int) = some ((mput (.pair (.int .i64) (.int .i64)) m y)[mfind (.pair (.int .i64) (.int .i64)) m y]) := geti_lt _ _ hf
    have hll : ∀ v, mlook (.pair (.int .i64) (.int .i64)) (mset (.pair (.int .i64) (.int .i64)) (mput (.pair (.int .i64) (.int .i64)) m y) (mfind (.pair (.int .i64) (.int .i64)) m y) ((cntK xs i D k y + 1 : Nat) : Int)) v = ((cntK xs i D (k + 1) v : Nat) : Int) := by
      intro v
      rw [(hput v _).2, hcK, keqB_vote]
      by_cases e : v = y
      · subst e
        have : ((v : VoteT) == v) = true := by simp
        rw [this, cond_true, if_pos rfl]
      · have : ((v : VoteT) == y) = false := by simpa using e
        rw [this, cond_false, if_neg e, h3]; rfl
    have hq : m_impl_quorum (lenI xs) = some ((quo xs.length : Nat) : Int) := t_impl_quorum xs.length (by unfold B36; omega)
    have hyy := hll y
    rw [hcK, if_pos rfl] at hyy
    have wn := wrap_next hk (Nat.le_trans hDl (by omega))
    by_cases hqc : cntK xs i D k y + 1 = quo xs.length
    · have hb : (((cntK xs i D k y + 1 : Nat) : Int) == ((quo xs.length : Nat) : Int)) = true := by rw [hqc]; simp
      have hyo : y ∉ o := fun hm => by have := (h2 y).1 hm; omega
      refine .inr ⟨(o ++ [y], ((k + 1 : Nat) : Int), mset (.pair (.int .i64) (.int .i64)) (mput (.pair (.int .i64) (.int .i64)) m y) (mfind (.pair (.int .i64) (.int .i64)) m y) ((cntK xs i D k y + 1 : Nat) : Int)), ⟨rfl, ?_, fun v => ?_, hll, ?_⟩, fun rec => ?_⟩
      · exact List.nodup_append.2 ⟨h1, by simp, fun a ha b hb => by rw [List.mem_singleton] at hb; subst hb; exact fun e => hyo (e ▸ ha)⟩
      · rw [List.mem_append, List.mem_singleton, h2, hcK]
        by_cases e : v = y
        · subst e; rw [if_pos rfl]; exact ⟨fun _ => by omega, fun _ => .inr rfl⟩
        · rw [if_neg e]; exact ⟨fun h => by rcases h with h | h; omega; exact absurd h e, fun h => .inl (by omega)⟩
      · show (o ++ [y]).length ≤ _
        rw [List.length_append, List.length_singleton]; omega
      · have n1 : Nat.ble ((o.length + [y].length) * 16) maxBytes = true := by rw [Nat.ble_eq]; simp only [List.length_singleton]; unfold maxBytes; omega
        simp only [lt_lenI hk, cond_true, hgy, hgy2, Int.toNat_natCast, Option.bind_some, hgf, hq, hw, hyy, hb, chk, n1, wn]
    · have hb : (((cntK xs i D k y + 1 : Nat) : Int) == ((quo xs.length : Nat) : Int)) = false := by rw [beq_eq_false_iff_ne]; omega
      refine .inr ⟨(o, ((k + 1 : Nat) : Int), mset (.pair (.int .i64) (.int .i64)) (mput (.pair (.int .i64) (.int .i64)) m y) (mfind (.pair (.int .i64) (.int .i64)) m y) ((cntK xs i D k y + 1 : Nat) : Int)), ⟨rfl, h1, fun v => ?_, hll, ?_⟩, fun rec => ?_⟩
      · rw [h2, hcK]
        by_cases e : v = y
        · subst e; rw [if_pos rfl]; omega
        · rw [if_neg e]; omega
      · show o.length ≤ _; omega
      · simp only [lt_lenI hk, cond_true, hgy, hgy2, Int.toNat_natCast, Option.bind_some, hgf, hq, hw, hyy, hb, cond_false, wn]
  · obtain ⟨o, kk, m⟩ := z
    obtain ⟨rfl, h⟩ := hz
    exact ⟨o, m, by simp only [ge_lenI, cond_false], h⟩
theorem t_chosen_2 (xs : List SlotT) (hl : xs.length ≤ 9) (hc : ∀ s ∈ xs, (castS s).length ≤ 60) (ho : ∀ s ∈ xs, castGo none (castS s) = 0) : ∃ o m, l_impl_chosen_2 FU xs (([] : List (Int × Int)), (0 : Int), ([] : List ((Int × Int) × Int))) = some (o, m) ∧ chI xs (cntV xs) 540 o m := by
  suffices key : ∀ n, 70 < n → ∃ o m, l_impl_chosen_2 n xs (([] : List (Int × Int)), (0 : Int), ([] : List ((Int × Int) × Int))) = some (o, m) ∧ chI xs (cntV xs) 540 o m from key FU (by unfold FU; omega)
  intro n hn
  unfold l_impl_chosen_2
  have hq1 : 1 ≤ quo xs.length := by unfold quo; omega
  refine lp_for (fun r => ∃ o m, r = some (o, m) ∧ chI xs (cntV xs) 540 o m) (fun i z => z.2.1 = (i : Int) ∧ chI xs (cntV (xs.take i)) (60 * i) z.1 z.2.2) xs.length (fun i z hi hz => ?_) (fun z hz rec => ?_) n _ (by omega) ⟨rfl, List.nodup_nil, fun v => ?_, fun v => ?_, by simp⟩
  · obtain ⟨o, ii, m⟩ := z
    obtain ⟨rfl, h⟩ := hz
    have hs : xs[i] ∈ xs := List.getElem_mem hi
    have hord := cast_ord (ho _ hs)
    have hcl := hc _ hs
    have hdl := dd_len (castS xs[i])
    have hN := dd_nodup hord
    have hM := dd_mem (castS xs[i])
    have c1 : m_slices_Clone_impl_Vote_impl_Vote xs[i].2.2.2.2 = some (castS xs[i]) := t_slices_Clone_impl_Vote_impl_Vote (castS xs[i]) (by omega)
    have c2 := t_slices_Compact_impl_Vote_impl_Vote (castS xs[i]) (by omega)
    generalize dd (castS xs[i]) = D at hdl hN c2 hM
    obtain ⟨o', m', e, h'⟩ := t_chosen_1 n hn xs hl i D hN (by omega) (by omega) (60 * i) (by omega) o m h
    refine .inr ⟨(o', ((i + 1 : Nat) : Int), m'), ⟨rfl, chI_of h' (fun v => ?_) (by omega)⟩, fun rec => ?_⟩
    · rw [List.take_succ_eq_append_getElem hi]
      unfold cntK cntV
      rw [List.countP_append, List.countP_singleton, List.take_length]
      congr 1
      by_cases hm : v ∈ D
      · rw [if_pos hm, if_pos (by simpa using (hM v).1 hm)]
      · rw [if_neg hm, if_neg (by simpa using fun q => hm ((hM v).2 q))]
    · simp only [lt_lenI hi, cond_true, geti_lt xs i hi, Option.bind_some, c1, c2, e, wrap_next hi (Nat.le_trans hl (by omega))]
  · obtain ⟨o, ii, m⟩ := z
    obtain ⟨rfl, h⟩ := hz
    refine ⟨o, m, by simp only [ge_lenI, cond_false], chI_of h (fun v => by rw [List.take_length]) (by omega)⟩
  · simp only [List.take_zero]
    constructor
    · intro h; cases h
    · intro h; simp [cntV] at h; omega
  · have : cntV (xs.take 0) v = 0 := by simp [cntV]
    rw [this]; rfl
theorem t_impl_chosen (xs : List SlotT) (hl : xs.length ≤ 9) (hc : ∀ s ∈ xs, (castS s).length ≤ 60) (ho : ∀ s ∈ xs, castGo none (castS s) = 0) : ∃ out, m_impl_chosen xs = some out ∧ chosenOK xs out ∧ out.length ≤ 540 := by
  show ∃ out, p_impl_chosen FU xs = some out ∧ _
  unfold p_impl_chosen
  have e1 := t_chosen_2 xs hl hc ho
  obtain ⟨o, m, e, h1, h2, h3, h4⟩ := e1
  have hok : ∀ v ∈ o, okVote v = true := by
    intro v hv
    have := quo_bal ho ((h2 v).1 hv)
    unfold okVote
    rw [decide_eq_true this.1, decide_eq_true (show v.1 < 4611686018427387904 by omega)]; rfl
  obtain ⟨ys, s1, s2, s3⟩ := sortRun_some (d0 := ((0 : Int), (0 : Int))) (h0 := rfl) swoVote (xs := o) (by omega) hok
  have s1' : m_slices_SortFunc_impl_Vote_impl_Vote (o, true) = some ys := (t_slices_SortFunc_impl_Vote_impl_Vote o).trans s1
  refine ⟨ys, by simp only [e, Option.bind_some, s1'], ⟨?_, fun v => (s2.mem_iff).trans (h2 v)⟩, by rw [s2.length_eq]; exact h4⟩
  have hnd : ys.Nodup := s2.nodup_iff.2 h1
  have := List.pairwise_iff_getElem.1 s3
  rw [List.pairwise_iff_getElem]
  intro a b ha hb hab
  have q := this a b ha hb hab
  have ma : ys[a] ∈ o := s2.mem_iff.1 (List.getElem_mem ha)
  have mb : ys[b] ∈ o := s2.mem_iff.1 (List.getElem_mem hb)
  rw [cfVote_ok (hok _ mb) (hok _ ma)] at q
  have hne : ys[a] ≠ ys[b] := nodup_ne hnd hab hb
  have hne1 : ys[a].1 ≠ ys[b].1 := fun e => hne (quo_one ho ((h2 _).1 ma) ((h2 _).1 mb) e)
  omega

theorem t_impl_ChosenIn (xs : List SlotT) (hl : xs.length ≤ 1048576) : ∃ r, m_impl_ChosenIn xs = some r ∧ chosenP xs r := by
  show ∃ r, p_impl_ChosenIn FU xs = some r ∧ _
  unfold p_impl_ChosenIn
  simp only [t_impl_slotsFault xs hl, Option.bind_some]
  by_cases h0 : askCode xs = 0
  · obtain ⟨q1, q2, q3⟩ := ask_cast h0
    obtain ⟨out, e, ho, hlo⟩ := t_impl_chosen xs q1 q2 q3
    have hb : (!(askCode xs == 0)) = false := by rw [h0]; rfl
    simp only [hb, cond_false, e, Option.bind_some]
    refine ⟨_, ?_, .inr ⟨h0, out, ho, rfl⟩⟩
    cases out with
    | nil => rfl
    | cons v r =>
      have d : (lenI (v :: r) == 0) = false := by rw [lenI_eq, beq_eq_false_iff_ne, List.length_cons]; omega
      have hz : geti (v :: r) (0 : Int) = some v := rfl
      simp only [d, cond_false, hz, Option.bind_some]
      rfl
  · have hb : (!(askCode xs == 0)) = true := by simpa using h0
    simp only [hb, cond_true]
    exact ⟨_, rfl, .inl ⟨h0, rfl⟩⟩

theorem t_impl_outcomeOf (xs : List (List SlotT)) (c : ConT) (he : accsCode xs = 0) (hc : conC c = 0) : m_impl_outcomeOf (xs, c) = some (outV xs c) := by
  obtain ⟨c1, c2, c3⟩ := conC_zero hc
  have hz0 := acc_sizes he
  have h4 := accsCode_zero he
  show p_impl_outcomeOf FU _ = _
  unfold p_impl_outcomeOf
  have hsl := shards_len c.2
  have hch : ∀ d ∈ shardsL c.2, ∃ r, m_impl_slotsFor (xs, c.1, d) = some (xs.map fun x => slotOf x c.1 d) ∧ m_impl_ChosenIn (xs.map fun x => slotOf x c.1 d) = some r ∧ r.2.2 = chV (xs.map fun x => slotOf x c.1 d) := fun d hd => by
    obtain ⟨l, hl, rfl⟩ := shards_mem c.2 hd
    have hn : (idB c.1 && shB l.1) = true := by rw [c1, c3 l hl]; rfl
    obtain ⟨r, e, p⟩ := t_impl_ChosenIn (xs.map fun x => slotOf x c.1 l.1) (by rw [List.length_map]; have := hz0.1; omega)
    refine ⟨r, t_impl_slotsFor xs c.1 l.1 (by have := hz0.1; omega) (fun x hx => Nat.le_trans (hz0.2.1 x hx) (by omega)) (fun x hx y hy => Nat.le_trans (hz0.2.2 x hx y hy) (by omega)) (fun x hx => (accCode_zero (h4.2 x hx)).2.2), e, ?_⟩
    rcases p with ⟨p0, _⟩ | ⟨_, out, ho, rfl⟩
    · exact absurd (slots_ask he hn) p0
    · rw [chV_eq ho]; cases out <;> rfl
  have e0 := t_impl_shardsOf c (by omega)
  simp only [e0, Option.bind_some]
  have e1 : ∃ s, l_impl_outcomeOf_1 FU (shardsL c.2) xs c.1 (true, (0 : Int)) = some s ∧ Sum.elim (fun j => cond j (some (1 : Int)) (some 0)) some s = some (outV xs c) := by
    unfold l_impl_outcomeOf_1 outV
    refine lp_for (fun r => ∃ s : Bool ⊕ Int, r = some s ∧ Sum.elim (fun j => cond j (some (1 : Int)) (some 0)) some s = some (outc true ((shardsL c.2).map fun d => chV (xs.map fun x => slotOf x c.1 d)))) (fun i z => ∃ b : Bool, z = (b, (i : Int)) ∧ outc true ((shardsL c.2).map fun d => chV (xs.map fun x => slotOf x c.1 d)) = outc b (((shardsL c.2).drop i).map fun d => chV (xs.map fun x => slotOf x c.1 d))) (shardsL c.2).length (fun i z hi hz => ?_) (fun z hz rec => ?_) FU _ (FU_gt (by omega)) ⟨true, rfl, rfl⟩
    · obtain ⟨b, rfl, hz⟩ := hz
      rw [List.drop_eq_getElem_cons hi, List.map_cons, outc_cons] at hz
      have hw : IntKind.wrap .i64 ((i : Int) + 1) = ((i + 1 : Nat) : Int) := wrap_next hi (by omega)
      obtain ⟨r, q1, q2, q3⟩ := hch _ (List.getElem_mem hi)
      cases h2 : chV (xs.map fun x => slotOf x c.1 (shardsL c.2)[i]) == 2 with
      | true =>
        rw [h2] at hz
        refine .inl fun rec => ⟨Sum.inr 2, ?_, ?_⟩
        · simp only [lt_lenI hi, cond_true, geti_lt _ i hi, Option.bind_some, Int.toNat_natCast, List.getElem?_eq_getElem hi, q1, q2, q3, h2]
        · rw [hz]; rfl
      | false =>
        rw [h2] at hz
        refine .inr ⟨_, ⟨_, rfl, hz⟩, fun rec => ?_⟩
        simp only [lt_lenI hi, cond_true, geti_lt _ i hi, Option.bind_some, Int.toNat_natCast, List.getElem?_eq_getElem hi, q1, q2, q3, h2, cond_false, hw]
        cases chV (xs.map fun x => slotOf x c.1 (shardsL c.2)[i]) == 0 <;> cases b <;> rfl
    · obtain ⟨b, rfl, hz⟩ := hz
      rw [List.drop_length, List.map_nil, outc_nil] at hz
      refine ⟨Sum.inl b, ?_, ?_⟩
      · simp only [ge_lenI, cond_false]
      · rw [hz]; cases b <;> rfl
  obtain ⟨s, e1, e2⟩ := e1
  rw [e1, Option.bind_some]
  exact e2

theorem t_impl_OutcomeOf (xs : List (List SlotT)) (c : ConT) (hl : xs.length ≤ 1048576) (hc : c.2.length ≤ 1048576) : m_impl_OutcomeOf (xs, c) = some (outR xs c) := by
  show p_impl_OutcomeOf FU _ = _
  unfold p_impl_OutcomeOf outR
  simp only [t_impl_listFault xs hl, t_impl_ContractFault c hc, t_impl_firstOf, Option.bind_some]
  by_cases h1 : accsCode xs = 0
  · simp only [h1, if_true, ne_eq, not_true_eq_false, if_false]
    by_cases h2 : conC c = 0
    · have b2 : (conC c == 0) = true := by rw [h2]; rfl
      rw [if_neg (by simp [h2]), b2]
      simp only [Bool.not_true, cond_false, t_impl_outcomeOf xs c h1 h2, Option.bind_some]
    · have b2 : (conC c == 0) = false := by simpa using h2
      rw [if_pos h2, b2]; rfl
  · have b1 : (accsCode xs == 0) = false := by simpa using h1
    simp only [h1, if_false, ne_eq, not_false_eq_true, if_true, b1, Bool.not_false, cond_true]

theorem t_laws_eqVote (a : Int × Int) : m_laws_eqVote (a, a) = some true := by
  show p_laws_eqVote FU _ = _
  unfold p_laws_eqVote
  simp

theorem t_laws_eqVoteS (xs : List (Int × Int)) (hl : xs.length ≤ 1048576) : m_laws_eqVoteS (xs, xs) = some true := by
  show p_laws_eqVoteS FU _ = _
  unfold p_laws_eqVoteS
  simp only [beq_self_eq_true, Bool.not_true, cond_false]
  exact eq_loop xs m_laws_eqVote (fun x hx => t_laws_eqVote x) hl

theorem t_laws_eqSlot (x : SlotT) (h : x.2.2.2.2.length ≤ 1048576) : m_laws_eqSlot (x, x) = some true := by
  show p_laws_eqSlot FU _ = _
  unfold p_laws_eqSlot
  simp only [beq_self_eq_true, Bool.not_true, cond_false, t_laws_eqVote, t_laws_eqVoteS _ h, Option.bind_some]

theorem t_laws_eqSlotS (xs : List SlotT) (hl : xs.length ≤ 1048576) (h : ∀ x ∈ xs, x.2.2.2.2.length ≤ 1048576) : m_laws_eqSlotS (xs, xs) = some true := by
  show p_laws_eqSlotS FU _ = _
  unfold p_laws_eqSlotS
  simp only [beq_self_eq_true, Bool.not_true, cond_false]
  exact eq_loop xs m_laws_eqSlot (fun x hx => t_laws_eqSlot x (h x hx)) hl

theorem law_laws_FnExactOutcomeOf (x : List (List SlotT) × ConT) (h : WFs S_laws_FnExactOutcomeOf.ps x) : m_laws_FnExactOutcomeOf x = some true := by
  obtain ⟨xs, c⟩ := x
  show p_laws_FnExactOutcomeOf FU _ = _
  unfold p_laws_FnExactOutcomeOf
  rcases z_laws_szAcceptorS xs h.1 1048576 (by omega) (by omega) with e1 | ⟨e1, b1⟩
  · simp only [e1, Option.bind_some]; rfl
  · have hW : W_AcceptorS xs ≤ 1048576 := by omega
    have hl : xs.length ≤ 1048576 := by unfold W_AcceptorS at hW; omega
    have d1 : decide ((1048576 : Int) - (W_AcceptorS xs : Int) < 0) = false := decide_eq_false (by omega)
    rcases z_laws_szContract c h.2 (1048576 - (W_AcceptorS xs : Int)) (by omega) (by omega) with e2 | ⟨e2, b2⟩
    · simp only [e1, d1, e2, Option.bind_some, cond_false]; rfl
    · have hW2 : W_Contract c ≤ 1048576 := by omega
      have hc : c.2.length ≤ 1048576 := by unfold W_Contract W_LegS at hW2; omega
      have d2 : decide ((1048576 : Int) - (W_AcceptorS xs : Int) - (W_Contract c : Int) < 0) = false := decide_eq_false (by omega)
      have ee : ∀ r : Int × Int, m_laws_eqIntResult (r, r) = some true := fun r => by
        show p_laws_eqIntResult FU _ = _
        unfold p_laws_eqIntResult
        simp
      simp only [e1, d1, e2, d2, Option.bind_some, cond_false, o_laws_toAcceptorS xs hW, o_laws_toContract c hW2, t_spec_OutcomeOf xs c hl hc, t_impl_OutcomeOf xs c hl hc, ee, eq_laws_eqAcceptorS xs hW, eq_laws_eqContract c hW2, Bool.not_true, dup_eq, same_self]
end Go.RvP
