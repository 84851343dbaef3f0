/- The plain law: spec and program answer alike, for FnExactAcceptAt. Condition: the data are such as can come in. -/
import Derived.Test.YtlpfmkjihbancaaRvP7
import Derived.Test.YtlpfmkjihbancaaRvM
import Derived.Test.YtlpfmkjihbancaaRvV
namespace Go.RvP
open Go.Rv
def W_VoteS (xs : (List (Int × Int))) : Nat := xs.length

theorem z_laws_szVoteS (xs : (List (Int × Int))) (h : WFk (.sl none (.pair (.int .i64) (.int .i64))) xs) : SZ m_laws_szVoteS W_VoteS xs := szf xs h.1

def W_Slot (x : (Int × (Int × (Int × ((Int × Int) × (List (Int × Int))))))) : Nat := W_VoteS x.2.2.2.2

theorem z_laws_szSlot (x : (Int × (Int × (Int × ((Int × Int) × (List (Int × Int))))))) (h : WFk (.pair (.int .i64) (.pair (.int .i64) (.pair (.int .i64) (.pair (.pair (.int .i64) (.int .i64)) (.sl none (.pair (.int .i64) (.int .i64))))))) x) : SZ m_laws_szSlot W_Slot x := by
  intro left h0 h1
  have hm : maxLen = 9223372036854775807 := rfl
  show p_laws_szSlot FU _ = _ ∨ (p_laws_szSlot FU _ = _ ∧ _)
  unfold p_laws_szSlot W_Slot
  have b1 : 0 ≤ left := by omega
  rcases z_laws_szVoteS x.2.2.2.2 h.2.2.2.2 (left) (by omega) (by omega) with e1 | ⟨e1, f1⟩
  · left; simp only [e1, Option.bind_some]; rfl
  · have d1 : decide (left - (W_VoteS x.2.2.2.2 : Int) < 0) = false := decide_eq_false (by omega)
    exact .inr ⟨by simp only [e1, d1, Option.bind_some, cond_false], f1⟩

def W_SlotS (xs : (List (Int × (Int × (Int × ((Int × Int) × (List (Int × Int)))))))) : Nat := xs.length + wsum W_Slot xs

theorem z_laws_szSlotS (xs : (List (Int × (Int × (Int × ((Int × Int) × (List (Int × Int)))))))) (h : WFk (.sl none (.pair (.int .i64) (.pair (.int .i64) (.pair (.int .i64) (.pair (.pair (.int .i64) (.int .i64)) (.sl none (.pair (.int .i64) (.int .i64)))))))) xs) : SZ m_laws_szSlotS W_SlotS xs := szl xs m_laws_szSlot W_Slot h.1 (fun x hx => z_laws_szSlot x (h.2 x hx))

def W_Acceptor (x : (List (Int × (Int × (Int × ((Int × Int) × (List (Int × Int)))))))) : Nat := W_SlotS x

theorem z_laws_szAcceptor (x : (List (Int × (Int × (Int × ((Int × Int) × (List (Int × Int)))))))) (h : WFk (.one (.sl none (.pair (.int .i64) (.pair (.int .i64) (.pair (.int .i64) (.pair (.pair (.int .i64) (.int .i64)) (.sl none (.pair (.int .i64) (.int .i64))))))))) x) : SZ m_laws_szAcceptor W_Acceptor x := by
  intro left h0 h1
  have hm : maxLen = 9223372036854775807 := rfl
  show p_laws_szAcceptor FU _ = _ ∨ (p_laws_szAcceptor FU _ = _ ∧ _)
  unfold p_laws_szAcceptor W_Acceptor
  have b1 : 0 ≤ left := by omega
  rcases z_laws_szSlotS x h (left) (by omega) (by omega) with e1 | ⟨e1, f1⟩
  · left; simp only [e1, Option.bind_some]; rfl
  · have d1 : decide (left - (W_SlotS x : Int) < 0) = false := decide_eq_false (by omega)
    exact .inr ⟨by simp only [e1, d1, Option.bind_some, cond_false], f1⟩

theorem o_laws_toVote (x : (Int × Int)) : m_laws_toVote x = some x := by
  show p_laws_toVote FU _ = _
  unfold p_laws_toVote
  rfl

theorem o_laws_toVoteS (xs : (List (Int × Int))) (h : W_VoteS xs ≤ 1048576) : m_laws_toVoteS xs = some xs := by
  unfold W_VoteS at h
  show p_laws_toVoteS FU xs = _
  unfold p_laws_toVoteS
  rw [if_pos rfl, if_pos (by simp [lenI_eq])]
  have hb : Nat.ble (16 * (lenI xs).toNat) maxBytes = true := by rw [Nat.ble_eq]; simp only [lenI_eq, Int.toNat_natCast, maxBytes]; omega
  rw [chk_true hb]
  exact copy_loop2 xs _ m_laws_toVote (fun x _ => o_laws_toVote x) (by omega)

theorem o_laws_toSlot (x : (Int × (Int × (Int × ((Int × Int) × (List (Int × Int))))))) (h : W_Slot x ≤ 1048576) : m_laws_toSlot x = some x := by
  unfold W_Slot at h
  show p_laws_toSlot FU _ = _
  unfold p_laws_toSlot
  simp only [o_laws_toVote x.2.2.2.1, o_laws_toVoteS x.2.2.2.2 (by omega), Option.bind_some]

theorem o_laws_toSlotS (xs : (List (Int × (Int × (Int × ((Int × Int) × (List (Int × Int)))))))) (h : W_SlotS xs ≤ 1048576) : m_laws_toSlotS xs = some xs := by
  unfold W_SlotS at h
  show p_laws_toSlotS FU xs = _
  unfold p_laws_toSlotS
  rw [if_pos rfl, if_pos (by simp [lenI_eq])]
  have hb : Nat.ble (64 * (lenI xs).toNat) maxBytes = true := by rw [Nat.ble_eq]; simp only [lenI_eq, Int.toNat_natCast, maxBytes]; omega
  rw [chk_true hb]
  exact copy_loop2 xs _ m_laws_toSlot (fun x hx => o_laws_toSlot x (by have := wsum_mem W_Slot xs x hx; omega)) (by omega)

theorem o_laws_toAcceptor (x : (List (Int × (Int × (Int × ((Int × Int) × (List (Int × Int)))))))) (h : W_Acceptor x ≤ 1048576) : m_laws_toAcceptor x = some x := by
  unfold W_Acceptor at h
  show p_laws_toAcceptor FU _ = _
  unfold p_laws_toAcceptor
  simp only [o_laws_toSlotS x (by omega), Option.bind_some]

theorem eq_laws_eqVote (x : (Int × Int)) : m_laws_eqVote (x, x) = some true := by
  show p_laws_eqVote FU _ = _
  unfold p_laws_eqVote
  simp only [beq_self_eq_true, Bool.not_true, cond_false]

theorem eq_laws_eqVoteS (xs : (List (Int × Int))) (h : W_VoteS xs ≤ 1048576) : m_laws_eqVoteS (xs, xs) = some true := by
  unfold W_VoteS at h
  show p_laws_eqVoteS FU _ = _
  unfold p_laws_eqVoteS
  simp only [beq_self_eq_true, Bool.not_true, cond_false]
  exact eq_loop xs m_laws_eqVote (fun x _ => eq_laws_eqVote x) (by omega)

theorem eq_laws_eqSlot (x : (Int × (Int × (Int × ((Int × Int) × (List (Int × Int))))))) (h : W_Slot x ≤ 1048576) : m_laws_eqSlot (x, x) = some true := by
  unfold W_Slot at h
  show p_laws_eqSlot FU _ = _
  unfold p_laws_eqSlot
  simp only [beq_self_eq_true, Bool.not_true, cond_false, eq_laws_eqVote x.2.2.2.1, eq_laws_eqVoteS x.2.2.2.2 (by omega), Option.bind_some]

theorem eq_laws_eqSlotS (xs : (List (Int × (Int × (Int × ((Int × Int) × (List (Int × Int)))))))) (h : W_SlotS xs ≤ 1048576) : m_laws_eqSlotS (xs, xs) = some true := by
  unfold W_SlotS at h
  show p_laws_eqSlotS FU _ = _
  unfold p_laws_eqSlotS
  simp only [beq_self_eq_true, Bool.not_true, cond_false]
  exact eq_loop xs m_laws_eqSlot (fun x hx => eq_laws_eqSlot x (by have := wsum_mem W_Slot xs x hx; omega)) (by omega)

theorem eq_laws_eqAcceptor (x : (List (Int × (Int × (Int × ((Int × Int) × (List (Int × Int)))))))) (h : W_Acceptor x ≤ 1048576) : m_laws_eqAcceptor (x, x) = some true := by
  unfold W_Acceptor at h
  show p_laws_eqAcceptor FU _ = _
  unfold p_laws_eqAcceptor
  simp only [Bool.not_true, cond_false, eq_laws_eqSlotS x (by omega), Option.bind_some]

def W_AcceptorResult (x : (Int × ((Int × Int) × (List (Int × (Int × (Int × ((Int × Int) × (List (Int × Int)))))))))) : Nat := W_Acceptor x.2.2

theorem eq_laws_eqAcceptorResult (x : (Int × ((Int × Int) × (List (Int × (Int × (Int × ((Int × Int) × (List (Int × Int)))))))))) (h : W_AcceptorResult x ≤ 1048576) : m_laws_eqAcceptorResult (x, x) = some true := by
  unfold W_AcceptorResult at h
  show p_laws_eqAcceptorResult FU _ = _
  unfold p_laws_eqAcceptorResult
  simp only [beq_self_eq_true, Bool.not_true, cond_false, eq_laws_eqVote x.2.1, eq_laws_eqAcceptor x.2.2 (by omega), Option.bind_some]

def V_Vote (_ : (Int × Int)) : Nat := 2

def V_VoteS (xs : (List (Int × Int))) : Nat := wsum V_Vote xs

theorem vb_VoteS (xs : (List (Int × Int))) : V_VoteS xs ≤ 2 * W_VoteS xs := wsum_bnd V_Vote 2 xs (fun x _ => by unfold V_Vote; omega)

theorem mh_VoteS (xs : (List (Int × Int))) (k : Int) (hW : W_VoteS xs ≤ 1048576) (h0 : 0 ≤ k) (hk : k + (V_VoteS xs : Int) ≤ B40) : ∃ L : (List (Int × Int)), L.length = xs.length ∧ m_laws_markVoteS (xs, k) = some (k + (V_VoteS xs : Int), L) ∧ m_laws_heldVoteS (L, k) = some (k + (V_VoteS xs : Int)) := by
  unfold W_VoteS at hW
  have hB : B40 = 1099511627776 := rfl
  show ∃ L : (List (Int × Int)), _ ∧ p_laws_markVoteS FU (xs, k) = _ ∧ p_laws_heldVoteS FU (L, k) = _
  unfold p_laws_markVoteS l_laws_markVoteS_1 p_laws_heldVoteS l_laws_heldVoteS_1
  dsimp only
  refine mark_held V_Vote xs k (by unfold B36; omega) h0 hk (fun i k x hx hi h0 hk hw => ?_) (fun k L rec => ?_) (fun k L rec => ?_)
  · have hx := True.intro
    unfold V_Vote at hk ⊢
    have w1 : IntKind.wrap .i64 (k + 1) = k + 1 := wrap64 (by omega) (by omega)
    have w2 : IntKind.wrap .i64 (k + 1 + 1) = k + 1 + 1 := wrap64 (by omega) (by omega)
    have ew : k + ((2 : Nat) : Int) = k + 1 + 1 := by omega
    rw [ew]
    refine ⟨(k, k + 1), fun L hL g1 g2 rec => ?_, fun L hL g1 rec => ?_⟩
    · simp only [lt_lenI hL, cond_true, g1, g2, Option.bind_some, Int.toNat_natCast, geti_set hL, gets_set hL, List.set_set, w1, w2, hw]
    · simp only [lt_lenI hL, cond_true, g1, Option.bind_some, beq_self_eq_true, Bool.not_true, cond_false, w1, w2, hw]
  · simp only [ge_lenI, cond_false]
  · simp only [ge_lenI, cond_false]

def V_Slot (x : (Int × (Int × (Int × ((Int × Int) × (List (Int × Int))))))) : Nat := 5 + V_VoteS x.2.2.2.2

def V_SlotS (xs : (List (Int × (Int × (Int × ((Int × Int) × (List (Int × Int)))))))) : Nat := wsum V_Slot xs

theorem vb_SlotS (xs : (List (Int × (Int × (Int × ((Int × Int) × (List (Int × Int)))))))) : V_SlotS xs ≤ 5 * W_SlotS xs := wsum_le V_Slot W_Slot 5 xs (fun x _ => by have := vb_VoteS x.2.2.2.2; unfold V_Slot W_Slot; omega)

theorem mh_SlotS (xs : (List (Int × (Int × (Int × ((Int × Int) × (List (Int × Int)))))))) (k : Int) (hW : W_SlotS xs ≤ 1048576) (h0 : 0 ≤ k) (hk : k + (V_SlotS xs : Int) ≤ B40) : ∃ L : (List (Int × (Int × (Int × ((Int × Int) × (List (Int × Int))))))), L.length = xs.length ∧ m_laws_markSlotS (xs, k) = some (k + (V_SlotS xs : Int), L) ∧ m_laws_heldSlotS (L, k) = some (k + (V_SlotS xs : Int)) := by
  unfold W_SlotS at hW
  have hB : B40 = 1099511627776 := rfl
  show ∃ L : (List (Int × (Int × (Int × ((Int × Int) × (List (Int × Int))))))), _ ∧ p_laws_markSlotS FU (xs, k) = _ ∧ p_laws_heldSlotS FU (L, k) = _
  unfold p_laws_markSlotS l_laws_markSlotS_1 p_laws_heldSlotS l_laws_heldSlotS_1
  dsimp only
  refine mark_held V_Slot xs k (by unfold B36; omega) h0 hk (fun i k x hx hi h0 hk hw => ?_) (fun k L rec => ?_) (fun k L rec => ?_)
  · have hx : W_Slot x ≤ 1048576 := by have := wsum_mem W_Slot xs x hx; omega
    unfold W_Slot at hx
    unfold V_Slot at hk ⊢
    have w1 : IntKind.wrap .i64 (k + 1) = k + 1 := wrap64 (by omega) (by omega)
    have w2 : IntKind.wrap .i64 (k + 1 + 1) = k + 1 + 1 := wrap64 (by omega) (by omega)
    have w3 : IntKind.wrap .i64 (k + 1 + 1 + 1) = k + 1 + 1 + 1 := wrap64 (by omega) (by omega)
    have w4 : IntKind.wrap .i64 (k + 1 + 1 + 1 + 1) = k + 1 + 1 + 1 + 1 := wrap64 (by omega) (by omega)
    have w5 : IntKind.wrap .i64 (k + 1 + 1 + 1 + 1 + 1) = k + 1 + 1 + 1 + 1 + 1 := wrap64 (by omega) (by omega)
    obtain ⟨L1, _, m1, q1⟩ := mh_VoteS x.2.2.2.2 (k + 1 + 1 + 1 + 1 + 1) (by omega) (by omega) (by omega)
    have d1 : decide (k + 1 + 1 + 1 + 1 + 1 + (V_VoteS x.2.2.2.2 : Int) < 0) = false := decide_eq_false (by omega)
    have ew : k + ((5 + V_VoteS x.2.2.2.2 : Nat) : Int) = k + 1 + 1 + 1 + 1 + 1 + (V_VoteS x.2.2.2.2 : Int) := by omega
    rw [ew]
    refine ⟨(k, (k + 1, (k + 1 + 1, ((k + 1 + 1 + 1, k + 1 + 1 + 1 + 1), L1)))), fun L hL g1 g2 rec => ?_, fun L hL g1 rec => ?_⟩
    · simp only [lt_lenI hL, cond_true, g1, g2, Option.bind_some, Int.toNat_natCast, geti_set hL, gets_set hL, List.set_set, w1, w2, w3, w4, w5, m1, hw]
    · simp only [lt_lenI hL, cond_true, g1, Option.bind_some, beq_self_eq_true, Bool.not_true, cond_false, w1, w2, w3, w4, w5, q1, d1, hw]
  · simp only [ge_lenI, cond_false]
  · simp only [ge_lenI, cond_false]

theorem h_laws_heldAcceptor (x : (List (Int × (Int × (Int × ((Int × Int) × (List (Int × Int)))))))) (k k1 : Int) (e1 : m_laws_heldSlotS (x, k) = some k1) (n1 : 0 ≤ k1) : m_laws_heldAcceptor (x, k) = some k1 := by
  show p_laws_heldAcceptor FU _ = _
  unfold p_laws_heldAcceptor
  simp only [e1, decide_eq_false (show ¬ k1 < 0 by omega), Option.bind_some, cond_false]

theorem h_laws_heldAcceptorResult (x : (Int × ((Int × Int) × (List (Int × (Int × (Int × ((Int × Int) × (List (Int × Int)))))))))) (k k1 : Int) (e1 : m_laws_heldAcceptor (x.2.2, k) = some k1) (n1 : 0 ≤ k1) : m_laws_heldAcceptorResult (x, k) = some k1 := by
  show p_laws_heldAcceptorResult FU _ = _
  unfold p_laws_heldAcceptorResult
  simp only [e1, decide_eq_false (show ¬ k1 < 0 by omega), Option.bind_some, cond_false]

theorem t_laws_szVoteS (xs : List (Int × Int)) (h : (xs.length : Int) ≤ 9223372036854775807) : m_laws_szVoteS (xs, 1048576) = some (if 1048576 - (xs.length : Int) < 0 then -1 else 1048576 - (xs.length : Int)) := by
  show p_laws_szVoteS FU _ = _
  unfold p_laws_szVoteS
  have hw : IntKind.wrap .i64 (1048576 - (xs.length : Int)) = 1048576 - (xs.length : Int) := wrap64 (by omega) (by omega)
  simp only [lenI_eq, hw]
  by_cases hh : (1048576 : Int) - (xs.length : Int) < 0 <;> simp [hh]

theorem sz_laws_szSlot (x : SlotT) (h : x.2.2.2.2.length ≤ maxLen) : SZ m_laws_szSlot (fun x => x.2.2.2.2.length) x := by
  intro left h0 h1
  have hm : maxLen = 9223372036854775807 := rfl
  show p_laws_szSlot FU _ = _ ∨ (p_laws_szSlot FU _ = _ ∧ _)
  unfold p_laws_szSlot
  have e : m_laws_szVoteS (x.2.2.2.2, left) = some (if left - (x.2.2.2.2.length : Int) < 0 then -1 else left - (x.2.2.2.2.length : Int)) := by
    show p_laws_szVoteS FU _ = _
    unfold p_laws_szVoteS
    have hw : IntKind.wrap .i64 (left - (x.2.2.2.2.length : Int)) = left - (x.2.2.2.2.length : Int) := wrap64 (by omega) (by omega)
    simp only [lenI_eq, hw]
    by_cases hh : left - (x.2.2.2.2.length : Int) < 0 <;> simp [hh]
  rw [e]
  by_cases hh : left - (x.2.2.2.2.length : Int) < 0
  · simp [hh]
  · right
    simp [hh]
    omega

theorem t_laws_szSlot (x : SlotT) (h : (x.2.2.2.2.length : Int) ≤ 9223372036854775807) : m_laws_szSlot (x, 1048576) = some (if 1048576 - (x.2.2.2.2.length : Int) < 0 then -1 else 1048576 - (x.2.2.2.2.length : Int)) := by
  show p_laws_szSlot FU _ = _
  unfold p_laws_szSlot
  rw [t_laws_szVoteS _ h]
  by_cases hh : (1048576 : Int) - (x.2.2.2.2.length : Int) < 0 <;> simp [hh]

def wSlots (xs : List SlotT) : Nat := xs.length + (xs.map fun x => x.2.2.2.2.length).sum

theorem sz_laws_szSlotS (xs : List SlotT) (hl : xs.length ≤ maxLen) (h : ∀ x ∈ xs, x.2.2.2.2.length ≤ maxLen) : SZ m_laws_szSlotS wSlots xs := by
  intro left h0 h1
  have hm : maxLen = 9223372036854775807 := rfl
  show p_laws_szSlotS FU _ = _ ∨ (p_laws_szSlotS FU _ = _ ∧ _)
  unfold p_laws_szSlotS wSlots
  have hw : IntKind.wrap .i64 (left - (xs.length : Int)) = left - (xs.length : Int) := wrap64 (by omega) (by omega)
  simp only [lenI_eq, hw]
  by_cases hh : left - (xs.length : Int) < 0
  · left; simp [hh]
  · have := sz_loop xs m_laws_szSlot (fun x => x.2.2.2.2.length) (fun x hx => sz_laws_szSlot x (h x hx)) (by omega) (left - (xs.length : Int)) (by omega) (by omega)
    simp only [hh, decide_false, cond_false]
    rcases this with h2 | ⟨h2, h3⟩
    · exact .inl h2
    · right
      refine ⟨?_, by omega⟩
      rw [show left - ((xs.length + (xs.map fun x => x.2.2.2.2.length).sum : Nat) : Int) = left - (xs.length : Int) - (((xs.map fun x => x.2.2.2.2.length).sum : Nat) : Int) from by omega]
      exact h2

theorem t_laws_toVote (a : Int × Int) : m_laws_toVote a = some a := rfl

theorem t_laws_toVoteS (xs : List (Int × Int)) (hl : xs.length ≤ 1048576) : m_laws_toVoteS xs = some xs := by
  show p_laws_toVoteS FU xs = _
  unfold p_laws_toVoteS
  rw [if_pos rfl, if_pos (by simp [lenI_eq])]
  have hb : Nat.ble (16 * (lenI xs).toNat) maxBytes = true := by rw [Nat.ble_eq]; simp only [lenI_eq, Int.toNat_natCast, maxBytes]; omega
  simp only [hb, chk, cond_true]
  exact copy_loop2 xs _ m_laws_toVote (fun x hx => t_laws_toVote x) hl

theorem t_laws_toSlot (x : SlotT) (h : x.2.2.2.2.length ≤ 1048576) : m_laws_toSlot x = some x := by
  show p_laws_toSlot FU _ = _
  unfold p_laws_toSlot
  simp only [t_laws_toVote, Option.bind_some, t_laws_toVoteS _ h]

theorem t_laws_toSlotS (xs : List SlotT) (hl : xs.length ≤ 1048576) (h : ∀ x ∈ xs, x.2.2.2.2.length ≤ 1048576) : m_laws_toSlotS xs = some xs := by
  show p_laws_toSlotS FU xs = _
  unfold p_laws_toSlotS
  rw [if_pos rfl, if_pos (by simp [lenI_eq])]
  have hb : Nat.ble (64 * (lenI xs).toNat) maxBytes = true := by rw [Nat.ble_eq]; simp only [lenI_eq, Int.toNat_natCast, maxBytes]; omega
  simp only [hb, chk, cond_true]
  exact copy_loop2 xs _ m_laws_toSlot (fun x hx => t_laws_toSlot x (h x hx)) hl

theorem t_spec_l1In (a b c : Int) : m_spec_l1In (a, b, c) = some (inB a b c) := by
  show p_spec_l1In FU _ = _
  unfold p_spec_l1In inB
  by_cases h : b ≤ a <;> simp [h]

theorem t_spec_l1Id (a : Int) : m_spec_l1Id a = some (idB a) := by
  show p_spec_l1Id FU _ = _
  unfold p_spec_l1Id idB
  rw [t_spec_l1In]; rfl

theorem t_spec_l8Ballot (a : Int) : m_spec_l8Ballot a = some (bal a) := by
  show p_spec_l8Ballot FU _ = _
  unfold p_spec_l8Ballot bal
  rw [t_spec_l1In]; rfl

theorem t_spec_l8Value (a : Int) : m_spec_l8Value a = some (vlu a) := by
  show p_spec_l8Value FU _ = _
  unfold p_spec_l8Value vlu
  cases h : (a == (1 : Int)) <;> simp

theorem t_spec_l8None : m_spec_l8None () = some (-1, 0) := rfl

theorem t_spec_l8Last (x : SlotT) (h : x.2.2.2.2.length ≤ 60) : m_spec_l8Last x = some (lastV x.2.2.2.2) := by
  obtain ⟨a, b, c, d, xs⟩ := x
  simp only at h
  show p_spec_l8Last FU _ = _
  unfold p_spec_l8Last lastV
  simp only
  by_cases h0 : xs.length = 0
  · have : xs = [] := List.eq_nil_of_length_eq_zero h0
    subst this
    rfl
  · have h1 : (lenI xs == 0) = false := by rw [lenI_eq, beq_eq_false_iff_ne]; omega
    have h2 : IntKind.wrap .i64 (lenI xs - 1) = ((xs.length - 1 : Nat) : Int) := by rw [lenI_eq, wrap64 (by omega) (by omega)]; omega
    have hlt : xs.length - 1 < xs.length := by omega
    simp only [h1, cond_false, h2, geti_lt xs _ hlt, Option.bind_some]
    rw [List.getLast?_eq_getElem?, List.getElem?_eq_getElem hlt]
    rfl

theorem t_spec_SlotFault (x : SlotT) : m_spec_SlotFault x = some (slotCode x) := by
  obtain ⟨a, b, c, d, xs⟩ := x
  show p_spec_SlotFault FU _ = _
  unfold p_spec_SlotFault slotCode
  simp only [t_spec_l1Id, t_spec_l1In, Option.bind_some]
  have e0 : (cond (!idB a) (some true) (cond (!inB b 0 2) (some true) (some (!inB c (-1) 1000)))) = some (!(idB a && (shB b && inB c (-1) 1000))) := by
    unfold shB
    cases idB a <;> cases inB b 0 2 <;> rfl
  rw [e0]
  simp only [Option.bind_some]
  cases (idB a && (shB b && inB c (-1) 1000)) with
  | false => rfl
  | true =>
    simp only [Bool.not_true, cond_false]
    by_cases hl : xs.length > 60
    · have : decide (lenI xs > 60) = true := by simp [lenI_eq]; omega
      simp [this, hl]
    · have : decide (lenI xs > 60) = false := by simp [lenI_eq]; omega
      simp only [this, cond_false, if_neg hl]
      have e1 : l_spec_SlotFault_1 FU xs 0 = match fstI (castF xs) 0 xs with
          | some r => some (Sum.inr r)
          | none => some (Sum.inl ()) := by
        unfold l_spec_SlotFault_1
        refine (lp_fst xs (fun i v => (castF xs i v).map Sum.inr) (some (Sum.inl ())) (by unfold B36; omega) (fun i hi rec hw => ?_) (fun rec => ?_)).trans ?_
        · simp only [lt_lenI hi, cond_true, geti_lt xs i hi, Option.bind_some, t_spec_l8Ballot, t_spec_l8Value, castF, hw, votB]
          cases bal xs[i].1 with
          | false => rfl
          | true =>
            cases vlu xs[i].2 with
            | false => rfl
            | true =>
              simp only [Bool.not_true, cond_false, Bool.and_self, Option.bind_some]
              by_cases h0 : 0 < i
              · have hd : decide ((i : Int) > 0) = true := by simp; omega
                have hp := prv (i := i) (by unfold B36; omega) h0
                have hi1 : i - 1 < xs.length := by omega
                simp only [hd, cond_true, hp, geti_lt xs _ hi1, Option.bind_some, h0, decide_true, Bool.true_and, List.getElem?_eq_getElem hi1, Option.getD_some, badP]
                cases decide (xs[i].1 < xs[i - 1].1) <;> cases (xs[i].1 == xs[i - 1].1) <;> cases (xs[i].2 == xs[i - 1].2) <;> rfl
              · have hd : decide ((i : Int) > 0) = false := by simp; omega
                simp only [hd, cond_false, Option.bind_some, h0, decide_false, Bool.false_and, Option.map_none]
        · simp only [ge_lenI, cond_false]
        · have : ∀ (ys : List (Int × Int)) (i : Nat), fstI (R := Unit ⊕ Int) (fun i v => (castF xs i v).map Sum.inr) i ys = (fstI (castF xs) i ys).map Sum.inr := by
            intro ys
            induction ys with
            | nil => intro i; rfl
            | cons y ys ih =>
              intro i
              simp only [fstI]
              cases castF xs i y with
              | some r => rfl
              | none => exact ih (i + 1)
          rw [this]
          cases fstI (castF xs) 0 xs <;> rfl
      rw [e1]
      have hc := cast_all xs
      have nz : ∀ (ys : List (Int × Int)) (i : Nat) r, fstI (castF xs) i ys = some r → r ≠ 0 := by
        intro ys
        induction ys with
        | nil => intro i r h; cases h
        | cons y ys ih =>
          intro i r h
          simp only [fstI] at h
          split at h
          · rename_i q hq
            simp only [Option.some.injEq] at h
            subst h
            unfold castF at hq
            cases hv : votB y <;> rw [hv] at hq <;> simp only [Bool.not_true, Bool.not_false, cond_true, cond_false, Option.some.injEq] at hq
            · omega
            · cases hv2 : (decide (0 < i) && badP (xs[i - 1]?.getD (0, 0)) y) <;> rw [hv2] at hq <;> simp only [cond_true, cond_false, Option.some.injEq] at hq
              · cases hq
              · omega
          · exact ih _ _ h
      cases hf : fstI (castF xs) 0 xs with
      | some r =>
        rw [hf] at hc
        simp only at hc
        have hr : r ≠ 0 := nz _ _ _ hf
        rw [← hc]
        simp [hr]
      | none =>
        rw [hf] at hc
        simp only at hc
        rw [← hc]
        simp only [Option.bind_some, Sum.elim_inl, t_spec_l8Last (a, b, c, d, xs) (by show xs.length ≤ 60; omega)]
        obtain ⟨d1, d2⟩ := d
        have e2 : (!((d1 == (lastV xs).1) && ((d2 == (lastV xs).2) && true))) = !((d1, d2) == lastV xs) := by
          rw [Bool.and_true]; rfl
        rw [e2]
        cases ((d1, d2) == lastV xs) with
        | false => simp
        | true => by_cases hh : d1 > c <;> simp [hh]



theorem t_spec_l9Ahead (a b : SlotT) : m_spec_l9Ahead (a, b) = some (aheadB a b) := by
  show p_spec_l9Ahead FU _ = _
  unfold p_spec_l9Ahead aheadB
  by_cases h : a.1 = b.1
  · simp [h]
  · have hb : (a.1 == b.1) = false := by simp [h]
    simp [hb, h]
theorem t_spec_AcceptorFault (xs : List SlotT) : m_spec_AcceptorFault xs = some (accCode xs) := by
  show p_spec_AcceptorFault FU xs = _
  unfold p_spec_AcceptorFault accCode
  by_cases hl : xs.length > 60
  · have : decide (lenI xs > 60) = true := by simp [lenI_eq]; omega
    rw [this, if_pos hl]; rfl
  · have : decide (lenI xs > 60) = false := by simp [lenI_eq]; omega
    rw [this, if_neg hl, cond_false]
    unfold l_spec_AcceptorFault_1
    refine (lp_fst xs (accStep xs) (some 0) (by unfold B36; omega) (fun i hi rec hw => ?_) (fun rec => ?_)).trans (by cases fstI (accStep xs) 0 xs <;> rfl)
    · simp only [lt_lenI hi, cond_true, geti_lt xs i hi, Option.bind_some, t_spec_SlotFault, accStep, hw]
      cases (slotCode xs[i] == 0) with
      | false => rfl
      | true =>
        simp only [Bool.not_true, cond_false]
        by_cases h0 : 0 < i
        · have hd : decide ((i : Int) > 0) = true := by simp; omega
          have hi1 : i - 1 < xs.length := by omega
          simp only [hd, cond_true, prv (i := i) (by unfold B36; omega) h0, geti_lt xs _ hi1, Option.bind_some, t_spec_l9Ahead, h0, decide_true, Bool.true_and, List.getElem?_eq_getElem hi1, Option.getD_some]
          cases aheadB xs[i - 1] xs[i] <;> rfl
        · have hd : decide ((i : Int) > 0) = false := by simp; omega
          simp only [hd, cond_false, Option.bind_some, h0, decide_false, Bool.false_and]
    · simp only [ge_lenI, cond_false]

theorem t_spec_NewSlot (a b : Int) : m_spec_NewSlot (a, b) = some (newR a b) := by
  show p_spec_NewSlot FU _ = _
  unfold p_spec_NewSlot newR shB
  simp only [t_spec_l1Id, t_spec_l1In, t_spec_l8None, Option.bind_some]
  cases idB a <;> cases inB b 0 2 <;> rfl

theorem t_spec_l9Asked (xs : List SlotT) (c d : Int) : m_spec_l9Asked (xs, c, d) = some (if accCode xs = 0 then (newR c d).1 else accCode xs) := by
  show p_spec_l9Asked FU _ = _
  unfold p_spec_l9Asked
  simp only [t_spec_AcceptorFault, t_spec_NewSlot, Option.bind_some]
  cases h : (accCode xs == 0) with
  | true => rw [if_pos (by simpa using h)]; rfl
  | false => rw [if_neg (by simpa using h)]; rfl

theorem t_spec_l8Copy (x : SlotT) (h : x.2.2.2.2.length ≤ 1048576) : m_spec_l8Copy x = some x := by
  show p_spec_l8Copy FU _ = _
  unfold p_spec_l8Copy
  have hb : Nat.ble ((([] : List (Int × Int)).length + x.2.2.2.2.length) * 16) maxBytes = true := ble_mem (by simp only [List.length_nil, maxBytes]; omega)
  rw [chk_true hb]
  rfl

theorem t_spec_l9Slot (xs : List SlotT) (c d : Int) (hl : xs.length ≤ 1048576) (hc : ∀ x ∈ xs, x.2.2.2.2.length ≤ 1048576) (hn : (idB c && shB d) = true) : m_spec_l9Slot (xs, c, d) = some (slotOf xs c d) := by
  show p_spec_l9Slot FU _ = _
  unfold p_spec_l9Slot slotOf
  simp only
  have e1 : l_spec_l9Slot_1 FU xs c d 0 = match xs.findIdx? (isSlot c d) with
      | some i => (xs[i]?).map Sum.inr
      | none => some (Sum.inl ()) := by
    unfold l_spec_l9Slot_1
    refine lp_place xs (isSlot c d) (fun i => (xs[i]?).map Sum.inr) (some (Sum.inl ())) (by unfold B36; omega) (fun i hi rec hw => ?_) (fun rec => ?_)
    · simp only [lt_lenI hi, cond_true, geti_lt xs i hi, Option.bind_some, hw, isSlot, t_spec_l8Copy _ (hc _ (List.getElem_mem hi)), List.getElem?_eq_getElem hi, Option.map_some]
      cases (xs[i].1 == c) <;> cases (xs[i].2.1 == d) <;> rfl
    · simp only [ge_lenI, cond_false]
  rw [e1, t_spec_NewSlot]
  have e2 : xs.find? (isSlot c d) = (xs.findIdx? (isSlot c d)).bind fun i => xs[i]? := by
    clear e1 hc hl hn
    induction xs with
    | nil => rfl
    | cons x xs ih =>
      rw [List.find?_cons, List.findIdx?_cons]
      cases isSlot c d x with
      | true => rfl
      | false =>
        simp only [ih]
        cases xs.findIdx? (isSlot c d) <;> simp
  rw [e2]
  cases hf : xs.findIdx? (isSlot c d) with
  | none =>
    simp only [Option.bind_some, Sum.elim_inl, Option.bind_none, Option.getD_none, newR, hn, Bool.not_true, cond_false, newS]
  | some i =>
    have hi : i < xs.length := (List.findIdx?_eq_some_iff_getElem.1 hf).1
    simp only [Option.bind_some, List.getElem?_eq_getElem hi, Option.map_some, Sum.elim_inr, Option.getD_some]

theorem t_spec_AcceptSlot (s : SlotT) (v : Int × Int) : m_spec_AcceptSlot (s, v) = some (accR s v) := by
  show p_spec_AcceptSlot FU _ = _
  unfold p_spec_AcceptSlot accR votB
  simp only [t_spec_SlotFault, t_spec_l8Ballot, t_spec_l8Value, Option.bind_some]
  cases h : (slotCode s == 0) with
  | false => rfl
  | true =>
    have hl := (slotCode_zero (by simpa using h)).2.1
    have hb : Nat.ble ((s.2.2.2.2.length + [v].length) * 16) maxBytes = true := ble_mem (by simp only [List.length_cons, List.length_nil, maxBytes]; omega)
    have h6 : decide (lenI s.2.2.2.2 ≥ 60) = decide (s.2.2.2.2.length ≥ 60) := by
      rw [lenI_eq]
      exact decide_eq_decide.mpr (by omega)
    simp only [t_spec_l8Copy s (by omega), Option.bind_some, Bool.not_true, cond_false, chk_true hb, h6]
    cases bal v.1 <;> cases vlu v.2 <;> try rfl
    cases decide (v.1 < s.2.2.1) with
    | true => rfl
    | false =>
      cases (v.1 == s.2.2.2.1.1) <;> cases (v.2 == s.2.2.2.1.2) <;> cases decide (s.2.2.2.2.length ≥ 60) <;> rfl

theorem t_spec_l9Copy (xs : List SlotT) (hl : xs.length ≤ 1048576) (hc : ∀ x ∈ xs, x.2.2.2.2.length ≤ 1048576) : m_spec_l9Copy xs = some xs := by
  show p_spec_l9Copy FU _ = _
  unfold p_spec_l9Copy l_spec_l9Copy_1
  refine (grow_loop2 64 (by omega) xs m_spec_l8Copy id (fun x hx => t_spec_l8Copy x (hc x hx)) hl).trans ?_
  rw [List.map_id]

theorem t_spec_l9Set (xs : List SlotT) (s : SlotT) (hl : xs.length ≤ 60) (hc : ∀ x ∈ xs, x.2.2.2.2.length ≤ 1048576) : m_spec_l9Set (xs, s) = some ((putS xs s).elim (xs, false) fun ys => (ys, true)) := by
  show p_spec_l9Set FU _ = _
  unfold p_spec_l9Set
  simp only [t_spec_l9Copy xs (by omega) hc, Option.bind_some]
  have e1 : l_spec_l9Set_1 FU xs s (0 : Int) = some ((placeS xs s : Nat) : Int) := by
    unfold l_spec_l9Set_1
    refine (lp_place xs (fun x => !(aheadB x s)) (fun i => some (i : Int)) (some (xs.length : Int)) (by unfold B36; omega) (fun i hi rec hw => ?_) (fun rec => ?_)).trans ?_
    · simp only [lt_lenI hi, cond_true, geti_lt xs i hi, Option.bind_some, Int.toNat_natCast, List.getElem?_eq_getElem hi, t_spec_l9Ahead, hw]
      cases aheadB xs[i] s <;> rfl
    · simp only [ge_lenI, cond_false, Option.bind_some]
    · unfold placeS
      cases xs.findIdx? (fun x => !(aheadB x s)) <;> rfl
  have hp := placeS_le xs s
  rw [e1]
  simp only [Option.bind_some]
  unfold putS
  by_cases hj : placeS xs s < xs.length
  · simp only [lt_lenI hj, cond_true, geti_lt xs _ hj, Option.bind_some, Int.toNat_natCast, List.getElem?_eq_getElem hj, t_spec_l9Ahead, Option.elim]
    cases aheadB s xs[placeS xs s] with
    | false => simp only [Bool.not_false, cond_true]
    | true =>
      simp only [Bool.not_true, cond_false]
      by_cases h6 : xs.length ≥ 60
      · have h7 : decide (lenI xs ≥ (60 : Int)) = true := decide_eq_true (by rw [lenI_eq]; omega)
        simp only [h7, decide_eq_true h6, cond_true]
      · have h7 : decide (lenI xs ≥ (60 : Int)) = false := decide_eq_false (by rw [lenI_eq]; omega)
        have b1 : bndB none (some (placeS xs s : Int)) none xs.length = true := by simp [bndB]; omega
        have b2 : bndB (some (placeS xs s : Int)) none none xs.length = true := by simp [bndB]; omega
        have l1 : ((xs.drop 0).take (placeS xs s)).length = placeS xs s := by simp; omega
        have l2 : ((xs.drop (placeS xs s)).take (xs.length - placeS xs s)) = xs.drop (placeS xs s) := List.take_of_length_le (by simp)
        have c1 : ∀ n : Nat, n ≤ 1000 → Nat.ble (n * 64) maxBytes = true := fun n hn => by rw [Nat.ble_eq]; unfold maxBytes; omega
        simp only [h7, decide_eq_false h6, cond_false, b1, b2, chk, cond_true, l2]
        rw [c1 _ (by rw [l1]; omega), c1 _ (by rw [l1]; simp; omega), c1 _ (by simp only [List.length_append, l1, List.length_drop, List.length_cons, List.length_nil]; omega)]
        simp only [cond_true, List.drop_zero]
  · have hj2 : placeS xs s = xs.length := by omega
    have hd : decide ((placeS xs s : Int) < lenI xs) = false := decide_eq_false (by rw [lenI_eq]; omega)
    simp only [hd, cond_false, Option.bind_some, List.getElem?_eq_none (show xs.length ≤ placeS xs s by omega), Option.elim]
    by_cases h6 : xs.length ≥ 60
    · have h7 : decide (lenI xs ≥ (60 : Int)) = true := decide_eq_true (by rw [lenI_eq]; omega)
      simp only [h7, decide_eq_true h6, cond_true]
    · have h7 : decide (lenI xs ≥ (60 : Int)) = false := decide_eq_false (by rw [lenI_eq]; omega)
      have b1 : bndB none (some (placeS xs s : Int)) none xs.length = true := by simp [bndB]; omega
      have b2 : bndB (some (placeS xs s : Int)) none none xs.length = true := by simp [bndB]; omega
      have l1 : ((xs.drop 0).take (placeS xs s)).length = placeS xs s := by simp; omega
      have l2 : ((xs.drop (placeS xs s)).take (xs.length - placeS xs s)) = xs.drop (placeS xs s) := List.take_of_length_le (by simp)
      have c1 : ∀ n : Nat, n ≤ 1000 → Nat.ble (n * 64) maxBytes = true := fun n hn => by rw [Nat.ble_eq]; unfold maxBytes; omega
      simp only [h7, decide_eq_false h6, cond_false, b1, b2, chk, cond_true, Int.toNat_natCast, l2]
      rw [c1 _ (by rw [l1]; omega), c1 _ (by rw [l1]; simp; omega), c1 _ (by simp only [List.length_append, l1, List.length_drop, List.length_cons, List.length_nil]; omega)]
      simp only [cond_true, List.drop_zero]

theorem t_spec_l9Told (xs : List SlotT) (r : Int × ((Int × Int) × SlotT)) (hl : xs.length ≤ 60) (hc : ∀ x ∈ xs, x.2.2.2.2.length ≤ 1048576) : m_spec_l9Told (xs, r) = some (toldR xs r) := by
  show p_spec_l9Told FU _ = _
  unfold p_spec_l9Told toldR
  cases h : (r.1 == 0) with
  | false => rfl
  | true =>
    simp only [Bool.not_true, cond_false, t_spec_l9Set xs r.2.2 hl hc, Option.bind_some]
    cases putS xs r.2.2 <;> rfl

def rAcceptAt (xs : List SlotT) (c d : Int) (b : Int × Int) : AccR := cond (!((if accCode xs = 0 then (newR c d).1 else accCode xs) == 0)) ((if accCode xs = 0 then (newR c d).1 else accCode xs), zA.2) (toldR xs (accR (slotOf xs c d) b))
theorem t_spec_AcceptAt (xs : List SlotT) (c d : Int) (b : Int × Int) : m_spec_AcceptAt (xs, c, d, b) = some (rAcceptAt xs c d b) := by
  show p_spec_AcceptAt FU _ = _
  unfold p_spec_AcceptAt rAcceptAt
  simp only [t_spec_l9Asked, Option.bind_some]
  cases h : ((if accCode xs = 0 then (newR c d).1 else accCode xs) == 0) with
  | false => rfl
  | true =>
    have h := eq_of_beq h
    have h0 : accCode xs = 0 := by
      by_cases hz : accCode xs = 0
      · exact hz
      · rw [if_neg hz] at h; exact absurd h hz
    rw [if_pos h0] at h
    have hn : (idB c && shB d) = true := by
      cases hn : (idB c && shB d) with
      | true => rfl
      | false => unfold newR at h; rw [hn] at h; exact absurd (show (3 : Int) = 0 from h) (by decide)
    have hz := accCode_zero h0
    have hc : ∀ x ∈ xs, x.2.2.2.2.length ≤ 1048576 := fun x hx => by have := (slotCode_zero (hz.2.1 x hx)).2.1; omega
    simp only [Bool.not_true, cond_false, t_spec_l9Slot xs c d (by have := hz.1; omega) hc hn, Option.bind_some, t_spec_AcceptSlot, t_spec_l9Told xs _ hz.1 hc]

theorem t_impl_within (a b c : Int) : m_impl_within (a, b, c) = some (inB a b c) := by
  show p_impl_within FU _ = _
  unfold p_impl_within inB
  by_cases h : b ≤ a <;> simp [h]

theorem t_impl_isId (a : Int) : m_impl_isId a = some (idB a) := by
  show p_impl_isId FU _ = _
  unfold p_impl_isId idB
  rw [t_impl_within]; rfl

theorem t_impl_isShard (a : Int) : m_impl_isShard a = some (shB a) := by
  show p_impl_isShard FU _ = _
  unfold p_impl_isShard shB
  rw [t_impl_within]; rfl

theorem t_impl_isBallot (a : Int) : m_impl_isBallot a = some (bal a) := by
  show p_impl_isBallot FU _ = _
  unfold p_impl_isBallot bal
  rw [t_impl_within]; rfl

theorem t_impl_isValue (a : Int) : m_impl_isValue a = some (vlu a) := by
  show p_impl_isValue FU _ = _
  unfold p_impl_isValue vlu
  cases h : (a == (1 : Int)) <;> simp

theorem t_impl_isVote (a : Int × Int) : m_impl_isVote a = some (votB a) := by
  show p_impl_isVote FU _ = _
  unfold p_impl_isVote votB
  rw [t_impl_isBallot, t_impl_isValue]
  cases bal a.1 <;> rfl

theorem t_impl_castFault (xs : List (Int × Int)) (h : xs.length ≤ 60) : m_impl_castFault xs = some (castGo none xs) := by
  show p_impl_castFault FU _ = _
  unfold p_impl_castFault l_impl_castFault_1
  rw [← cast_all]
  refine (lp_fst xs (castF xs) (some 0) (by unfold B36; omega) (fun i hi rec hw => ?_) (fun rec => ?_)).trans (by cases fstI (castF xs) 0 xs <;> rfl)
  · simp only [lt_lenI hi, cond_true, geti_lt xs i hi, Option.bind_some, t_impl_isVote, castF, hw]
    cases votB xs[i] with
    | false => rfl
    | true =>
      simp only [Bool.not_true, cond_false]
      by_cases h0 : 0 < i
      · have hd : decide ((i : Int) > 0) = true := by simp; omega
        have hp := prv (i := i) (by unfold B36; omega) h0
        have hi1 : i - 1 < xs.length := by omega
        simp only [hd, cond_true, hp, geti_lt xs _ hi1, Option.bind_some, h0, decide_true, Bool.true_and, List.getElem?_eq_getElem hi1, Option.getD_some, badP]
        cases decide (xs[i].1 < xs[i - 1].1) <;> cases (xs[i].1 == xs[i - 1].1) <;> cases (xs[i].2 == xs[i - 1].2) <;> rfl
      · have hd : decide ((i : Int) > 0) = false := by simp; omega
        simp only [hd, cond_false, Option.bind_some, h0, decide_false, Bool.false_and, cond_false]
  · simp only [ge_lenI, cond_false]

theorem t_impl_noVote : m_impl_noVote () = some (-1, 0) := rfl

theorem t_impl_lastCast (xs : List (Int × Int)) (h : xs.length ≤ 60) : m_impl_lastCast xs = some (lastV xs) := by
  show p_impl_lastCast FU _ = _
  unfold p_impl_lastCast lastV
  by_cases h0 : xs.length = 0
  · have : xs = [] := List.eq_nil_of_length_eq_zero h0
    subst this
    rfl
  · have h1 : (lenI xs == 0) = false := by rw [lenI_eq, beq_eq_false_iff_ne]; omega
    have h2 : IntKind.wrap .i64 (lenI xs - 1) = ((xs.length - 1 : Nat) : Int) := by rw [lenI_eq, wrap64 (by omega) (by omega)]; omega
    have hlt : xs.length - 1 < xs.length := by omega
    simp only [h1, cond_false, h2, geti_lt xs _ hlt, Option.bind_some]
    rw [List.getLast?_eq_getElem?, List.getElem?_eq_getElem hlt]
    rfl

theorem t_impl_SlotFault (x : SlotT) : m_impl_SlotFault x = some (slotCode x) := by
  obtain ⟨a, b, c, d, xs⟩ := x
  show p_impl_SlotFault FU _ = _
  unfold p_impl_SlotFault slotCode
  simp only [t_impl_isId, t_impl_isShard, t_impl_within, Option.bind_some]
  have e0 : (cond (!idB a) (some true) (cond (!shB b) (some true) (some (!inB c (-1) 1000)))) = some (!(idB a && (shB b && inB c (-1) 1000))) := by
    cases idB a <;> cases shB b <;> rfl
  rw [e0]
  simp only [Option.bind_some]
  cases (idB a && (shB b && inB c (-1) 1000)) with
  | false => rfl
  | true =>
    simp only [Bool.not_true, cond_false]
    by_cases hl : xs.length > 60
    · have : decide (lenI xs > 60) = true := by simp [lenI_eq]; omega
      simp [this, hl]
    · have : decide (lenI xs > 60) = false := by simp [lenI_eq]; omega
      simp only [this, cond_false, if_neg hl, t_impl_castFault xs (by omega), t_impl_lastCast xs (by omega), Option.bind_some]
      by_cases hc : castGo none xs = 0
      · obtain ⟨d1, d2⟩ := d
        have e2 : (!((d1 == (lastV xs).1) && ((d2 == (lastV xs).2) && true))) = !((d1, d2) == lastV xs) := by
          rw [Bool.and_true]; rfl
        simp only [hc, e2]
        cases ((d1, d2) == lastV xs) with
        | false => simp
        | true => by_cases hh : d1 > c <;> simp [hh]
      · have hb : (castGo none xs == 0) = false := by rw [beq_eq_false_iff_ne]; exact hc
        simp [hc, hb]

theorem t_cmp_Compare_int64 (a b : Int) : m_cmp_Compare_int64 (a, b) = some (if a < b then -1 else if a > b then 1 else 0) := by
  show p_cmp_Compare_int64 FU _ = _
  unfold p_cmp_Compare_int64
  have e : ∀ a : Int, m_cmp_isNaN_int64 a = some false := fun a => by
    show p_cmp_isNaN_int64 FU a = _
    unfold p_cmp_isNaN_int64
    simp
  simp only [e, Option.bind_some, cond_false]
  by_cases h1 : a < b
  · simp [h1]
  · by_cases h2 : a > b <;> simp [h1, h2]

theorem t_cmp_Or_int (a b : Int) : m_cmp_Or_int [a, b] = some (if a = 0 then b else a) := by
  show p_cmp_Or_int FU _ = _
  unfold p_cmp_Or_int l_cmp_Or_int_1
  obtain ⟨m, hm⟩ : ∃ m, FU = m + 1 + 1 + 1 := ⟨18446744073709551613, rfl⟩
  rw [hm]
  have w1 : IntKind.wrap .i64 1 = 1 := rfl
  have w2 : IntKind.wrap .i64 2 = 2 := rfl
  by_cases h1 : a = 0
  · by_cases h2 : b = 0
    · simp [lp, geti, lenI, h1, h2, w1, w2]
    · have hb : (b == 0) = false := by simp [h2]
      simp [lp, geti, lenI, h1, hb, w1, w2]
  · have hb : (a == 0) = false := by simp [h1]
    simp [lp, geti, lenI, h1, hb]

theorem t_impl_compareSlots (a b : SlotT) : m_impl_compareSlots (a, b) = some (cmpS a b) := by
  show p_impl_compareSlots FU _ = _
  unfold p_impl_compareSlots cmpS
  simp only [t_cmp_Compare_int64, t_cmp_Or_int, Option.bind_some]

theorem t_impl_AcceptorFault (xs : List SlotT) : m_impl_AcceptorFault xs = some (accCode xs) := by
  show p_impl_AcceptorFault FU xs = _
  unfold p_impl_AcceptorFault accCode
  by_cases hl : xs.length > 60
  · have : decide (lenI xs > 60) = true := by simp [lenI_eq]; omega
    rw [this, if_pos hl]; rfl
  · have : decide (lenI xs > 60) = false := by simp [lenI_eq]; omega
    rw [this, if_neg hl, cond_false]
    unfold l_impl_AcceptorFault_1
    refine (lp_fst xs (accStep xs) (some 0) (by unfold B36; omega) (fun i hi rec hw => ?_) (fun rec => ?_)).trans (by cases fstI (accStep xs) 0 xs <;> rfl)
    · simp only [lt_lenI hi, cond_true, geti_lt xs i hi, Option.bind_some, t_impl_SlotFault, accStep, hw]
      cases (slotCode xs[i] == 0) with
      | false => rfl
      | true =>
        simp only [Bool.not_true, cond_false]
        by_cases h0 : 0 < i
        · have hd : decide ((i : Int) > 0) = true := by simp; omega
          have hi1 : i - 1 < xs.length := by omega
          simp only [hd, cond_true, prv (i := i) (by unfold B36; omega) h0, geti_lt xs _ hi1, Option.bind_some, t_impl_compareSlots, cmpS_ahead, h0, decide_true, Bool.true_and, List.getElem?_eq_getElem hi1, Option.getD_some]
          cases aheadB xs[i - 1] xs[i] <;> rfl
        · have hd : decide ((i : Int) > 0) = false := by simp; omega
          simp only [hd, cond_false, Option.bind_some, h0, decide_false, Bool.false_and]
    · simp only [ge_lenI, cond_false]

theorem t_impl_newSlot (a b : Int) : m_impl_newSlot (a, b) = some (a, (b, (-1, ((-1, 0), [])))) := by
  show p_impl_newSlot FU _ = _
  unfold p_impl_newSlot
  simp only [t_impl_noVote, Option.bind_some]

theorem t_impl_NewSlot (a b : Int) : m_impl_NewSlot (a, b) = some (newR a b) := by
  show p_impl_NewSlot FU _ = _
  unfold p_impl_NewSlot newR
  simp only [t_impl_isId, t_impl_isShard, t_impl_newSlot, Option.bind_some]
  cases idB a <;> cases shB b <;> rfl

theorem t_impl_firstOf (a b : Int) : m_impl_firstOf [a, b] = some (if a = 0 then b else a) := by
  show p_impl_firstOf FU _ = _
  unfold p_impl_firstOf l_impl_firstOf_1
  obtain ⟨m, hm⟩ : ∃ m, FU = m + 1 + 1 + 1 := ⟨18446744073709551613, rfl⟩
  rw [hm]
  have w1 : IntKind.wrap .i64 1 = 1 := rfl
  have w2 : IntKind.wrap .i64 2 = 2 := rfl
  by_cases h1 : a = 0
  · by_cases h2 : b = 0
    · simp [lp, geti, lenI, h1, h2, w1, w2]
    · have hb : (b == 0) = false := by simp [h2]
      simp [lp, geti, lenI, h1, hb, w1, w2]
  · have hb : (a == 0) = false := by simp [h1]
    simp [lp, geti, lenI, h1, hb]
theorem t_impl_firstOf3 (a b c : Int) : m_impl_firstOf [a, b, c] = some (if a = 0 then (if b = 0 then c else b) else a) := by
  show p_impl_firstOf FU _ = _
  unfold p_impl_firstOf l_impl_firstOf_1
  obtain ⟨m, hm⟩ : ∃ m, FU = m + 1 + 1 + 1 + 1 := ⟨18446744073709551612, rfl⟩
  rw [hm]
  have w1 : IntKind.wrap .i64 1 = 1 := rfl
  have w2 : IntKind.wrap .i64 2 = 2 := rfl
  have w3 : IntKind.wrap .i64 3 = 3 := rfl
  by_cases h1 : a = 0
  · by_cases h2 : b = 0
    · by_cases h3 : c = 0
      · simp [lp, geti, lenI, h1, h2, h3, w1, w2, w3]
      · have hb : (c == 0) = false := by simp [h3]
        simp [lp, geti, lenI, h1, h2, hb, w1, w2, w3]
    · have hb : (b == 0) = false := by simp [h2]
      simp [lp, geti, lenI, h1, h2, hb, w1, w2]
  · have hb : (a == 0) = false := by simp [h1]
    simp [lp, geti, lenI, h1, hb]

/-- The place of a slot, and whether it is there. -/
theorem t_impl_Acceptor_slotAt (xs : List SlotT) (c d : Int) (hl : xs.length ≤ 1048576) (h : ∀ i (hi : i + 1 < xs.length), aheadB xs[i] xs[i + 1] = true) :
    ∃ j : Nat, j ≤ xs.length ∧ m_impl_Acceptor_slotAt (xs, c, d) = some ((j : Int), (xs.find? (isSlot c d)).isSome) ∧ ((xs.find? (isSlot c d)).isSome = true → xs[j]? = xs.find? (isSlot c d)) ∧ (∀ i (hi : i < xs.length), i < j → cmpS xs[i] (keyS c d) < 0) ∧ (∀ i (hi : i < xs.length), j ≤ i → ¬ cmpS xs[i] (keyS c d) < 0) := by
  have hlt := acc_lt h
  let p : Nat → Bool := fun i => match xs[i]? with | some x => decide (cmpS x (keyS c d) < 0) | none => false
  have hp : ∀ i (hi : i < xs.length), p i = decide (cmpS xs[i] (keyS c d) < 0) := fun i hi => by simp only [p, List.getElem?_eq_getElem hi]
  have hmono : ∀ i j, i ≤ j → j < xs.length → p j = true → p i = true := by
    intro i j hij hj hpj
    rcases Nat.lt_or_ge i j with h' | h'
    · rw [hp i (by omega)]
      rw [hp j hj] at hpj
      have h1 := of_decide_eq_true hpj
      have h2 := hlt i j h' hj
      exact decide_eq_true ((ahead_iff _ _).1 (ahead_trans h2 ((ahead_iff _ _).2 h1)))
    · have : i = j := by omega
      subst this; exact hpj
  show ∃ j : Nat, j ≤ xs.length ∧ p_impl_Acceptor_slotAt FU _ = _ ∧ _
  unfold p_impl_Acceptor_slotAt l_impl_Acceptor_slotAt_1
  simp only
  obtain ⟨j, hj, e, hj1, hj2⟩ := bs_loop xs.length (by unfold B36; omega) p hmono (step := fun rec13 (z12 : (Int × Int)) =>
     (cond (decide (z12.1 < z12.2))
      (chk (decide (0 ≤ (1 : Int)))
       ((geti xs (IntKind.wrap .i64 (Int.fdiv (IntKind.wrap .u64 (IntKind.wrap .i64 (z12.1 + z12.2))) (2 ^ (min (1 : Int).toNat 64))))).bind fun y14 =>
       ((m_impl_compareSlots (y14, (c, (d, ((0 : Int), (((0 : Int), (0 : Int)), [])))))).bind fun r15 =>
       (cond (decide (r15 < (0 : Int)))
        (rec13 (IntKind.wrap .i64 ((IntKind.wrap .i64 (Int.fdiv (IntKind.wrap .u64 (IntKind.wrap .i64 (z12.1 + z12.2))) (2 ^ (min (1 : Int).toNat 64)))) + (1 : Int)), z12.2))
        (rec13 (z12.1, IntKind.wrap .i64 (Int.fdiv (IntKind.wrap .u64 (IntKind.wrap .i64 (z12.1 + z12.2))) (2 ^ (min (1 : Int).toNat 64)))))))))
      (some z12.1)))
    (fun a b rec hab hb => by
      have hm : (a + b) / 2 < xs.length := by omega
      have hd : decide ((a : Int) < (b : Int)) = true := decide_eq_true (by omega)
      simp only [hd, cond_true, mid_eq (show a ≤ B36 by unfold B36; omega) (show b ≤ B36 by unfold B36; omega), geti_lt xs _ hm, Option.bind_some, t_impl_compareSlots, nxt (show (a + b) / 2 ≤ B36 by unfold B36; omega), hp _ hm]
      rfl)
    (fun a rec => by
      have hd : decide ((a : Int) < (a : Int)) = false := decide_eq_false (by omega)
      simp only [hd, cond_false])
  have e' : lenI xs = ((xs.length : Nat) : Int) := rfl
  rw [e', e]
  simp only [Option.bind_some]
  have hlo : ∀ i (hi : i < xs.length), i < j → cmpS xs[i] (keyS c d) < 0 := fun i hi hij => of_decide_eq_true ((hp i hi).symm.trans (hj1 i hij))
  have hhi : ∀ i (hi : i < xs.length), j ≤ i → ¬ cmpS xs[i] (keyS c d) < 0 := fun i hi hij => of_decide_eq_false ((hp i hi).symm.trans (hj2 i hij hi))
  have hz : ∀ s : SlotT, isSlot c d s = (cmpS s (keyS c d) == 0) := fun s => by
    have h0 := cmpS_zero s (keyS c d)
    unfold isSlot
    rw [Bool.eq_iff_iff, Bool.and_eq_true, beq_iff_eq, beq_iff_eq, beq_iff_eq]
    exact h0.symm
  have hneg : ∀ (i : Nat) (hi : i < xs.length), i < j → isSlot c d xs[i] = false := fun i hi hij => by
    rw [hz, beq_eq_false_iff_ne]
    have := hlo i hi hij
    omega
  refine ⟨j, hj, ?_⟩
  rcases Nat.lt_or_ge j xs.length with hjl | hjl
  · have hd : decide ((j : Int) < (xs.length : Int)) = true := decide_eq_true (by omega)
    rw [hd]
    simp only [cond_true, geti_lt xs j hjl, Option.bind_some, t_impl_compareSlots]
    have hpos : ∀ i (hi : i < xs.length), j < i → isSlot c d xs[i] = false := fun i hi hij => by
      rw [hz, beq_eq_false_iff_ne]
      intro h0
      have h1 := hhi j hjl (Nat.le_refl _)
      have h2 := (ahead_iff _ _).1 (hlt j i hij hi)
      have h3 := (cmpS_zero _ _).1 h0
      have h4 := (cmpS_lt xs[j] xs[i]).1 h2
      have h5 : ¬ (xs[j].1 < (keyS c d).1 ∨ xs[j].1 = (keyS c d).1 ∧ xs[j].2.1 < (keyS c d).2.1) := fun q => h1 ((cmpS_lt xs[j] (keyS c d)).2 q)
      rw [← h3.1, ← h3.2] at h5
      exact h5 h4
    cases hb : isSlot c d xs[j] with
    | true =>
      have hf : xs.find? (isSlot c d) = some xs[j] := by
        rw [List.find?_eq_some_iff_getElem]
        exact ⟨hb, j, hjl, rfl, fun k hk => by rw [hneg k (by omega) hk]; rfl⟩
      rw [hf]
      rw [hz] at hb
      exact ⟨by show some ((j : Int), (cmpS xs[j] (keyS c d) == 0)) = _; rw [hb]; rfl, fun _ => List.getElem?_eq_getElem hjl, hlo, hhi⟩
    | false =>
      have hf : xs.find? (isSlot c d) = none := by
        rw [List.find?_eq_none]
        intro s hs
        obtain ⟨i, hi, rfl⟩ := List.getElem_of_mem hs
        rcases Nat.lt_trichotomy i j with h' | h' | h'
        · rw [hneg i hi h']; decide
        · subst h'; rw [hb]; decide
        · rw [hpos i hi h']; decide
      rw [hf]
      rw [hz] at hb
      exact ⟨by show some ((j : Int), (cmpS xs[j] (keyS c d) == 0)) = _; rw [hb]; rfl, (fun h => by cases h), hlo, hhi⟩
  · have hd : decide ((j : Int) < (xs.length : Int)) = false := decide_eq_false (by omega)
    rw [hd]
    have hf : xs.find? (isSlot c d) = none := by
      rw [List.find?_eq_none]
      intro s hs
      obtain ⟨i, hi, rfl⟩ := List.getElem_of_mem hs
      rw [hneg i hi (by omega)]; decide
    rw [hf]
    exact ⟨rfl, (fun h => by cases h), hlo, hhi⟩

theorem t_slices_Clone_impl_Vote_impl_Vote (xs : List (Int × Int)) (h : xs.length ≤ 1048576) : m_slices_Clone_impl_Vote_impl_Vote xs = some xs := by
  show p_slices_Clone_impl_Vote_impl_Vote FU _ = _
  unfold p_slices_Clone_impl_Vote_impl_Vote
  have hb : Nat.ble ((([] : List (Int × Int)).length + xs.length) * 16) maxBytes = true := ble_mem (by simp only [List.length_nil, maxBytes]; omega)
  rw [chk_true hb]
  exact clone_same xs _ rfl

theorem t_impl_copySlot (x : SlotT) (h : x.2.2.2.2.length ≤ 1048576) : m_impl_copySlot x = some x := by
  show p_impl_copySlot FU _ = _
  unfold p_impl_copySlot
  rw [t_slices_Clone_impl_Vote_impl_Vote _ h]
  rfl

theorem t_impl_Acceptor_slot (xs : List SlotT) (c d : Int) (hl : xs.length ≤ 1048576) (hc : ∀ x ∈ xs, x.2.2.2.2.length ≤ 1048576) (h : ∀ i (hi : i + 1 < xs.length), aheadB xs[i] xs[i + 1] = true) : m_impl_Acceptor_slot (xs, c, d) = some (slotOf xs c d) := by
  obtain ⟨j, hj, e, h1, _⟩ := t_impl_Acceptor_slotAt xs c d hl h
  show p_impl_Acceptor_slot FU _ = _
  unfold p_impl_Acceptor_slot slotOf
  simp only [e, Option.bind_some]
  cases hf : xs.find? (isSlot c d) with
  | none =>
    simp only [Option.isSome_none, Bool.not_false, cond_true, t_impl_newSlot, Option.bind_some, Option.getD_none, newS]
  | some s =>
    rw [hf] at h1
    have hs := List.mem_of_find?_eq_some hf
    simp only [Option.isSome_some, Bool.not_true, cond_false, geti_nat, h1 rfl, Option.bind_some, t_impl_copySlot s (hc s hs), Option.getD_some]

theorem t_impl_AcceptSlot (s : SlotT) (v : Int × Int) : m_impl_AcceptSlot (s, v) = some (accR s v) := by
  show p_impl_AcceptSlot FU _ = _
  unfold p_impl_AcceptSlot accR
  simp only [t_impl_SlotFault, t_impl_isVote, Option.bind_some]
  cases h : (slotCode s == 0) with
  | false => rfl
  | true =>
    have hl := (slotCode_zero (by simpa using h)).2.1
    have hb : Nat.ble ((s.2.2.2.2.length + [v].length) * 16) maxBytes = true := ble_mem (by simp only [List.length_cons, List.length_nil, maxBytes]; omega)
    have h6 : (lenI s.2.2.2.2 == 60) = decide (s.2.2.2.2.length ≥ 60) := by
      rw [lenI_eq]
      by_cases h7 : s.2.2.2.2.length ≥ 60
      · have : s.2.2.2.2.length = 60 := by omega
        simp [this]
      · have : ¬ (s.2.2.2.2.length : Int) = 60 := by omega
        simp [this, h7]
    simp only [t_impl_copySlot s (by omega), Option.bind_some, Bool.not_true, cond_false, chk_true hb, h6]
    cases votB v with
    | false => rfl
    | true =>
      cases decide (v.1 < s.2.2.1) with
      | true => rfl
      | false =>
        cases (v.1 == s.2.2.2.1.1) <;> cases (v.2 == s.2.2.2.1.2) <;> cases decide (s.2.2.2.2.length ≥ 60) <;> rfl

theorem t_impl_copyAcceptor (xs : List SlotT) (hl : xs.length ≤ 1048576) (hc : ∀ x ∈ xs, x.2.2.2.2.length ≤ 1048576) : m_impl_copyAcceptor xs = some xs := by
  show p_impl_copyAcceptor FU _ = _
  unfold p_impl_copyAcceptor l_impl_copyAcceptor_1
  refine (grow_loop2 64 (by omega) xs m_impl_copySlot id (fun x hx => t_impl_copySlot x (hc x hx)) hl).trans ?_
  rw [List.map_id]

theorem t_slices_Insert_impl_Slot_impl_Slot (xs : List SlotT) (j : Nat) (s : SlotT) (hj : j ≤ xs.length) (hl : xs.length ≤ 1000) : m_slices_Insert_impl_Slot_impl_Slot (xs, (j : Int), [s]) = some (xs.take j ++ [s] ++ xs.drop j, (true, true)) := by
  have h1 : (decide ((0 : Int) ≤ (j : Int)) && decide ((j : Int) ≤ (xs.length : Int)) && Nat.beq [s].length 1 && Nat.ble ((xs.length + 1) * 64) 140737488355328) = true := by
    have : Nat.ble ((xs.length + 1) * 64) 140737488355328 = true := by rw [Nat.ble_eq]; omega
    rw [this]; simp [hj]
  show (insRun 64 (xs, (j : Int), [s])).map _ = _
  unfold insRun
  simp only [h1, cond_true, Option.map_some, Int.toNat_natCast]

theorem t_impl_Acceptor_accept (xs : List SlotT) (c d : Int) (b : Int × Int) (hl : xs.length ≤ 60) (hc : ∀ x ∈ xs, x.2.2.2.2.length ≤ 1048576) (h : ∀ i (hi : i + 1 < xs.length), aheadB xs[i] xs[i + 1] = true) : m_impl_Acceptor_accept (xs, c, d, b) = some (toldR xs (accR (slotOf xs c d) b)) := by
  show p_impl_Acceptor_accept FU _ = _
  unfold p_impl_Acceptor_accept toldR
  simp only [t_impl_Acceptor_slot xs c d (by omega) hc h, t_impl_AcceptSlot, Option.bind_some]
  cases h0 : ((accR (slotOf xs c d) b).1 == 0) with
  | false => rfl
  | true =>
    have hk := accR_key (slotOf xs c d) b (eq_of_beq h0)
    have hk2 := slotOf_key xs c d
    obtain ⟨j, hj, e, h1, h2, h3⟩ := t_impl_Acceptor_slotAt xs c d (by omega) h
    obtain ⟨p1, p2⟩ := place_found (hk.1.trans hk2.1) (hk.2.trans hk2.2) hj h1 h2 h3
    simp only [Bool.not_true, cond_false, t_impl_copyAcceptor xs (by omega) hc, Option.bind_some, e]
    unfold putS
    rw [p1, p2]
    cases hf : (xs.find? (isSlot c d)).isSome with
    | true =>
      have hjl : j < xs.length := by
        by_cases hjl : j < xs.length
        · exact hjl
        · have h4 := h1 hf
          rw [List.getElem?_eq_none (by omega)] at h4
          rw [← h4] at hf; cases hf
      simp only [cond_true, geti_lt xs j hjl, Option.bind_some, Int.toNat_natCast, List.getElem?_eq_getElem hjl, Option.elim]
    | false =>
      simp only [cond_false]
      by_cases h6 : xs.length ≥ 60
      · have h7 : (lenI xs == (60 : Int)) = true := by rw [lenI_eq, beq_iff_eq]; omega
        simp only [h7, decide_eq_true h6, cond_true, Option.elim, Option.bind_some]
        rfl
      · have h7 : (lenI xs == (60 : Int)) = false := by rw [lenI_eq, beq_eq_false_iff_ne]; omega
        simp only [h7, decide_eq_false h6, cond_false, t_slices_Insert_impl_Slot_impl_Slot xs j _ hj (by omega), Option.bind_some, Option.elim]

theorem t_impl_AcceptAt (xs : List SlotT) (c d : Int) (b : Int × Int) : m_impl_AcceptAt (xs, c, d, b) = some (rAcceptAt xs c d b) := by
  show p_impl_AcceptAt FU _ = _
  unfold p_impl_AcceptAt rAcceptAt
  simp only [t_impl_AcceptorFault, t_impl_NewSlot, t_impl_firstOf, Option.bind_some]
  cases h : ((if accCode xs = 0 then (newR c d).1 else accCode xs) == 0) with
  | false => rfl
  | true =>
    have h := eq_of_beq h
    have h0 : accCode xs = 0 := by
      by_cases hz : accCode xs = 0
      · exact hz
      · rw [if_neg hz] at h; exact absurd h hz
    have hz := accCode_zero h0
    have hc : ∀ x ∈ xs, x.2.2.2.2.length ≤ 1048576 := fun x hx => by have := (slotCode_zero (hz.2.1 x hx)).2.1; omega
    simp only [Bool.not_true, cond_false, t_impl_Acceptor_accept xs c d b hz.1 hc hz.2.2, Option.bind_some]

theorem t_laws_eqVote (a : Int × Int) : m_laws_eqVote (a, a) = some true := by
  show p_laws_eqVote FU _ = _
  unfold p_laws_eqVote
  simp

theorem t_laws_eqVoteS (xs : List (Int × Int)) (hl : xs.length ≤ 1048576) : m_laws_eqVoteS (xs, xs) = some true := by
  show p_laws_eqVoteS FU _ = _
  unfold p_laws_eqVoteS
  simp only [beq_self_eq_true, Bool.not_true, cond_false]
  exact eq_loop xs m_laws_eqVote (fun x hx => t_laws_eqVote x) hl

theorem t_laws_eqSlot (x : SlotT) (h : x.2.2.2.2.length ≤ 1048576) : m_laws_eqSlot (x, x) = some true := by
  show p_laws_eqSlot FU _ = _
  unfold p_laws_eqSlot
  simp only [beq_self_eq_true, Bool.not_true, cond_false, t_laws_eqVote, t_laws_eqVoteS _ h, Option.bind_some]

theorem t_laws_eqSlotS (xs : List SlotT) (hl : xs.length ≤ 1048576) (h : ∀ x ∈ xs, x.2.2.2.2.length ≤ 1048576) : m_laws_eqSlotS (xs, xs) = some true := by
  show p_laws_eqSlotS FU _ = _
  unfold p_laws_eqSlotS
  simp only [beq_self_eq_true, Bool.not_true, cond_false]
  exact eq_loop xs m_laws_eqSlot (fun x hx => t_laws_eqSlot x (h x hx)) hl

theorem t_laws_heldVoteS (xs : List (Int × Int)) (k : Int) (hl : xs.length ≤ B36) (h0 : 0 ≤ k) (hk : k + 2 * xs.length ≤ B40) : m_laws_heldVoteS (markAll 2 mkVote k xs, k) = some (k + 2 * xs.length) := by
  show p_laws_heldVoteS FU _ = _
  unfold p_laws_heldVoteS l_laws_heldVoteS_1
  exact held_VoteS xs k hl h0 hk

theorem w_AcceptAt (xs : List SlotT) (c d : Int) (b : Int × Int) : W_AcceptorResult (rAcceptAt xs c d b) ≤ 10000 := by
  have key : ∀ ys : List SlotT, ys.length ≤ 61 → (∀ y ∈ ys, y.2.2.2.2.length ≤ 61) → W_Acceptor ys ≤ 10000 := by
    intro ys h1 h2
    have h3 : wsum W_Slot ys ≤ 61 * ys.length := wsum_bnd W_Slot 61 ys (fun y hy => by have := h2 y hy; unfold W_Slot W_VoteS; exact this)
    unfold W_Acceptor W_SlotS
    omega
  have zero : W_Acceptor ([] : List SlotT) ≤ 10000 := key [] (by simp) (fun y hy => by cases hy)
  unfold W_AcceptorResult rAcceptAt
  cases h : ((if accCode xs = 0 then (newR c d).1 else accCode xs) == 0) with
  | false => exact zero
  | true =>
    have h := eq_of_beq h
    have h0 : accCode xs = 0 := by
      by_cases hz : accCode xs = 0
      · exact hz
      · rw [if_neg hz] at h; exact absurd h hz
    have hz := accCode_zero h0
    simp only [Bool.not_true, cond_false]
    unfold toldR
    cases hr : ((accR (slotOf xs c d) b).1 == 0) with
    | false => exact zero
    | true =>
      simp only [Bool.not_true, cond_false]
      cases hp : putS xs (accR (slotOf xs c d) b).2.2 with
      | none => exact zero
      | some ys =>
        have hm := putS_mem hp
        refine key ys (by have := hz.1; have := hm.2; omega) (fun y hy => ?_)
        rcases hm.1 y hy with hy | rfl
        · have := (slotCode_zero (hz.2.1 y hy)).2.1; omega
        · exact accR_l61 _ _ (eq_of_beq hr)
theorem law_laws_FnExactAcceptAt (x : List SlotT × (Int × (Int × (Int × Int)))) (h : WFs S_laws_FnExactAcceptAt.ps x) : m_laws_FnExactAcceptAt x = some true := by
  obtain ⟨xs, c, d, b⟩ := x
  have hwf : WFk (.one (.sl none (.pair (.int .i64) (.pair (.int .i64) (.pair (.int .i64) (.pair (.pair (.int .i64) (.int .i64)) (.sl none (.pair (.int .i64) (.int .i64))))))))) xs := h.1
  have hB : B40 = 1099511627776 := rfl
  show p_laws_FnExactAcceptAt FU _ = _
  unfold p_laws_FnExactAcceptAt
  rcases z_laws_szAcceptor xs hwf 1048576 (by omega) (by omega) with e | ⟨e, h2⟩
  · simp only [e, Option.bind_some]; rfl
  · have h3 : W_Acceptor xs ≤ 1048576 := by omega
    have d1 : decide (1048576 - (W_Acceptor xs : Int) < 0) = false := decide_eq_false (by omega)
    have hw := w_AcceptAt xs c d b
    have e2 : m_spec_AcceptAt (xs, c, d, b) = some (rAcceptAt xs c d b) := t_spec_AcceptAt xs c d b
    have e3 : m_impl_AcceptAt (xs, c, d, b) = some (rAcceptAt xs c d b) := t_impl_AcceptAt xs c d b
    have e4 := eq_laws_eqAcceptorResult (rAcceptAt xs c d b) (by omega)
    obtain ⟨L1, _, m1, _⟩ := mh_SlotS xs 1 h3 (by omega) (by have := vb_SlotS xs; unfold W_Acceptor at h3; omega)
    have hw2 : W_SlotS (rAcceptAt xs c d b).2.2 ≤ 10000 := hw
    obtain ⟨L2, _, m2, q2⟩ := mh_SlotS (rAcceptAt xs c d b).2.2 1 (by omega) (by omega) (by have := vb_SlotS (rAcceptAt xs c d b).2.2; omega)
    have q3 := h_laws_heldAcceptor L2 1 _ q2 (by omega)
    have q4 : m_laws_heldAcceptorResult (((rAcceptAt xs c d b).1, ((rAcceptAt xs c d b).2.1, L2)), (1 : Int)) = some (1 + (V_SlotS (rAcceptAt xs c d b).2.2 : Int)) := h_laws_heldAcceptorResult ((rAcceptAt xs c d b).1, ((rAcceptAt xs c d b).2.1, L2)) 1 _ q3 (by omega)
    have d2 : decide (1 + (V_SlotS xs : Int) < 0) = false := decide_eq_false (by omega)
    have d3 : decide (1 + (V_SlotS (rAcceptAt xs c d b).2.2 : Int) < 0) = false := decide_eq_false (by omega)
    simp only [e, d1, cond_false, Option.bind_some, o_laws_toAcceptor xs h3, e2, e3, e4, eq_laws_eqAcceptor xs h3, Bool.not_true, m1, d2, m2, q4, d3, beq_self_eq_true]
end Go.RvP
