/- The plain law: spec and program answer alike, for FnExactRunBallot. Condition: the data are such as can come in. -/
import Derived.Test.YtccghpomkikjoaaGreatRvP3
import Derived.Test.YtccghpomkikjoaaGreatRvM
import Derived.Test.YtccghpomkikjoaaGreatRvV
namespace Go.RvP
open Go.Rv
def W_VoteS (xs : (List (Int × Int))) : Nat := xs.length

theorem z_laws_szVoteS (xs : (List (Int × Int))) (h : WFk (.sl none (.pair (.int .i64) (.int .i64))) xs) : SZ m_laws_szVoteS W_VoteS xs := szf xs h.1

def W_Slot (x : (Int × (Int × (Int × ((Int × Int) × (List (Int × Int))))))) : Nat := W_VoteS x.2.2.2.2

theorem z_laws_szSlot (x : (Int × (Int × (Int × ((Int × Int) × (List (Int × Int))))))) (h : WFk (.pair (.int .i64) (.pair (.int .i64) (.pair (.int .i64) (.pair (.pair (.int .i64) (.int .i64)) (.sl none (.pair (.int .i64) (.int .i64))))))) x) : SZ m_laws_szSlot W_Slot x := by
  intro left h0 h1
  have hm : maxLen = 9223372036854775807 := rfl
  show p_laws_szSlot FU _ = _ ∨ (p_laws_szSlot FU _ = _ ∧ _)
  unfold p_laws_szSlot W_Slot
  have b1 : 0 ≤ left := by omega
  rcases z_laws_szVoteS x.2.2.2.2 h.2.2.2.2 (left) (by omega) (by omega) with e1 | ⟨e1, f1⟩
  · left; simp only [e1, Option.bind_some, cond_false]; rfl
  · have d1 : decide (left - (W_VoteS x.2.2.2.2 : Int) < 0) = false := decide_eq_false (by omega)
    exact .inr ⟨by simp only [e1, d1, Option.bind_some, cond_false], f1⟩

def W_SlotS (xs : (List (Int × (Int × (Int × ((Int × Int) × (List (Int × Int)))))))) : Nat := xs.length + wsum W_Slot xs

theorem z_laws_szSlotS (xs : (List (Int × (Int × (Int × ((Int × Int) × (List (Int × Int)))))))) (h : WFk (.sl none (.pair (.int .i64) (.pair (.int .i64) (.pair (.int .i64) (.pair (.pair (.int .i64) (.int .i64)) (.sl none (.pair (.int .i64) (.int .i64)))))))) xs) : SZ m_laws_szSlotS W_SlotS xs := szl xs m_laws_szSlot W_Slot h.1 (fun x hx => z_laws_szSlot x (h.2 x hx))

def W_Acceptor (x : (List (Int × (Int × (Int × ((Int × Int) × (List (Int × Int)))))))) : Nat := W_SlotS x

theorem z_laws_szAcceptor (x : (List (Int × (Int × (Int × ((Int × Int) × (List (Int × Int)))))))) (h : WFk (.one (.sl none (.pair (.int .i64) (.pair (.int .i64) (.pair (.int .i64) (.pair (.pair (.int .i64) (.int .i64)) (.sl none (.pair (.int .i64) (.int .i64))))))))) x) : SZ m_laws_szAcceptor W_Acceptor x := by
  intro left h0 h1
  have hm : maxLen = 9223372036854775807 := rfl
  show p_laws_szAcceptor FU _ = _ ∨ (p_laws_szAcceptor FU _ = _ ∧ _)
  unfold p_laws_szAcceptor W_Acceptor
  have b1 : 0 ≤ left := by omega
  rcases z_laws_szSlotS x h (left) (by omega) (by omega) with e1 | ⟨e1, f1⟩
  · left; simp only [e1, Option.bind_some, cond_false]; rfl
  · have d1 : decide (left - (W_SlotS x : Int) < 0) = false := decide_eq_false (by omega)
    exact .inr ⟨by simp only [e1, d1, Option.bind_some, cond_false], f1⟩

def W_AcceptorS (xs : (List (List (Int × (Int × (Int × ((Int × Int) × (List (Int × Int))))))))) : Nat := xs.length + wsum W_Acceptor xs

theorem z_laws_szAcceptorS (xs : (List (List (Int × (Int × (Int × ((Int × Int) × (List (Int × Int))))))))) (h : WFk (.sl none (.one (.sl none (.pair (.int .i64) (.pair (.int .i64) (.pair (.int .i64) (.pair (.pair (.int .i64) (.int .i64)) (.sl none (.pair (.int .i64) (.int .i64)))))))))) xs) : SZ m_laws_szAcceptorS W_AcceptorS xs := szl xs m_laws_szAcceptor W_Acceptor h.1 (fun x hx => z_laws_szAcceptor x (h.2 x hx))

theorem o_laws_toVote (x : (Int × Int)) : m_laws_toVote x = some x := by
  show p_laws_toVote FU _ = _
  unfold p_laws_toVote
  rfl

theorem o_laws_toVoteS (xs : (List (Int × Int))) (h : W_VoteS xs ≤ 1048576) : m_laws_toVoteS xs = some xs := by
  unfold W_VoteS at h
  show p_laws_toVoteS FU xs = _
  unfold p_laws_toVoteS
  rw [if_pos rfl, if_pos (by simp [lenI_eq])]
  have hb : Nat.ble (16 * (lenI xs).toNat) maxBytes = true := by rw [Nat.ble_eq]; simp only [lenI_eq, Int.toNat_natCast, maxBytes]; omega
  rw [chk_true hb]
  exact copy_loop2 xs _ m_laws_toVote (fun x _ => o_laws_toVote x) (by omega)

theorem o_laws_toSlot (x : (Int × (Int × (Int × ((Int × Int) × (List (Int × Int))))))) (h : W_Slot x ≤ 1048576) : m_laws_toSlot x = some x := by
  unfold W_Slot at h
  show p_laws_toSlot FU _ = _
  unfold p_laws_toSlot
  simp only [o_laws_toVote x.2.2.2.1, o_laws_toVoteS x.2.2.2.2 (by omega), Option.bind_some]

theorem o_laws_toSlotS (xs : (List (Int × (Int × (Int × ((Int × Int) × (List (Int × Int)))))))) (h : W_SlotS xs ≤ 1048576) : m_laws_toSlotS xs = some xs := by
  unfold W_SlotS at h
  show p_laws_toSlotS FU xs = _
  unfold p_laws_toSlotS
  rw [if_pos rfl, if_pos (by simp [lenI_eq])]
  have hb : Nat.ble (64 * (lenI xs).toNat) maxBytes = true := by rw [Nat.ble_eq]; simp only [lenI_eq, Int.toNat_natCast, maxBytes]; omega
  rw [chk_true hb]
  exact copy_loop2 xs _ m_laws_toSlot (fun x hx => o_laws_toSlot x (by have := wsum_mem W_Slot xs x hx; omega)) (by omega)

theorem o_laws_toAcceptor (x : (List (Int × (Int × (Int × ((Int × Int) × (List (Int × Int)))))))) (h : W_Acceptor x ≤ 1048576) : m_laws_toAcceptor x = some x := by
  unfold W_Acceptor at h
  show p_laws_toAcceptor FU _ = _
  unfold p_laws_toAcceptor
  simp only [o_laws_toSlotS x (by omega), Option.bind_some]

theorem o_laws_toAcceptorS (xs : (List (List (Int × (Int × (Int × ((Int × Int) × (List (Int × Int))))))))) (h : W_AcceptorS xs ≤ 1048576) : m_laws_toAcceptorS xs = some xs := by
  unfold W_AcceptorS at h
  show p_laws_toAcceptorS FU xs = _
  unfold p_laws_toAcceptorS
  rw [if_pos rfl, if_pos (by simp [lenI_eq])]
  have hb : Nat.ble (24 * (lenI xs).toNat) maxBytes = true := by rw [Nat.ble_eq]; simp only [lenI_eq, Int.toNat_natCast, maxBytes]; omega
  rw [chk_true hb]
  exact copy_loop2 xs _ m_laws_toAcceptor (fun x hx => o_laws_toAcceptor x (by have := wsum_mem W_Acceptor xs x hx; omega)) (by omega)

def W_Int64S (xs : (List Int)) : Nat := xs.length

theorem o_laws_toInt64S (xs : (List Int)) (h : W_Int64S xs ≤ 1048576) : m_laws_toInt64S xs = some xs := by
  unfold W_Int64S at h
  show p_laws_toInt64S FU xs = _
  unfold p_laws_toInt64S
  rw [if_pos rfl, if_pos (by simp [lenI_eq])]
  have hb : Nat.ble (8 * (lenI xs).toNat) maxBytes = true := by rw [Nat.ble_eq]; simp only [lenI_eq, Int.toNat_natCast, maxBytes]; omega
  rw [chk_true hb]
  exact copy_flat xs _ (by omega)

theorem eq_laws_eqVote (x : (Int × Int)) : m_laws_eqVote (x, x) = some true := by
  show p_laws_eqVote FU _ = _
  unfold p_laws_eqVote
  simp only [beq_self_eq_true, Bool.not_true, cond_false]

theorem eq_laws_eqVoteS (xs : (List (Int × Int))) (h : W_VoteS xs ≤ 1048576) : m_laws_eqVoteS (xs, xs) = some true := by
  unfold W_VoteS at h
  show p_laws_eqVoteS FU _ = _
  unfold p_laws_eqVoteS
  simp only [beq_self_eq_true, Bool.not_true, cond_false]
  exact eq_loop xs m_laws_eqVote (fun x _ => eq_laws_eqVote x) (by omega)

theorem eq_laws_eqSlot (x : (Int × (Int × (Int × ((Int × Int) × (List (Int × Int))))))) (h : W_Slot x ≤ 1048576) : m_laws_eqSlot (x, x) = some true := by
  unfold W_Slot at h
  show p_laws_eqSlot FU _ = _
  unfold p_laws_eqSlot
  simp only [beq_self_eq_true, Bool.not_true, cond_false, eq_laws_eqVote x.2.2.2.1, eq_laws_eqVoteS x.2.2.2.2 (by omega), Option.bind_some]

theorem eq_laws_eqSlotS (xs : (List (Int × (Int × (Int × ((Int × Int) × (List (Int × Int)))))))) (h : W_SlotS xs ≤ 1048576) : m_laws_eqSlotS (xs, xs) = some true := by
  unfold W_SlotS at h
  show p_laws_eqSlotS FU _ = _
  unfold p_laws_eqSlotS
  simp only [beq_self_eq_true, Bool.not_true, cond_false]
  exact eq_loop xs m_laws_eqSlot (fun x hx => eq_laws_eqSlot x (by have := wsum_mem W_Slot xs x hx; omega)) (by omega)

theorem eq_laws_eqAcceptor (x : (List (Int × (Int × (Int × ((Int × Int) × (List (Int × Int)))))))) (h : W_Acceptor x ≤ 1048576) : m_laws_eqAcceptor (x, x) = some true := by
  unfold W_Acceptor at h
  show p_laws_eqAcceptor FU _ = _
  unfold p_laws_eqAcceptor
  simp only [beq_self_eq_true, Bool.not_true, cond_false, eq_laws_eqSlotS x (by omega), Option.bind_some]

theorem eq_laws_eqAcceptorS (xs : (List (List (Int × (Int × (Int × ((Int × Int) × (List (Int × Int))))))))) (h : W_AcceptorS xs ≤ 1048576) : m_laws_eqAcceptorS (xs, xs) = some true := by
  unfold W_AcceptorS at h
  show p_laws_eqAcceptorS FU _ = _
  unfold p_laws_eqAcceptorS
  simp only [beq_self_eq_true, Bool.not_true, cond_false]
  exact eq_loop xs m_laws_eqAcceptor (fun x hx => eq_laws_eqAcceptor x (by have := wsum_mem W_Acceptor xs x hx; omega)) (by omega)

def W_AcceptorsResult (x : (Int × (Int × (List (List (Int × (Int × (Int × ((Int × Int) × (List (Int × Int))))))))))) : Nat := W_AcceptorS x.2.2

theorem eq_laws_eqAcceptorsResult (x : (Int × (Int × (List (List (Int × (Int × (Int × ((Int × Int) × (List (Int × Int))))))))))) (h : W_AcceptorsResult x ≤ 1048576) : m_laws_eqAcceptorsResult (x, x) = some true := by
  unfold W_AcceptorsResult at h
  show p_laws_eqAcceptorsResult FU _ = _
  unfold p_laws_eqAcceptorsResult
  simp only [beq_self_eq_true, Bool.not_true, cond_false, eq_laws_eqAcceptorS x.2.2 (by omega), Option.bind_some]

theorem eq_laws_eqInt64S (xs : (List Int)) (h : W_Int64S xs ≤ 1048576) : m_laws_eqInt64S (xs, xs) = some true := by
  unfold W_Int64S at h
  show p_laws_eqInt64S FU _ = _
  unfold p_laws_eqInt64S
  simp only [beq_self_eq_true, Bool.not_true, cond_false]
  exact eq_flat xs (by omega)

def V_Int64 (_ : Int) : Nat := 1

def V_Int64S (xs : (List Int)) : Nat := wsum V_Int64 xs

theorem vb_Int64S (xs : (List Int)) : V_Int64S xs ≤ 1 * W_Int64S xs := wsum_bnd V_Int64 1 xs (fun x _ => by unfold V_Int64; omega)

theorem mk_Int64S (xs : (List Int)) (k : Int) (hW : W_Int64S xs ≤ 1048576) (h0 : 0 ≤ k) (hk : k + (V_Int64S xs : Int) ≤ B40) : ∃ L : (List Int), L.length = xs.length ∧ m_laws_markInt64S (xs, k) = some (k + (V_Int64S xs : Int), L) := by
  unfold W_Int64S at hW
  have hB : B40 = 1099511627776 := rfl
  show ∃ L : (List Int), _ ∧ p_laws_markInt64S FU (xs, k) = _
  unfold p_laws_markInt64S l_laws_markInt64S_1
  dsimp only
  refine mark_only V_Int64 xs k (by unfold B36; omega) h0 hk (fun i k x hx hi h0 hk hw => ?_) (fun k L rec => ?_)
  · have hx := True.intro
    unfold V_Int64 at hk ⊢
    have w1 : IntKind.wrap .i64 (k + 1) = k + 1 := wrap64 (by omega) (by omega)
    have ew : k + ((1 : Nat) : Int) = k + 1 := by omega
    rw [ew]
    refine ⟨k, fun L hL g1 g2 rec => ?_⟩
    · simp only [lt_lenI hL, cond_true, g1, g2, Option.bind_some, Int.toNat_natCast, geti_set hL, gets_set hL, List.set_set, w1, hw]
  · simp only [ge_lenI, cond_false]

def V_Vote (_ : (Int × Int)) : Nat := 2

def V_VoteS (xs : (List (Int × Int))) : Nat := wsum V_Vote xs

theorem vb_VoteS (xs : (List (Int × Int))) : V_VoteS xs ≤ 2 * W_VoteS xs := wsum_bnd V_Vote 2 xs (fun x _ => by unfold V_Vote; omega)

theorem mh_VoteS (xs : (List (Int × Int))) (k : Int) (hW : W_VoteS xs ≤ 1048576) (h0 : 0 ≤ k) (hk : k + (V_VoteS xs : Int) ≤ B40) : ∃ L : (List (Int × Int)), L.length = xs.length ∧ m_laws_markVoteS (xs, k) = some (k + (V_VoteS xs : Int), L) ∧ m_laws_heldVoteS (L, k) = some (k + (V_VoteS xs : Int)) := by
  unfold W_VoteS at hW
  have hB : B40 = 1099511627776 := rfl
  show ∃ L : (List (Int × Int)), _ ∧ p_laws_markVoteS FU (xs, k) = _ ∧ p_laws_heldVoteS FU (L, k) = _
  unfold p_laws_markVoteS l_laws_markVoteS_1 p_laws_heldVoteS l_laws_heldVoteS_1
  dsimp only
  refine mark_held V_Vote xs k (by unfold B36; omega) h0 hk (fun i k x hx hi h0 hk hw => ?_) (fun k L rec => ?_) (fun k L rec => ?_)
  · have hx := True.intro
    unfold V_Vote at hk ⊢
    have w1 : IntKind.wrap .i64 (k + 1) = k + 1 := wrap64 (by omega) (by omega)
    have w2 : IntKind.wrap .i64 (k + 1 + 1) = k + 1 + 1 := wrap64 (by omega) (by omega)
    have ew : k + ((2 : Nat) : Int) = k + 1 + 1 := by omega
    rw [ew]
    refine ⟨(k, k + 1), fun L hL g1 g2 rec => ?_, fun L hL g1 rec => ?_⟩
    · simp only [lt_lenI hL, cond_true, g1, g2, Option.bind_some, Int.toNat_natCast, geti_set hL, gets_set hL, List.set_set, w1, w2, hw]
    · simp only [lt_lenI hL, cond_true, g1, Option.bind_some, beq_self_eq_true, Bool.not_true, cond_false, w1, w2, hw]
  · simp only [ge_lenI, cond_false]
  · simp only [ge_lenI, cond_false]

def V_Slot (x : (Int × (Int × (Int × ((Int × Int) × (List (Int × Int))))))) : Nat := 5 + V_VoteS x.2.2.2.2

def V_SlotS (xs : (List (Int × (Int × (Int × ((Int × Int) × (List (Int × Int)))))))) : Nat := wsum V_Slot xs

theorem vb_SlotS (xs : (List (Int × (Int × (Int × ((Int × Int) × (List (Int × Int)))))))) : V_SlotS xs ≤ 5 * W_SlotS xs := wsum_le V_Slot W_Slot 5 xs (fun x _ => by have := vb_VoteS x.2.2.2.2; unfold V_Slot W_Slot; omega)

theorem mh_SlotS (xs : (List (Int × (Int × (Int × ((Int × Int) × (List (Int × Int)))))))) (k : Int) (hW : W_SlotS xs ≤ 1048576) (h0 : 0 ≤ k) (hk : k + (V_SlotS xs : Int) ≤ B40) : ∃ L : (List (Int × (Int × (Int × ((Int × Int) × (List (Int × Int))))))), L.length = xs.length ∧ m_laws_markSlotS (xs, k) = some (k + (V_SlotS xs : Int), L) ∧ m_laws_heldSlotS (L, k) = some (k + (V_SlotS xs : Int)) := by
  unfold W_SlotS at hW
  have hB : B40 = 1099511627776 := rfl
  show ∃ L : (List (Int × (Int × (Int × ((Int × Int) × (List (Int × Int))))))), _ ∧ p_laws_markSlotS FU (xs, k) = _ ∧ p_laws_heldSlotS FU (L, k) = _
  unfold p_laws_markSlotS l_laws_markSlotS_1 p_laws_heldSlotS l_laws_heldSlotS_1
  dsimp only
  refine mark_held V_Slot xs k (by unfold B36; omega) h0 hk (fun i k x hx hi h0 hk hw => ?_) (fun k L rec => ?_) (fun k L rec => ?_)
  · have hx : W_Slot x ≤ 1048576 := by have := wsum_mem W_Slot xs x hx; omega
    unfold W_Slot at hx
    unfold V_Slot at hk ⊢
    have w1 : IntKind.wrap .i64 (k + 1) = k + 1 := wrap64 (by omega) (by omega)
    have w2 : IntKind.wrap .i64 (k + 1 + 1) = k + 1 + 1 := wrap64 (by omega) (by omega)
    have w3 : IntKind.wrap .i64 (k + 1 + 1 + 1) = k + 1 + 1 + 1 := wrap64 (by omega) (by omega)
    have w4 : IntKind.wrap .i64 (k + 1 + 1 + 1 + 1) = k + 1 + 1 + 1 + 1 := wrap64 (by omega) (by omega)
    have w5 : IntKind.wrap .i64 (k + 1 + 1 + 1 + 1 + 1) = k + 1 + 1 + 1 + 1 + 1 := wrap64 (by omega) (by omega)
    obtain ⟨L1, _, m1, q1⟩ := mh_VoteS x.2.2.2.2 (k + 1 + 1 + 1 + 1 + 1) (by omega) (by omega) (by omega)
    have d1 : decide (k + 1 + 1 + 1 + 1 + 1 + (V_VoteS x.2.2.2.2 : Int) < 0) = false := decide_eq_false (by omega)
    have ew : k + ((5 + V_VoteS x.2.2.2.2 : Nat) : Int) = k + 1 + 1 + 1 + 1 + 1 + (V_VoteS x.2.2.2.2 : Int) := by omega
    rw [ew]
    refine ⟨(k, (k + 1, (k + 1 + 1, ((k + 1 + 1 + 1, k + 1 + 1 + 1 + 1), L1)))), fun L hL g1 g2 rec => ?_, fun L hL g1 rec => ?_⟩
    · simp only [lt_lenI hL, cond_true, g1, g2, Option.bind_some, Int.toNat_natCast, geti_set hL, gets_set hL, List.set_set, w1, w2, w3, w4, w5, m1, hw]
    · simp only [lt_lenI hL, cond_true, g1, Option.bind_some, beq_self_eq_true, Bool.not_true, cond_false, w1, w2, w3, w4, w5, q1, d1, hw]
  · simp only [ge_lenI, cond_false]
  · simp only [ge_lenI, cond_false]

def V_Acceptor (x : (List (Int × (Int × (Int × ((Int × Int) × (List (Int × Int)))))))) : Nat := 0 + V_SlotS x

def V_AcceptorS (xs : (List (List (Int × (Int × (Int × ((Int × Int) × (List (Int × Int))))))))) : Nat := wsum V_Acceptor xs

theorem vb_AcceptorS (xs : (List (List (Int × (Int × (Int × ((Int × Int) × (List (Int × Int))))))))) : V_AcceptorS xs ≤ 5 * W_AcceptorS xs := wsum_le V_Acceptor W_Acceptor 5 xs (fun x _ => by have := vb_SlotS x; unfold V_Acceptor W_Acceptor; omega)

theorem mh_AcceptorS (xs : (List (List (Int × (Int × (Int × ((Int × Int) × (List (Int × Int))))))))) (k : Int) (hW : W_AcceptorS xs ≤ 1048576) (h0 : 0 ≤ k) (hk : k + (V_AcceptorS xs : Int) ≤ B40) : ∃ L : (List (List (Int × (Int × (Int × ((Int × Int) × (List (Int × Int)))))))), L.length = xs.length ∧ m_laws_markAcceptorS (xs, k) = some (k + (V_AcceptorS xs : Int), L) ∧ m_laws_heldAcceptorS (L, k) = some (k + (V_AcceptorS xs : Int)) := by
  unfold W_AcceptorS at hW
  have hB : B40 = 1099511627776 := rfl
  show ∃ L : (List (List (Int × (Int × (Int × ((Int × Int) × (List (Int × Int)))))))), _ ∧ p_laws_markAcceptorS FU (xs, k) = _ ∧ p_laws_heldAcceptorS FU (L, k) = _
  unfold p_laws_markAcceptorS l_laws_markAcceptorS_1 p_laws_heldAcceptorS l_laws_heldAcceptorS_1
  dsimp only
  refine mark_held V_Acceptor xs k (by unfold B36; omega) h0 hk (fun i k x hx hi h0 hk hw => ?_) (fun k L rec => ?_) (fun k L rec => ?_)
  · have hx : W_Acceptor x ≤ 1048576 := by have := wsum_mem W_Acceptor xs x hx; omega
    unfold W_Acceptor at hx
    unfold V_Acceptor at hk ⊢
    obtain ⟨L1, _, m1, q1⟩ := mh_SlotS x (k) (by omega) (by omega) (by omega)
    have d1 : decide (k + (V_SlotS x : Int) < 0) = false := decide_eq_false (by omega)
    have ew : k + ((0 + V_SlotS x : Nat) : Int) = k + (V_SlotS x : Int) := by omega
    rw [ew]
    refine ⟨L1, fun L hL g1 g2 rec => ?_, fun L hL g1 rec => ?_⟩
    · simp only [lt_lenI hL, cond_true, g1, g2, Option.bind_some, Int.toNat_natCast, geti_set hL, gets_set hL, List.set_set, m1, hw]
    · simp only [lt_lenI hL, cond_true, g1, Option.bind_some, beq_self_eq_true, Bool.not_true, cond_false, q1, d1, hw]
  · simp only [ge_lenI, cond_false]
  · simp only [ge_lenI, cond_false]

theorem h_laws_heldAcceptorsResult (x : (Int × (Int × (List (List (Int × (Int × (Int × ((Int × Int) × (List (Int × Int))))))))))) (k k1 : Int) (e1 : m_laws_heldAcceptorS (x.2.2, k) = some k1) (n1 : 0 ≤ k1) : m_laws_heldAcceptorsResult (x, k) = some k1 := by
  show p_laws_heldAcceptorsResult FU _ = _
  unfold p_laws_heldAcceptorsResult
  simp only [e1, decide_eq_false (show ¬ k1 < 0 by omega), Option.bind_some, cond_false]

theorem t_laws_szVoteS (xs : List (Int × Int)) (h : (xs.length : Int) ≤ 9223372036854775807) : m_laws_szVoteS (xs, 1048576) = some (if 1048576 - (xs.length : Int) < 0 then -1 else 1048576 - (xs.length : Int)) := by
  show p_laws_szVoteS FU _ = _
  unfold p_laws_szVoteS
  have hw : IntKind.wrap .i64 (1048576 - (xs.length : Int)) = 1048576 - (xs.length : Int) := wrap64 (by omega) (by omega)
  simp only [lenI_eq, hw]
  by_cases hh : (1048576 : Int) - (xs.length : Int) < 0 <;> simp [hh]

theorem sz_laws_szSlot (x : SlotT) (h : x.2.2.2.2.length ≤ maxLen) : SZ m_laws_szSlot (fun x => x.2.2.2.2.length) x := by
  intro left h0 h1
  have hm : maxLen = 9223372036854775807 := rfl
  show p_laws_szSlot FU _ = _ ∨ (p_laws_szSlot FU _ = _ ∧ _)
  unfold p_laws_szSlot
  have e : m_laws_szVoteS (x.2.2.2.2, left) = some (if left - (x.2.2.2.2.length : Int) < 0 then -1 else left - (x.2.2.2.2.length : Int)) := by
    show p_laws_szVoteS FU _ = _
    unfold p_laws_szVoteS
    have hw : IntKind.wrap .i64 (left - (x.2.2.2.2.length : Int)) = left - (x.2.2.2.2.length : Int) := wrap64 (by omega) (by omega)
    simp only [lenI_eq, hw]
    by_cases hh : left - (x.2.2.2.2.length : Int) < 0 <;> simp [hh]
  rw [e]
  by_cases hh : left - (x.2.2.2.2.length : Int) < 0
  · simp [hh]
  · right
    simp [hh]
    omega

theorem t_laws_szSlot (x : SlotT) (h : (x.2.2.2.2.length : Int) ≤ 9223372036854775807) : m_laws_szSlot (x, 1048576) = some (if 1048576 - (x.2.2.2.2.length : Int) < 0 then -1 else 1048576 - (x.2.2.2.2.length : Int)) := by
  show p_laws_szSlot FU _ = _
  unfold p_laws_szSlot
  rw [t_laws_szVoteS _ h]
  by_cases hh : (1048576 : Int) - (x.2.2.2.2.length : Int) < 0 <;> simp [hh]

def wSlots (xs : List SlotT) : Nat := xs.length + (xs.map fun x => x.2.2.2.2.length).sum

theorem sz_laws_szSlotS (xs : List SlotT) (hl : xs.length ≤ maxLen) (h : ∀ x ∈ xs, x.2.2.2.2.length ≤ maxLen) : SZ m_laws_szSlotS wSlots xs := by
  intro left h0 h1
  have hm : maxLen = 9223372036854775807 := rfl
  show p_laws_szSlotS FU _ = _ ∨ (p_laws_szSlotS FU _ = _ ∧ _)
  unfold p_laws_szSlotS wSlots
  have hw : IntKind.wrap .i64 (left - (xs.length : Int)) = left - (xs.length : Int) := wrap64 (by omega) (by omega)
  simp only [lenI_eq, hw]
  by_cases hh : left - (xs.length : Int) < 0
  · left; simp [hh]
  · have := sz_loop xs m_laws_szSlot (fun x => x.2.2.2.2.length) (fun x hx => sz_laws_szSlot x (h x hx)) (by omega) (left - (xs.length : Int)) (by omega) (by omega)
    simp only [hh, decide_false, cond_false]
    rcases this with h2 | ⟨h2, h3⟩
    · exact .inl h2
    · right
      refine ⟨?_, by omega⟩
      rw [show left - ((xs.length + (xs.map fun x => x.2.2.2.2.length).sum : Nat) : Int) = left - (xs.length : Int) - (((xs.map fun x => x.2.2.2.2.length).sum : Nat) : Int) from by omega]
      exact h2

theorem t_laws_toVote (a : Int × Int) : m_laws_toVote a = some a := rfl

theorem t_laws_toVoteS (xs : List (Int × Int)) (hl : xs.length ≤ 1048576) : m_laws_toVoteS xs = some xs := by
  show p_laws_toVoteS FU xs = _
  unfold p_laws_toVoteS
  rw [if_pos rfl, if_pos (by simp [lenI_eq])]
  have hb : Nat.ble (16 * (lenI xs).toNat) maxBytes = true := by rw [Nat.ble_eq]; simp only [lenI_eq, Int.toNat_natCast, maxBytes]; omega
  simp only [hb, chk, cond_true]
  exact copy_loop2 xs _ m_laws_toVote (fun x hx => t_laws_toVote x) hl

theorem t_laws_toSlot (x : SlotT) (h : x.2.2.2.2.length ≤ 1048576) : m_laws_toSlot x = some x := by
  show p_laws_toSlot FU _ = _
  unfold p_laws_toSlot
  simp only [t_laws_toVote, Option.bind_some, t_laws_toVoteS _ h]

theorem t_laws_toSlotS (xs : List SlotT) (hl : xs.length ≤ 1048576) (h : ∀ x ∈ xs, x.2.2.2.2.length ≤ 1048576) : m_laws_toSlotS xs = some xs := by
  show p_laws_toSlotS FU xs = _
  unfold p_laws_toSlotS
  rw [if_pos rfl, if_pos (by simp [lenI_eq])]
  have hb : Nat.ble (64 * (lenI xs).toNat) maxBytes = true := by rw [Nat.ble_eq]; simp only [lenI_eq, Int.toNat_natCast, maxBytes]; omega
  simp only [hb, chk, cond_true]
  exact copy_loop2 xs _ m_laws_toSlot (fun x hx => t_laws_toSlot x (h x hx)) hl

theorem t_spec_l1In (a b c : Int) : m_spec_l1In (a, b, c) = some (inB a b c) := by
  show p_spec_l1In FU _ = _
  unfold p_spec_l1In inB
  by_cases h : b ≤ a <;> simp [h]

theorem t_spec_l1Id (a : Int) : m_spec_l1Id a = some (idB a) := by
  show p_spec_l1Id FU _ = _
  unfold p_spec_l1Id idB
  rw [t_spec_l1In]; rfl

theorem t_spec_l8Ballot (a : Int) : m_spec_l8Ballot a = some (bal a) := by
  show p_spec_l8Ballot FU _ = _
  unfold p_spec_l8Ballot bal
  rw [t_spec_l1In]; rfl

theorem t_spec_l8Value (a : Int) : m_spec_l8Value a = some (vlu a) := by
  show p_spec_l8Value FU _ = _
  unfold p_spec_l8Value vlu
  cases h : (a == (1 : Int)) <;> simp

theorem t_spec_l8None : m_spec_l8None () = some (-1, 0) := rfl

theorem t_spec_l8Last (x : SlotT) (h : x.2.2.2.2.length ≤ 60) : m_spec_l8Last x = some (lastV x.2.2.2.2) := by
  obtain ⟨a, b, c, d, xs⟩ := x
  simp only at h
  show p_spec_l8Last FU _ = _
  unfold p_spec_l8Last lastV
  simp only
  by_cases h0 : xs.length = 0
  · have : xs = [] := List.eq_nil_of_length_eq_zero h0
    subst this
    rfl
  · have h1 : (lenI xs == 0) = false := by rw [lenI_eq, beq_eq_false_iff_ne]; omega
    have h2 : IntKind.wrap .i64 (lenI xs - 1) = ((xs.length - 1 : Nat) : Int) := by rw [lenI_eq, wrap64 (by omega) (by omega)]; omega
    have hlt : xs.length - 1 < xs.length := by omega
    simp only [h1, cond_false, h2, geti_lt xs _ hlt, Option.bind_some]
    rw [List.getLast?_eq_getElem?, List.getElem?_eq_getElem hlt]
    rfl

theorem t_spec_SlotFault (x : SlotT) : m_spec_SlotFault x = some (slotCode x) := by
  obtain ⟨a, b, c, d, xs⟩ := x
  show p_spec_SlotFault FU _ = _
  unfold p_spec_SlotFault slotCode
  simp only [t_spec_l1Id, t_spec_l1In, Option.bind_some]
  have e0 : (cond (!idB a) (some true) (cond (!inB b 0 2) (some true) (some (!inB c (-1) 1000)))) = some (!(idB a && (shB b && inB c (-1) 1000))) := by
    unfold shB
    cases idB a <;> cases inB b 0 2 <;> rfl
  rw [e0]
  simp only [Option.bind_some]
  cases (idB a && (shB b && inB c (-1) 1000)) with
  | false => rfl
  | true =>
    simp only [Bool.not_true, cond_false]
    by_cases hl : xs.length > 60
    · have : decide (lenI xs > 60) = true := by simp [lenI_eq]; omega
      simp [this, hl]
    · have : decide (lenI xs > 60) = false := by simp [lenI_eq]; omega
      simp only [this, cond_false, if_neg hl]
      have e1 : l_spec_SlotFault_1 FU xs 0 = match fstI (castF xs) 0 xs with
          | some r => some (Sum.inr r)
          | none => some (Sum.inl ()) := by
        unfold l_spec_SlotFault_1
        refine (lp_fst xs (fun i v => (castF xs i v).map Sum.inr) (some (Sum.inl ())) (by unfold B36; omega) (fun i hi rec hw => ?_) (fun rec => ?_)).trans ?_
        · simp only [lt_lenI hi, cond_true, geti_lt xs i hi, Option.bind_some, t_spec_l8Ballot, t_spec_l8Value, castF, hw, votB]
          cases bal xs[i].1 with
          | false => rfl
          | true =>
            cases vlu xs[i].2 with
            | false => rfl
            | true =>
              simp only [Bool.not_true, cond_false, Bool.false_eq_true, if_false, Bool.and_self, Option.bind_some]
              by_cases h0 : 0 < i
              · have hd : decide ((i : Int) > 0) = true := by simp; omega
                have hp := prv (i := i) (by unfold B36; omega) h0
                have hi1 : i - 1 < xs.length := by omega
                simp only [hd, cond_true, hp, geti_lt xs _ hi1, Option.bind_some, h0, decide_true, Bool.true_and, List.getElem?_eq_getElem hi1, Option.getD_some, badP]
                cases decide (xs[i].1 < xs[i - 1].1) <;> cases (xs[i].1 == xs[i - 1].1) <;> cases (xs[i].2 == xs[i - 1].2) <;> rfl
              · have hd : decide ((i : Int) > 0) = false := by simp; omega
                simp only [hd, cond_false, Option.bind_some, h0, decide_false, Bool.false_and, Bool.false_eq_true, if_false, Option.map_none]
        · simp only [ge_lenI, cond_false]
        · have : ∀ (ys : List (Int × Int)) (i : Nat), fstI (R := Unit ⊕ Int) (fun i v => (castF xs i v).map Sum.inr) i ys = (fstI (castF xs) i ys).map Sum.inr := by
            intro ys
            induction ys with
            | nil => intro i; rfl
            | cons y ys ih =>
              intro i
              simp only [fstI]
              cases castF xs i y with
              | some r => rfl
              | none => exact ih (i + 1)
          rw [this]
          cases fstI (castF xs) 0 xs <;> rfl
      rw [e1]
      have hc := cast_all xs
      have nz : ∀ (ys : List (Int × Int)) (i : Nat) r, fstI (castF xs) i ys = some r → r ≠ 0 := by
        intro ys
        induction ys with
        | nil => intro i r h; cases h
        | cons y ys ih =>
          intro i r h
          simp only [fstI] at h
          split at h
          · rename_i q hq
            simp only [Option.some.injEq] at h
            subst h
            unfold castF at hq
            cases hv : votB y <;> rw [hv] at hq <;> simp only [Bool.not_true, Bool.not_false, cond_true, cond_false, Option.some.injEq] at hq
            · omega
            · cases hv2 : (decide (0 < i) && badP (xs[i - 1]?.getD (0, 0)) y) <;> rw [hv2] at hq <;> simp only [cond_true, cond_false, Option.some.injEq] at hq
              · cases hq
              · omega
          · exact ih _ _ h
      cases hf : fstI (castF xs) 0 xs with
      | some r =>
        rw [hf] at hc
        simp only at hc
        have hr : r ≠ 0 := nz _ _ _ hf
        rw [← hc]
        simp [hr]
      | none =>
        rw [hf] at hc
        simp only at hc
        rw [← hc]
        simp only [Option.bind_some, Sum.elim_inl, t_spec_l8Last (a, b, c, d, xs) (by show xs.length ≤ 60; omega)]
        obtain ⟨d1, d2⟩ := d
        have e2 : (!((d1 == (lastV xs).1) && ((d2 == (lastV xs).2) && true))) = !((d1, d2) == lastV xs) := by
          rw [Bool.and_true]; rfl
        rw [e2]
        cases ((d1, d2) == lastV xs) with
        | false => simp
        | true => by_cases hh : d1 > c <;> simp [hh]



theorem t_spec_l9Ahead (a b : SlotT) : m_spec_l9Ahead (a, b) = some (aheadB a b) := by
  show p_spec_l9Ahead FU _ = _
  unfold p_spec_l9Ahead aheadB
  by_cases h : a.1 = b.1
  · simp [h]
  · have hb : (a.1 == b.1) = false := by simp [h]
    simp [hb, h]
theorem t_spec_AcceptorFault (xs : List SlotT) : m_spec_AcceptorFault xs = some (accCode xs) := by
  show p_spec_AcceptorFault FU xs = _
  unfold p_spec_AcceptorFault accCode
  by_cases hl : xs.length > 60
  · have : decide (lenI xs > 60) = true := by simp [lenI_eq]; omega
    rw [this, if_pos hl]; rfl
  · have : decide (lenI xs > 60) = false := by simp [lenI_eq]; omega
    rw [this, if_neg hl, cond_false]
    unfold l_spec_AcceptorFault_1
    refine (lp_fst xs (accStep xs) (some 0) (by unfold B36; omega) (fun i hi rec hw => ?_) (fun rec => ?_)).trans (by cases fstI (accStep xs) 0 xs <;> rfl)
    · simp only [lt_lenI hi, cond_true, geti_lt xs i hi, Option.bind_some, t_spec_SlotFault, accStep, hw]
      cases (slotCode xs[i] == 0) with
      | false => rfl
      | true =>
        simp only [Bool.not_true, cond_false]
        by_cases h0 : 0 < i
        · have hd : decide ((i : Int) > 0) = true := by simp; omega
          have hi1 : i - 1 < xs.length := by omega
          simp only [hd, cond_true, prv (i := i) (by unfold B36; omega) h0, geti_lt xs _ hi1, Option.bind_some, t_spec_l9Ahead, h0, decide_true, Bool.true_and, List.getElem?_eq_getElem hi1, Option.getD_some]
          cases aheadB xs[i - 1] xs[i] <;> rfl
        · have hd : decide ((i : Int) > 0) = false := by simp; omega
          simp only [hd, cond_false, Option.bind_some, h0, decide_false, Bool.false_and]
    · simp only [ge_lenI, cond_false]

theorem t_spec_l9List (xs : List (List SlotT)) (hl : xs.length ≤ 1048576) : m_spec_l9List xs = some (accsCode xs) := by
  show p_spec_l9List FU xs = _
  unfold p_spec_l9List accsCode
  by_cases h1 : xs.length < 1
  · have : decide (lenI xs < 1) = true := decide_eq_true (by rw [lenI_eq]; omega)
    rw [this, if_pos (.inl h1)]; rfl
  · have e1 : decide (lenI xs < 1) = false := decide_eq_false (by rw [lenI_eq]; omega)
    by_cases h2 : xs.length > 5
    · have : decide (lenI xs > 5) = true := decide_eq_true (by rw [lenI_eq]; omega)
      rw [e1, this, if_pos (.inr h2)]; rfl
    · have : decide (lenI xs > 5) = false := decide_eq_false (by rw [lenI_eq]; omega)
      rw [e1, this, if_neg (by omega)]
      simp only [cond_false, Option.bind_some]
      unfold l_spec_l9List_1
      refine (lp_fst xs (fun _ y => accsF y) (some 0) (by unfold B36; omega) (fun i hi rec hw => ?_) (fun rec => ?_)).trans (by cases fstI (fun _ y => accsF y) 0 xs <;> rfl)
      · simp only [lt_lenI hi, cond_true, geti_lt xs i hi, Option.bind_some, t_spec_AcceptorFault, accsF, hw]
        cases (accCode xs[i] == 0) <;> rfl
      · simp only [ge_lenI, cond_false]

theorem t_spec_NewSlot (a b : Int) : m_spec_NewSlot (a, b) = some (newR a b) := by
  show p_spec_NewSlot FU _ = _
  unfold p_spec_NewSlot newR shB
  simp only [t_spec_l1Id, t_spec_l1In, t_spec_l8None, Option.bind_some]
  cases idB a <;> cases inB b 0 2 <;> rfl

theorem t_spec_l8Copy (x : SlotT) (h : x.2.2.2.2.length ≤ 1048576) : m_spec_l8Copy x = some x := by
  show p_spec_l8Copy FU _ = _
  unfold p_spec_l8Copy
  have hb : Nat.ble ((([] : List (Int × Int)).length + x.2.2.2.2.length) * 16) maxBytes = true := ble_mem (by simp only [List.length_nil, maxBytes]; omega)
  rw [chk_true hb]
  rfl

theorem t_spec_l9Slot (xs : List SlotT) (c d : Int) (hl : xs.length ≤ 1048576) (hc : ∀ x ∈ xs, x.2.2.2.2.length ≤ 1048576) (hn : (idB c && shB d) = true) : m_spec_l9Slot (xs, c, d) = some (slotOf xs c d) := by
  show p_spec_l9Slot FU _ = _
  unfold p_spec_l9Slot slotOf
  simp only
  have e1 : l_spec_l9Slot_1 FU xs c d 0 = match xs.findIdx? (isSlot c d) with
      | some i => (xs[i]?).map Sum.inr
      | none => some (Sum.inl ()) := by
    unfold l_spec_l9Slot_1
    refine lp_place xs (isSlot c d) (fun i => (xs[i]?).map Sum.inr) (some (Sum.inl ())) (by unfold B36; omega) (fun i hi rec hw => ?_) (fun rec => ?_)
    · simp only [lt_lenI hi, cond_true, geti_lt xs i hi, Option.bind_some, hw, isSlot, t_spec_l8Copy _ (hc _ (List.getElem_mem hi)), List.getElem?_eq_getElem hi, Option.map_some]
      cases (xs[i].1 == c) <;> cases (xs[i].2.1 == d) <;> rfl
    · simp only [ge_lenI, cond_false]
  rw [e1, t_spec_NewSlot]
  have e2 : xs.find? (isSlot c d) = (xs.findIdx? (isSlot c d)).bind fun i => xs[i]? := by
    clear e1 hc hl hn
    induction xs with
    | nil => rfl
    | cons x xs ih =>
      rw [List.find?_cons, List.findIdx?_cons]
      cases isSlot c d x with
      | true => rfl
      | false =>
        simp only [ih, cond_false]
        cases xs.findIdx? (isSlot c d) <;> simp
  rw [e2]
  cases hf : xs.findIdx? (isSlot c d) with
  | none =>
    simp only [Option.bind_some, Sum.elim_inl, Option.bind_none, Option.getD_none, newR, hn, Bool.not_true, cond_false, newS]
  | some i =>
    have hi : i < xs.length := (List.findIdx?_eq_some_iff_getElem.1 hf).1
    simp only [Option.bind_some, List.getElem?_eq_getElem hi, Option.map_some, Sum.elim_inr, Option.getD_some]

theorem t_spec_l9Slots (xs : List (List SlotT)) (c d : Int) (hl : xs.length ≤ 1048576) (h2 : ∀ x ∈ xs, x.length ≤ 1048576) (h3 : ∀ x ∈ xs, ∀ y ∈ x, y.2.2.2.2.length ≤ 1048576) (hn : (idB c && shB d) = true) : m_spec_l9Slots (xs, c, d) = some (xs.map fun x => slotOf x c d) := by
  show p_spec_l9Slots FU _ = _
  unfold p_spec_l9Slots l_spec_l9Slots_1
  exact grow_loop 64 (by omega) xs (fun x => m_spec_l9Slot (x, c, d)) _ (fun x hx => t_spec_l9Slot x c d (h2 x hx) (h3 x hx) hn) hl

theorem t_spec_SlotsFor (xs : List (List SlotT)) (c d : Int) (hl : xs.length ≤ 1048576) : m_spec_SlotsFor (xs, c, d) = some (slotsR xs c d) := by
  show p_spec_SlotsFor FU _ = _
  unfold p_spec_SlotsFor slotsR
  simp only [t_spec_l9List xs hl, t_spec_NewSlot, Option.bind_some]
  cases hc : (accsCode xs == 0) with
  | false => rfl
  | true =>
    have h := acc_sizes (by simpa using hc)
    have hz : accsCode xs = 0 := by simpa using hc
    simp only [Bool.not_true, cond_false, newR]
    cases hn : (idB c && shB d) with
    | false => rfl
    | true =>
      simp only [Bool.not_true, cond_false, beq_self_eq_true]
      rw [t_spec_l9Slots xs c d hl (fun x hx => Nat.le_trans (h.2.1 x hx) (by omega)) (fun x hx y hy => Nat.le_trans (h.2.2 x hx y hy) (by omega)) hn]
      rfl

theorem t_spec_l9Copy (xs : List SlotT) (hl : xs.length ≤ 1048576) (hc : ∀ x ∈ xs, x.2.2.2.2.length ≤ 1048576) : m_spec_l9Copy xs = some xs := by
  show p_spec_l9Copy FU _ = _
  unfold p_spec_l9Copy l_spec_l9Copy_1
  refine (grow_loop2 64 (by omega) xs m_spec_l8Copy id (fun x hx => t_spec_l8Copy x (hc x hx)) hl).trans ?_
  rw [List.map_id]

theorem t_spec_l9All (xs : List (List SlotT)) (hl : xs.length ≤ 1048576) (h : ∀ x ∈ xs, accCode x = 0) : m_spec_l9All xs = some xs := by
  show p_spec_l9All FU _ = _
  unfold p_spec_l9All l_spec_l9All_1
  have hc : ∀ x ∈ xs, m_spec_l9Copy x = some (id x) := fun x hx => by
    have hz := accCode_zero (h x hx)
    exact t_spec_l9Copy x (by have := hz.1; omega) (fun y hy => by have := (slotCode_zero (hz.2.1 y hy)).2.1; omega)
  refine (grow_loop 24 (by omega) xs m_spec_l9Copy id hc hl).trans ?_
  rw [List.map_id]

theorem t_spec_l9Asked (xs : List SlotT) (c d : Int) : m_spec_l9Asked (xs, c, d) = some (if accCode xs = 0 then (newR c d).1 else accCode xs) := by
  show p_spec_l9Asked FU _ = _
  unfold p_spec_l9Asked
  simp only [t_spec_AcceptorFault, t_spec_NewSlot, Option.bind_some]
  cases h : (accCode xs == 0) with
  | true => rw [if_pos (by simpa using h)]; rfl
  | false => rw [if_neg (by simpa using h)]; rfl

theorem t_spec_PromiseSlot (s : SlotT) (b : Int) : m_spec_PromiseSlot (s, b) = some (promR s b) := by
  show p_spec_PromiseSlot FU _ = _
  unfold p_spec_PromiseSlot promR
  simp only [t_spec_SlotFault, t_spec_l8Ballot, Option.bind_some]
  cases h : (slotCode s == 0) with
  | false => rfl
  | true =>
    have hl := (slotCode_zero (by simpa using h)).2.1
    cases bal b with
    | false => rfl
    | true =>
      cases decide (b < s.2.2.1) with
      | true => rfl
      | false =>
        simp only [Bool.not_true, cond_false, t_spec_l8Copy s (by omega), Option.bind_some]

theorem t_spec_l9Set (xs : List SlotT) (s : SlotT) (hl : xs.length ≤ 60) (hc : ∀ x ∈ xs, x.2.2.2.2.length ≤ 1048576) : m_spec_l9Set (xs, s) = some ((putS xs s).elim (xs, false) fun ys => (ys, true)) := by
  show p_spec_l9Set FU _ = _
  unfold p_spec_l9Set
  simp only [t_spec_l9Copy xs (by omega) hc, Option.bind_some]
  have e1 : l_spec_l9Set_1 FU xs s (0 : Int) = some ((placeS xs s : Nat) : Int) := by
    unfold l_spec_l9Set_1
    refine (lp_place xs (fun x => !(aheadB x s)) (fun i => some (i : Int)) (some (xs.length : Int)) (by unfold B36; omega) (fun i hi rec hw => ?_) (fun rec => ?_)).trans ?_
    · simp only [lt_lenI hi, cond_true, geti_lt xs i hi, Option.bind_some, Int.toNat_natCast, List.getElem?_eq_getElem hi, t_spec_l9Ahead, hw]
      cases aheadB xs[i] s <;> rfl
    · simp only [ge_lenI, cond_false, Option.bind_some]
    · unfold placeS
      cases xs.findIdx? (fun x => !(aheadB x s)) <;> rfl
  have hp := placeS_le xs s
  rw [e1]
  simp only [Option.bind_some]
  unfold putS
  by_cases hj : placeS xs s < xs.length
  · simp only [lt_lenI hj, cond_true, geti_lt xs _ hj, Option.bind_some, Int.toNat_natCast, List.getElem?_eq_getElem hj, t_spec_l9Ahead, Option.elim]
    cases aheadB s xs[placeS xs s] with
    | false => simp only [Bool.not_false, cond_true]
    | true =>
      simp only [Bool.not_true, cond_false]
      by_cases h6 : xs.length ≥ 60
      · have h7 : decide (lenI xs ≥ (60 : Int)) = true := decide_eq_true (by rw [lenI_eq]; omega)
        simp only [h7, decide_eq_true h6, cond_true]
      · have h7 : decide (lenI xs ≥ (60 : Int)) = false := decide_eq_false (by rw [lenI_eq]; omega)
        have b1 : bndB none (some (placeS xs s : Int)) none xs.length = true := by simp [bndB]; omega
        have b2 : bndB (some (placeS xs s : Int)) none none xs.length = true := by simp [bndB]; omega
        have l1 : ((xs.drop 0).take (placeS xs s)).length = placeS xs s := by simp; omega
        have l2 : ((xs.drop (placeS xs s)).take (xs.length - placeS xs s)) = xs.drop (placeS xs s) := List.take_of_length_le (by simp)
        have c1 : ∀ n : Nat, n ≤ 1000 → Nat.ble (n * 64) maxBytes = true := fun n hn => by rw [Nat.ble_eq]; unfold maxBytes; omega
        simp only [h7, decide_eq_false h6, cond_false, b1, b2, chk, cond_true, Int.toNat_natCast, l2]
        rw [c1 _ (by rw [l1]; omega), c1 _ (by rw [l1]; simp; omega), c1 _ (by simp only [List.length_append, l1, List.length_drop, List.length_cons, List.length_nil]; omega)]
        simp only [cond_true, List.drop_zero]
  · have hj2 : placeS xs s = xs.length := by omega
    have hd : decide ((placeS xs s : Int) < lenI xs) = false := decide_eq_false (by rw [lenI_eq]; omega)
    simp only [hd, cond_false, Option.bind_some, List.getElem?_eq_none (show xs.length ≤ placeS xs s by omega), Option.elim]
    by_cases h6 : xs.length ≥ 60
    · have h7 : decide (lenI xs ≥ (60 : Int)) = true := decide_eq_true (by rw [lenI_eq]; omega)
      simp only [h7, decide_eq_true h6, cond_true]
    · have h7 : decide (lenI xs ≥ (60 : Int)) = false := decide_eq_false (by rw [lenI_eq]; omega)
      have b1 : bndB none (some (placeS xs s : Int)) none xs.length = true := by simp [bndB]; omega
      have b2 : bndB (some (placeS xs s : Int)) none none xs.length = true := by simp [bndB]; omega
      have l1 : ((xs.drop 0).take (placeS xs s)).length = placeS xs s := by simp; omega
      have l2 : ((xs.drop (placeS xs s)).take (xs.length - placeS xs s)) = xs.drop (placeS xs s) := List.take_of_length_le (by simp)
      have c1 : ∀ n : Nat, n ≤ 1000 → Nat.ble (n * 64) maxBytes = true := fun n hn => by rw [Nat.ble_eq]; unfold maxBytes; omega
      simp only [h7, decide_eq_false h6, cond_false, b1, b2, chk, cond_true, Int.toNat_natCast, l2]
      rw [c1 _ (by rw [l1]; omega), c1 _ (by rw [l1]; simp; omega), c1 _ (by simp only [List.length_append, l1, List.length_drop, List.length_cons, List.length_nil]; omega)]
      simp only [cond_true, List.drop_zero]

theorem t_spec_l9Told (xs : List SlotT) (r : Int × ((Int × Int) × SlotT)) (hl : xs.length ≤ 60) (hc : ∀ x ∈ xs, x.2.2.2.2.length ≤ 1048576) : m_spec_l9Told (xs, r) = some (toldR xs r) := by
  show p_spec_l9Told FU _ = _
  unfold p_spec_l9Told toldR
  cases h : (r.1 == 0) with
  | false => rfl
  | true =>
    simp only [Bool.not_true, cond_false, t_spec_l9Set xs r.2.2 hl hc, Option.bind_some]
    cases putS xs r.2.2 <;> rfl

def rPromiseAt (xs : List SlotT) (c d : Int) (b : Int) : AccR := cond (!((if accCode xs = 0 then (newR c d).1 else accCode xs) == 0)) ((if accCode xs = 0 then (newR c d).1 else accCode xs), zA.2) (toldR xs (promR (slotOf xs c d) b))
theorem t_spec_PromiseAt (xs : List SlotT) (c d : Int) (b : Int) : m_spec_PromiseAt (xs, c, d, b) = some (rPromiseAt xs c d b) := by
  show p_spec_PromiseAt FU _ = _
  unfold p_spec_PromiseAt rPromiseAt
  simp only [t_spec_l9Asked, Option.bind_some]
  cases h : ((if accCode xs = 0 then (newR c d).1 else accCode xs) == 0) with
  | false => rfl
  | true =>
    have h := eq_of_beq h
    have h0 : accCode xs = 0 := by
      by_cases hz : accCode xs = 0
      · exact hz
      · rw [if_neg hz] at h; exact absurd h hz
    rw [if_pos h0] at h
    have hn : (idB c && shB d) = true := by
      cases hn : (idB c && shB d) with
      | true => rfl
      | false => unfold newR at h; rw [hn] at h; exact absurd (show (3 : Int) = 0 from h) (by decide)
    have hz := accCode_zero h0
    have hc : ∀ x ∈ xs, x.2.2.2.2.length ≤ 1048576 := fun x hx => by have := (slotCode_zero (hz.2.1 x hx)).2.1; omega
    simp only [Bool.not_true, cond_false, t_spec_l9Slot xs c d (by have := hz.1; omega) hc hn, Option.bind_some, t_spec_PromiseSlot, t_spec_l9Told xs _ hz.1 hc]

theorem t_spec_l8Quorum (n : Nat) (hn : n ≤ B36) : m_spec_l8Quorum (n : Int) = some ((quo n : Nat) : Int) := by
  show p_spec_l8Quorum FU _ = _
  unfold p_spec_l8Quorum quo
  unfold B36 at hn
  have e1 : ((2 : Int) == 0) = false := rfl
  rw [e1, cond_false, Int.tdiv_eq_ediv_of_nonneg (by omega), wrap64 (n := (n : Int) / 2) (by omega) (by omega), wrap64 (by omega) (by omega)]
  rfl

theorem t_spec_l8Pick (xs : List (Int × Int)) (own : Int) (hl : xs.length ≤ 9) : m_spec_l8Pick (xs, own) = some (xs.foldl bestV (-1, own)).2 := by
  show p_spec_l8Pick FU _ = _
  unfold p_spec_l8Pick
  have e2 : ∀ s, l_spec_l8Pick_1 FU xs ((0 : Int), s) = some (xs.foldl bestV s) := by
    intro s
    unfold l_spec_l8Pick_1
    refine lp_fold xs bestV (fun i s => ((i : Int), s)) (fun s => some s) (by unfold B36; omega) (fun i hi s rec hw => ?_) (fun s rec => ?_) s
    · simp only [lt_lenI hi, cond_true, geti_lt xs i hi, Option.bind_some, hw, bestV]
      by_cases hh : xs[i].1 > s.1 <;> simp [hh]
    · simp only [ge_lenI, cond_false]
  show ((l_spec_l8Pick_1 FU xs ((0 : Int), ((-1 : Int), (0 : Int)))).bind fun j18 => cond (decide (j18.1 < (0 : Int))) (some own) (some j18.2)) = _
  rw [e2]
  have := pick_fold own xs (-1, 0) (by simp) (by simp)
  simp only [show ((-1 : Int) < 0) from by decide, if_true] at this
  simp only [Option.bind_some]
  by_cases h : (xs.foldl bestV (-1, 0)).1 < 0
  · rw [this.1 h]; simp [h]
  · rw [this.2 h]; simp [h]

theorem t_spec_AcceptSlot (s : SlotT) (v : Int × Int) : m_spec_AcceptSlot (s, v) = some (accR s v) := by
  show p_spec_AcceptSlot FU _ = _
  unfold p_spec_AcceptSlot accR votB
  simp only [t_spec_SlotFault, t_spec_l8Ballot, t_spec_l8Value, Option.bind_some]
  cases h : (slotCode s == 0) with
  | false => rfl
  | true =>
    have hl := (slotCode_zero (by simpa using h)).2.1
    have hb : Nat.ble ((s.2.2.2.2.length + [v].length) * 16) maxBytes = true := ble_mem (by simp only [List.length_cons, List.length_nil, maxBytes]; omega)
    have h6 : decide (lenI s.2.2.2.2 ≥ 60) = decide (s.2.2.2.2.length ≥ 60) := by
      rw [lenI_eq]
      exact decide_eq_decide.mpr (by omega)
    simp only [t_spec_l8Copy s (by omega), Option.bind_some, Bool.not_true, cond_false, chk_true hb, h6]
    cases bal v.1 <;> cases vlu v.2 <;> try rfl
    cases decide (v.1 < s.2.2.1) with
    | true => rfl
    | false =>
      cases (v.1 == s.2.2.2.1.1) <;> cases (v.2 == s.2.2.2.1.2) <;> cases decide (s.2.2.2.2.length ≥ 60) <;> rfl

def rAcceptAt (xs : List SlotT) (c d : Int) (b : Int × Int) : AccR := cond (!((if accCode xs = 0 then (newR c d).1 else accCode xs) == 0)) ((if accCode xs = 0 then (newR c d).1 else accCode xs), zA.2) (toldR xs (accR (slotOf xs c d) b))
theorem t_spec_AcceptAt (xs : List SlotT) (c d : Int) (b : Int × Int) : m_spec_AcceptAt (xs, c, d, b) = some (rAcceptAt xs c d b) := by
  show p_spec_AcceptAt FU _ = _
  unfold p_spec_AcceptAt rAcceptAt
  simp only [t_spec_l9Asked, Option.bind_some]
  cases h : ((if accCode xs = 0 then (newR c d).1 else accCode xs) == 0) with
  | false => rfl
  | true =>
    have h := eq_of_beq h
    have h0 : accCode xs = 0 := by
      by_cases hz : accCode xs = 0
      · exact hz
      · rw [if_neg hz] at h; exact absurd h hz
    rw [if_pos h0] at h
    have hn : (idB c && shB d) = true := by
      cases hn : (idB c && shB d) with
      | true => rfl
      | false => unfold newR at h; rw [hn] at h; exact absurd (show (3 : Int) = 0 from h) (by decide)
    have hz := accCode_zero h0
    have hc : ∀ x ∈ xs, x.2.2.2.2.length ≤ 1048576 := fun x hx => by have := (slotCode_zero (hz.2.1 x hx)).2.1; omega
    simp only [Bool.not_true, cond_false, t_spec_l9Slot xs c d (by have := hz.1; omega) hc hn, Option.bind_some, t_spec_AcceptSlot, t_spec_l9Told xs _ hz.1 hc]

theorem t_spec_RunBallot_p (accs : List (List SlotT)) (rs : List Int) (c d b : Int) (hl : rs.length ≤ 1048576) (hok : AccsOK accs.length accs) (hin : ∀ y ∈ rs, 0 ≤ y ∧ y < (accs.length : Int)) (hnz : (newR c d).1 = 0) :
    l_spec_RunBallot_3 FU rs c d b (([] : List Int), ([] : List (Int × Int)), (0 : Int), accs) = some (promAll accs rs c d b) ∧ PI accs.length rs rs.length (promAll accs rs c d b) := by
  unfold l_spec_RunBallot_3 promAll
  refine lp_foldI rs (promStep c d b) (fun i (st : BSt) => (st.1, st.2.1, (i : Int), st.2.2)) (fun st => some (st.1, st.2.1, st.2.2)) (PI accs.length rs) (by unfold B36; omega) ([], ([], accs)) ⟨hok, Nat.le_refl _, rfl, (fun y hy => by cases hy), fun v hv => by cases hv⟩ (fun i hi st hI => ⟨hI.step hi c d b, fun rec => ?_⟩) (fun st hI rec => ?_)
  · obtain ⟨k, hk⟩ := Int.eq_ofNat_of_zero_le (hin _ (List.getElem_mem hi)).1
    have hk2 := (hin _ (List.getElem_mem hi)).2
    have hkl : k < st.2.2.length := by rw [hI.ok.1]; rw [hk] at hk2; omega
    have hac := hI.ok.2 _ (List.getElem_mem hkl)
    have hw : IntKind.wrap .i64 ((i : Int) + 1) = ((i + 1 : Nat) : Int) := wrap_next hi hl
    have c1 : Nat.ble ((st.1.length + [((k : Nat) : Int)].length) * 8) maxBytes = true := by rw [Nat.ble_eq]; simp only [List.length_cons, List.length_nil, maxBytes]; have := hI.len; omega
    have em : m_spec_PromiseAt (st.2.2[k], c, d, b) = some (toldR st.2.2[k] (promR (slotOf st.2.2[k] c d) b)) := by
      rw [t_spec_PromiseAt]
      unfold rPromiseAt
      rw [hac, if_pos rfl, hnz]; rfl
    have c2 : Nat.ble ((st.2.1.length + [(toldR st.2.2[k] (promR (slotOf st.2.2[k] c d) b)).2.1].length) * 16) maxBytes = true := by rw [Nat.ble_eq]; simp only [List.length_cons, List.length_nil, maxBytes]; have := hI.len; have := hI.vlen; omega
    unfold promStep
    simp only [lt_lenI hi, cond_true, geti_lt rs i hi, Option.bind_some, hk, geti_lt _ k hkl, Int.toNat_natCast, List.getElem?_eq_getElem hkl, Option.elim, em, hw, chk, c1, c2, dup_eq]
    cases (toldR st.2.2[k] (promR (slotOf st.2.2[k] c d) b)).1 == 0 <;> rfl
  · simp only [ge_lenI, cond_false]
theorem t_spec_RunBallot_v (N : Nat) (ids : List Int) (accs : List (List SlotT)) (c d b v : Int) (hl : ids.length ≤ 1048576) (hok : AccsOK N accs) (hin : ∀ y ∈ ids, 0 ≤ y ∧ y < (N : Int)) (hnz : (newR c d).1 = 0) :
    l_spec_RunBallot_4 FU ids c d b v ((0 : Int), accs) = some ((0 : Int), (v, ids.foldl (voteStep c d (b, v)) accs)) := by
  unfold l_spec_RunBallot_4
  refine (lp_foldI ids (voteStep c d (b, v)) (fun i (s : List (List SlotT)) => ((i : Int), s)) (fun s => some ((0 : Int), (v, s))) (fun _ s => AccsOK N s) (by unfold B36; omega) accs hok (fun i hi s hI => ⟨voteStep_ok hI c d (b, v) _, fun rec => ?_⟩) (fun s hI rec => ?_)).1
  · obtain ⟨k, hk⟩ := Int.eq_ofNat_of_zero_le (hin _ (List.getElem_mem hi)).1
    have hk2 := (hin _ (List.getElem_mem hi)).2
    have hkl : k < s.length := by rw [hI.1]; rw [hk] at hk2; omega
    have hac := hI.2 _ (List.getElem_mem hkl)
    have hw : IntKind.wrap .i64 ((i : Int) + 1) = ((i + 1 : Nat) : Int) := wrap_next hi hl
    have em : m_spec_AcceptAt (s[k], c, d, b, v) = some (toldR s[k] (accR (slotOf s[k] c d) (b, v))) := by
      rw [t_spec_AcceptAt s[k] c d (b, v)]
      unfold rAcceptAt
      rw [hac, if_pos rfl, hnz]; rfl
    unfold voteStep
    simp only [lt_lenI hi, cond_true, geti_lt ids i hi, Option.bind_some, Int.toNat_natCast, List.getElem?_eq_getElem hi, hk, geti_lt _ k hkl, List.getElem?_eq_getElem hkl, Option.elim, em, hw, dup_eq]
    cases (toldR s[k] (accR (slotOf s[k] c d) (b, v))).1 == 0 <;> rfl
  · simp only [ge_lenI, cond_false]
theorem t_spec_RunBallot_1 (accs : List (List SlotT)) (rs : List Int) (hA : accs.length ≤ 1048576) (hl : rs.length ≤ 1048576) : l_spec_RunBallot_1 FU accs rs (0 : Int) = cond (rs.any fun y => !(inB y 0 ((accs.length : Int) - 1))) (some (Sum.inr ((3 : Int), ((0 : Int), [])))) (some (Sum.inl ())) := by
  have hw : IntKind.wrap .i64 ((lenI accs) - (1 : Int)) = (accs.length : Int) - 1 := by rw [lenI_eq]; exact wrap64 (by omega) (by omega)
  unfold l_spec_RunBallot_1
  refine lp_hit rs (fun y => !(inB y 0 ((accs.length : Int) - 1))) _ _ (by unfold B36; omega) (fun i hi rec hw2 => ?_) (fun rec => ?_)
  · simp only [lt_lenI hi, cond_true, geti_lt rs i hi, Option.bind_some, hw, t_spec_l1In, hw2]
  · simp only [ge_lenI, cond_false]
theorem t_spec_RunBallot_2 (rs : List Int) (hl : rs.length ≤ 1048576) : l_spec_RunBallot_2 FU rs (1 : Int) = cond (adjB rs) (some (Sum.inr ((7 : Int), ((0 : Int), [])))) (some (Sum.inl ())) := by
  unfold l_spec_RunBallot_2
  refine lp_adj rs _ _ (by unfold B36; omega) (fun i hi rec => ?_) (fun n rec hn => ?_)
  · have w1 : IntKind.wrap .i64 (((i + 1 : Nat) : Int) - (1 : Int)) = ((i : Nat) : Int) := by rw [wrap64 (by omega) (by omega)]; omega
    have w2 : IntKind.wrap .i64 (((i + 1 : Nat) : Int) + (1 : Int)) = ((i + 1 + 1 : Nat) : Int) := by rw [wrap64 (by omega) (by omega)]; omega
    simp only [lt_lenI hi, cond_true, w1, w2, geti_lt rs i (by omega), geti_lt rs (i + 1) hi, Option.bind_some]
  · have hd : decide ((n : Int) < lenI rs) = false := decide_eq_false (by rw [lenI_eq]; omega)
    simp only [hd, cond_false]
theorem t_spec_RunBallot (accs : List (List SlotT)) (rs : List Int) (c d b v : Int) (hA : accs.length ≤ 1048576) (hl : rs.length ≤ 1048576) : m_spec_RunBallot (accs, rs, c, d, b, v) = some (runR accs rs c d b v) := by
  show p_spec_RunBallot FU _ = _
  unfold p_spec_RunBallot runR
  have e0 : ∃ sl, m_spec_SlotsFor (accs, c, d) = some ((if accsCode accs = 0 then (newR c d).1 else accsCode accs), sl) := ⟨(slotsR accs c d).2, by rw [t_spec_SlotsFor accs c d hA, ← slotsR_code]⟩
  obtain ⟨sl, e0⟩ := e0
  simp only [e0, Option.bind_some]
  cases h0 : ((if accsCode accs = 0 then (newR c d).1 else accsCode accs) == 0) with
  | false => simp only [Bool.not_false, cond_true]
  | true =>
    have h0 := eq_of_beq h0
    have ha0 : accsCode accs = 0 := by
      by_cases hz : accsCode accs = 0
      · exact hz
      · rw [if_neg hz] at h0; exact absurd h0 hz
    rw [if_pos ha0] at h0
    have h4 := accsCode_zero ha0
    have hok : AccsOK accs.length accs := ⟨rfl, h4.2⟩
    simp only [Bool.not_true, cond_false, t_spec_l8Ballot, t_spec_l8Value, Option.bind_some]
    cases hb : bal b with
    | false => simp only [Bool.not_false, cond_true, Option.bind_some, Bool.false_and]
    | true =>
      cases hv : vlu v with
      | false => simp only [Bool.not_true, Bool.not_false, cond_true, cond_false, Option.bind_some, Bool.and_false]
      | true =>
        simp only [Bool.not_true, cond_false, Option.bind_some, Bool.and_self]
        have e1 : ∀ F : Unit → Option RunR, (l_spec_RunBallot_1 FU accs rs (0 : Int)).bind (Sum.elim F some) = cond (rs.any fun y => !(inB y 0 ((accs.length : Int) - 1))) (some ((3 : Int), ((0 : Int), []))) (F ()) := fun F => by
          rw [t_spec_RunBallot_1 accs rs hA hl]
          cases rs.any fun y => !(inB y 0 ((accs.length : Int) - 1)) <;> rfl
        have e2 : ∀ F : Unit → Option RunR, (l_spec_RunBallot_2 FU rs (1 : Int)).bind (Sum.elim F some) = cond (adjB rs) (some ((7 : Int), ((0 : Int), []))) (F ()) := fun F => by
          rw [t_spec_RunBallot_2 rs hl]
          cases adjB rs <;> rfl
        rw [e1, e2]
        simp only [reachC_eq]
        cases hr1 : rs.any fun y => !(inB y 0 ((accs.length : Int) - 1)) with
        | true => simp only [cond_true]; rfl
        | false =>
          cases hr2 : adjB rs with
          | true => simp only [cond_true, cond_false]; rfl
          | false =>
            have hrz : reachC accs.length rs = 0 := by rw [reachC_eq, hr1, hr2]; rfl
            obtain ⟨hin, hup⟩ := reach_zero hrz
            have hlen := up_len hup hin
            obtain ⟨e3, hPI⟩ := t_spec_RunBallot_p accs rs c d b hl hok hin h0
            have hq := t_spec_l8Quorum accs.length (by unfold B36; omega)
            have e5 : m_spec_l8Quorum (lenI accs) = some ((quo accs.length : Nat) : Int) := hq
            have hvl : (promAll accs rs c d b).2.1.length ≤ 9 := by have := hPI.len; have := hPI.vlen; have := h4.1; omega
            have e6 := t_spec_l8Pick (promAll accs rs c d b).2.1 v hvl
            have ep : (List.foldl bestV (-1, v) (promAll accs rs c d b).2.1).2 = pickOf (promAll accs rs c d b) v := rfl
            have e7 := t_spec_RunBallot_v accs.length (promAll accs rs c d b).1 (promAll accs rs c d b).2.2 c d b (pickOf (promAll accs rs c d b) v) (by have := hPI.len; omega) hPI.ok (fun y hy => hin y (hPI.mem y hy)) h0
            simp only [cond_false, Option.bind_some, t_spec_l9All accs hA h4.2, e3, e5]
            have hd : decide (lenI (promAll accs rs c d b).1 < ((quo accs.length : Nat) : Int)) = decide ((promAll accs rs c d b).1.length < quo accs.length) := by
              rw [lenI_eq]
              by_cases h : (promAll accs rs c d b).1.length < quo accs.length
              · rw [decide_eq_true h, decide_eq_true (by omega)]
              · rw [decide_eq_false h, decide_eq_false (by omega)]
            simp only [hd]
            cases decide ((promAll accs rs c d b).1.length < quo accs.length) with
            | true => simp only [cond_true]; rfl
            | false =>
              simp only [cond_false]
              rw [e6, Option.bind_some, ep, e7]
              rfl

theorem t_impl_within (a b c : Int) : m_impl_within (a, b, c) = some (inB a b c) := by
  show p_impl_within FU _ = _
  unfold p_impl_within inB
  by_cases h : b ≤ a <;> simp [h]

theorem t_impl_isId (a : Int) : m_impl_isId a = some (idB a) := by
  show p_impl_isId FU _ = _
  unfold p_impl_isId idB
  rw [t_impl_within]; rfl

theorem t_impl_isShard (a : Int) : m_impl_isShard a = some (shB a) := by
  show p_impl_isShard FU _ = _
  unfold p_impl_isShard shB
  rw [t_impl_within]; rfl

theorem t_impl_isBallot (a : Int) : m_impl_isBallot a = some (bal a) := by
  show p_impl_isBallot FU _ = _
  unfold p_impl_isBallot bal
  rw [t_impl_within]; rfl

theorem t_impl_isValue (a : Int) : m_impl_isValue a = some (vlu a) := by
  show p_impl_isValue FU _ = _
  unfold p_impl_isValue vlu
  cases h : (a == (1 : Int)) <;> simp

theorem t_impl_isVote (a : Int × Int) : m_impl_isVote a = some (votB a) := by
  show p_impl_isVote FU _ = _
  unfold p_impl_isVote votB
  rw [t_impl_isBallot, t_impl_isValue]
  cases bal a.1 <;> rfl

theorem t_impl_castFault (xs : List (Int × Int)) (h : xs.length ≤ 60) : m_impl_castFault xs = some (castGo none xs) := by
  show p_impl_castFault FU _ = _
  unfold p_impl_castFault l_impl_castFault_1
  rw [← cast_all]
  refine (lp_fst xs (castF xs) (some 0) (by unfold B36; omega) (fun i hi rec hw => ?_) (fun rec => ?_)).trans (by cases fstI (castF xs) 0 xs <;> rfl)
  · simp only [lt_lenI hi, cond_true, geti_lt xs i hi, Option.bind_some, t_impl_isVote, castF, hw]
    cases votB xs[i] with
    | false => rfl
    | true =>
      simp only [Bool.not_true, cond_false]
      by_cases h0 : 0 < i
      · have hd : decide ((i : Int) > 0) = true := by simp; omega
        have hp := prv (i := i) (by unfold B36; omega) h0
        have hi1 : i - 1 < xs.length := by omega
        simp only [hd, cond_true, hp, geti_lt xs _ hi1, Option.bind_some, h0, decide_true, Bool.true_and, List.getElem?_eq_getElem hi1, Option.getD_some, badP]
        cases decide (xs[i].1 < xs[i - 1].1) <;> cases (xs[i].1 == xs[i - 1].1) <;> cases (xs[i].2 == xs[i - 1].2) <;> rfl
      · have hd : decide ((i : Int) > 0) = false := by simp; omega
        simp only [hd, cond_false, Option.bind_some, h0, decide_false, Bool.false_and, cond_false]
  · simp only [ge_lenI, cond_false]

theorem t_impl_noVote : m_impl_noVote () = some (-1, 0) := rfl

theorem t_impl_lastCast (xs : List (Int × Int)) (h : xs.length ≤ 60) : m_impl_lastCast xs = some (lastV xs) := by
  show p_impl_lastCast FU _ = _
  unfold p_impl_lastCast lastV
  by_cases h0 : xs.length = 0
  · have : xs = [] := List.eq_nil_of_length_eq_zero h0
    subst this
    rfl
  · have h1 : (lenI xs == 0) = false := by rw [lenI_eq, beq_eq_false_iff_ne]; omega
    have h2 : IntKind.wrap .i64 (lenI xs - 1) = ((xs.length - 1 : Nat) : Int) := by rw [lenI_eq, wrap64 (by omega) (by omega)]; omega
    have hlt : xs.length - 1 < xs.length := by omega
    simp only [h1, cond_false, h2, geti_lt xs _ hlt, Option.bind_some]
    rw [List.getLast?_eq_getElem?, List.getElem?_eq_getElem hlt]
    rfl

theorem t_impl_SlotFault (x : SlotT) : m_impl_SlotFault x = some (slotCode x) := by
  obtain ⟨a, b, c, d, xs⟩ := x
  show p_impl_SlotFault FU _ = _
  unfold p_impl_SlotFault slotCode
  simp only [t_impl_isId, t_impl_isShard, t_impl_within, Option.bind_some]
  have e0 : (cond (!idB a) (some true) (cond (!shB b) (some true) (some (!inB c (-1) 1000)))) = some (!(idB a && (shB b && inB c (-1) 1000))) := by
    cases idB a <;> cases shB b <;> rfl
  rw [e0]
  simp only [Option.bind_some]
  cases (idB a && (shB b && inB c (-1) 1000)) with
  | false => rfl
  | true =>
    simp only [Bool.not_true, cond_false]
    by_cases hl : xs.length > 60
    · have : decide (lenI xs > 60) = true := by simp [lenI_eq]; omega
      simp [this, hl]
    · have : decide (lenI xs > 60) = false := by simp [lenI_eq]; omega
      simp only [this, cond_false, if_neg hl, t_impl_castFault xs (by omega), t_impl_lastCast xs (by omega), Option.bind_some]
      by_cases hc : castGo none xs = 0
      · obtain ⟨d1, d2⟩ := d
        have e2 : (!((d1 == (lastV xs).1) && ((d2 == (lastV xs).2) && true))) = !((d1, d2) == lastV xs) := by
          rw [Bool.and_true]; rfl
        simp only [hc, e2]
        cases ((d1, d2) == lastV xs) with
        | false => simp
        | true => by_cases hh : d1 > c <;> simp [hh]
      · have hb : (castGo none xs == 0) = false := by rw [beq_eq_false_iff_ne]; exact hc
        simp [hc, hb]

theorem t_cmp_Compare_int64 (a b : Int) : m_cmp_Compare_int64 (a, b) = some (if a < b then -1 else if a > b then 1 else 0) := by
  show p_cmp_Compare_int64 FU _ = _
  unfold p_cmp_Compare_int64
  have e : ∀ a : Int, m_cmp_isNaN_int64 a = some false := fun a => by
    show p_cmp_isNaN_int64 FU a = _
    unfold p_cmp_isNaN_int64
    simp
  simp only [e, Option.bind_some, cond_false]
  by_cases h1 : a < b
  · simp [h1]
  · by_cases h2 : a > b <;> simp [h1, h2]

theorem t_cmp_Or_int (a b : Int) : m_cmp_Or_int [a, b] = some (if a = 0 then b else a) := by
  show p_cmp_Or_int FU _ = _
  unfold p_cmp_Or_int l_cmp_Or_int_1
  obtain ⟨m, hm⟩ : ∃ m, FU = m + 1 + 1 + 1 := ⟨18446744073709551613, rfl⟩
  rw [hm]
  have w1 : IntKind.wrap .i64 1 = 1 := rfl
  have w2 : IntKind.wrap .i64 2 = 2 := rfl
  by_cases h1 : a = 0
  · by_cases h2 : b = 0
    · simp [lp, geti, lenI, h1, h2, w1, w2]
    · have hb : (b == 0) = false := by simp [h2]
      simp [lp, geti, lenI, h1, hb, w1, w2]
  · have hb : (a == 0) = false := by simp [h1]
    simp [lp, geti, lenI, h1, hb]

theorem t_impl_compareSlots (a b : SlotT) : m_impl_compareSlots (a, b) = some (cmpS a b) := by
  show p_impl_compareSlots FU _ = _
  unfold p_impl_compareSlots cmpS
  simp only [t_cmp_Compare_int64, t_cmp_Or_int, Option.bind_some]

theorem t_impl_AcceptorFault (xs : List SlotT) : m_impl_AcceptorFault xs = some (accCode xs) := by
  show p_impl_AcceptorFault FU xs = _
  unfold p_impl_AcceptorFault accCode
  by_cases hl : xs.length > 60
  · have : decide (lenI xs > 60) = true := by simp [lenI_eq]; omega
    rw [this, if_pos hl]; rfl
  · have : decide (lenI xs > 60) = false := by simp [lenI_eq]; omega
    rw [this, if_neg hl, cond_false]
    unfold l_impl_AcceptorFault_1
    refine (lp_fst xs (accStep xs) (some 0) (by unfold B36; omega) (fun i hi rec hw => ?_) (fun rec => ?_)).trans (by cases fstI (accStep xs) 0 xs <;> rfl)
    · simp only [lt_lenI hi, cond_true, geti_lt xs i hi, Option.bind_some, t_impl_SlotFault, accStep, hw]
      cases (slotCode xs[i] == 0) with
      | false => rfl
      | true =>
        simp only [Bool.not_true, cond_false]
        by_cases h0 : 0 < i
        · have hd : decide ((i : Int) > 0) = true := by simp; omega
          have hi1 : i - 1 < xs.length := by omega
          simp only [hd, cond_true, prv (i := i) (by unfold B36; omega) h0, geti_lt xs _ hi1, Option.bind_some, t_impl_compareSlots, cmpS_ahead, h0, decide_true, Bool.true_and, List.getElem?_eq_getElem hi1, Option.getD_some]
          cases aheadB xs[i - 1] xs[i] <;> rfl
        · have hd : decide ((i : Int) > 0) = false := by simp; omega
          simp only [hd, cond_false, Option.bind_some, h0, decide_false, Bool.false_and]
    · simp only [ge_lenI, cond_false]

theorem t_impl_listFault (xs : List (List SlotT)) (hl : xs.length ≤ 1048576) : m_impl_listFault xs = some (accsCode xs) := by
  show p_impl_listFault FU xs = _
  unfold p_impl_listFault accsCode
  have e0 : m_impl_size_impl_Acceptor xs = some (lenI xs) := rfl
  rw [e0]
  simp only [Option.bind_some, t_impl_within, inB]
  by_cases h1 : xs.length < 1
  · have : decide ((1 : Int) ≤ lenI xs) = false := decide_eq_false (by rw [lenI_eq]; omega)
    rw [this, if_pos (.inl h1)]; rfl
  · have e1 : decide ((1 : Int) ≤ lenI xs) = true := decide_eq_true (by rw [lenI_eq]; omega)
    by_cases h2 : xs.length > 5
    · have : decide (lenI xs ≤ 5) = false := decide_eq_false (by rw [lenI_eq]; omega)
      rw [e1, this, if_pos (.inr h2)]; rfl
    · have : decide (lenI xs ≤ 5) = true := decide_eq_true (by rw [lenI_eq]; omega)
      rw [e1, this, if_neg (by omega)]
      simp only [Bool.and_self, Bool.not_true, cond_false]
      unfold l_impl_listFault_1
      refine (lp_fst xs (fun _ y => accsF y) (some 0) (by unfold B36; omega) (fun i hi rec hw => ?_) (fun rec => ?_)).trans (by cases fstI (fun _ y => accsF y) 0 xs <;> rfl)
      · simp only [lt_lenI hi, cond_true, geti_lt xs i hi, Option.bind_some, t_impl_AcceptorFault, accsF, hw]
        cases (accCode xs[i] == 0) <;> rfl
      · simp only [ge_lenI, cond_false]

theorem t_impl_newSlot (a b : Int) : m_impl_newSlot (a, b) = some (a, (b, (-1, ((-1, 0), [])))) := by
  show p_impl_newSlot FU _ = _
  unfold p_impl_newSlot
  simp only [t_impl_noVote, Option.bind_some]

theorem t_impl_NewSlot (a b : Int) : m_impl_NewSlot (a, b) = some (newR a b) := by
  show p_impl_NewSlot FU _ = _
  unfold p_impl_NewSlot newR
  simp only [t_impl_isId, t_impl_isShard, t_impl_newSlot, Option.bind_some]
  cases idB a <;> cases shB b <;> rfl

theorem t_impl_firstOf (a b : Int) : m_impl_firstOf [a, b] = some (if a = 0 then b else a) := by
  show p_impl_firstOf FU _ = _
  unfold p_impl_firstOf l_impl_firstOf_1
  obtain ⟨m, hm⟩ : ∃ m, FU = m + 1 + 1 + 1 := ⟨18446744073709551613, rfl⟩
  rw [hm]
  have w1 : IntKind.wrap .i64 1 = 1 := rfl
  have w2 : IntKind.wrap .i64 2 = 2 := rfl
  by_cases h1 : a = 0
  · by_cases h2 : b = 0
    · simp [lp, geti, lenI, h1, h2, w1, w2]
    · have hb : (b == 0) = false := by simp [h2]
      simp [lp, geti, lenI, h1, hb, w1, w2]
  · have hb : (a == 0) = false := by simp [h1]
    simp [lp, geti, lenI, h1, hb]
theorem t_impl_firstOf3 (a b c : Int) : m_impl_firstOf [a, b, c] = some (if a = 0 then (if b = 0 then c else b) else a) := by
  show p_impl_firstOf FU _ = _
  unfold p_impl_firstOf l_impl_firstOf_1
  obtain ⟨m, hm⟩ : ∃ m, FU = m + 1 + 1 + 1 + 1 := ⟨18446744073709551612, rfl⟩
  rw [hm]
  have w1 : IntKind.wrap .i64 1 = 1 := rfl
  have w2 : IntKind.wrap .i64 2 = 2 := rfl
  have w3 : IntKind.wrap .i64 3 = 3 := rfl
  by_cases h1 : a = 0
  · by_cases h2 : b = 0
    · by_cases h3 : c = 0
      · simp [lp, geti, lenI, h1, h2, h3, w1, w2, w3]
      · have hb : (c == 0) = false := by simp [h3]
        simp [lp, geti, lenI, h1, h2, hb, w1, w2, w3]
    · have hb : (b == 0) = false := by simp [h2]
      simp [lp, geti, lenI, h1, h2, hb, w1, w2]
  · have hb : (a == 0) = false := by simp [h1]
    simp [lp, geti, lenI, h1, hb]

theorem t_impl_reachedFault (rs : List Int) (N : Nat) (hl : rs.length ≤ 1048576) (hN : N ≤ 1048576) : m_impl_reachedFault (rs, (N : Int)) = some (reachC N rs) := by
  show p_impl_reachedFault FU _ = _
  unfold p_impl_reachedFault
  simp only
  have hw : IntKind.wrap .i64 ((N : Int) - (1 : Int)) = (N : Int) - 1 := wrap64 (by omega) (by omega)
  have e1 : l_impl_reachedFault_1 FU rs (N : Int) (0 : Int) = match rs.findIdx? (fun y => !(inB y 0 ((N : Int) - 1))) with
      | some i => some (i : Int)
      | none => some (-1) := by
    unfold l_impl_reachedFault_1
    refine lp_place rs (fun y => !(inB y 0 ((N : Int) - 1))) (fun i => some (i : Int)) (some (-1 : Int)) (by unfold B36; omega) (fun i hi rec hw2 => ?_) (fun rec => ?_)
    · simp only [lt_lenI hi, cond_true, geti_lt rs i hi, Option.bind_some, hw, t_impl_within, hw2]
    · simp only [ge_lenI, cond_false]
  have e2 : l_impl_reachedFault_2 FU rs (1 : Int) = cond (adjB rs) (some 7) (some 0) := by
    unfold l_impl_reachedFault_2
    refine lp_adj rs (some 7) (some 0) (by unfold B36; omega) (fun i hi rec => ?_) (fun n rec hn => ?_)
    · have w1 : IntKind.wrap .i64 (((i + 1 : Nat) : Int) - (1 : Int)) = ((i : Nat) : Int) := by rw [wrap64 (by omega) (by omega)]; omega
      have w2 : IntKind.wrap .i64 (((i + 1 : Nat) : Int) + (1 : Int)) = ((i + 1 + 1 : Nat) : Int) := by rw [wrap64 (by omega) (by omega)]; omega
      simp only [lt_lenI hi, cond_true, w1, w2, geti_lt rs i (by omega), geti_lt rs (i + 1) hi, Option.bind_some]
    · have hd : decide ((n : Int) < lenI rs) = false := decide_eq_false (by rw [lenI_eq]; omega)
      simp only [hd, cond_false]
  rw [e1, e2, reachC_eq]
  cases hf : rs.findIdx? (fun y => !(inB y 0 ((N : Int) - 1))) with
  | none =>
    have : rs.any (fun y => !(inB y 0 ((N : Int) - 1))) = false := by
      rw [List.findIdx?_eq_none_iff] at hf
      rw [List.any_eq_false]
      intro y hy
      simpa using hf y hy
    rw [this]
    have hd : decide ((-1 : Int) ≥ 0) = false := by decide
    simp only [Option.bind_some, hd, cond_false]
    cases adjB rs <;> rfl
  | some i =>
    have : rs.any (fun y => !(inB y 0 ((N : Int) - 1))) = true := by
      obtain ⟨h, h1, _⟩ := List.findIdx?_eq_some_iff_getElem.1 hf
      rw [List.any_eq_true]
      exact ⟨_, List.getElem_mem h, h1⟩
    rw [this]
    have hd : decide ((i : Int) ≥ 0) = true := decide_eq_true (by omega)
    simp only [Option.bind_some, hd, cond_true]

theorem t_slices_Clone_impl_Vote_impl_Vote (xs : List (Int × Int)) (h : xs.length ≤ 1048576) : m_slices_Clone_impl_Vote_impl_Vote xs = some xs := by
  show p_slices_Clone_impl_Vote_impl_Vote FU _ = _
  unfold p_slices_Clone_impl_Vote_impl_Vote
  have hb : Nat.ble ((([] : List (Int × Int)).length + xs.length) * 16) maxBytes = true := ble_mem (by simp only [List.length_nil, maxBytes]; omega)
  rw [chk_true hb]
  exact clone_same xs _ rfl

theorem t_impl_copySlot (x : SlotT) (h : x.2.2.2.2.length ≤ 1048576) : m_impl_copySlot x = some x := by
  show p_impl_copySlot FU _ = _
  unfold p_impl_copySlot
  rw [t_slices_Clone_impl_Vote_impl_Vote _ h]
  rfl

theorem t_impl_copyAcceptor (xs : List SlotT) (hl : xs.length ≤ 1048576) (hc : ∀ x ∈ xs, x.2.2.2.2.length ≤ 1048576) : m_impl_copyAcceptor xs = some xs := by
  show p_impl_copyAcceptor FU _ = _
  unfold p_impl_copyAcceptor l_impl_copyAcceptor_1
  refine (grow_loop2 64 (by omega) xs m_impl_copySlot id (fun x hx => t_impl_copySlot x (hc x hx)) hl).trans ?_
  rw [List.map_id]

theorem t_impl_copyAcceptors (xs : List (List SlotT)) (hl : xs.length ≤ 1048576) (h : ∀ x ∈ xs, accCode x = 0) : m_impl_copyAcceptors xs = some xs := by
  show p_impl_copyAcceptors FU _ = _
  unfold p_impl_copyAcceptors l_impl_copyAcceptors_1
  have hc : ∀ x ∈ xs, m_impl_copyAcceptor x = some (id x) := fun x hx => by
    have hz := accCode_zero (h x hx)
    exact t_impl_copyAcceptor x (by have := hz.1; omega) (fun y hy => by have := (slotCode_zero (hz.2.1 y hy)).2.1; omega)
  refine (grow_loop 24 (by omega) xs m_impl_copyAcceptor id hc hl).trans ?_
  rw [List.map_id]

/-- The place of a slot, and whether it is there. -/
theorem t_impl_Acceptor_slotAt (xs : List SlotT) (c d : Int) (hl : xs.length ≤ 1048576) (h : ∀ i (hi : i + 1 < xs.length), aheadB xs[i] xs[i + 1] = true) :
    ∃ j : Nat, j ≤ xs.length ∧ m_impl_Acceptor_slotAt (xs, c, d) = some ((j : Int), (xs.find? (isSlot c d)).isSome) ∧ ((xs.find? (isSlot c d)).isSome = true → xs[j]? = xs.find? (isSlot c d)) ∧ (∀ i (hi : i < xs.length), i < j → cmpS xs[i] (keyS c d) < 0) ∧ (∀ i (hi : i < xs.length), j ≤ i → ¬ cmpS xs[i] (keyS c d) < 0) := by
  have hlt := acc_lt h
  let p : Nat → Bool := fun i => match xs[i]? with | some x => decide (cmpS x (keyS c d) < 0) | none => false
  have hp : ∀ i (hi : i < xs.length), p i = decide (cmpS xs[i] (keyS c d) < 0) := fun i hi => by simp only [p, List.getElem?_eq_getElem hi]
  have hmono : ∀ i j, i ≤ j → j < xs.length → p j = true → p i = true := by
    intro i j hij hj hpj
    rcases Nat.lt_or_ge i j with h' | h'
    · rw [hp i (by omega)]
      rw [hp j hj] at hpj
      have h1 := of_decide_eq_true hpj
      have h2 := hlt i j h' hj
      exact decide_eq_true ((ahead_iff _ _).1 (ahead_trans h2 ((ahead_iff _ _).2 h1)))
    · have : i = j := by omega
      subst this; exact hpj
  show ∃ j : Nat, j ≤ xs.length ∧ p_impl_Acceptor_slotAt FU _ = _ ∧ _
  unfold p_impl_Acceptor_slotAt l_impl_Acceptor_slotAt_1
  simp only
  obtain ⟨j, hj, e, hj1, hj2⟩ := bs_loop xs.length (by unfold B36; omega) p hmono (step := fun rec13 (z12 : (Int × Int)) =>
     (cond (decide (z12.1 < z12.2))
      (chk (decide (0 ≤ (1 : Int)))
       ((geti xs (IntKind.wrap .i64 (Int.fdiv (IntKind.wrap .u64 (IntKind.wrap .i64 (z12.1 + z12.2))) (2 ^ (min (1 : Int).toNat 64))))).bind fun y14 =>
       ((m_impl_compareSlots (y14, (c, (d, ((0 : Int), (((0 : Int), (0 : Int)), [])))))).bind fun r15 =>
       (cond (decide (r15 < (0 : Int)))
        (rec13 (IntKind.wrap .i64 ((IntKind.wrap .i64 (Int.fdiv (IntKind.wrap .u64 (IntKind.wrap .i64 (z12.1 + z12.2))) (2 ^ (min (1 : Int).toNat 64)))) + (1 : Int)), z12.2))
        (rec13 (z12.1, IntKind.wrap .i64 (Int.fdiv (IntKind.wrap .u64 (IntKind.wrap .i64 (z12.1 + z12.2))) (2 ^ (min (1 : Int).toNat 64)))))))))
      (some z12.1)))
    (fun a b rec hab hb => by
      have hm : (a + b) / 2 < xs.length := by omega
      have hd : decide ((a : Int) < (b : Int)) = true := decide_eq_true (by omega)
      simp only [hd, cond_true, mid_eq (show a ≤ B36 by unfold B36; omega) (show b ≤ B36 by unfold B36; omega), geti_lt xs _ hm, Option.bind_some, t_impl_compareSlots, nxt (show (a + b) / 2 ≤ B36 by unfold B36; omega), hp _ hm]
      rfl)
    (fun a rec => by
      have hd : decide ((a : Int) < (a : Int)) = false := decide_eq_false (by omega)
      simp only [hd, cond_false])
  have e' : lenI xs = ((xs.length : Nat) : Int) := rfl
  rw [e', e]
  simp only [Option.bind_some]
  have hlo : ∀ i (hi : i < xs.length), i < j → cmpS xs[i] (keyS c d) < 0 := fun i hi hij => of_decide_eq_true ((hp i hi).symm.trans (hj1 i hij))
  have hhi : ∀ i (hi : i < xs.length), j ≤ i → ¬ cmpS xs[i] (keyS c d) < 0 := fun i hi hij => of_decide_eq_false ((hp i hi).symm.trans (hj2 i hij hi))
  have hz : ∀ s : SlotT, isSlot c d s = (cmpS s (keyS c d) == 0) := fun s => by
    have h0 := cmpS_zero s (keyS c d)
    unfold isSlot
    rw [Bool.eq_iff_iff, Bool.and_eq_true, beq_iff_eq, beq_iff_eq, beq_iff_eq]
    exact h0.symm
  have hneg : ∀ (i : Nat) (hi : i < xs.length), i < j → isSlot c d xs[i] = false := fun i hi hij => by
    rw [hz, beq_eq_false_iff_ne]
    have := hlo i hi hij
    omega
  refine ⟨j, hj, ?_⟩
  rcases Nat.lt_or_ge j xs.length with hjl | hjl
  · have hd : decide ((j : Int) < (xs.length : Int)) = true := decide_eq_true (by omega)
    rw [hd]
    simp only [cond_true, geti_lt xs j hjl, Option.bind_some, t_impl_compareSlots]
    have hpos : ∀ i (hi : i < xs.length), j < i → isSlot c d xs[i] = false := fun i hi hij => by
      rw [hz, beq_eq_false_iff_ne]
      intro h0
      have h1 := hhi j hjl (Nat.le_refl _)
      have h2 := (ahead_iff _ _).1 (hlt j i hij hi)
      have h3 := (cmpS_zero _ _).1 h0
      have h4 := (cmpS_lt xs[j] xs[i]).1 h2
      have h5 : ¬ (xs[j].1 < (keyS c d).1 ∨ xs[j].1 = (keyS c d).1 ∧ xs[j].2.1 < (keyS c d).2.1) := fun q => h1 ((cmpS_lt xs[j] (keyS c d)).2 q)
      rw [← h3.1, ← h3.2] at h5
      exact h5 h4
    cases hb : isSlot c d xs[j] with
    | true =>
      have hf : xs.find? (isSlot c d) = some xs[j] := by
        rw [List.find?_eq_some_iff_getElem]
        exact ⟨hb, j, hjl, rfl, fun k hk => by rw [hneg k (by omega) hk]; rfl⟩
      rw [hf]
      rw [hz] at hb
      exact ⟨by show some ((j : Int), (cmpS xs[j] (keyS c d) == 0)) = _; rw [hb]; rfl, fun _ => List.getElem?_eq_getElem hjl, hlo, hhi⟩
    | false =>
      have hf : xs.find? (isSlot c d) = none := by
        rw [List.find?_eq_none]
        intro s hs
        obtain ⟨i, hi, rfl⟩ := List.getElem_of_mem hs
        rcases Nat.lt_trichotomy i j with h' | h' | h'
        · rw [hneg i hi h']; decide
        · subst h'; rw [hb]; decide
        · rw [hpos i hi h']; decide
      rw [hf]
      rw [hz] at hb
      exact ⟨by show some ((j : Int), (cmpS xs[j] (keyS c d) == 0)) = _; rw [hb]; rfl, (fun h => by cases h), hlo, hhi⟩
  · have hd : decide ((j : Int) < (xs.length : Int)) = false := decide_eq_false (by omega)
    rw [hd]
    have hf : xs.find? (isSlot c d) = none := by
      rw [List.find?_eq_none]
      intro s hs
      obtain ⟨i, hi, rfl⟩ := List.getElem_of_mem hs
      rw [hneg i hi (by omega)]; decide
    rw [hf]
    exact ⟨rfl, (fun h => by cases h), hlo, hhi⟩

theorem t_impl_Acceptor_slot (xs : List SlotT) (c d : Int) (hl : xs.length ≤ 1048576) (hc : ∀ x ∈ xs, x.2.2.2.2.length ≤ 1048576) (h : ∀ i (hi : i + 1 < xs.length), aheadB xs[i] xs[i + 1] = true) : m_impl_Acceptor_slot (xs, c, d) = some (slotOf xs c d) := by
  obtain ⟨j, hj, e, h1, _⟩ := t_impl_Acceptor_slotAt xs c d hl h
  show p_impl_Acceptor_slot FU _ = _
  unfold p_impl_Acceptor_slot slotOf
  simp only [e, Option.bind_some]
  cases hf : xs.find? (isSlot c d) with
  | none =>
    simp only [Option.isSome_none, Bool.not_false, cond_true, t_impl_newSlot, Option.bind_some, Option.getD_none, newS]
  | some s =>
    rw [hf] at h1
    have hs := List.mem_of_find?_eq_some hf
    simp only [Option.isSome_some, Bool.not_true, cond_false, geti_nat, h1 rfl, Option.bind_some, t_impl_copySlot s (hc s hs), Option.getD_some]

theorem t_impl_PromiseSlot (s : SlotT) (b : Int) : m_impl_PromiseSlot (s, b) = some (promR s b) := by
  show p_impl_PromiseSlot FU _ = _
  unfold p_impl_PromiseSlot promR
  simp only [t_impl_SlotFault, t_impl_isBallot, Option.bind_some]
  cases h : (slotCode s == 0) with
  | false => rfl
  | true =>
    have hl := (slotCode_zero (by simpa using h)).2.1
    cases bal b with
    | false => rfl
    | true =>
      cases decide (b < s.2.2.1) with
      | true => rfl
      | false =>
        simp only [Bool.not_true, cond_false, t_impl_copySlot s (by omega), Option.bind_some]

theorem t_slices_Insert_impl_Slot_impl_Slot (xs : List SlotT) (j : Nat) (s : SlotT) (hj : j ≤ xs.length) (hl : xs.length ≤ 1000) : m_slices_Insert_impl_Slot_impl_Slot (xs, (j : Int), [s]) = some (xs.take j ++ [s] ++ xs.drop j, (true, true)) := by
  have h1 : (decide ((0 : Int) ≤ (j : Int)) && decide ((j : Int) ≤ (xs.length : Int)) && Nat.beq [s].length 1 && Nat.ble ((xs.length + 1) * 64) 140737488355328) = true := by
    have : Nat.ble ((xs.length + 1) * 64) 140737488355328 = true := by rw [Nat.ble_eq]; omega
    rw [this]; simp [hj]
  show (insRun 64 (xs, (j : Int), [s])).map _ = _
  unfold insRun
  simp only [h1, cond_true, Option.map_some, Int.toNat_natCast]

theorem t_impl_Acceptor_promise (xs : List SlotT) (c d : Int) (b : Int) (hl : xs.length ≤ 60) (hc : ∀ x ∈ xs, x.2.2.2.2.length ≤ 1048576) (h : ∀ i (hi : i + 1 < xs.length), aheadB xs[i] xs[i + 1] = true) : m_impl_Acceptor_promise (xs, c, d, b) = some (toldR xs (promR (slotOf xs c d) b)) := by
  show p_impl_Acceptor_promise FU _ = _
  unfold p_impl_Acceptor_promise toldR
  simp only [t_impl_Acceptor_slot xs c d (by omega) hc h, t_impl_PromiseSlot, Option.bind_some]
  cases h0 : ((promR (slotOf xs c d) b).1 == 0) with
  | false => rfl
  | true =>
    have hk := promR_key (slotOf xs c d) b (eq_of_beq h0)
    have hk2 := slotOf_key xs c d
    obtain ⟨j, hj, e, h1, h2, h3⟩ := t_impl_Acceptor_slotAt xs c d (by omega) h
    obtain ⟨p1, p2⟩ := place_found (hk.1.trans hk2.1) (hk.2.trans hk2.2) hj h1 h2 h3
    simp only [Bool.not_true, cond_false, t_impl_copyAcceptor xs (by omega) hc, Option.bind_some, e]
    unfold putS
    rw [p1, p2]
    cases hf : (xs.find? (isSlot c d)).isSome with
    | true =>
      have hjl : j < xs.length := by
        by_cases hjl : j < xs.length
        · exact hjl
        · have h4 := h1 hf
          rw [List.getElem?_eq_none (by omega)] at h4
          rw [← h4] at hf; cases hf
      simp only [cond_true, geti_lt xs j hjl, Option.bind_some, Int.toNat_natCast, List.getElem?_eq_getElem hjl, Option.elim]
    | false =>
      simp only [cond_false]
      by_cases h6 : xs.length ≥ 60
      · have h7 : (lenI xs == (60 : Int)) = true := by rw [lenI_eq, beq_iff_eq]; omega
        simp only [h7, decide_eq_true h6, cond_true, Option.elim, Option.bind_some]
        rfl
      · have h7 : (lenI xs == (60 : Int)) = false := by rw [lenI_eq, beq_eq_false_iff_ne]; omega
        simp only [h7, decide_eq_false h6, cond_false, t_slices_Insert_impl_Slot_impl_Slot xs j _ hj (by omega), Option.bind_some, Option.elim]

theorem t_impl_quorum (n : Nat) (hn : n ≤ B36) : m_impl_quorum (n : Int) = some ((quo n : Nat) : Int) := by
  show p_impl_quorum FU _ = _
  unfold p_impl_quorum quo
  unfold B36 at hn
  have e1 : ((2 : Int) == 0) = false := rfl
  rw [e1, cond_false, Int.tdiv_eq_ediv_of_nonneg (by omega), wrap64 (n := (n : Int) / 2) (by omega) (by omega), wrap64 (by omega) (by omega)]
  rfl

theorem t_impl_PickValue_1 (v : Int × Int) : m_impl_PickValue_1 v = some (badV v) := by
  show p_impl_PickValue_1 FU v = _
  unfold p_impl_PickValue_1 badV
  show (cond (!(v.1 == -1 && (v.2 == 0 && true))) ((m_impl_isVote v).bind fun r2 => some (!r2)) (some false)) = _
  rw [t_impl_isVote]
  cases (v.1 == -1 && (v.2 == 0 && true)) <;> rfl

theorem t_impl_PickValue (xs : List (Int × Int)) (own : Int) : m_impl_PickValue (xs, own) = some (pickV xs own) := by
  show p_impl_PickValue FU _ = _
  unfold p_impl_PickValue pickV
  by_cases hl : xs.length > 9
  · have : decide (lenI xs > 9) = true := by simp [lenI_eq]; omega
    simp only [this, cond_true, if_pos hl]
  · have : decide (lenI xs > 9) = false := by simp [lenI_eq]; omega
    simp only [this, cond_false, if_neg hl]
    have e1 : l_impl_PickValue_1 FU xs 0 = match xs.findIdx? badV with
        | some i => some (i : Int)
        | none => some (-1) := by
      unfold l_impl_PickValue_1
      refine lp_place xs badV (fun i => some (i : Int)) (some (-1)) (by unfold B36; omega) (fun i hi rec hw => ?_) (fun rec => ?_)
      · simp only [lt_lenI hi, cond_true, geti_lt xs i hi, Option.bind_some, t_impl_PickValue_1, hw]
      · simp only [ge_lenI, cond_false]
    have e2 : ∀ s, l_impl_PickValue_2 FU xs ((0 : Int), s) = some ((0 : Int), (xs.foldl bestV s).2) := by
      intro s
      unfold l_impl_PickValue_2
      refine lp_fold xs bestV (fun i s => ((i : Int), s)) (fun s => some ((0 : Int), s.2)) (by unfold B36; omega) (fun i hi s rec hw => ?_) (fun s rec => ?_) s
      · simp only [lt_lenI hi, cond_true, geti_lt xs i hi, Option.bind_some, hw, bestV]
        by_cases hh : xs[i].1 > s.1 <;> simp [hh]
      · simp only [ge_lenI, cond_false]
    rw [e1]
    have e3 : xs.any badV = (xs.findIdx? badV).isSome := by simp
    cases hf : xs.findIdx? badV with
    | some i =>
      rw [e3, hf]
      have : decide ((i : Int) ≥ 0) = true := by simp
      simp only [Option.bind_some, this, cond_true, Option.isSome_some, Bool.true_or, if_true]
    | none =>
      rw [e3, hf]
      have : decide ((-1 : Int) ≥ 0) = false := by decide
      simp only [Option.bind_some, this, cond_false, Option.isSome_none, Bool.false_or, t_impl_isValue]
      cases vlu own with
      | false => simp
      | true => simp [e2]

theorem t_impl_AcceptSlot (s : SlotT) (v : Int × Int) : m_impl_AcceptSlot (s, v) = some (accR s v) := by
  show p_impl_AcceptSlot FU _ = _
  unfold p_impl_AcceptSlot accR
  simp only [t_impl_SlotFault, t_impl_isVote, Option.bind_some]
  cases h : (slotCode s == 0) with
  | false => rfl
  | true =>
    have hl := (slotCode_zero (by simpa using h)).2.1
    have hb : Nat.ble ((s.2.2.2.2.length + [v].length) * 16) maxBytes = true := ble_mem (by simp only [List.length_cons, List.length_nil, maxBytes]; omega)
    have h6 : (lenI s.2.2.2.2 == 60) = decide (s.2.2.2.2.length ≥ 60) := by
      rw [lenI_eq]
      by_cases h7 : s.2.2.2.2.length ≥ 60
      · have : s.2.2.2.2.length = 60 := by omega
        simp [this]
      · have : ¬ (s.2.2.2.2.length : Int) = 60 := by omega
        simp [this, h7]
    simp only [t_impl_copySlot s (by omega), Option.bind_some, Bool.not_true, cond_false, chk_true hb, h6]
    cases votB v with
    | false => rfl
    | true =>
      cases decide (v.1 < s.2.2.1) with
      | true => rfl
      | false =>
        cases (v.1 == s.2.2.2.1.1) <;> cases (v.2 == s.2.2.2.1.2) <;> cases decide (s.2.2.2.2.length ≥ 60) <;> rfl

theorem t_impl_Acceptor_accept (xs : List SlotT) (c d : Int) (b : Int × Int) (hl : xs.length ≤ 60) (hc : ∀ x ∈ xs, x.2.2.2.2.length ≤ 1048576) (h : ∀ i (hi : i + 1 < xs.length), aheadB xs[i] xs[i + 1] = true) : m_impl_Acceptor_accept (xs, c, d, b) = some (toldR xs (accR (slotOf xs c d) b)) := by
  show p_impl_Acceptor_accept FU _ = _
  unfold p_impl_Acceptor_accept toldR
  simp only [t_impl_Acceptor_slot xs c d (by omega) hc h, t_impl_AcceptSlot, Option.bind_some]
  cases h0 : ((accR (slotOf xs c d) b).1 == 0) with
  | false => rfl
  | true =>
    have hk := accR_key (slotOf xs c d) b (eq_of_beq h0)
    have hk2 := slotOf_key xs c d
    obtain ⟨j, hj, e, h1, h2, h3⟩ := t_impl_Acceptor_slotAt xs c d (by omega) h
    obtain ⟨p1, p2⟩ := place_found (hk.1.trans hk2.1) (hk.2.trans hk2.2) hj h1 h2 h3
    simp only [Bool.not_true, cond_false, t_impl_copyAcceptor xs (by omega) hc, Option.bind_some, e]
    unfold putS
    rw [p1, p2]
    cases hf : (xs.find? (isSlot c d)).isSome with
    | true =>
      have hjl : j < xs.length := by
        by_cases hjl : j < xs.length
        · exact hjl
        · have h4 := h1 hf
          rw [List.getElem?_eq_none (by omega)] at h4
          rw [← h4] at hf; cases hf
      simp only [cond_true, geti_lt xs j hjl, Option.bind_some, Int.toNat_natCast, List.getElem?_eq_getElem hjl, Option.elim]
    | false =>
      simp only [cond_false]
      by_cases h6 : xs.length ≥ 60
      · have h7 : (lenI xs == (60 : Int)) = true := by rw [lenI_eq, beq_iff_eq]; omega
        simp only [h7, decide_eq_true h6, cond_true, Option.elim, Option.bind_some]
        rfl
      · have h7 : (lenI xs == (60 : Int)) = false := by rw [lenI_eq, beq_eq_false_iff_ne]; omega
        simp only [h7, decide_eq_false h6, cond_false, t_slices_Insert_impl_Slot_impl_Slot xs j _ hj (by omega), Option.bind_some, Option.elim]

theorem t_impl_RunBallot_p (accs : List (List SlotT)) (rs : List Int) (c d b : Int) (hl : rs.length ≤ 1048576) (hok : AccsOK accs.length accs) (hin : ∀ y ∈ rs, 0 ≤ y ∧ y < (accs.length : Int)) (hnz : (newR c d).1 = 0) :
    l_impl_RunBallot_1 FU rs c d b (([] : List Int), ([] : List (Int × Int)), (0 : Int), accs) = some (promAll accs rs c d b) ∧ PI accs.length rs rs.length (promAll accs rs c d b) := by
  unfold l_impl_RunBallot_1 promAll
  refine lp_foldI rs (promStep c d b) (fun i (st : BSt) => (st.1, st.2.1, (i : Int), st.2.2)) (fun st => some (st.1, st.2.1, st.2.2)) (PI accs.length rs) (by unfold B36; omega) ([], ([], accs)) ⟨hok, Nat.le_refl _, rfl, (fun y hy => by cases hy), fun v hv => by cases hv⟩ (fun i hi st hI => ⟨hI.step hi c d b, fun rec => ?_⟩) (fun st hI rec => ?_)
  · obtain ⟨k, hk⟩ := Int.eq_ofNat_of_zero_le (hin _ (List.getElem_mem hi)).1
    have hk2 := (hin _ (List.getElem_mem hi)).2
    have hkl : k < st.2.2.length := by rw [hI.ok.1]; rw [hk] at hk2; omega
    have hac := hI.ok.2 _ (List.getElem_mem hkl)
    have hw : IntKind.wrap .i64 ((i : Int) + 1) = ((i + 1 : Nat) : Int) := wrap_next hi hl
    have c1 : Nat.ble ((st.1.length + [((k : Nat) : Int)].length) * 8) maxBytes = true := by rw [Nat.ble_eq]; simp only [List.length_cons, List.length_nil, maxBytes]; have := hI.len; omega
    have em : m_impl_Acceptor_promise (st.2.2[k], c, d, b) = some (toldR st.2.2[k] (promR (slotOf st.2.2[k] c d) b)) := by
      have hz := accCode_zero hac
      exact t_impl_Acceptor_promise st.2.2[k] c d b hz.1 (fun y hy => by have := (slotCode_zero (hz.2.1 y hy)).2.1; omega) hz.2.2
    have c2 : Nat.ble ((st.2.1.length + [(toldR st.2.2[k] (promR (slotOf st.2.2[k] c d) b)).2.1].length) * 16) maxBytes = true := by rw [Nat.ble_eq]; simp only [List.length_cons, List.length_nil, maxBytes]; have := hI.len; have := hI.vlen; omega
    unfold promStep
    simp only [lt_lenI hi, cond_true, geti_lt rs i hi, Option.bind_some, hk, geti_lt _ k hkl, Int.toNat_natCast, List.getElem?_eq_getElem hkl, Option.elim, em, hw, chk, c1, c2, dup_eq]
    cases (toldR st.2.2[k] (promR (slotOf st.2.2[k] c d) b)).1 == 0 <;> rfl
  · simp only [ge_lenI, cond_false]
theorem t_impl_RunBallot_v (N : Nat) (ids : List Int) (accs : List (List SlotT)) (c d b v : Int) (hl : ids.length ≤ 1048576) (hok : AccsOK N accs) (hin : ∀ y ∈ ids, 0 ≤ y ∧ y < (N : Int)) (hnz : (newR c d).1 = 0) :
    l_impl_RunBallot_2 FU ids c d b v ((0 : Int), accs) = some ((0 : Int), (v, ids.foldl (voteStep c d (b, v)) accs)) := by
  unfold l_impl_RunBallot_2
  refine (lp_foldI ids (voteStep c d (b, v)) (fun i (s : List (List SlotT)) => ((i : Int), s)) (fun s => some ((0 : Int), (v, s))) (fun _ s => AccsOK N s) (by unfold B36; omega) accs hok (fun i hi s hI => ⟨voteStep_ok hI c d (b, v) _, fun rec => ?_⟩) (fun s hI rec => ?_)).1
  · obtain ⟨k, hk⟩ := Int.eq_ofNat_of_zero_le (hin _ (List.getElem_mem hi)).1
    have hk2 := (hin _ (List.getElem_mem hi)).2
    have hkl : k < s.length := by rw [hI.1]; rw [hk] at hk2; omega
    have hac := hI.2 _ (List.getElem_mem hkl)
    have hw : IntKind.wrap .i64 ((i : Int) + 1) = ((i + 1 : Nat) : Int) := wrap_next hi hl
    have em : m_impl_Acceptor_accept (s[k], c, d, b, v) = some (toldR s[k] (accR (slotOf s[k] c d) (b, v))) := by
      have hz := accCode_zero hac
      exact t_impl_Acceptor_accept s[k] c d (b, v) hz.1 (fun y hy => by have := (slotCode_zero (hz.2.1 y hy)).2.1; omega) hz.2.2
    unfold voteStep
    simp only [lt_lenI hi, cond_true, geti_lt ids i hi, Option.bind_some, Int.toNat_natCast, List.getElem?_eq_getElem hi, hk, geti_lt _ k hkl, List.getElem?_eq_getElem hkl, Option.elim, em, hw, dup_eq]
    cases (toldR s[k] (accR (slotOf s[k] c d) (b, v))).1 == 0 <;> rfl
  · simp only [ge_lenI, cond_false]
theorem t_impl_RunBallot (accs : List (List SlotT)) (rs : List Int) (c d b v : Int) (hA : accs.length ≤ 1048576) (hl : rs.length ≤ 1048576) : m_impl_RunBallot (accs, rs, c, d, b, v) = some (runR accs rs c d b v) := by
  show p_impl_RunBallot FU _ = _
  unfold p_impl_RunBallot runR
  simp only [t_impl_listFault accs hA, t_impl_NewSlot, t_impl_firstOf, Option.bind_some]
  cases h0 : ((if accsCode accs = 0 then (newR c d).1 else accsCode accs) == 0) with
  | false => rfl
  | true =>
    have h0 := eq_of_beq h0
    have ha0 : accsCode accs = 0 := by
      by_cases hz : accsCode accs = 0
      · exact hz
      · rw [if_neg hz] at h0; exact absurd h0 hz
    rw [if_pos ha0] at h0
    have h4 := accsCode_zero ha0
    have hok : AccsOK accs.length accs := ⟨rfl, h4.2⟩
    simp only [Bool.not_true, cond_false, t_impl_isBallot, t_impl_isValue, Option.bind_some]
    cases hb : bal b with
    | false => rfl
    | true =>
      cases hv : vlu v with
      | false => rfl
      | true =>
        have es : m_impl_size_impl_Acceptor accs = some ((accs.length : Nat) : Int) := rfl
        have er := t_impl_reachedFault rs accs.length hl hA
        simp only [Bool.not_true, cond_false, Option.bind_some, Bool.and_self, es, er]
        cases hr : (reachC accs.length rs == 0) with
        | false => rfl
        | true =>
          have hrz := eq_of_beq hr
          obtain ⟨hin, hup⟩ := reach_zero hrz
          have hlen := up_len hup hin
          obtain ⟨e3, hPI⟩ := t_impl_RunBallot_p accs rs c d b hl hok hin h0
          have hq := t_impl_quorum accs.length (by unfold B36; omega)
          have e5 : m_impl_quorum (lenI accs) = some ((quo accs.length : Nat) : Int) := hq
          have hvl : (promAll accs rs c d b).2.1.length ≤ 9 := by have := hPI.len; have := hPI.vlen; have := h4.1; omega
          have e6 := t_impl_PickValue (promAll accs rs c d b).2.1 v
          have ep := pickV_eq (st := promAll accs rs c d b) hvl hPI.vok hv
          have e7 := t_impl_RunBallot_v accs.length (promAll accs rs c d b).1 (promAll accs rs c d b).2.2 c d b (pickOf (promAll accs rs c d b) v) (by have := hPI.len; omega) hPI.ok (fun y hy => hin y (hPI.mem y hy)) h0
          simp only [Bool.not_true, cond_false, Option.bind_some, t_impl_copyAcceptors accs hA h4.2, e3, e5, e6, ep, e7]
          have hd : decide (lenI (promAll accs rs c d b).1 < ((quo accs.length : Nat) : Int)) = decide ((promAll accs rs c d b).1.length < quo accs.length) := by
            rw [lenI_eq]
            by_cases h : (promAll accs rs c d b).1.length < quo accs.length
            · rw [decide_eq_true h, decide_eq_true (by omega)]
            · rw [decide_eq_false h, decide_eq_false (by omega)]
          rw [hd]
          cases decide ((promAll accs rs c d b).1.length < quo accs.length) <;> rfl

theorem t_laws_eqVote (a : Int × Int) : m_laws_eqVote (a, a) = some true := by
  show p_laws_eqVote FU _ = _
  unfold p_laws_eqVote
  simp

theorem t_laws_eqVoteS (xs : List (Int × Int)) (hl : xs.length ≤ 1048576) : m_laws_eqVoteS (xs, xs) = some true := by
  show p_laws_eqVoteS FU _ = _
  unfold p_laws_eqVoteS
  simp only [beq_self_eq_true, Bool.not_true, cond_false]
  exact eq_loop xs m_laws_eqVote (fun x hx => t_laws_eqVote x) hl

theorem t_laws_eqSlot (x : SlotT) (h : x.2.2.2.2.length ≤ 1048576) : m_laws_eqSlot (x, x) = some true := by
  show p_laws_eqSlot FU _ = _
  unfold p_laws_eqSlot
  simp only [beq_self_eq_true, Bool.not_true, cond_false, t_laws_eqVote, t_laws_eqVoteS _ h, Option.bind_some]

theorem t_laws_eqSlotS (xs : List SlotT) (hl : xs.length ≤ 1048576) (h : ∀ x ∈ xs, x.2.2.2.2.length ≤ 1048576) : m_laws_eqSlotS (xs, xs) = some true := by
  show p_laws_eqSlotS FU _ = _
  unfold p_laws_eqSlotS
  simp only [beq_self_eq_true, Bool.not_true, cond_false]
  exact eq_loop xs m_laws_eqSlot (fun x hx => t_laws_eqSlot x (h x hx)) hl

theorem t_laws_heldVoteS (xs : List (Int × Int)) (k : Int) (hl : xs.length ≤ B36) (h0 : 0 ≤ k) (hk : k + 2 * xs.length ≤ B40) : m_laws_heldVoteS (markAll 2 mkVote k xs, k) = some (k + 2 * xs.length) := by
  show p_laws_heldVoteS FU _ = _
  unfold p_laws_heldVoteS l_laws_heldVoteS_1
  exact held_VoteS xs k hl h0 hk

theorem foldV {N : Nat} (c d : Int) (v : VoteT) : ∀ (ids : List Int) (accs : List (List SlotT)), AccsOK N accs → AccsOK N (ids.foldl (voteStep c d v) accs)
  | [], _, h => h
  | y :: ids, accs, h => foldV c d v ids _ (voteStep_ok h c d v y)
theorem w_accs {N : Nat} (hN : N ≤ 5) {accs : List (List SlotT)} (h : AccsOK N accs) : W_AcceptorS accs ≤ 20000 := by
  have h1 : ∀ a ∈ accs, W_Acceptor a ≤ 3660 := fun a ha => by
    have hz := accCode_zero (h.2 a ha)
    have h3 : wsum W_Slot a ≤ 60 * a.length := wsum_bnd W_Slot 60 a (fun y hy => (slotCode_zero (hz.2.1 y hy)).2.1)
    unfold W_Acceptor W_SlotS
    have := hz.1
    omega
  have h2 : wsum W_Acceptor accs ≤ 3660 * accs.length := wsum_bnd W_Acceptor 3660 accs h1
  unfold W_AcceptorS
  have := h.1
  omega
theorem w_runR (accs : List (List SlotT)) (rs : List Int) (c d b v : Int) (hl : rs.length ≤ 1048576) : W_AcceptorS (runR accs rs c d b v).2.2 ≤ 20000 := by
  have zero : W_AcceptorS ([] : List (List SlotT)) ≤ 20000 := w_accs (N := 0) (by omega) ⟨rfl, fun a ha => by cases ha⟩
  unfold runR
  cases h0 : ((if accsCode accs = 0 then (newR c d).1 else accsCode accs) == 0) with
  | false => exact zero
  | true =>
    have h0 := eq_of_beq h0
    have ha0 : accsCode accs = 0 := by
      by_cases hz : accsCode accs = 0
      · exact hz
      · rw [if_neg hz] at h0; exact absurd h0 hz
    rw [if_pos ha0] at h0
    have h4 := accsCode_zero ha0
    have hok : AccsOK accs.length accs := ⟨rfl, h4.2⟩
    simp only [Bool.not_true, cond_false]
    cases bal b && vlu v with
    | false => exact zero
    | true =>
      simp only [Bool.not_true, cond_false]
      cases hr : (reachC accs.length rs == 0) with
      | false => exact zero
      | true =>
        obtain ⟨hin, hup⟩ := reach_zero (eq_of_beq hr)
        obtain ⟨_, hPI⟩ := t_impl_RunBallot_p accs rs c d b hl hok hin h0
        simp only [Bool.not_true, cond_false]
        cases decide ((promAll accs rs c d b).1.length < quo accs.length) with
        | true => exact w_accs h4.1 hPI.ok
        | false => exact w_accs h4.1 (foldV c d _ _ _ hPI.ok)
theorem law_laws_FnExactRunBallot (x : List (List SlotT) × (List Int × (Int × (Int × (Int × Int))))) (h : WFs S_laws_FnExactRunBallot.ps x) : m_laws_FnExactRunBallot x = some true := by
  obtain ⟨accs, rs, c, d, b, v⟩ := x
  have hB : B40 = 1099511627776 := rfl
  show p_laws_FnExactRunBallot FU _ = _
  unfold p_laws_FnExactRunBallot
  by_cases hlr : rs.length > 1048576
  · have : decide (lenI rs > (1048576 : Int)) = true := decide_eq_true (by rw [lenI_eq]; omega)
    simp only [this, cond_true]
  · have hl : rs.length ≤ 1048576 := by omega
    have dl : decide (lenI rs > (1048576 : Int)) = false := decide_eq_false (by rw [lenI_eq]; omega)
    rcases z_laws_szAcceptorS accs h.1 1048576 (by omega) (by omega) with e1 | ⟨e1, b1⟩
    · simp only [dl, e1, Option.bind_some, cond_false]; rfl
    · have hW : W_AcceptorS accs ≤ 1048576 := by omega
      have hA : accs.length ≤ 1048576 := by unfold W_AcceptorS at hW; omega
      have hWr : W_Int64S rs ≤ 1048576 := hl
      have d1 : decide ((1048576 : Int) - (W_AcceptorS accs : Int) < 0) = false := decide_eq_false (by omega)
      have hw := w_runR accs rs c d b v hl
      have e2 := t_spec_RunBallot accs rs c d b v hA hl
      have e3 := t_impl_RunBallot accs rs c d b v hA hl
      have e4 := eq_laws_eqAcceptorsResult (runR accs rs c d b v) (by show W_AcceptorS (runR accs rs c d b v).2.2 ≤ 1048576; omega)
      have v1 := vb_AcceptorS accs
      have v2 := vb_AcceptorS (runR accs rs c d b v).2.2
      have v3 := vb_Int64S rs
      obtain ⟨L1, _, m1, _⟩ := mh_AcceptorS accs 1 hW (by omega) (by omega)
      obtain ⟨L3, _, m3⟩ := mk_Int64S rs (1 + (V_AcceptorS accs : Int)) hWr (by omega) (by omega)
      obtain ⟨L2, _, m2, q2⟩ := mh_AcceptorS (runR accs rs c d b v).2.2 1 (by omega) (by omega) (by omega)
      have q4 : m_laws_heldAcceptorsResult (((runR accs rs c d b v).1, ((runR accs rs c d b v).2.1, L2)), (1 : Int)) = some (1 + (V_AcceptorS (runR accs rs c d b v).2.2 : Int)) := h_laws_heldAcceptorsResult ((runR accs rs c d b v).1, ((runR accs rs c d b v).2.1, L2)) 1 _ q2 (by omega)
      have d2 : decide (1 + (V_AcceptorS accs : Int) + (V_Int64S rs : Int) < 0) = false := decide_eq_false (by omega)
      have d3 : decide (1 + (V_AcceptorS (runR accs rs c d b v).2.2 : Int) < 0) = false := decide_eq_false (by omega)
      simp only [dl, e1, d1, cond_false, Option.bind_some, o_laws_toAcceptorS accs hW, o_laws_toInt64S rs hWr, e2, e3, e4, eq_laws_eqAcceptorS accs hW, eq_laws_eqInt64S rs hWr, Bool.not_true, m1, m3, d2, m2, q4, d3, beq_self_eq_true]
end Go.RvP
