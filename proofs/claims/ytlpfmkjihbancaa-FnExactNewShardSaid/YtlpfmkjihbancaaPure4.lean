/- The plain law: spec and program answer alike, for FnExactNewShard. Condition: the data are such as can come in. -/
import Derived.Test.YtlpfmkjihbancaaRvP4
import Derived.Test.YtlpfmkjihbancaaRvM
namespace Go.RvP
open Go.Rv
def W_BalanceS (xs : (List (Int × (Int × Int)))) : Nat := xs.length

theorem z_laws_szBalanceS (xs : (List (Int × (Int × Int)))) (h : WFk (.sl none (.pair (.int .i64) (.pair (.int .i64) (.int .i64)))) xs) : SZ m_laws_szBalanceS W_BalanceS xs := szf xs h.1

theorem o_laws_toBalance (x : (Int × (Int × Int))) : m_laws_toBalance x = some x := by
  show p_laws_toBalance FU _ = _
  unfold p_laws_toBalance
  rfl

theorem o_laws_toBalanceS (xs : (List (Int × (Int × Int)))) (h : W_BalanceS xs ≤ 1048576) : m_laws_toBalanceS xs = some xs := by
  unfold W_BalanceS at h
  show p_laws_toBalanceS FU xs = _
  unfold p_laws_toBalanceS
  rw [if_pos rfl, if_pos (by simp [lenI_eq])]
  have hb : Nat.ble (24 * (lenI xs).toNat) maxBytes = true := by rw [Nat.ble_eq]; simp only [lenI_eq, Int.toNat_natCast, maxBytes]; omega
  rw [chk_true hb]
  exact copy_loop2 xs _ m_laws_toBalance (fun x _ => o_laws_toBalance x) (by omega)

theorem eq_laws_eqBalance (x : (Int × (Int × Int))) : m_laws_eqBalance (x, x) = some true := by
  show p_laws_eqBalance FU _ = _
  unfold p_laws_eqBalance
  simp only [beq_self_eq_true, Bool.not_true, cond_false]

theorem eq_laws_eqBalanceS (xs : (List (Int × (Int × Int)))) (h : W_BalanceS xs ≤ 1048576) : m_laws_eqBalanceS (xs, xs) = some true := by
  unfold W_BalanceS at h
  show p_laws_eqBalanceS FU _ = _
  unfold p_laws_eqBalanceS
  simp only [beq_self_eq_true, Bool.not_true, cond_false]
  exact eq_loop xs m_laws_eqBalance (fun x _ => eq_laws_eqBalance x) (by omega)

theorem eq_laws_eqMark (x : (Int × Int)) : m_laws_eqMark (x, x) = some true := by
  show p_laws_eqMark FU _ = _
  unfold p_laws_eqMark
  simp only [beq_self_eq_true, Bool.not_true, cond_false]

def W_MarkS (xs : (List (Int × Int))) : Nat := xs.length

theorem eq_laws_eqMarkS (xs : (List (Int × Int))) (h : W_MarkS xs ≤ 1048576) : m_laws_eqMarkS (xs, xs) = some true := by
  unfold W_MarkS at h
  show p_laws_eqMarkS FU _ = _
  unfold p_laws_eqMarkS
  simp only [beq_self_eq_true, Bool.not_true, cond_false]
  exact eq_loop xs m_laws_eqMark (fun x _ => eq_laws_eqMark x) (by omega)

theorem eq_laws_eqLeg (x : (Int × (Int × (Int × Int)))) : m_laws_eqLeg (x, x) = some true := by
  show p_laws_eqLeg FU _ = _
  unfold p_laws_eqLeg
  simp only [beq_self_eq_true, Bool.not_true, cond_false]

def W_LegS (xs : (List (Int × (Int × (Int × Int))))) : Nat := xs.length

theorem eq_laws_eqLegS (xs : (List (Int × (Int × (Int × Int))))) (h : W_LegS xs ≤ 1048576) : m_laws_eqLegS (xs, xs) = some true := by
  unfold W_LegS at h
  show p_laws_eqLegS FU _ = _
  unfold p_laws_eqLegS
  simp only [beq_self_eq_true, Bool.not_true, cond_false]
  exact eq_loop xs m_laws_eqLeg (fun x _ => eq_laws_eqLeg x) (by omega)

def W_Contract (x : (Int × (List (Int × (Int × (Int × Int)))))) : Nat := W_LegS x.2

theorem eq_laws_eqContract (x : (Int × (List (Int × (Int × (Int × Int)))))) (h : W_Contract x ≤ 1048576) : m_laws_eqContract (x, x) = some true := by
  unfold W_Contract at h
  show p_laws_eqContract FU _ = _
  unfold p_laws_eqContract
  simp only [beq_self_eq_true, Bool.not_true, cond_false, eq_laws_eqLegS x.2 (by omega), Option.bind_some]

def W_ContractS (xs : (List (Int × (List (Int × (Int × (Int × Int))))))) : Nat := xs.length + wsum W_Contract xs

theorem eq_laws_eqContractS (xs : (List (Int × (List (Int × (Int × (Int × Int))))))) (h : W_ContractS xs ≤ 1048576) : m_laws_eqContractS (xs, xs) = some true := by
  unfold W_ContractS at h
  show p_laws_eqContractS FU _ = _
  unfold p_laws_eqContractS
  simp only [beq_self_eq_true, Bool.not_true, cond_false]
  exact eq_loop xs m_laws_eqContract (fun x hx => eq_laws_eqContract x (by have := wsum_mem W_Contract xs x hx; omega)) (by omega)

def W_Int64S (xs : (List Int)) : Nat := xs.length

theorem eq_laws_eqInt64S (xs : (List Int)) (h : W_Int64S xs ≤ 1048576) : m_laws_eqInt64S (xs, xs) = some true := by
  unfold W_Int64S at h
  show p_laws_eqInt64S FU _ = _
  unfold p_laws_eqInt64S
  simp only [beq_self_eq_true, Bool.not_true, cond_false]
  exact eq_flat xs (by omega)

def W_Shard (x : (Int × ((List (Int × (Int × Int))) × ((List (Int × Int)) × ((List (Int × (List (Int × (Int × (Int × Int)))))) × ((List (Int × Int)) × (List Int))))))) : Nat := W_BalanceS x.2.1 + W_MarkS x.2.2.1 + W_ContractS x.2.2.2.1 + W_MarkS x.2.2.2.2.1 + W_Int64S x.2.2.2.2.2

theorem eq_laws_eqShard (x : (Int × ((List (Int × (Int × Int))) × ((List (Int × Int)) × ((List (Int × (List (Int × (Int × (Int × Int)))))) × ((List (Int × Int)) × (List Int))))))) (h : W_Shard x ≤ 1048576) : m_laws_eqShard (x, x) = some true := by
  unfold W_Shard at h
  show p_laws_eqShard FU _ = _
  unfold p_laws_eqShard
  simp only [beq_self_eq_true, Bool.not_true, cond_false, eq_laws_eqBalanceS x.2.1 (by omega), eq_laws_eqMarkS x.2.2.1 (by omega), eq_laws_eqContractS x.2.2.2.1 (by omega), eq_laws_eqMarkS x.2.2.2.2.1 (by omega), eq_laws_eqInt64S x.2.2.2.2.2 (by omega), Option.bind_some]

def W_ShardResult (x : (Int × (Int × (Int × ((List (Int × (Int × Int))) × ((List (Int × Int)) × ((List (Int × (List (Int × (Int × (Int × Int)))))) × ((List (Int × Int)) × (List Int))))))))) : Nat := W_Shard x.2.2

theorem eq_laws_eqShardResult (x : (Int × (Int × (Int × ((List (Int × (Int × Int))) × ((List (Int × Int)) × ((List (Int × (List (Int × (Int × (Int × Int)))))) × ((List (Int × Int)) × (List Int))))))))) (h : W_ShardResult x ≤ 1048576) : m_laws_eqShardResult (x, x) = some true := by
  unfold W_ShardResult at h
  show p_laws_eqShardResult FU _ = _
  unfold p_laws_eqShardResult
  simp only [beq_self_eq_true, Bool.not_true, cond_false, eq_laws_eqShard x.2.2 (by omega), Option.bind_some]

def V_Balance (_ : (Int × (Int × Int))) : Nat := 3

def V_BalanceS (xs : (List (Int × (Int × Int)))) : Nat := wsum V_Balance xs

theorem vb_BalanceS (xs : (List (Int × (Int × Int)))) : V_BalanceS xs ≤ 3 * W_BalanceS xs := wsum_bnd V_Balance 3 xs (fun x _ => by unfold V_Balance; omega)

theorem mh_BalanceS (xs : (List (Int × (Int × Int)))) (k : Int) (hW : W_BalanceS xs ≤ 1048576) (h0 : 0 ≤ k) (hk : k + (V_BalanceS xs : Int) ≤ B40) : ∃ L : (List (Int × (Int × Int))), L.length = xs.length ∧ m_laws_markBalanceS (xs, k) = some (k + (V_BalanceS xs : Int), L) ∧ m_laws_heldBalanceS (L, k) = some (k + (V_BalanceS xs : Int)) := by
  unfold W_BalanceS at hW
  have hB : B40 = 1099511627776 := rfl
  show ∃ L : (List (Int × (Int × Int))), _ ∧ p_laws_markBalanceS FU (xs, k) = _ ∧ p_laws_heldBalanceS FU (L, k) = _
  unfold p_laws_markBalanceS l_laws_markBalanceS_1 p_laws_heldBalanceS l_laws_heldBalanceS_1
  dsimp only
  refine mark_held V_Balance xs k (by unfold B36; omega) h0 hk (fun i k x hx hi h0 hk hw => ?_) (fun k L rec => ?_) (fun k L rec => ?_)
  · have hx := True.intro
    unfold V_Balance at hk ⊢
    have w1 : IntKind.wrap .i64 (k + 1) = k + 1 := wrap64 (by omega) (by omega)
    have w2 : IntKind.wrap .i64 (k + 1 + 1) = k + 1 + 1 := wrap64 (by omega) (by omega)
    have w3 : IntKind.wrap .i64 (k + 1 + 1 + 1) = k + 1 + 1 + 1 := wrap64 (by omega) (by omega)
    have ew : k + ((3 : Nat) : Int) = k + 1 + 1 + 1 := by omega
    rw [ew]
    refine ⟨(k, (k + 1, k + 1 + 1)), fun L hL g1 g2 rec => ?_, fun L hL g1 rec => ?_⟩
    · simp only [lt_lenI hL, cond_true, g1, g2, Option.bind_some, Int.toNat_natCast, geti_set hL, gets_set hL, List.set_set, w1, w2, w3, hw]
    · simp only [lt_lenI hL, cond_true, g1, Option.bind_some, beq_self_eq_true, Bool.not_true, cond_false, w1, w2, w3, hw]
  · simp only [ge_lenI, cond_false]
  · simp only [ge_lenI, cond_false]

def V_Mark (_ : (Int × Int)) : Nat := 2

def V_MarkS (xs : (List (Int × Int))) : Nat := wsum V_Mark xs

theorem vb_MarkS (xs : (List (Int × Int))) : V_MarkS xs ≤ 2 * W_MarkS xs := wsum_bnd V_Mark 2 xs (fun x _ => by unfold V_Mark; omega)

theorem mh_MarkS (xs : (List (Int × Int))) (k : Int) (hW : W_MarkS xs ≤ 1048576) (h0 : 0 ≤ k) (hk : k + (V_MarkS xs : Int) ≤ B40) : ∃ L : (List (Int × Int)), L.length = xs.length ∧ m_laws_markMarkS (xs, k) = some (k + (V_MarkS xs : Int), L) ∧ m_laws_heldMarkS (L, k) = some (k + (V_MarkS xs : Int)) := by
  unfold W_MarkS at hW
  have hB : B40 = 1099511627776 := rfl
  show ∃ L : (List (Int × Int)), _ ∧ p_laws_markMarkS FU (xs, k) = _ ∧ p_laws_heldMarkS FU (L, k) = _
  unfold p_laws_markMarkS l_laws_markMarkS_1 p_laws_heldMarkS l_laws_heldMarkS_1
  dsimp only
  refine mark_held V_Mark xs k (by unfold B36; omega) h0 hk (fun i k x hx hi h0 hk hw => ?_) (fun k L rec => ?_) (fun k L rec => ?_)
  · have hx := True.intro
    unfold V_Mark at hk ⊢
    have w1 : IntKind.wrap .i64 (k + 1) = k + 1 := wrap64 (by omega) (by omega)
    have w2 : IntKind.wrap .i64 (k + 1 + 1) = k + 1 + 1 := wrap64 (by omega) (by omega)
    have ew : k + ((2 : Nat) : Int) = k + 1 + 1 := by omega
    rw [ew]
    refine ⟨(k, k + 1), fun L hL g1 g2 rec => ?_, fun L hL g1 rec => ?_⟩
    · simp only [lt_lenI hL, cond_true, g1, g2, Option.bind_some, Int.toNat_natCast, geti_set hL, gets_set hL, List.set_set, w1, w2, hw]
    · simp only [lt_lenI hL, cond_true, g1, Option.bind_some, beq_self_eq_true, Bool.not_true, cond_false, w1, w2, hw]
  · simp only [ge_lenI, cond_false]
  · simp only [ge_lenI, cond_false]

def V_Leg (_ : (Int × (Int × (Int × Int)))) : Nat := 4

def V_LegS (xs : (List (Int × (Int × (Int × Int))))) : Nat := wsum V_Leg xs

theorem vb_LegS (xs : (List (Int × (Int × (Int × Int))))) : V_LegS xs ≤ 4 * W_LegS xs := wsum_bnd V_Leg 4 xs (fun x _ => by unfold V_Leg; omega)

theorem mh_LegS (xs : (List (Int × (Int × (Int × Int))))) (k : Int) (hW : W_LegS xs ≤ 1048576) (h0 : 0 ≤ k) (hk : k + (V_LegS xs : Int) ≤ B40) : ∃ L : (List (Int × (Int × (Int × Int)))), L.length = xs.length ∧ m_laws_markLegS (xs, k) = some (k + (V_LegS xs : Int), L) ∧ m_laws_heldLegS (L, k) = some (k + (V_LegS xs : Int)) := by
  unfold W_LegS at hW
  have hB : B40 = 1099511627776 := rfl
  show ∃ L : (List (Int × (Int × (Int × Int)))), _ ∧ p_laws_markLegS FU (xs, k) = _ ∧ p_laws_heldLegS FU (L, k) = _
  unfold p_laws_markLegS l_laws_markLegS_1 p_laws_heldLegS l_laws_heldLegS_1
  dsimp only
  refine mark_held V_Leg xs k (by unfold B36; omega) h0 hk (fun i k x hx hi h0 hk hw => ?_) (fun k L rec => ?_) (fun k L rec => ?_)
  · have hx := True.intro
    unfold V_Leg at hk ⊢
    have w1 : IntKind.wrap .i64 (k + 1) = k + 1 := wrap64 (by omega) (by omega)
    have w2 : IntKind.wrap .i64 (k + 1 + 1) = k + 1 + 1 := wrap64 (by omega) (by omega)
    have w3 : IntKind.wrap .i64 (k + 1 + 1 + 1) = k + 1 + 1 + 1 := wrap64 (by omega) (by omega)
    have w4 : IntKind.wrap .i64 (k + 1 + 1 + 1 + 1) = k + 1 + 1 + 1 + 1 := wrap64 (by omega) (by omega)
    have ew : k + ((4 : Nat) : Int) = k + 1 + 1 + 1 + 1 := by omega
    rw [ew]
    refine ⟨(k, (k + 1, (k + 1 + 1, k + 1 + 1 + 1))), fun L hL g1 g2 rec => ?_, fun L hL g1 rec => ?_⟩
    · simp only [lt_lenI hL, cond_true, g1, g2, Option.bind_some, Int.toNat_natCast, geti_set hL, gets_set hL, List.set_set, w1, w2, w3, w4, hw]
    · simp only [lt_lenI hL, cond_true, g1, Option.bind_some, beq_self_eq_true, Bool.not_true, cond_false, w1, w2, w3, w4, hw]
  · simp only [ge_lenI, cond_false]
  · simp only [ge_lenI, cond_false]

def V_Contract (x : (Int × (List (Int × (Int × (Int × Int)))))) : Nat := 1 + V_LegS x.2

def V_ContractS (xs : (List (Int × (List (Int × (Int × (Int × Int))))))) : Nat := wsum V_Contract xs

theorem vb_ContractS (xs : (List (Int × (List (Int × (Int × (Int × Int))))))) : V_ContractS xs ≤ 4 * W_ContractS xs := wsum_le V_Contract W_Contract 4 xs (fun x _ => by have := vb_LegS x.2; unfold V_Contract W_Contract; omega)

theorem mh_ContractS (xs : (List (Int × (List (Int × (Int × (Int × Int))))))) (k : Int) (hW : W_ContractS xs ≤ 1048576) (h0 : 0 ≤ k) (hk : k + (V_ContractS xs : Int) ≤ B40) : ∃ L : (List (Int × (List (Int × (Int × (Int × Int)))))), L.length = xs.length ∧ m_laws_markContractS (xs, k) = some (k + (V_ContractS xs : Int), L) ∧ m_laws_heldContractS (L, k) = some (k + (V_ContractS xs : Int)) := by
  unfold W_ContractS at hW
  have hB : B40 = 1099511627776 := rfl
  show ∃ L : (List (Int × (List (Int × (Int × (Int × Int)))))), _ ∧ p_laws_markContractS FU (xs, k) = _ ∧ p_laws_heldContractS FU (L, k) = _
  unfold p_laws_markContractS l_laws_markContractS_1 p_laws_heldContractS l_laws_heldContractS_1
  dsimp only
  refine mark_held V_Contract xs k (by unfold B36; omega) h0 hk (fun i k x hx hi h0 hk hw => ?_) (fun k L rec => ?_) (fun k L rec => ?_)
  · have hx : W_Contract x ≤ 1048576 := by have := wsum_mem W_Contract xs x hx; omega
    unfold W_Contract at hx
    unfold V_Contract at hk ⊢
    have w1 : IntKind.wrap .i64 (k + 1) = k + 1 := wrap64 (by omega) (by omega)
    obtain ⟨L1, _, m1, q1⟩ := mh_LegS x.2 (k + 1) (by omega) (by omega) (by omega)
    have d1 : decide (k + 1 + (V_LegS x.2 : Int) < 0) = false := decide_eq_false (by omega)
    have ew : k + ((1 + V_LegS x.2 : Nat) : Int) = k + 1 + (V_LegS x.2 : Int) := by omega
    rw [ew]
    refine ⟨(k, L1), fun L hL g1 g2 rec => ?_, fun L hL g1 rec => ?_⟩
    · simp only [lt_lenI hL, cond_true, g1, g2, Option.bind_some, Int.toNat_natCast, geti_set hL, gets_set hL, List.set_set, w1, m1, hw]
    · simp only [lt_lenI hL, cond_true, g1, Option.bind_some, beq_self_eq_true, Bool.not_true, cond_false, w1, q1, d1, hw]
  · simp only [ge_lenI, cond_false]
  · simp only [ge_lenI, cond_false]

def V_Int64 (_ : Int) : Nat := 1

def V_Int64S (xs : (List Int)) : Nat := wsum V_Int64 xs

theorem vb_Int64S (xs : (List Int)) : V_Int64S xs ≤ 1 * W_Int64S xs := wsum_bnd V_Int64 1 xs (fun x _ => by unfold V_Int64; omega)

theorem mh_Int64S (xs : (List Int)) (k : Int) (hW : W_Int64S xs ≤ 1048576) (h0 : 0 ≤ k) (hk : k + (V_Int64S xs : Int) ≤ B40) : ∃ L : (List Int), L.length = xs.length ∧ m_laws_markInt64S (xs, k) = some (k + (V_Int64S xs : Int), L) ∧ m_laws_heldInt64S (L, k) = some (k + (V_Int64S xs : Int)) := by
  unfold W_Int64S at hW
  have hB : B40 = 1099511627776 := rfl
  show ∃ L : (List Int), _ ∧ p_laws_markInt64S FU (xs, k) = _ ∧ p_laws_heldInt64S FU (L, k) = _
  unfold p_laws_markInt64S l_laws_markInt64S_1 p_laws_heldInt64S l_laws_heldInt64S_1
  dsimp only
  refine mark_held V_Int64 xs k (by unfold B36; omega) h0 hk (fun i k x hx hi h0 hk hw => ?_) (fun k L rec => ?_) (fun k L rec => ?_)
  · have hx := True.intro
    unfold V_Int64 at hk ⊢
    have w1 : IntKind.wrap .i64 (k + 1) = k + 1 := wrap64 (by omega) (by omega)
    have ew : k + ((1 : Nat) : Int) = k + 1 := by omega
    rw [ew]
    refine ⟨k, fun L hL g1 g2 rec => ?_, fun L hL g1 rec => ?_⟩
    · simp only [lt_lenI hL, cond_true, g1, g2, Option.bind_some, Int.toNat_natCast, w1, hw]
    · simp only [lt_lenI hL, cond_true, g1, Option.bind_some, beq_self_eq_true, Bool.not_true, cond_false, w1, hw]
  · simp only [ge_lenI, cond_false]
  · simp only [ge_lenI, cond_false]

theorem h_laws_heldShard (x : (Int × ((List (Int × (Int × Int))) × ((List (Int × Int)) × ((List (Int × (List (Int × (Int × (Int × Int)))))) × ((List (Int × Int)) × (List Int))))))) (k k1 k2 k3 k4 k5 : Int) (e1 : m_laws_heldBalanceS (x.2.1, k) = some k1) (n1 : 0 ≤ k1) (e2 : m_laws_heldMarkS (x.2.2.1, k1) = some k2) (n2 : 0 ≤ k2) (e3 : m_laws_heldContractS (x.2.2.2.1, k2) = some k3) (n3 : 0 ≤ k3) (e4 : m_laws_heldMarkS (x.2.2.2.2.1, k3) = some k4) (n4 : 0 ≤ k4) (e5 : m_laws_heldInt64S (x.2.2.2.2.2, k4) = some k5) (n5 : 0 ≤ k5) : m_laws_heldShard (x, k) = some k5 := by
  show p_laws_heldShard FU _ = _
  unfold p_laws_heldShard
  simp only [e1, decide_eq_false (show ¬ k1 < 0 by omega), e2, decide_eq_false (show ¬ k2 < 0 by omega), e3, decide_eq_false (show ¬ k3 < 0 by omega), e4, decide_eq_false (show ¬ k4 < 0 by omega), e5, decide_eq_false (show ¬ k5 < 0 by omega), Option.bind_some, cond_false]

theorem h_laws_heldShardResult (x : (Int × (Int × (Int × ((List (Int × (Int × Int))) × ((List (Int × Int)) × ((List (Int × (List (Int × (Int × (Int × Int)))))) × ((List (Int × Int)) × (List Int))))))))) (k k1 : Int) (e1 : m_laws_heldShard (x.2.2, k) = some k1) (n1 : 0 ≤ k1) : m_laws_heldShardResult (x, k) = some k1 := by
  show p_laws_heldShardResult FU _ = _
  unfold p_laws_heldShardResult
  simp only [e1, decide_eq_false (show ¬ k1 < 0 by omega), Option.bind_some, cond_false]

theorem t_spec_l1In (a b c : Int) : m_spec_l1In (a, b, c) = some (inB a b c) := by
  show p_spec_l1In FU _ = _
  unfold p_spec_l1In inB
  by_cases h : b ≤ a <;> simp [h]

def plB (a b : Int) : Bool := inB a 0 5 && inB b 0 2
theorem t_spec_l2Key (a b : Int) : m_spec_l2Key (a, b) = some (plB a b) := by
  show p_spec_l2Key FU _ = _
  unfold p_spec_l2Key plB
  simp only [t_spec_l1In, Option.bind_some]
  cases inB a 0 5 <;> rfl

theorem t_impl_within (a b c : Int) : m_impl_within (a, b, c) = some (inB a b c) := by
  show p_impl_within FU _ = _
  unfold p_impl_within inB
  by_cases h : b ≤ a <;> simp [h]

theorem t_impl_isAsset (a : Int) : m_impl_isAsset a = some (inB a 0 2) := by
  show p_impl_isAsset FU _ = _
  unfold p_impl_isAsset
  simp only [t_impl_within, Option.bind_some]

theorem t_impl_isPlace (a b : Int) : m_impl_isPlace (a, b) = some (plB a b) := by
  show p_impl_isPlace FU _ = _
  unfold p_impl_isPlace plB
  simp only [t_impl_within, t_impl_isAsset, Option.bind_some]
  cases inB a 0 5 <;> rfl

theorem t_cmp_Compare_int64 (a b : Int) : m_cmp_Compare_int64 (a, b) = some (if a < b then -1 else if a > b then 1 else 0) := by
  show p_cmp_Compare_int64 FU _ = _
  unfold p_cmp_Compare_int64
  have e : ∀ a : Int, m_cmp_isNaN_int64 a = some false := fun a => by
    show p_cmp_isNaN_int64 FU a = _
    unfold p_cmp_isNaN_int64
    simp
  simp only [e, Option.bind_some, cond_false]
  by_cases h1 : a < b
  · simp [h1]
  · by_cases h2 : a > b <;> simp [h1, h2]

theorem t_cmp_Or_int (a b : Int) : m_cmp_Or_int [a, b] = some (if a = 0 then b else a) := by
  show p_cmp_Or_int FU _ = _
  unfold p_cmp_Or_int l_cmp_Or_int_1
  obtain ⟨m, hm⟩ : ∃ m, FU = m + 1 + 1 + 1 := ⟨18446744073709551613, rfl⟩
  rw [hm]
  have w1 : IntKind.wrap .i64 1 = 1 := rfl
  have w2 : IntKind.wrap .i64 2 = 2 := rfl
  by_cases h1 : a = 0
  · by_cases h2 : b = 0
    · simp [lp, geti, lenI, h1, h2, w1, w2]
    · have hb : (b == 0) = false := by simp [h2]
      simp [lp, geti, lenI, h1, hb, w1, w2]
  · have hb : (a == 0) = false := by simp [h1]
    simp [lp, geti, lenI, h1, hb]

abbrev BalT := Int × (Int × Int)
def cmpP (a b : BalT) : Int := if (if a.1 < b.1 then (-1 : Int) else if a.1 > b.1 then 1 else 0) = 0 then (if a.2.1 < b.2.1 then -1 else if a.2.1 > b.2.1 then 1 else 0) else (if a.1 < b.1 then -1 else if a.1 > b.1 then 1 else 0)
theorem t_impl_comparePlaces (a b : BalT) : m_impl_comparePlaces (a, b) = some (cmpP a b) := by
  show p_impl_comparePlaces FU _ = _
  unfold p_impl_comparePlaces cmpP
  simp only [t_cmp_Compare_int64, t_cmp_Or_int, Option.bind_some]
theorem cmpP_lt (a b : BalT) : cmpP a b < 0 ↔ (a.1 < b.1 ∨ a.1 = b.1 ∧ a.2.1 < b.2.1) := by
  unfold cmpP
  by_cases h1 : a.1 < b.1 <;> by_cases h2 : a.1 > b.1 <;> by_cases h3 : a.2.1 < b.2.1 <;> by_cases h4 : a.2.1 > b.2.1 <;> simp [h1, h2, h3, h4] <;> omega
theorem cmpP_zero (a b : BalT) : cmpP a b = 0 ↔ (a.1 = b.1 ∧ a.2.1 = b.2.1) := by
  unfold cmpP
  by_cases h1 : a.1 < b.1 <;> by_cases h2 : a.1 > b.1 <;> by_cases h3 : a.2.1 < b.2.1 <;> by_cases h4 : a.2.1 > b.2.1 <;> simp [h1, h2, h3, h4] <;> omega

def okBal (b : BalT) : Bool := plB b.1 b.2.1 && inB b.2.2 1 1000000000000
def balStep (xs : List BalT) (i : Nat) (y : BalT) : Option Int := cond (!(okBal y)) (some 3) (cond (decide (0 < i) && decide (cmpP (xs[i - 1]?.getD y) y ≥ 0)) (some 1) none)
def balCode (xs : List BalT) : Int := if xs.length > 18 then 2 else (match fstI (balStep xs) 0 xs with | some r => r | none => 0)
theorem t_impl_BalancesFault (xs : List BalT) : m_impl_BalancesFault xs = some (balCode xs) := by
  show p_impl_BalancesFault FU xs = _
  unfold p_impl_BalancesFault balCode
  by_cases hl : xs.length > 18
  · have : decide (lenI xs > 18) = true := decide_eq_true (by rw [lenI_eq]; omega)
    rw [this, if_pos hl]; rfl
  · have : decide (lenI xs > 18) = false := decide_eq_false (by rw [lenI_eq]; omega)
    rw [this, if_neg hl, cond_false]
    unfold l_impl_BalancesFault_1
    refine (lp_fst xs (balStep xs) (some 0) (by unfold B36; omega) (fun i hi rec hw => ?_) (fun rec => ?_)).trans (by cases fstI (balStep xs) 0 xs <;> rfl)
    · simp only [lt_lenI hi, cond_true, geti_lt xs i hi, Option.bind_some, t_impl_isPlace, t_impl_within, balStep, okBal, hw]
      cases plB xs[i].1 xs[i].2.1 with
      | false => rfl
      | true =>
        cases inB xs[i].2.2 1 1000000000000 with
        | false => rfl
        | true =>
          simp only [Bool.not_true, cond_false, Option.bind_some, Bool.and_self]
          by_cases h0 : 0 < i
          · have hd : decide ((i : Int) > 0) = true := by simp; omega
            have hi1 : i - 1 < xs.length := by omega
            simp only [hd, cond_true, prv (i := i) (by unfold B36; omega) h0, geti_lt xs _ hi1, Option.bind_some, t_impl_comparePlaces, h0, decide_true, Bool.true_and, List.getElem?_eq_getElem hi1, Option.getD_some]
            cases decide (cmpP xs[i - 1] xs[i] ≥ 0) <;> rfl
          · have hd : decide ((i : Int) > 0) = false := by simp; omega
            simp only [hd, cond_false, Option.bind_some, h0, decide_false, Bool.false_and]
    · simp only [ge_lenI, cond_false]
theorem balCode_len {xs : List BalT} (h : balCode xs = 0) : xs.length ≤ 18 := by
  unfold balCode at h
  split at h
  · cases h
  · omega

theorem key_cmp (a b : BalT) (ha : okBal a = true) (hb : okBal b = true) : decide ((IntKind.wrap .i64 ((IntKind.wrap .i64 (b.1 * (3 : Int))) + b.2.1)) ≤ (IntKind.wrap .i64 ((IntKind.wrap .i64 (a.1 * (3 : Int))) + a.2.1))) = decide (cmpP a b ≥ 0) := by
  unfold okBal plB inB at ha hb
  simp only [Bool.and_eq_true, decide_eq_true_eq] at ha hb
  obtain ⟨⟨⟨a1, a2⟩, a3, a4⟩, _⟩ := ha
  obtain ⟨⟨⟨b1, b2⟩, b3, b4⟩, _⟩ := hb
  rw [wrap64 (n := a.1 * 3) (by omega) (by omega), wrap64 (n := b.1 * 3) (by omega) (by omega), wrap64 (by omega) (by omega), wrap64 (by omega) (by omega)]
  have h := cmpP_lt a b
  by_cases hc : cmpP a b < 0
  · have h1 := h.1 hc
    rw [decide_eq_false (show ¬ cmpP a b ≥ 0 by omega), decide_eq_false (by omega)]
  · have h1 : ¬ (a.1 < b.1 ∨ a.1 = b.1 ∧ a.2.1 < b.2.1) := fun q => hc (h.2 q)
    rw [decide_eq_true (show cmpP a b ≥ 0 by omega), decide_eq_true (by omega)]
theorem t_spec_BalancesFault (xs : List BalT) : m_spec_BalancesFault xs = some (balCode xs) := by
  show p_spec_BalancesFault FU xs = _
  unfold p_spec_BalancesFault balCode
  by_cases hl : xs.length > 18
  · have : decide (lenI xs > 18) = true := decide_eq_true (by rw [lenI_eq]; omega)
    rw [this, if_pos hl]; rfl
  · have : decide (lenI xs > 18) = false := decide_eq_false (by rw [lenI_eq]; omega)
    rw [this, if_neg hl, cond_false]
    unfold l_spec_BalancesFault_1
    refine (lp_fstI xs (balStep xs) (some 0) (fun i => ∀ (h : i - 1 < xs.length), 0 < i → okBal (xs[i - 1]'h) = true) (by unfold B36; omega) (fun _ h => by omega) (fun i hi hI hw => ⟨fun rec => ?_, fun hn h _ => ?_⟩) (fun rec => ?_)).trans (by cases fstI (balStep xs) 0 xs <;> rfl)
    · simp only [lt_lenI hi, cond_true, geti_lt xs i hi, Option.bind_some, t_spec_l2Key, t_spec_l1In, balStep, hw]
      cases ho : okBal xs[i] with
      | false =>
        unfold okBal at ho
        cases hp : plB xs[i].1 xs[i].2.1 with
        | false => rfl
        | true => rw [hp] at ho; simp only [Bool.true_and] at ho; rw [ho]; rfl
      | true =>
        have ho' := ho
        unfold okBal at ho'
        simp only [Bool.and_eq_true] at ho'
        simp only [ho'.1, ho'.2, Bool.not_true, cond_false, Option.bind_some]
        by_cases h0 : 0 < i
        · have hd : decide ((i : Int) > 0) = true := by simp; omega
          have hi1 : i - 1 < xs.length := by omega
          simp only [hd, cond_true, prv (i := i) (by unfold B36; omega) h0, geti_lt xs _ hi1, Option.bind_some, key_cmp _ _ (hI hi1 h0) ho, h0, decide_true, Bool.true_and, List.getElem?_eq_getElem hi1, Option.getD_some]
          cases decide (cmpP xs[i - 1] xs[i] ≥ 0) <;> rfl
        · have hd : decide ((i : Int) > 0) = false := by simp; omega
          simp only [hd, cond_false, Option.bind_some, h0, decide_false, Bool.false_and]
    · simp only [Nat.add_sub_cancel]
      unfold balStep at hn
      cases ho : okBal xs[i] with
      | true => rfl
      | false => rw [ho] at hn; cases hn
    · simp only [ge_lenI, cond_false]

abbrev LegT := Int × (Int × (Int × Int))
abbrev ConT := Int × List LegT
abbrev ShT := Int × ((List BalT) × ((List (Int × Int)) × ((List ConT) × ((List (Int × Int)) × (List Int)))))
def zSh : Int × ShT := (0, (0, ([], ([], ([], ([], []))))))
def shardR (a : Int) (xs : List BalT) : Int × (Int × ShT) := cond (!(inB a 0 2)) (3, zSh) (cond (!(balCode xs == 0)) (balCode xs, zSh) (0, (0, (a, (xs, ([], ([], ([], []))))))))
theorem t_spec_NewShard (a : Int) (xs : List BalT) (hl : xs.length ≤ 1048576) : m_spec_NewShard (a, xs) = some (shardR a xs) := by
  show p_spec_NewShard FU _ = _
  unfold p_spec_NewShard shardR
  have e : m_spec_l10Base (a, xs) = some (cond (!(inB a 0 2)) 3 (balCode xs)) := by
    show p_spec_l10Base FU _ = _
    unfold p_spec_l10Base
    simp only [t_spec_l1In, t_spec_BalancesFault, Option.bind_some]
    cases inB a 0 2 <;> rfl
  have hb : Nat.ble ((([] : List (Int × (Int × Int))).length + xs.length) * 24) maxBytes = true := ble_mem (by simp only [List.length_nil, maxBytes]; omega)
  simp only [e, Option.bind_some, chk_true hb]
  cases inB a 0 2 with
  | false => rfl
  | true =>
    simp only [Bool.not_true, cond_false]
    cases hc : (balCode xs == 0) with
    | false => rfl
    | true => rfl

theorem t_impl_isShard (a : Int) : m_impl_isShard a = some (shB a) := by
  show p_impl_isShard FU _ = _
  unfold p_impl_isShard shB
  rw [t_impl_within]; rfl

theorem t_slices_Clone_impl_Balance_impl_Balance (xs : List BalT) (h : xs.length ≤ 1048576) : m_slices_Clone_impl_Balance_impl_Balance xs = some xs := by
  show p_slices_Clone_impl_Balance_impl_Balance FU _ = _
  unfold p_slices_Clone_impl_Balance_impl_Balance
  have hb : Nat.ble ((([] : List (Int × (Int × Int))).length + xs.length) * 24) maxBytes = true := ble_mem (by simp only [List.length_nil, maxBytes]; omega)
  rw [chk_true hb]
  exact clone_same xs _ rfl
theorem t_impl_NewShard (a : Int) (xs : List BalT) (hl : xs.length ≤ 1048576) : m_impl_NewShard (a, xs) = some (shardR a xs) := by
  show p_impl_NewShard FU _ = _
  unfold p_impl_NewShard shardR
  simp only [t_impl_isShard, shB, t_impl_BalancesFault, t_slices_Clone_impl_Balance_impl_Balance xs hl, Option.bind_some]
  cases inB a 0 2 with
  | false => rfl
  | true =>
    cases hc : (balCode xs == 0) with
    | false => rfl
    | true => rfl

theorem law_laws_FnExactNewShard (x : Int × List BalT) (h : WFs S_laws_FnExactNewShard.ps x) : m_laws_FnExactNewShard x = some true := by
  obtain ⟨a, xs⟩ := x
  show p_laws_FnExactNewShard FU _ = _
  unfold p_laws_FnExactNewShard
  simp only
  rcases z_laws_szBalanceS xs h.2 1048576 (by omega) (by omega) with e1 | ⟨e1, b1⟩
  · rw [e1]; rfl
  · have hW : W_BalanceS xs ≤ 1048576 := by omega
    have hl : xs.length ≤ 1048576 := hW
    have d1 : decide ((1048576 : Int) - (W_BalanceS xs : Int) < 0) = false := decide_eq_false (by omega)
    have hB : B40 = 1099511627776 := rfl
    -- the result
    have hr : ∃ c v i ys, shardR a xs = (c, (v, (i, (ys, ([], ([], ([], []))))))) ∧ ys.length ≤ 1048576 := by
      unfold shardR
      cases inB a 0 2 with
      | false => exact ⟨_, _, _, _, rfl, by simp⟩
      | true =>
        cases (balCode xs == 0) with
        | false => exact ⟨_, _, _, _, rfl, by simp⟩
        | true => exact ⟨_, _, _, _, rfl, hl⟩
    obtain ⟨c, v, i, ys, hr1, hr2⟩ := hr
    have hy : W_BalanceS ys ≤ 1048576 := hr2
    have w0 : W_MarkS [] ≤ 1048576 := Nat.zero_le _
    have w1 : W_ContractS [] ≤ 1048576 := Nat.zero_le _
    have w2 : W_Int64S [] ≤ 1048576 := Nat.zero_le _
    have v1 := vb_BalanceS xs
    have v2 := vb_BalanceS ys
    have n1 : V_MarkS [] = 0 := rfl
    have n2 : V_ContractS [] = 0 := rfl
    have n3 : V_Int64S [] = 0 := rfl
    obtain ⟨L1, _, m1, q1⟩ := mh_BalanceS xs 1 hW (by omega) (by omega)
    obtain ⟨M1, _, k1, g1⟩ := mh_BalanceS ys 1 hy (by omega) (by omega)
    obtain ⟨M2, _, k2, g2⟩ := mh_MarkS [] (1 + (V_BalanceS ys : Int)) w0 (by omega) (by omega)
    obtain ⟨M3, _, k3, g3⟩ := mh_ContractS [] (1 + (V_BalanceS ys : Int) + (V_MarkS [] : Int)) w1 (by omega) (by omega)
    obtain ⟨M4, _, k4, g4⟩ := mh_MarkS [] (1 + (V_BalanceS ys : Int) + (V_MarkS [] : Int) + (V_ContractS [] : Int)) w0 (by omega) (by omega)
    obtain ⟨M5, _, k5, g5⟩ := mh_Int64S [] (1 + (V_BalanceS ys : Int) + (V_MarkS [] : Int) + (V_ContractS [] : Int) + (V_MarkS [] : Int)) w2 (by omega) (by omega)
    have d2 : decide ((1 : Int) + (V_BalanceS xs : Int) < 0) = false := decide_eq_false (by omega)
    have d3 : decide (1 + (V_BalanceS ys : Int) + (V_MarkS [] : Int) + (V_ContractS [] : Int) + (V_MarkS [] : Int) + (V_Int64S [] : Int) < 0) = false := decide_eq_false (by omega)
    have q2 := h_laws_heldShard (i, (M1, (M2, (M3, (M4, M5))))) 1 _ _ _ _ _ g1 (by omega) g2 (by omega) g3 (by omega) g4 (by omega) g5 (by omega)
    have q3 := h_laws_heldShardResult (c, (v, (i, (M1, (M2, (M3, (M4, M5))))))) 1 _ q2 (by omega)
    have ee := eq_laws_eqShardResult (c, (v, (i, (ys, ([], ([], ([], []))))))) (by show W_BalanceS ys + W_MarkS [] + W_ContractS [] + W_MarkS [] + W_Int64S [] ≤ 1048576; have h1 : W_MarkS [] = 0 := rfl; have h2 : W_ContractS [] = 0 := rfl; have h3 : W_Int64S [] = 0 := rfl; omega)
    simp only [e1, Option.bind_some, d1, cond_false, o_laws_toBalanceS xs hW, t_spec_NewShard a xs hl, t_impl_NewShard a xs hl, hr1, ee, Bool.not_true, eq_laws_eqBalanceS xs hW, m1, d2, k1, k2, k3, k4, k5, q3, d3, beq_self_eq_true]
end Go.RvP
