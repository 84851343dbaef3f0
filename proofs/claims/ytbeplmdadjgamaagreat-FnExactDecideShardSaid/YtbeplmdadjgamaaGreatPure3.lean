/- The plain law: spec and program answer alike, for FnExactDecideShard. Condition: the data are such as can come in. -/
import Derived.Test.YtbeplmdadjgamaaGreatRvP3
import Derived.Test.YtbeplmdadjgamaaGreatRvJ
import Derived.Test.YtbeplmdadjgamaaGreatRvM
import Derived.Test.YtbeplmdadjgamaaGreatRvU
namespace Go.RvP
open Go.Rv
def W_BalanceS (xs : (List (Int × (Int × Int)))) : Nat := xs.length

theorem z_w0q (xs : (List (Int × (Int × Int)))) (h : WFk (.sl none (.pair (.int .i64) (.pair (.int .i64) (.int .i64)))) xs) : SZ m_w0q W_BalanceS xs := szf xs h.1

def W_MarkS (xs : (List (Int × Int))) : Nat := xs.length

theorem z_w1q (xs : (List (Int × Int))) (h : WFk (.sl none (.pair (.int .i64) (.int .i64))) xs) : SZ m_w1q W_MarkS xs := szf xs h.1

def W_LegS (xs : (List (Int × (Int × (Int × Int))))) : Nat := xs.length

theorem z_w2q (xs : (List (Int × (Int × (Int × Int))))) (h : WFk (.sl none (.pair (.int .i64) (.pair (.int .i64) (.pair (.int .i64) (.int .i64))))) xs) : SZ m_w2q W_LegS xs := szf xs h.1

def W_Contract (x : (Int × (List (Int × (Int × (Int × Int)))))) : Nat := W_LegS x.2

theorem z_w3q (x : (Int × (List (Int × (Int × (Int × Int)))))) (h : WFk (.pair (.int .i64) (.sl none (.pair (.int .i64) (.pair (.int .i64) (.pair (.int .i64) (.int .i64)))))) x) : SZ m_w3q W_Contract x := by
  intro left h0 h1
  have hm : maxLen = 9223372036854775807 := rfl
  show p_w3q FU _ = _ ∨ (p_w3q FU _ = _ ∧ _)
  unfold p_w3q W_Contract
  have b1 : 0 ≤ left := by omega
  rcases z_w2q x.2 h.2 (left) (by omega) (by omega) with e1 | ⟨e1, f1⟩
  · left; simp only [e1, Option.bind_some]; rfl
  · have d1 : decide (left - (W_LegS x.2 : Int) < 0) = false := decide_eq_false (by omega)
    exact .inr ⟨by simp only [e1, d1, Option.bind_some, cond_false], f1⟩

def W_ContractS (xs : (List (Int × (List (Int × (Int × (Int × Int))))))) : Nat := xs.length + wsum W_Contract xs

theorem z_w4q (xs : (List (Int × (List (Int × (Int × (Int × Int))))))) (h : WFk (.sl none (.pair (.int .i64) (.sl none (.pair (.int .i64) (.pair (.int .i64) (.pair (.int .i64) (.int .i64))))))) xs) : SZ m_w4q W_ContractS xs := szl xs m_w3q W_Contract h.1 (fun x hx => z_w3q x (h.2 x hx))

def W_Int64S (xs : (List Int)) : Nat := xs.length

theorem z_w5q (xs : (List Int)) (h : WFk (.sl none (.int .i64)) xs) : SZ m_w5q W_Int64S xs := szf xs h.1

def W_Shard (x : (Int × ((List (Int × (Int × Int))) × ((List (Int × Int)) × ((List (Int × (List (Int × (Int × (Int × Int)))))) × ((List (Int × Int)) × (List Int))))))) : Nat := W_BalanceS x.2.1 + W_MarkS x.2.2.1 + W_ContractS x.2.2.2.1 + W_MarkS x.2.2.2.2.1 + W_Int64S x.2.2.2.2.2

theorem z_w6q (x : (Int × ((List (Int × (Int × Int))) × ((List (Int × Int)) × ((List (Int × (List (Int × (Int × (Int × Int)))))) × ((List (Int × Int)) × (List Int))))))) (h : WFk (.pair (.int .i64) (.pair (.sl none (.pair (.int .i64) (.pair (.int .i64) (.int .i64)))) (.pair (.sl none (.pair (.int .i64) (.int .i64))) (.pair (.sl none (.pair (.int .i64) (.sl none (.pair (.int .i64) (.pair (.int .i64) (.pair (.int .i64) (.int .i64))))))) (.pair (.sl none (.pair (.int .i64) (.int .i64))) (.sl none (.int .i64))))))) x) : SZ m_w6q W_Shard x := by
  intro left h0 h1
  have hm : maxLen = 9223372036854775807 := rfl
  show p_w6q FU _ = _ ∨ (p_w6q FU _ = _ ∧ _)
  unfold p_w6q W_Shard
  have b1 : 0 ≤ left := by omega
  rcases z_w0q x.2.1 h.2.1 (left) (by omega) (by omega) with e1 | ⟨e1, f1⟩
  · left; simp only [e1, Option.bind_some]; rfl
  · have d1 : decide (left - (W_BalanceS x.2.1 : Int) < 0) = false := decide_eq_false (by omega)
    have b2 : 0 ≤ left - (W_BalanceS x.2.1 : Int) := by omega
    rcases z_w1q x.2.2.1 h.2.2.1 (left - (W_BalanceS x.2.1 : Int)) (by omega) (by omega) with e2 | ⟨e2, f2⟩
    · left; simp only [e1, d1, e2, Option.bind_some, cond_false]; rfl
    · have d2 : decide (left - (W_BalanceS x.2.1 : Int) - (W_MarkS x.2.2.1 : Int) < 0) = false := decide_eq_false (by omega)
      have b3 : 0 ≤ left - (W_BalanceS x.2.1 : Int) - (W_MarkS x.2.2.1 : Int) := by omega
      rcases z_w4q x.2.2.2.1 h.2.2.2.1 (left - (W_BalanceS x.2.1 : Int) - (W_MarkS x.2.2.1 : Int)) (by omega) (by omega) with e3 | ⟨e3, f3⟩
      · left; simp only [e1, d1, e2, d2, e3, Option.bind_some, cond_false]; rfl
      · have d3 : decide (left - (W_BalanceS x.2.1 : Int) - (W_MarkS x.2.2.1 : Int) - (W_ContractS x.2.2.2.1 : Int) < 0) = false := decide_eq_false (by omega)
        have b4 : 0 ≤ left - (W_BalanceS x.2.1 : Int) - (W_MarkS x.2.2.1 : Int) - (W_ContractS x.2.2.2.1 : Int) := by omega
        rcases z_w1q x.2.2.2.2.1 h.2.2.2.2.1 (left - (W_BalanceS x.2.1 : Int) - (W_MarkS x.2.2.1 : Int) - (W_ContractS x.2.2.2.1 : Int)) (by omega) (by omega) with e4 | ⟨e4, f4⟩
        · left; simp only [e1, d1, e2, d2, e3, d3, e4, Option.bind_some, cond_false]; rfl
        · have d4 : decide (left - (W_BalanceS x.2.1 : Int) - (W_MarkS x.2.2.1 : Int) - (W_ContractS x.2.2.2.1 : Int) - (W_MarkS x.2.2.2.2.1 : Int) < 0) = false := decide_eq_false (by omega)
          have b5 : 0 ≤ left - (W_BalanceS x.2.1 : Int) - (W_MarkS x.2.2.1 : Int) - (W_ContractS x.2.2.2.1 : Int) - (W_MarkS x.2.2.2.2.1 : Int) := by omega
          rcases z_w5q x.2.2.2.2.2 h.2.2.2.2.2 (left - (W_BalanceS x.2.1 : Int) - (W_MarkS x.2.2.1 : Int) - (W_ContractS x.2.2.2.1 : Int) - (W_MarkS x.2.2.2.2.1 : Int)) (by omega) (by omega) with e5 | ⟨e5, f5⟩
          · left; simp only [e1, d1, e2, d2, e3, d3, e4, d4, e5, Option.bind_some, cond_false]; rfl
          · have d5 : decide (left - (W_BalanceS x.2.1 : Int) - (W_MarkS x.2.2.1 : Int) - (W_ContractS x.2.2.2.1 : Int) - (W_MarkS x.2.2.2.2.1 : Int) - (W_Int64S x.2.2.2.2.2 : Int) < 0) = false := decide_eq_false (by omega)
            refine .inr ⟨?_, by omega⟩
            simp only [e1, d1, e2, d2, e3, d3, e4, d4, e5, d5, Option.bind_some, cond_false]
            congr 1; omega

theorem o_w7q (x : (Int × (Int × Int))) : m_w7q x = some x := by
  show p_w7q FU _ = _
  unfold p_w7q
  rfl

theorem o_w8q (xs : (List (Int × (Int × Int)))) (h : W_BalanceS xs ≤ 1048576) : m_w8q xs = some xs := by
  unfold W_BalanceS at h
  show p_w8q FU xs = _
  unfold p_w8q
  rw [if_pos rfl, if_pos (by simp [lenI_eq])]
  have hb : Nat.ble (24 * (lenI xs).toNat) maxBytes = true := by rw [Nat.ble_eq]; simp only [lenI_eq, Int.toNat_natCast, maxBytes]; omega
  rw [chk_true hb]
  exact copy_loop2 xs _ m_w7q (fun x _ => o_w7q x) (by omega)

theorem o_w9q (x : (Int × Int)) : m_w9q x = some x := by
  show p_w9q FU _ = _
  unfold p_w9q
  rfl

theorem o_w10q (xs : (List (Int × Int))) (h : W_MarkS xs ≤ 1048576) : m_w10q xs = some xs := by
  unfold W_MarkS at h
  show p_w10q FU xs = _
  unfold p_w10q
  rw [if_pos rfl, if_pos (by simp [lenI_eq])]
  have hb : Nat.ble (16 * (lenI xs).toNat) maxBytes = true := by rw [Nat.ble_eq]; simp only [lenI_eq, Int.toNat_natCast, maxBytes]; omega
  rw [chk_true hb]
  exact copy_loop2 xs _ m_w9q (fun x _ => o_w9q x) (by omega)

theorem o_w11q (x : (Int × (Int × (Int × Int)))) : m_w11q x = some x := by
  show p_w11q FU _ = _
  unfold p_w11q
  rfl

theorem o_w12q (xs : (List (Int × (Int × (Int × Int))))) (h : W_LegS xs ≤ 1048576) : m_w12q xs = some xs := by
  unfold W_LegS at h
  show p_w12q FU xs = _
  unfold p_w12q
  rw [if_pos rfl, if_pos (by simp [lenI_eq])]
  have hb : Nat.ble (32 * (lenI xs).toNat) maxBytes = true := by rw [Nat.ble_eq]; simp only [lenI_eq, Int.toNat_natCast, maxBytes]; omega
  rw [chk_true hb]
  exact copy_loop2 xs _ m_w11q (fun x _ => o_w11q x) (by omega)

theorem o_w13q (x : (Int × (List (Int × (Int × (Int × Int)))))) (h : W_Contract x ≤ 1048576) : m_w13q x = some x := by
  unfold W_Contract at h
  show p_w13q FU _ = _
  unfold p_w13q
  simp only [o_w12q x.2 (by omega), Option.bind_some]

theorem o_w14q (xs : (List (Int × (List (Int × (Int × (Int × Int))))))) (h : W_ContractS xs ≤ 1048576) : m_w14q xs = some xs := by
  unfold W_ContractS at h
  show p_w14q FU xs = _
  unfold p_w14q
  rw [if_pos rfl, if_pos (by simp [lenI_eq])]
  have hb : Nat.ble (32 * (lenI xs).toNat) maxBytes = true := by rw [Nat.ble_eq]; simp only [lenI_eq, Int.toNat_natCast, maxBytes]; omega
  rw [chk_true hb]
  exact copy_loop2 xs _ m_w13q (fun x hx => o_w13q x (by have := wsum_mem W_Contract xs x hx; omega)) (by omega)

theorem o_w15q (xs : (List Int)) (h : W_Int64S xs ≤ 1048576) : m_w15q xs = some xs := by
  unfold W_Int64S at h
  show p_w15q FU xs = _
  unfold p_w15q
  rw [if_pos rfl, if_pos (by simp [lenI_eq])]
  have hb : Nat.ble (8 * (lenI xs).toNat) maxBytes = true := by rw [Nat.ble_eq]; simp only [lenI_eq, Int.toNat_natCast, maxBytes]; omega
  rw [chk_true hb]
  exact copy_flat xs _ (by omega)

theorem o_w16q (x : (Int × ((List (Int × (Int × Int))) × ((List (Int × Int)) × ((List (Int × (List (Int × (Int × (Int × Int)))))) × ((List (Int × Int)) × (List Int))))))) (h : W_Shard x ≤ 1048576) : m_w16q x = some x := by
  unfold W_Shard at h
  show p_w16q FU _ = _
  unfold p_w16q
  simp only [o_w8q x.2.1 (by omega), o_w10q x.2.2.1 (by omega), o_w14q x.2.2.2.1 (by omega), o_w10q x.2.2.2.2.1 (by omega), o_w15q x.2.2.2.2.2 (by omega), Option.bind_some]

theorem eq_w91q (x : (Int × (Int × Int))) : m_w91q (x, x) = some true := by
  show p_w91q FU _ = _
  unfold p_w91q
  simp only [beq_self_eq_true, Bool.not_true, cond_false]

theorem eq_w92q (xs : (List (Int × (Int × Int)))) (h : W_BalanceS xs ≤ 1048576) : m_w92q (xs, xs) = some true := by
  unfold W_BalanceS at h
  show p_w92q FU _ = _
  unfold p_w92q
  simp only [beq_self_eq_true, Bool.not_true, cond_false]
  exact eq_loop xs m_w91q (fun x _ => eq_w91q x) (by omega)

theorem eq_w93q (x : (Int × Int)) : m_w93q (x, x) = some true := by
  show p_w93q FU _ = _
  unfold p_w93q
  simp only [beq_self_eq_true, Bool.not_true, cond_false]

theorem eq_w94q (xs : (List (Int × Int))) (h : W_MarkS xs ≤ 1048576) : m_w94q (xs, xs) = some true := by
  unfold W_MarkS at h
  show p_w94q FU _ = _
  unfold p_w94q
  simp only [beq_self_eq_true, Bool.not_true, cond_false]
  exact eq_loop xs m_w93q (fun x _ => eq_w93q x) (by omega)

theorem eq_w95q (x : (Int × (Int × (Int × Int)))) : m_w95q (x, x) = some true := by
  show p_w95q FU _ = _
  unfold p_w95q
  simp only [beq_self_eq_true, Bool.not_true, cond_false]

theorem eq_w96q (xs : (List (Int × (Int × (Int × Int))))) (h : W_LegS xs ≤ 1048576) : m_w96q (xs, xs) = some true := by
  unfold W_LegS at h
  show p_w96q FU _ = _
  unfold p_w96q
  simp only [beq_self_eq_true, Bool.not_true, cond_false]
  exact eq_loop xs m_w95q (fun x _ => eq_w95q x) (by omega)

theorem eq_w97q (x : (Int × (List (Int × (Int × (Int × Int)))))) (h : W_Contract x ≤ 1048576) : m_w97q (x, x) = some true := by
  unfold W_Contract at h
  show p_w97q FU _ = _
  unfold p_w97q
  simp only [beq_self_eq_true, Bool.not_true, cond_false, eq_w96q x.2 (by omega), Option.bind_some]

theorem eq_w98q (xs : (List (Int × (List (Int × (Int × (Int × Int))))))) (h : W_ContractS xs ≤ 1048576) : m_w98q (xs, xs) = some true := by
  unfold W_ContractS at h
  show p_w98q FU _ = _
  unfold p_w98q
  simp only [beq_self_eq_true, Bool.not_true, cond_false]
  exact eq_loop xs m_w97q (fun x hx => eq_w97q x (by have := wsum_mem W_Contract xs x hx; omega)) (by omega)

theorem eq_w99q (xs : (List Int)) (h : W_Int64S xs ≤ 1048576) : m_w99q (xs, xs) = some true := by
  unfold W_Int64S at h
  show p_w99q FU _ = _
  unfold p_w99q
  simp only [beq_self_eq_true, Bool.not_true, cond_false]
  exact eq_flat xs (by omega)

theorem eq_w100q (x : (Int × ((List (Int × (Int × Int))) × ((List (Int × Int)) × ((List (Int × (List (Int × (Int × (Int × Int)))))) × ((List (Int × Int)) × (List Int))))))) (h : W_Shard x ≤ 1048576) : m_w100q (x, x) = some true := by
  unfold W_Shard at h
  show p_w100q FU _ = _
  unfold p_w100q
  simp only [beq_self_eq_true, Bool.not_true, cond_false, eq_w92q x.2.1 (by omega), eq_w94q x.2.2.1 (by omega), eq_w98q x.2.2.2.1 (by omega), eq_w94q x.2.2.2.2.1 (by omega), eq_w99q x.2.2.2.2.2 (by omega), Option.bind_some]

def W_ShardResult (x : (Int × (Int × (Int × ((List (Int × (Int × Int))) × ((List (Int × Int)) × ((List (Int × (List (Int × (Int × (Int × Int)))))) × ((List (Int × Int)) × (List Int))))))))) : Nat := W_Shard x.2.2

theorem eq_w101q (x : (Int × (Int × (Int × ((List (Int × (Int × Int))) × ((List (Int × Int)) × ((List (Int × (List (Int × (Int × (Int × Int)))))) × ((List (Int × Int)) × (List Int))))))))) (h : W_ShardResult x ≤ 1048576) : m_w101q (x, x) = some true := by
  unfold W_ShardResult at h
  show p_w101q FU _ = _
  unfold p_w101q
  simp only [beq_self_eq_true, Bool.not_true, cond_false, eq_w100q x.2.2 (by omega), Option.bind_some]

def V_Balance (_ : (Int × (Int × Int))) : Nat := 3

def V_BalanceS (xs : (List (Int × (Int × Int)))) : Nat := wsum V_Balance xs

theorem vb_BalanceS (xs : (List (Int × (Int × Int)))) : V_BalanceS xs ≤ 3 * W_BalanceS xs := wsum_bnd V_Balance 3 xs (fun x _ => by unfold V_Balance; omega)

theorem mh_BalanceS (xs : (List (Int × (Int × Int)))) (k : Int) (hW : W_BalanceS xs ≤ 1048576) (h0 : 0 ≤ k) (hk : k + (V_BalanceS xs : Int) ≤ B40) : ∃ L : (List (Int × (Int × Int))), L.length = xs.length ∧ m_w102q (xs, k) = some (k + (V_BalanceS xs : Int), L) ∧ m_w107q (L, k) = some (k + (V_BalanceS xs : Int)) := by
  unfold W_BalanceS at hW
  have hB : B40 = 1099511627776 := rfl
  show ∃ L : (List (Int × (Int × Int))), _ ∧ p_w102q FU (xs, k) = _ ∧ p_w107q FU (L, k) = _
  unfold p_w102q l_w102q_1 p_w107q l_w107q_1
  dsimp only
  refine mark_held V_Balance xs k (by unfold B36; omega) h0 hk (fun i k x hx hi h0 hk hw => ?_) (fun k L rec => ?_) (fun k L rec => ?_)
  · have hx := True.intro
    unfold V_Balance at hk ⊢
    have w1 : IntKind.wrap .i64 (k + 1) = k + 1 := wrap64 (by omega) (by omega)
    have w2 : IntKind.wrap .i64 (k + 1 + 1) = k + 1 + 1 := wrap64 (by omega) (by omega)
    have w3 : IntKind.wrap .i64 (k + 1 + 1 + 1) = k + 1 + 1 + 1 := wrap64 (by omega) (by omega)
    have ew : k + ((3 : Nat) : Int) = k + 1 + 1 + 1 := by omega
    rw [ew]
    refine ⟨(k, (k + 1, k + 1 + 1)), fun L hL g1 g2 rec => ?_, fun L hL g1 rec => ?_⟩
    · simp only [lt_lenI hL, cond_true, g1, g2, Option.bind_some, Int.toNat_natCast, geti_set hL, gets_set hL, List.set_set, w1, w2, w3, hw]
    · simp only [lt_lenI hL, cond_true, g1, Option.bind_some, beq_self_eq_true, Bool.not_true, cond_false, w1, w2, w3, hw]
  · simp only [ge_lenI, cond_false]
  · simp only [ge_lenI, cond_false]

def V_Mark (_ : (Int × Int)) : Nat := 2

def V_MarkS (xs : (List (Int × Int))) : Nat := wsum V_Mark xs

theorem vb_MarkS (xs : (List (Int × Int))) : V_MarkS xs ≤ 2 * W_MarkS xs := wsum_bnd V_Mark 2 xs (fun x _ => by unfold V_Mark; omega)

theorem mh_MarkS (xs : (List (Int × Int))) (k : Int) (hW : W_MarkS xs ≤ 1048576) (h0 : 0 ≤ k) (hk : k + (V_MarkS xs : Int) ≤ B40) : ∃ L : (List (Int × Int)), L.length = xs.length ∧ m_w103q (xs, k) = some (k + (V_MarkS xs : Int), L) ∧ m_w108q (L, k) = some (k + (V_MarkS xs : Int)) := by
  unfold W_MarkS at hW
  have hB : B40 = 1099511627776 := rfl
  show ∃ L : (List (Int × Int)), _ ∧ p_w103q FU (xs, k) = _ ∧ p_w108q FU (L, k) = _
  unfold p_w103q l_w103q_1 p_w108q l_w108q_1
  dsimp only
  refine mark_held V_Mark xs k (by unfold B36; omega) h0 hk (fun i k x hx hi h0 hk hw => ?_) (fun k L rec => ?_) (fun k L rec => ?_)
  · have hx := True.intro
    unfold V_Mark at hk ⊢
    have w1 : IntKind.wrap .i64 (k + 1) = k + 1 := wrap64 (by omega) (by omega)
    have w2 : IntKind.wrap .i64 (k + 1 + 1) = k + 1 + 1 := wrap64 (by omega) (by omega)
    have ew : k + ((2 : Nat) : Int) = k + 1 + 1 := by omega
    rw [ew]
    refine ⟨(k, k + 1), fun L hL g1 g2 rec => ?_, fun L hL g1 rec => ?_⟩
    · simp only [lt_lenI hL, cond_true, g1, g2, Option.bind_some, Int.toNat_natCast, geti_set hL, gets_set hL, List.set_set, w1, w2, hw]
    · simp only [lt_lenI hL, cond_true, g1, Option.bind_some, beq_self_eq_true, Bool.not_true, cond_false, w1, w2, hw]
  · simp only [ge_lenI, cond_false]
  · simp only [ge_lenI, cond_false]

def V_Leg (_ : (Int × (Int × (Int × Int)))) : Nat := 4

def V_LegS (xs : (List (Int × (Int × (Int × Int))))) : Nat := wsum V_Leg xs

theorem vb_LegS (xs : (List (Int × (Int × (Int × Int))))) : V_LegS xs ≤ 4 * W_LegS xs := wsum_bnd V_Leg 4 xs (fun x _ => by unfold V_Leg; omega)

theorem mh_LegS (xs : (List (Int × (Int × (Int × Int))))) (k : Int) (hW : W_LegS xs ≤ 1048576) (h0 : 0 ≤ k) (hk : k + (V_LegS xs : Int) ≤ B40) : ∃ L : (List (Int × (Int × (Int × Int)))), L.length = xs.length ∧ m_w104q (xs, k) = some (k + (V_LegS xs : Int), L) ∧ m_w109q (L, k) = some (k + (V_LegS xs : Int)) := by
  unfold W_LegS at hW
  have hB : B40 = 1099511627776 := rfl
  show ∃ L : (List (Int × (Int × (Int × Int)))), _ ∧ p_w104q FU (xs, k) = _ ∧ p_w109q FU (L, k) = _
  unfold p_w104q l_w104q_1 p_w109q l_w109q_1
  dsimp only
  refine mark_held V_Leg xs k (by unfold B36; omega) h0 hk (fun i k x hx hi h0 hk hw => ?_) (fun k L rec => ?_) (fun k L rec => ?_)
  · have hx := True.intro
    unfold V_Leg at hk ⊢
    have w1 : IntKind.wrap .i64 (k + 1) = k + 1 := wrap64 (by omega) (by omega)
    have w2 : IntKind.wrap .i64 (k + 1 + 1) = k + 1 + 1 := wrap64 (by omega) (by omega)
    have w3 : IntKind.wrap .i64 (k + 1 + 1 + 1) = k + 1 + 1 + 1 := wrap64 (by omega) (by omega)
    have w4 : IntKind.wrap .i64 (k + 1 + 1 + 1 + 1) = k + 1 + 1 + 1 + 1 := wrap64 (by omega) (by omega)
    have ew : k + ((4 : Nat) : Int) = k + 1 + 1 + 1 + 1 := by omega
    rw [ew]
    refine ⟨(k, (k + 1, (k + 1 + 1, k + 1 + 1 + 1))), fun L hL g1 g2 rec => ?_, fun L hL g1 rec => ?_⟩
    · simp only [lt_lenI hL, cond_true, g1, g2, Option.bind_some, Int.toNat_natCast, geti_set hL, gets_set hL, List.set_set, w1, w2, w3, w4, hw]
    · simp only [lt_lenI hL, cond_true, g1, Option.bind_some, beq_self_eq_true, Bool.not_true, cond_false, w1, w2, w3, w4, hw]
  · simp only [ge_lenI, cond_false]
  · simp only [ge_lenI, cond_false]

def V_Contract (x : (Int × (List (Int × (Int × (Int × Int)))))) : Nat := 1 + V_LegS x.2

def V_ContractS (xs : (List (Int × (List (Int × (Int × (Int × Int))))))) : Nat := wsum V_Contract xs

theorem vb_ContractS (xs : (List (Int × (List (Int × (Int × (Int × Int))))))) : V_ContractS xs ≤ 4 * W_ContractS xs := wsum_le V_Contract W_Contract 4 xs (fun x _ => by have := vb_LegS x.2; unfold V_Contract W_Contract; omega)

theorem mh_ContractS (xs : (List (Int × (List (Int × (Int × (Int × Int))))))) (k : Int) (hW : W_ContractS xs ≤ 1048576) (h0 : 0 ≤ k) (hk : k + (V_ContractS xs : Int) ≤ B40) : ∃ L : (List (Int × (List (Int × (Int × (Int × Int)))))), L.length = xs.length ∧ m_w105q (xs, k) = some (k + (V_ContractS xs : Int), L) ∧ m_w110q (L, k) = some (k + (V_ContractS xs : Int)) := by
  unfold W_ContractS at hW
  have hB : B40 = 1099511627776 := rfl
  show ∃ L : (List (Int × (List (Int × (Int × (Int × Int)))))), _ ∧ p_w105q FU (xs, k) = _ ∧ p_w110q FU (L, k) = _
  unfold p_w105q l_w105q_1 p_w110q l_w110q_1
  dsimp only
  refine mark_held V_Contract xs k (by unfold B36; omega) h0 hk (fun i k x hx hi h0 hk hw => ?_) (fun k L rec => ?_) (fun k L rec => ?_)
  · have hx : W_Contract x ≤ 1048576 := by have := wsum_mem W_Contract xs x hx; omega
    unfold W_Contract at hx
    unfold V_Contract at hk ⊢
    have w1 : IntKind.wrap .i64 (k + 1) = k + 1 := wrap64 (by omega) (by omega)
    obtain ⟨L1, _, m1, q1⟩ := mh_LegS x.2 (k + 1) (by omega) (by omega) (by omega)
    have d1 : decide (k + 1 + (V_LegS x.2 : Int) < 0) = false := decide_eq_false (by omega)
    have ew : k + ((1 + V_LegS x.2 : Nat) : Int) = k + 1 + (V_LegS x.2 : Int) := by omega
    rw [ew]
    refine ⟨(k, L1), fun L hL g1 g2 rec => ?_, fun L hL g1 rec => ?_⟩
    · simp only [lt_lenI hL, cond_true, g1, g2, Option.bind_some, Int.toNat_natCast, geti_set hL, gets_set hL, List.set_set, w1, m1, hw]
    · simp only [lt_lenI hL, cond_true, g1, Option.bind_some, beq_self_eq_true, Bool.not_true, cond_false, w1, q1, d1, hw]
  · simp only [ge_lenI, cond_false]
  · simp only [ge_lenI, cond_false]

def V_Int64 (_ : Int) : Nat := 1

def V_Int64S (xs : (List Int)) : Nat := wsum V_Int64 xs

theorem vb_Int64S (xs : (List Int)) : V_Int64S xs ≤ 1 * W_Int64S xs := wsum_bnd V_Int64 1 xs (fun x _ => by unfold V_Int64; omega)

theorem mh_Int64S (xs : (List Int)) (k : Int) (hW : W_Int64S xs ≤ 1048576) (h0 : 0 ≤ k) (hk : k + (V_Int64S xs : Int) ≤ B40) : ∃ L : (List Int), L.length = xs.length ∧ m_w106q (xs, k) = some (k + (V_Int64S xs : Int), L) ∧ m_w111q (L, k) = some (k + (V_Int64S xs : Int)) := by
  unfold W_Int64S at hW
  have hB : B40 = 1099511627776 := rfl
  show ∃ L : (List Int), _ ∧ p_w106q FU (xs, k) = _ ∧ p_w111q FU (L, k) = _
  unfold p_w106q l_w106q_1 p_w111q l_w111q_1
  dsimp only
  refine mark_held V_Int64 xs k (by unfold B36; omega) h0 hk (fun i k x hx hi h0 hk hw => ?_) (fun k L rec => ?_) (fun k L rec => ?_)
  · have hx := True.intro
    unfold V_Int64 at hk ⊢
    have w1 : IntKind.wrap .i64 (k + 1) = k + 1 := wrap64 (by omega) (by omega)
    have ew : k + ((1 : Nat) : Int) = k + 1 := by omega
    rw [ew]
    refine ⟨k, fun L hL g1 g2 rec => ?_, fun L hL g1 rec => ?_⟩
    · simp only [lt_lenI hL, cond_true, g1, g2, Option.bind_some, Int.toNat_natCast, w1, hw]
    · simp only [lt_lenI hL, cond_true, g1, Option.bind_some, beq_self_eq_true, Bool.not_true, cond_false, w1, hw]
  · simp only [ge_lenI, cond_false]
  · simp only [ge_lenI, cond_false]

theorem h_w112q (x : (Int × ((List (Int × (Int × Int))) × ((List (Int × Int)) × ((List (Int × (List (Int × (Int × (Int × Int)))))) × ((List (Int × Int)) × (List Int))))))) (k k1 k2 k3 k4 k5 : Int) (e1 : m_w107q (x.2.1, k) = some k1) (n1 : 0 ≤ k1) (e2 : m_w108q (x.2.2.1, k1) = some k2) (n2 : 0 ≤ k2) (e3 : m_w110q (x.2.2.2.1, k2) = some k3) (n3 : 0 ≤ k3) (e4 : m_w108q (x.2.2.2.2.1, k3) = some k4) (n4 : 0 ≤ k4) (e5 : m_w111q (x.2.2.2.2.2, k4) = some k5) (n5 : 0 ≤ k5) : m_w112q (x, k) = some k5 := by
  show p_w112q FU _ = _
  unfold p_w112q
  simp only [e1, decide_eq_false (show ¬ k1 < 0 by omega), e2, decide_eq_false (show ¬ k2 < 0 by omega), e3, decide_eq_false (show ¬ k3 < 0 by omega), e4, decide_eq_false (show ¬ k4 < 0 by omega), e5, decide_eq_false (show ¬ k5 < 0 by omega), Option.bind_some, cond_false]

theorem h_w113q (x : (Int × (Int × (Int × ((List (Int × (Int × Int))) × ((List (Int × Int)) × ((List (Int × (List (Int × (Int × (Int × Int)))))) × ((List (Int × Int)) × (List Int))))))))) (k k1 : Int) (e1 : m_w112q (x.2.2, k) = some k1) (n1 : 0 ≤ k1) : m_w113q (x, k) = some k1 := by
  show p_w113q FU _ = _
  unfold p_w113q
  simp only [e1, decide_eq_false (show ¬ k1 < 0 by omega), Option.bind_some, cond_false]

theorem t_w17q (a b c : Int) : m_w17q (a, b, c) = some (inB a b c) := by
  show p_w17q FU _ = _
  unfold p_w17q inB
  by_cases h : b ≤ a <;> simp [h]

theorem t_w18q (a b : Int) : m_w18q (a, b) = some (plB a b) := by
  show p_w18q FU _ = _
  unfold p_w18q plB
  simp only [t_w17q, Option.bind_some]
  cases inB a 0 5 <;> rfl

theorem t_w42q (a b c : Int) : m_w42q (a, b, c) = some (inB a b c) := by
  show p_w42q FU _ = _
  unfold p_w42q inB
  by_cases h : b ≤ a <;> simp [h]

theorem t_w44q (a : Int) : m_w44q a = some (inB a 0 2) := by
  show p_w44q FU _ = _
  unfold p_w44q
  simp only [t_w42q, Option.bind_some]

theorem t_w45q (a b : Int) : m_w45q (a, b) = some (plB a b) := by
  show p_w45q FU _ = _
  unfold p_w45q plB
  simp only [t_w42q, t_w44q, Option.bind_some]
  cases inB a 0 5 <;> rfl

theorem t_w47q (a b : Int) : m_w47q (a, b) = some (if a < b then -1 else if a > b then 1 else 0) := by
  show p_w47q FU _ = _
  unfold p_w47q
  have e : ∀ a : Int, m_w46q a = some false := fun a => by
    show p_w46q FU a = _
    unfold p_w46q
    simp
  simp only [e, Option.bind_some, cond_false]
  by_cases h1 : a < b
  · simp [h1]
  · by_cases h2 : a > b <;> simp [h1, h2]

theorem t_w48q (a b : Int) : m_w48q [a, b] = some (if a = 0 then b else a) := by
  show p_w48q FU _ = _
  unfold p_w48q l_w48q_1
  obtain ⟨m, hm⟩ : ∃ m, FU = m + 1 + 1 + 1 := ⟨18446744073709551613, rfl⟩
  rw [hm]
  have w1 : IntKind.wrap .i64 1 = 1 := rfl
  have w2 : IntKind.wrap .i64 2 = 2 := rfl
  by_cases h1 : a = 0
  · by_cases h2 : b = 0
    · simp [lp, geti, lenI, h1, h2, w1, w2]
    · have hb : (b == 0) = false := by simp [h2]
      simp [lp, geti, lenI, h1, hb, w1, w2]
  · have hb : (a == 0) = false := by simp [h1]
    simp [lp, geti, lenI, h1, hb]

theorem t_w49q (a b : BalT) : m_w49q (a, b) = some (cmpP a b) := by
  show p_w49q FU _ = _
  unfold p_w49q cmpP
  simp only [t_w47q, t_w48q, Option.bind_some]

theorem t_w50q (xs : List BalT) : m_w50q xs = some (balCode xs) := by
  show p_w50q FU xs = _
  unfold p_w50q balCode
  by_cases hl : xs.length > 18
  · have : decide (lenI xs > 18) = true := decide_eq_true (by rw [lenI_eq]; omega)
    rw [this, if_pos hl]; rfl
  · have : decide (lenI xs > 18) = false := decide_eq_false (by rw [lenI_eq]; omega)
    rw [this, if_neg hl, cond_false]
    unfold l_w50q_1
    refine (lp_fst xs (balStep xs) (some 0) (by unfold B36; omega) (fun i hi rec hw => ?_) (fun rec => ?_)).trans (by cases fstI (balStep xs) 0 xs <;> rfl)
    · simp only [lt_lenI hi, cond_true, geti_lt xs i hi, Option.bind_some, t_w45q, t_w42q, balStep, okBal, hw]
      cases plB xs[i].1 xs[i].2.1 with
      | false => rfl
      | true =>
        cases inB xs[i].2.2 1 1000000000000 with
        | false => rfl
        | true =>
          simp only [Bool.not_true, cond_false, Option.bind_some, Bool.and_self]
          by_cases h0 : 0 < i
          · have hd : decide ((i : Int) > 0) = true := by simp; omega
            have hi1 : i - 1 < xs.length := by omega
            simp only [hd, cond_true, prv (i := i) (by unfold B36; omega) h0, geti_lt xs _ hi1, Option.bind_some, t_w49q, h0, decide_true, Bool.true_and, List.getElem?_eq_getElem hi1, Option.getD_some]
            cases decide (cmpP xs[i - 1] xs[i] ≥ 0) <;> rfl
          · have hd : decide ((i : Int) > 0) = false := by simp; omega
            simp only [hd, cond_false, Option.bind_some, h0, decide_false, Bool.false_and]
    · simp only [ge_lenI, cond_false]

theorem key_cmp (a b : BalT) (ha : okBal a = true) (hb : okBal b = true) : decide ((IntKind.wrap .i64 ((IntKind.wrap .i64 (b.1 * (3 : Int))) + b.2.1)) ≤ (IntKind.wrap .i64 ((IntKind.wrap .i64 (a.1 * (3 : Int))) + a.2.1))) = decide (cmpP a b ≥ 0) := by
  unfold okBal plB inB at ha hb
  simp only [Bool.and_eq_true, decide_eq_true_eq] at ha hb
  obtain ⟨⟨⟨a1, a2⟩, a3, a4⟩, _⟩ := ha
  obtain ⟨⟨⟨b1, b2⟩, b3, b4⟩, _⟩ := hb
  rw [wrap64 (n := a.1 * 3) (by omega) (by omega), wrap64 (n := b.1 * 3) (by omega) (by omega), wrap64 (by omega) (by omega), wrap64 (by omega) (by omega)]
  have h := cmpP_lt a b
  by_cases hc : cmpP a b < 0
  · have h1 := h.1 hc
    rw [decide_eq_false (show ¬ cmpP a b ≥ 0 by omega), decide_eq_false (by omega)]
  · have h1 : ¬ (a.1 < b.1 ∨ a.1 = b.1 ∧ a.2.1 < b.2.1) := fun q => hc (h.2 q)
    rw [decide_eq_true (show cmpP a b ≥ 0 by omega), decide_eq_true (by omega)]
theorem t_w19q (xs : List BalT) : m_w19q xs = some (balCode xs) := by
  show p_w19q FU xs = _
  unfold p_w19q balCode
  by_cases hl : xs.length > 18
  · have : decide (lenI xs > 18) = true := decide_eq_true (by rw [lenI_eq]; omega)
    rw [this, if_pos hl]; rfl
  · have : decide (lenI xs > 18) = false := decide_eq_false (by rw [lenI_eq]; omega)
    rw [this, if_neg hl, cond_false]
    unfold l_w19q_1
    refine (lp_fstI xs (balStep xs) (some 0) (fun i => ∀ (h : i - 1 < xs.length), 0 < i → okBal (xs[i - 1]'h) = true) (by unfold B36; omega) (fun _ h => by omega) (fun i hi hI hw => ⟨fun rec => ?_, fun hn h _ => ?_⟩) (fun rec => ?_)).trans (by cases fstI (balStep xs) 0 xs <;> rfl)
    · simp only [lt_lenI hi, cond_true, geti_lt xs i hi, Option.bind_some, t_w18q, t_w17q, balStep, hw]
      cases ho : okBal xs[i] with
      | false =>
        unfold okBal at ho
        cases hp : plB xs[i].1 xs[i].2.1 with
        | false => rfl
        | true => rw [hp] at ho; simp only [Bool.true_and] at ho; rw [ho]; rfl
      | true =>
        have ho' := ho
        unfold okBal at ho'
        simp only [Bool.and_eq_true] at ho'
        simp only [ho'.1, ho'.2, Bool.not_true, cond_false, Option.bind_some]
        by_cases h0 : 0 < i
        · have hd : decide ((i : Int) > 0) = true := by simp; omega
          have hi1 : i - 1 < xs.length := by omega
          simp only [hd, cond_true, prv (i := i) (by unfold B36; omega) h0, geti_lt xs _ hi1, Option.bind_some, key_cmp _ _ (hI hi1 h0) ho, h0, decide_true, Bool.true_and, List.getElem?_eq_getElem hi1, Option.getD_some]
          cases decide (cmpP xs[i - 1] xs[i] ≥ 0) <;> rfl
        · have hd : decide ((i : Int) > 0) = false := by simp; omega
          simp only [hd, cond_false, Option.bind_some, h0, decide_false, Bool.false_and]
    · simp only [Nat.add_sub_cancel]
      unfold balStep at hn
      cases ho : okBal xs[i] with
      | true => rfl
      | false => rw [ho] at hn; cases hn
    · simp only [ge_lenI, cond_false]

theorem t_w20q (a : Int) (xs : List BalT) : m_w20q (a, xs) = some (cond (!(inB a 0 2)) 3 (balCode xs)) := by
  show p_w20q FU _ = _
  unfold p_w20q
  simp only [t_w17q, t_w19q, Option.bind_some]
  cases inB a 0 2 <;> rfl

theorem t_w21q (a : Int) : m_w21q a = some (idB a) := by
  show p_w21q FU _ = _
  unfold p_w21q idB
  rw [t_w17q]; rfl

theorem vlu_in (v : Int) : inB v 1 2 = vlu v := by
  unfold inB vlu
  rw [Bool.eq_iff_iff]
  simp; omega
theorem t_w22q (xs : List MarkT) (hl : xs.length ≤ 1048576) : m_w22q xs = some (markC xs) := by
  show p_w22q FU _ = _
  unfold p_w22q l_w22q_1 markC
  refine (lp_fst xs (markStep xs) (some (0 : Int)) (by unfold B36; omega) (fun i hi rec hw => ?_) (fun rec => ?_)).trans ?_
  · simp only [lt_lenI hi, cond_true, geti_lt xs i hi, Option.bind_some, t_w21q, t_w17q, vlu_in, hw, markStep]
    cases idB xs[i].1 with
    | false => rfl
    | true =>
      cases vlu xs[i].2 with
      | false => rfl
      | true =>
        simp only [Bool.not_true, cond_false, Option.bind_some, Bool.and_self]
        by_cases h0 : 0 < i
        · have hd : decide ((i : Int) > 0) = true := by simp; omega
          have hi1 : i - 1 < xs.length := by omega
          simp only [hd, cond_true, prv (i := i) (by unfold B36; omega) h0, geti_lt xs _ hi1, Option.bind_some, h0, decide_true, Bool.true_and, List.getElem?_eq_getElem hi1, Option.getD_some]
          cases decide (xs[i].1 ≤ xs[i - 1].1) <;> rfl
        · have hd : decide ((i : Int) > 0) = false := by simp; omega
          simp only [hd, cond_false, Option.bind_some, h0, decide_false, Bool.false_and]
  · simp only [ge_lenI, cond_false]
  · cases fstI (markStep xs) 0 xs <;> rfl

theorem t_w23q (l : LegT) : m_w23q l = some (legC l) := by
  show p_w23q FU _ = _
  unfold p_w23q legC plB
  simp only [t_w17q, Option.bind_some]
  cases inB l.1 0 2 with
  | false => rfl
  | true =>
    cases inB l.2.1 0 5 with
    | false => rfl
    | true =>
      cases inB l.2.2.1 0 2 with
      | false => rfl
      | true =>
        cases inB l.2.2.2 (-1000000000000) 1000000000000 with
        | false => rfl
        | true => cases h : (l.2.2.2 == 0) <;> simp [h]

theorem t_spec_CF_1 (xs : List LegT) (i : Nat) (hi : i < xs.length) (hl : xs.length ≤ 8) (l : LegT) : l_w24q_1 FU (i : Int) xs l.1 l.2.1 l.2.2.1 (0 : Int) = some (cond ((xs.take i).any fun o => sameP o l) (Sum.inr (Sum.inr (Sum.inr (7 : Int)))) (Sum.inl ())) := by
  unfold l_w24q_1
  have hlen : (xs.take i).length = i := by rw [List.length_take]; omega
  refine (lp_hit (xs.take i) (fun o => sameP o l) (some (Sum.inr (Sum.inr (Sum.inr (7 : Int))))) (some (Sum.inl ())) (by rw [hlen]; unfold B36; omega) (fun j hj rec hw => ?_) (fun rec => ?_)).trans ?_
  · rw [hlen] at hj
    have hd : decide ((j : Int) < (i : Int)) = true := decide_eq_true (by omega)
    have hg : geti xs (j : Int) = some xs[j] := geti_lt xs j (by omega)
    have ht : (xs.take i)[j]'(by rw [hlen]; exact hj) = xs[j] := List.getElem_take
    simp only [hd, cond_true, hg, Option.bind_some, hw, ht, sameP]
    cases (xs[j].1 == l.1) with
    | false => rfl
    | true => cases (xs[j].2.1 == l.2.1) <;> rfl
  · rw [hlen]
    have hd : decide ((i : Int) < (i : Int)) = false := decide_eq_false (by omega)
    simp only [hd, cond_false]
  · cases (xs.take i).any fun o => sameP o l <;> rfl
def sums3 (xs : List LegT) : List Int := [sumA xs 0, sumA xs 1, sumA xs 2]
theorem sums3_set (xs : List LegT) (l : LegT) (a : Nat) (ha : a < 3) (hla : l.2.2.1 = (a : Int)) (hb : -(8 * 1000000000000) ≤ sumA xs a + l.2.2.2 ∧ sumA xs a + l.2.2.2 ≤ 8 * 1000000000000) :
    (sums3 xs)[a]? = some (sumA xs a) ∧ (sums3 xs).set a (IntKind.wrap .i64 (sumA xs a + l.2.2.2)) = sums3 (xs ++ [l]) := by
  have hw : IntKind.wrap .i64 (sumA xs a + l.2.2.2) = sumA xs a + l.2.2.2 := wrap64 (by omega) (by omega)
  rw [hw]
  unfold sums3
  rw [sumA_snoc, sumA_snoc, sumA_snoc, hla]
  rcases (by omega : a = 0 ∨ a = 1 ∨ a = 2) with rfl | rfl | rfl <;> simp
theorem t_w24q (c : ConT) (hl : c.2.length ≤ 1048576) : m_w24q c = some (conC c) := by
  obtain ⟨id, xs⟩ := c
  show p_w24q FU _ = _
  unfold p_w24q conC
  simp only [t_w21q, Option.bind_some]
  cases idB id with
  | false => rfl
  | true =>
    simp only [Bool.not_true, cond_false]
    by_cases h1 : xs.length < 2
    · have : decide (lenI xs < 2) = true := decide_eq_true (by rw [lenI_eq]; omega)
      rw [this, if_pos (show xs.length < 2 ∨ 8 < xs.length from .inl h1)]; rfl
    · have d1 : decide (lenI xs < 2) = false := decide_eq_false (by rw [lenI_eq]; omega)
      by_cases h2 : 8 < xs.length
      · have : decide (lenI xs > 8) = true := decide_eq_true (by rw [lenI_eq]; omega)
        rw [d1, this, if_pos (show xs.length < 2 ∨ 8 < xs.length from .inr h2)]; rfl
      · have d2 : decide (lenI xs > 8) = false := decide_eq_false (by rw [lenI_eq]; omega)
        have hn : ¬ (xs.length < 2 ∨ 8 < xs.length) := by omega
        have hm : Nat.ble (8 * (3 : Int).toNat) maxBytes = true := rfl
        have h3 : (3 : Int).toNat = 3 := rfl
        rw [d1, d2, if_neg hn]
        simp only [cond_false, Option.bind_some, if_true, show (0 : Int) ≤ 3 from by omega, chk, hm, cond_true]
        have e1 : l_w24q_2 FU xs ((0 : Int), (List.replicate (3 : Int).toNat (0 : Int))) = (fstI (legStep xs) 0 xs).elim (some (Sum.inl (sums3 xs))) (fun r => some (Sum.inr r)) := by
          unfold l_w24q_2
          refine (lp_fstS xs (fun i l => (legStep xs i l).map (Sum.inr (α := List Int))) (fun i => ((i : Int), sums3 (xs.take i))) (some (Sum.inl (sums3 xs))) (fun i => ∀ l ∈ xs.take i, legC l = 0) (by unfold B36; omega) (fun l h => by cases h) (fun i hi hall => ⟨fun rec => ?_, fun hq l hl => ?_⟩) (fun _ rec => ?_)).trans ?_
          · have hw := wrap_next hi (Nat.le_trans (Nat.le_of_not_lt h2) (by omega))
            simp only [lt_lenI hi, cond_true, geti_lt xs i hi, Option.bind_some, t_w23q, legStep, hw]
            cases hc : legC xs[i] == 0 with
            | false => rfl
            | true =>
              simp only [Bool.not_true, cond_false, cond_true, t_spec_CF_1 xs i hi (Nat.le_of_not_lt h2) xs[i], Option.bind_some]
              cases (xs.take i).any fun o => sameP o xs[i] with
              | true => rfl
              | false =>
                simp only [cond_false, Sum.elim_inl]
                have hz := legC_zero (by simpa using hc : legC xs[i] = 0)
                obtain ⟨a, ha⟩ : ∃ a : Nat, xs[i].2.2.1 = (a : Int) := ⟨xs[i].2.2.1.toNat, by omega⟩
                have ha3 : a < 3 := by have := hz.2.2.1; omega
                have hb := sumA_bnd (xs.take i) a (fun l hl => (legC_zero (hall l hl)).2.2.2.1)
                have hlt : (xs.take i).length ≤ 7 := by rw [List.length_take]; omega
                obtain ⟨s1, s2⟩ := sums3_set (xs.take i) xs[i] a ha3 ha (by have := hz.2.2.2.1; omega)
                have hg : geti (sums3 (xs.take i)) (a : Int) = some (sumA (xs.take i) a) := by rw [geti_nat, s1]
                rw [List.take_succ_eq_append_getElem hi, ← s2]
                simp only [ha, hg, Option.bind_some, Int.toNat_natCast, s1, Sum.elim_inl, Option.map_none, Option.elim_none]
          · rw [List.take_succ_eq_append_getElem hi] at hl
            rcases List.mem_append.1 hl with hl | hl
            · exact hall l hl
            · rw [List.mem_singleton] at hl
              subst hl
              cases hs : legStep xs i xs[i] with
              | some r => rw [hs] at hq; cases hq
              | none =>
                unfold legStep at hs
                cases hc : legC xs[i] == 0 with
                | true => simpa using hc
                | false => rw [hc] at hs; cases hs
          · simp only [ge_lenI, cond_false, List.take_length]
          · rw [fstI_map]
            cases fstI (legStep xs) 0 xs <;> rfl
        rw [e1]
        cases fstI (legStep xs) 0 xs with
        | some r => rfl
        | none =>
          simp only [Option.elim_none, Option.bind_some, Sum.elim_inl]
          unfold l_w24q_3
          refine (lp_hit (sums3 xs) (fun a => !(a == 0)) (some (1 : Int)) (some 0) (by simp [sums3, B36]) (fun j hj rec hw => ?_) (fun rec => ?_)).trans ?_
          · simp only [lt_lenI hj, cond_true, geti_lt _ j hj, Option.bind_some, Int.toNat_natCast, List.getElem?_eq_getElem hj, hw]
          · simp only [ge_lenI, cond_false]
          · unfold sums3
            simp only [List.any_cons, List.any_nil, Bool.or_false]
            by_cases q0 : sumA xs 0 = 0 <;> by_cases q1 : sumA xs 1 = 0 <;> by_cases q2 : sumA xs 2 = 0 <;> simp [q0, q1, q2, beq_eq_false_iff_ne.2]

theorem t_w25q (b : Int) (xs : List LegT) (a : Int) (hl : xs.length ≤ 1048576) : m_w25q ((b, xs), a) = some (legsA xs a) := by
  show p_w25q FU _ = _
  unfold p_w25q l_w25q_1 legsA
  simp only
  refine lp_for (fun r => r = some (xs.filter fun y => y.1 == a)) (fun i z => z = ((xs.take i).filter fun y => y.1 == a, (i : Int))) xs.length (fun i z hi hz => ?_) (fun z hz rec => ?_) FU _ (FU_gt hl) rfl
  · subst hz
    have h := List.length_filter_le (fun y : LegT => y.1 == a) (xs.take i)
    simp only [List.length_take] at h
    have hb : Nat.ble ((((xs.take i).filter fun y => y.1 == a).length + [xs[i]].length) * 32) maxBytes = true := ble_mem (by simp only [maxBytes, List.length_singleton]; omega)
    refine .inr ⟨_, rfl, fun rec => ?_⟩
    simp only [lt_lenI hi, cond_true, geti_lt xs i hi, Option.bind_some, wrap_next hi hl, chk_true hb]
    rw [List.take_succ_eq_append_getElem hi, List.filter_append]
    cases hx : (xs[i].1 == a) <;> simp [hx]
  · subst hz
    simp only [ge_lenI, cond_false, List.take_length]

theorem t_w26q (xs : List MarkT) (c : Int) (hl : xs.length ≤ 1048576) : m_w26q (xs, c) = some (findM xs c) := by
  show p_w26q FU _ = _
  unfold p_w26q l_w26q_1 findM
  simp only
  refine (lp_place xs (fun m => m.1 == c) (fun i => (xs[i]?).map (·.2)) (some (0 : Int)) (by unfold B36; omega) (fun i hi rec hw => ?_) (fun rec => ?_)).trans ?_
  · simp only [lt_lenI hi, cond_true, geti_lt xs i hi, Option.bind_some, hw, List.getElem?_eq_getElem hi, Option.map_some]
  · simp only [ge_lenI, cond_false]
  · rw [find_at]
    cases hf : xs.findIdx? (fun m => m.1 == c) with
    | none => rfl
    | some i =>
      rw [List.findIdx?_eq_some_iff_getElem] at hf
      obtain ⟨h, _⟩ := hf
      simp [List.getElem?_eq_getElem h]

theorem t_w27q (s : ShdT) (c : Int) (hl : s.2.2.2.1.length ≤ 1048576) : m_w27q (s, c) = some (s.2.2.2.1.any fun x => x.1 == c) := by
  show p_w27q FU _ = _
  unfold p_w27q l_w27q_1
  simp only
  generalize s.2.2.2.1 = xs at hl
  refine (lp_hit xs (fun x => x.1 == c) (some true) (some false) (by unfold B36; omega) (fun i hi rec hw => ?_) (fun rec => ?_)).trans ?_
  · simp only [lt_lenI hi, cond_true, geti_lt xs i hi, Option.bind_some, hw]
  · simp only [ge_lenI, cond_false]
  · cases xs.any fun x => x.1 == c <;> rfl

theorem t_w28q (xs : List Int) (a : Int) (hl : xs.length ≤ 2097152) : m_w28q (xs, a) = some (xs.any fun y => y == a) := by
  show p_w28q FU _ = _
  unfold p_w28q l_w28q_1
  simp only
  refine (lp_hit xs (fun y => y == a) (some true) (some false) (by unfold B36; omega) (fun i hi rec hw => ?_) (fun rec => ?_)).trans (by cases xs.any fun y => y == a <;> rfl)
  · simp only [lt_lenI hi, cond_true, geti_lt xs i hi, Option.bind_some, hw]
  · simp only [ge_lenI, cond_false]

theorem t_w29q (s : ShdT) (hu : upM s.2.2.2.2.1) (h1 : s.2.2.2.2.1.length ≤ 1048576) (h2 : s.2.2.2.2.2.length ≤ 1048576) : m_w29q s = some (appB s) := by
  show p_w29q FU _ = _
  unfold p_w29q appB
  generalize s.2.2.2.2.1 = done at *
  generalize s.2.2.2.2.2 = ap at *
  have e1 : l_w29q_1 FU done ((0 : Int), (0 : Int)) = some (((doneL done).length : Nat) : Int) := by
    unfold l_w29q_1
    refine lp_for (fun r => r = some (((doneL done).length : Nat) : Int)) (fun i z => z = ((((doneL (done.take i)).length : Nat) : Int), (i : Int))) done.length (fun i z hi hz => ?_) (fun z hz rec => ?_) FU _ (FU_gt h1) (by simp [doneL])
    · subst hz
      have hle : (doneL (done.take i)).length ≤ i := by
        unfold doneL
        rw [List.length_map]
        exact Nat.le_trans (List.length_filter_le _ _) (by rw [List.length_take]; omega)
      have hw : IntKind.wrap .i64 ((((doneL (done.take i)).length : Nat) : Int) + 1) = (((doneL (done.take i)).length + 1 : Nat) : Int) := by rw [wrap64 (by omega) (by omega)]; omega
      have e : doneL (done.take (i + 1)) = doneL (done.take i) ++ cond (done[i].2 == 1) [done[i].1] [] := by
        unfold doneL
        rw [List.take_succ_eq_append_getElem hi, List.filter_append, List.map_append]
        cases h : (done[i].2 == 1) <;> simp [h]
      refine .inr ⟨_, rfl, fun rec => ?_⟩
      rw [e]
      simp only [lt_lenI hi, cond_true, geti_lt done i hi, Option.bind_some, wrap_next hi h1, hw]
      cases (done[i].2 == 1) with
      | true => simp only [cond_true, List.length_append, List.length_singleton]
      | false => simp only [cond_false, List.append_nil]
    · subst hz
      simp only [ge_lenI, cond_false, List.take_length]
  have e2 : l_w29q_2 FU done ap (0 : Int) = (fstI (fun i a => cond (!(findM done a == 1) || (ap.take i).any fun y => y == a) (some (Sum.inr (α := Unit) false)) none) 0 ap).elim (some (Sum.inl ())) some := by
    unfold l_w29q_2
    refine (lp_fst ap (fun i a => cond (!(findM done a == 1) || (ap.take i).any fun y => y == a) (some (Sum.inr (α := Unit) false)) none) (some (Sum.inl ())) (by unfold B36; omega) (fun i hi rec hw => ?_) (fun rec => ?_)).trans ?_
    · have hbd : bndB none (some (i : Int)) none ap.length = true := by simp [bndB]; omega
      have hcut : cutL none (some (i : Int)) ap = ap.take i := by simp [cutL]
      simp only [lt_lenI hi, cond_true, geti_lt ap i hi, Option.bind_some, t_w26q done _ h1, hw, chk, hbd, hcut, t_w28q (ap.take i) ap[i] (by rw [List.length_take]; omega)]
      cases (findM done ap[i] == 1) with
      | false => rfl
      | true => cases (ap.take i).any fun y => y == ap[i] <;> rfl
    · simp only [ge_lenI, cond_false]
    · cases fstI (fun i a => cond (!(findM done a == 1) || (ap.take i).any fun y => y == a) (some (Sum.inr (α := Unit) false)) none) 0 ap <;> rfl
  rw [e1, e2]
  simp only [Option.bind_some]
  have hiff := app_iff hu ap
  have key : ∀ (ys : List Int) (i : Nat), ap.drop i = ys → (ap.take i).Nodup → (∀ a ∈ ap.take i, findM done a = 1) →
      (∀ r, fstI (fun i a => cond (!(findM done a == 1) || (ap.take i).any fun y => y == a) (some (Sum.inr (α := Unit) false)) none) i ys = some r → r = Sum.inr false ∧ ¬ (ap.Nodup ∧ ∀ a ∈ ap, findM done a = 1)) ∧
      (fstI (fun i a => cond (!(findM done a == 1) || (ap.take i).any fun y => y == a) (some (Sum.inr (α := Unit) false)) none) i ys = none → ap.Nodup ∧ ∀ a ∈ ap, findM done a = 1) := by
    intro ys
    induction ys with
    | nil =>
      intro i hd hn ha
      have : ap.length ≤ i := List.drop_eq_nil_iff.1 hd
      rw [List.take_of_length_le this] at hn ha
      exact ⟨fun r h => by simp [fstI] at h, fun _ => ⟨hn, ha⟩⟩
    | cons y ys ih =>
      intro i hd hn ha
      have hlt : i < ap.length := by
        rcases Nat.lt_or_ge i ap.length with q | q
        · exact q
        · rw [List.drop_eq_nil_of_le q] at hd; cases hd
      rw [List.drop_eq_getElem_cons hlt] at hd
      have q1 := (List.cons.inj hd).1
      have q2 := (List.cons.inj hd).2
      subst q1
      simp only [fstI]
      cases hb : (!(findM done ap[i] == 1) || (ap.take i).any fun y => y == ap[i]) with
      | true =>
        simp only [cond_true]
        refine ⟨fun r h => ⟨(Option.some.inj h).symm, ?_⟩, fun h => by cases h⟩
        rintro ⟨hnd, hall⟩
        have e1 := hall ap[i] (List.getElem_mem hlt)
        have e2 : (ap.take i).any (fun y => y == ap[i]) = false := by
          rw [List.any_eq_false]
          intro a ha'
          obtain ⟨j, hj, rfl⟩ := List.getElem_of_mem ha'
          rw [List.length_take] at hj
          rw [List.getElem_take]
          simpa using nodup_ne hnd (show j < i by omega) hlt
        rw [e1, e2] at hb
        cases hb
      | false =>
        simp only [cond_false]
        simp only [Bool.or_eq_false_iff, Bool.not_eq_false', beq_iff_eq] at hb
        refine ih (i + 1) q2 ?_ ?_
        · rw [List.take_succ_eq_append_getElem hlt]
          refine List.nodup_append.2 ⟨hn, by simp, fun a ha b hb' => ?_⟩
          rw [List.mem_singleton] at hb'
          subst hb'
          have := List.any_eq_false.1 hb.2 a ha
          simpa using this
        · intro a ha'
          rw [List.take_succ_eq_append_getElem hlt] at ha'
          rcases List.mem_append.1 ha' with ha' | ha'
          · exact ha a ha'
          · rw [List.mem_singleton] at ha'; subst ha'; exact hb.1
  obtain ⟨k1, k2⟩ := key ap 0 (by rw [List.drop_zero]) (by simp) (fun a h => by cases h)
  cases hf : fstI (fun i a => cond (!(findM done a == 1) || (ap.take i).any fun y => y == a) (some (Sum.inr (α := Unit) false)) none) 0 ap with
  | some r =>
    obtain ⟨rfl, hno⟩ := k1 r hf
    have : decide (sortI ap = doneL done) = false := decide_eq_false (fun h => hno ⟨(hiff.2 h).1, (hiff.2 h).2.1⟩)
    rw [this]; rfl
  | none =>
    obtain ⟨q1, q2⟩ := k2 hf
    simp only [Option.elim_none, Option.bind_some, Sum.elim_inl]
    rw [lenI_eq]
    congr 1
    rw [Bool.eq_iff_iff, beq_iff_eq, decide_eq_true_eq, ← hiff]
    constructor
    · intro h; exact ⟨q1, q2, by omega⟩
    · rintro ⟨_, _, h⟩; omega

theorem t_w30q (a b : List LegT) (ha : a.length ≤ 1048576) (hb : b.length ≤ 1048576) : m_w30q (a, b) = some (touchL a b) := by
  show p_w30q FU _ = _
  unfold p_w30q l_w30q_2 touchL
  simp only
  refine (lp_hit a (fun l => b.any fun o => (l.2.1 == o.2.1) && (l.2.2.1 == o.2.2.1)) (some true) (some false) (by unfold B36; omega) (fun i hi rec hw => ?_) (fun rec => ?_)).trans ?_
  · have e : l_w30q_1 FU a b (i : Int) (0 : Int) = some (cond (b.any fun o => (a[i].2.1 == o.2.1) && (a[i].2.2.1 == o.2.2.1)) (Sum.inr true) (Sum.inl ())) := by
      unfold l_w30q_1
      refine (lp_hit b (fun o => (a[i].2.1 == o.2.1) && (a[i].2.2.1 == o.2.2.1)) (some (Sum.inr true)) (some (Sum.inl ())) (by unfold B36; omega) (fun j hj rec hw => ?_) (fun rec => ?_)).trans ?_
      · simp only [lt_lenI hj, cond_true, geti_lt a i hi, geti_lt b j hj, Option.bind_some, hw]
        cases (a[i].2.1 == b[j].2.1) <;> rfl
      · simp only [ge_lenI, cond_false]
      · cases b.any fun o => (a[i].2.1 == o.2.1) && (a[i].2.2.1 == o.2.2.1) <;> rfl
    simp only [lt_lenI hi, cond_true, e, Option.bind_some, hw]
    cases b.any fun o => (a[i].2.1 == o.2.1) && (a[i].2.2.1 == o.2.2.1) <;> rfl
  · simp only [ge_lenI, cond_false]
  · cases a.any fun l => b.any fun o => (l.2.1 == o.2.1) && (l.2.2.1 == o.2.2.1) <;> rfl

theorem t_w31q (xs : List BalT) (a b : Int) (hl : xs.length ≤ 1048576) : m_w31q (xs, a, b) = some (hasB xs a b) := by
  show p_w31q FU _ = _
  unfold p_w31q l_w31q_1 hasB
  simp only
  refine (lp_place xs (fun y => (y.1 == a) && (y.2.1 == b)) (fun i => (xs[i]?).map (·.2.2)) (some (0 : Int)) (by unfold B36; omega) (fun i hi rec hw => ?_) (fun rec => ?_)).trans ?_
  · simp only [lt_lenI hi, cond_true, geti_lt xs i hi, Option.bind_some, hw, List.getElem?_eq_getElem hi, Option.map_some]
    cases (xs[i].1 == a) with
    | false => rfl
    | true => cases (xs[i].2.1 == b) <;> rfl
  · simp only [ge_lenI, cond_false]
  · rw [find_at]
    cases hf : xs.findIdx? (fun y => (y.1 == a) && (y.2.1 == b)) with
    | none => rfl
    | some i =>
      rw [List.findIdx?_eq_some_iff_getElem] at hf
      obtain ⟨h, _⟩ := hf
      simp [List.getElem?_eq_getElem h]

theorem t_w32q (xs : List BalT) (ls : List LegT) (hl : xs.length ≤ 1048576) (hs : ls.length ≤ 1048576) : m_w32q (xs, ls) = some (legsB xs ls) := by
  show p_w32q FU _ = _
  unfold p_w32q l_w32q_1 legsB
  simp only
  refine (lp_fst ls (fun _ l => nz (legB xs l)) (some (0 : Int)) (by unfold B36; omega) (fun i hi rec hw => ?_) (fun rec => ?_)).trans ?_
  · simp only [lt_lenI hi, cond_true, geti_lt ls i hi, Option.bind_some, t_w31q xs _ _ hl, hw, legB, nz]
    cases decide (IntKind.wrap .i64 (hasB xs ls[i].2.1 ls[i].2.2.1 + ls[i].2.2.2) < 0) with
    | true => rfl
    | false => cases decide (IntKind.wrap .i64 (hasB xs ls[i].2.1 ls[i].2.2.1 + ls[i].2.2.2) > 1000000000000) <;> rfl
  · simp only [ge_lenI, cond_false]
  · cases fstI (fun _ l => nz (legB xs l)) 0 ls <;> rfl

theorem held_e1 (s : ShdT) (hz : SzS s) : l_w33q_1 FU s.1 s.2.2.1 s.2.2.2.1 s.2.2.2.2.1 (0 : Int) = (fstI (heldStep s) 0 s.2.2.2.1).elim (some (Sum.inl ())) (fun r => some (Sum.inr r)) := by
  obtain ⟨z1, z2, z3, z4, z5, z6⟩ := hz
  have hB : s.2.2.2.1.length ≤ B36 := by unfold B36; omega
  unfold l_w33q_1
  refine (lp_fst s.2.2.2.1 (fun i c => (heldStep s i c).map (Sum.inr (α := Unit))) (some (Sum.inl ())) hB (fun i hi rec hw => ?_) (fun rec => ?_)).trans ?_
  · have hc := z6 _ (List.getElem_mem hi)
    have hLe : ∀ c : ConT, (lenI (legsA c.2 s.1) == 0) = (legsA c.2 s.1).isEmpty := fun c => by
      rw [lenI_eq]; cases legsA c.2 s.1 with
      | nil => rfl
      | cons a r => rw [List.isEmpty_cons, beq_eq_false_iff_ne, List.length_cons]; omega
    have hL := t_w25q s.2.2.2.1[i].1 s.2.2.2.1[i].2 s.1 hc
    simp only [lt_lenI hi, cond_true, geti_lt _ i hi, Option.bind_some, t_w24q _ hc, hw, heldStep]
    cases hcc : conC s.2.2.2.1[i] == 0 with
    | false => rfl
    | true =>
      simp only [Bool.not_true, cond_false, cond_true]
      have hL' : m_w25q (s.2.2.2.1[i], s.1) = some (legsA s.2.2.2.1[i].2 s.1) := hL
      unfold heldBad
      by_cases h0 : 0 < i
      · have hd : decide ((i : Int) > 0) = true := by simp; omega
        have hi1 : i - 1 < s.2.2.2.1.length := by omega
        simp only [hd, cond_true, prv (i := i) (by unfold B36; omega) h0, geti_lt _ _ hi1, Option.bind_some, hL', hLe, t_w26q _ _ z2, t_w26q _ _ z4, h0, decide_true, Bool.true_and, List.getElem?_eq_getElem hi1, Option.getD_some]
        cases decide (s.2.2.2.1[i].1 ≤ s.2.2.2.1[i - 1].1) with
        | true => rfl
        | false =>
          cases (legsA s.2.2.2.1[i].2 s.1).isEmpty with
          | true => rfl
          | false =>
            cases (findM s.2.2.1 s.2.2.2.1[i].1 == 1) with
            | false => rfl
            | true => cases (findM s.2.2.2.2.1 s.2.2.2.1[i].1 == 0) <;> rfl
      · have hd : decide ((i : Int) > 0) = false := by simp; omega
        simp only [hd, cond_false, Option.bind_some, hL', hLe, t_w26q _ _ z2, t_w26q _ _ z4, h0, decide_false, Bool.false_and, Bool.false_or]
        cases (legsA s.2.2.2.1[i].2 s.1).isEmpty with
        | true => rfl
        | false =>
          cases (findM s.2.2.1 s.2.2.2.1[i].1 == 1) with
          | false => rfl
          | true => cases (findM s.2.2.2.2.1 s.2.2.2.1[i].1 == 0) <;> rfl
  · simp only [ge_lenI, cond_false]
  · rw [fstI_map]
    cases fstI (heldStep s) 0 s.2.2.2.1 <;> rfl
theorem held_e2 (s : ShdT) (hz : SzS s) : l_w33q_2 FU s (0 : Int) = some (cond (s.2.2.1.any (openB s)) (Sum.inr (1 : Int)) (Sum.inl ())) := by
  obtain ⟨z1, z2, z3, z4, z5, z6⟩ := hz
  have hB : s.2.2.2.1.length ≤ B36 := by unfold B36; omega
  unfold l_w33q_2
  refine (lp_hit s.2.2.1 (openB s) (some (Sum.inr (1 : Int))) (some (Sum.inl ())) (by unfold B36; omega) (fun i hi rec hw => ?_) (fun rec => ?_)).trans ?_
  · simp only [lt_lenI hi, cond_true, geti_lt _ i hi, Option.bind_some, t_w27q s _ z3, t_w26q _ _ z4, hw, openB]
    cases (s.2.2.1[i].2 == 1) with
    | false => rfl
    | true =>
      cases s.2.2.2.1.any fun x => x.1 == s.2.2.1[i].1 with
      | true => rfl
      | false => rfl
  · simp only [ge_lenI, cond_false]
  · cases s.2.2.1.any (openB s) <;> rfl
theorem held_e3 (s : ShdT) (hz : SzS s) : ∀ i, i < s.2.2.2.1.length → ∀ c, s.2.2.2.1[i]? = some c → l_w33q_3 FU (i : Int) s.1 s.2.2.2.1 (0 : Int) = some (cond ((s.2.2.2.1.take i).any fun o => touchL (legsA c.2 s.1) (legsA o.2 s.1)) (Sum.inr (Sum.inr (7 : Int))) (Sum.inl ())) := by
  obtain ⟨z1, z2, z3, z4, z5, z6⟩ := hz
  have hB : s.2.2.2.1.length ≤ B36 := by unfold B36; omega
  intro i hi c hc
  unfold l_w33q_3
  have hlen : (s.2.2.2.1.take i).length = i := by rw [List.length_take]; omega
  have hgc : geti s.2.2.2.1 (i : Int) = some c := by rw [geti_nat, hc]
  have hcl : c.2.length ≤ 1048576 := z6 c (List.mem_of_getElem? hc)
  refine (lp_hit (s.2.2.2.1.take i) (fun o => touchL (legsA c.2 s.1) (legsA o.2 s.1)) (some (Sum.inr (Sum.inr (7 : Int)))) (some (Sum.inl ())) (by rw [hlen]; omega) (fun j hj rec hw => ?_) (fun rec => ?_)).trans ?_
  · rw [hlen] at hj
    have hd : decide ((j : Int) < (i : Int)) = true := decide_eq_true (by omega)
    have hg : geti s.2.2.2.1 (j : Int) = some s.2.2.2.1[j] := geti_lt _ j (by omega)
    have ht : (s.2.2.2.1.take i)[j]'(by rw [hlen]; exact hj) = s.2.2.2.1[j] := List.getElem_take
    have hjl : s.2.2.2.1[j].2.length ≤ 1048576 := z6 _ (List.getElem_mem (by omega))
    have L1 : m_w25q (c, s.1) = some (legsA c.2 s.1) := t_w25q c.1 c.2 s.1 hcl
    have L2 : m_w25q (s.2.2.2.1[j], s.1) = some (legsA s.2.2.2.1[j].2 s.1) := t_w25q _ _ _ hjl
    simp only [hd, cond_true, hgc, hg, Option.bind_some, L1, L2, t_w30q _ _ (legsA_len hcl _) (legsA_len hjl _), hw, ht]
  · rw [hlen]
    have hd : decide ((i : Int) < (i : Int)) = false := decide_eq_false (by omega)
    simp only [hd, cond_false]
  · cases (s.2.2.2.1.take i).any fun o => touchL (legsA c.2 s.1) (legsA o.2 s.1) <;> rfl
theorem held_e4 (s : ShdT) (hz : SzS s) : l_w33q_4 FU s.1 s.2.2.2.1 (0 : Int) = (fstI (meetStep s) 0 s.2.2.2.1).elim (some (Sum.inl ())) (fun r => some (Sum.inr r)) := by
  obtain ⟨z1, z2, z3, z4, z5, z6⟩ := hz
  have hB : s.2.2.2.1.length ≤ B36 := by unfold B36; omega
  unfold l_w33q_4
  refine (lp_fst s.2.2.2.1 (fun i c => (meetStep s i c).map (Sum.inr (α := Unit))) (some (Sum.inl ())) hB (fun i hi rec hw => ?_) (fun rec => ?_)).trans ?_
  · have := held_e3 s ⟨z1, z2, z3, z4, z5, z6⟩ i hi _ (List.getElem?_eq_getElem hi)
    simp only [lt_lenI hi, cond_true, this, Option.bind_some, hw, meetStep]
    cases (s.2.2.2.1.take i).any fun o => touchL (legsA s.2.2.2.1[i].2 s.1) (legsA o.2 s.1) <;> rfl
  · simp only [ge_lenI, cond_false]
  · rw [fstI_map]
    cases fstI (meetStep s) 0 s.2.2.2.1 <;> rfl
theorem held_e5 (s : ShdT) (hz : SzS s) : l_w33q_5 FU s.1 s.2.1 s.2.2.2.1 (0 : Int) = some ((fstI (fun _ c => nz (legsB s.2.1 (legsA c.2 s.1))) 0 s.2.2.2.1).getD 0) := by
  obtain ⟨z1, z2, z3, z4, z5, z6⟩ := hz
  have hB : s.2.2.2.1.length ≤ B36 := by unfold B36; omega
  unfold l_w33q_5
  refine (lp_fst s.2.2.2.1 (fun _ c => nz (legsB s.2.1 (legsA c.2 s.1))) (some (0 : Int)) hB (fun i hi rec hw => ?_) (fun rec => ?_)).trans ?_
  · have hc := z6 _ (List.getElem_mem hi)
    have L1 : m_w25q (s.2.2.2.1[i], s.1) = some (legsA s.2.2.2.1[i].2 s.1) := t_w25q _ _ _ hc
    simp only [lt_lenI hi, cond_true, geti_lt _ i hi, Option.bind_some, L1, t_w32q _ _ z1 (legsA_len hc _), hw, nz]
    cases (legsB s.2.1 (legsA s.2.2.2.1[i].2 s.1) == 0) <;> rfl
  · simp only [ge_lenI, cond_false]
  · cases fstI (fun _ c => nz (legsB s.2.1 (legsA c.2 s.1))) 0 s.2.2.2.1 <;> rfl
theorem t_w33q (s : ShdT) (hz : SzS s) (hu : upM s.2.2.2.2.1) : m_w33q s = some (heldAll s) := by
  show p_w33q FU _ = _
  unfold p_w33q heldAll
  rw [held_e1 s hz]
  have hcz := fst_getD (heldStep_ne s) s.2.2.2.1 0
  unfold heldC
  cases hf : fstI (heldStep s) 0 s.2.2.2.1 with
  | some r =>
    have hr : r ≠ 0 := fun e => by rw [hf, e] at hcz; exact absurd (hcz.1 rfl) (by simp)
    simp only [Option.elim_some, Option.bind_some, Sum.elim_inr, Option.getD_some]
    rw [if_pos hr]
  | none =>
    simp only [Option.elim_none, Option.bind_some, Sum.elim_inl, Option.getD_none, ne_eq, not_true_eq_false, if_false, held_e2 s hz]
    cases s.2.2.1.any (openB s) with
    | true => simp only [cond_true, Sum.elim_inr, Bool.true_or]
    | false =>
      simp only [cond_false, Option.bind_some, Sum.elim_inl, t_w29q s hu hz.2.2.2.1 hz.2.2.2.2.1, Bool.false_or]
      cases appB s with
      | false => simp only [Bool.not_false, cond_true]
      | true =>
        simp only [Bool.not_true, cond_false, held_e4 s hz]
        cases fstI (meetStep s) 0 s.2.2.2.1 with
        | some r => simp only [Option.elim_some, Option.bind_some, Sum.elim_inr, Option.getD_some]
        | none =>
          simp only [Option.elim_none, Option.bind_some, Sum.elim_inl, Option.getD_none]
          rw [held_e5 s hz]

theorem t_w34q (s : ShdT) (hz : SzS s) : m_w34q s = some (shardC s) := by
  show p_w34q FU _ = _
  unfold p_w34q shardC
  simp only [t_w20q, Option.bind_some]
  cases inB s.1 0 2 with
  | false => rfl
  | true =>
    simp only [Bool.not_true, cond_false]
    by_cases hb : balCode s.2.1 = 0
    · simp only [hb, beq_self_eq_true, Bool.not_true, cond_false, ne_eq, not_true_eq_false, if_false]
      have emany : (cond (decide ((lenI s.2.2.1) > (100 : Int))) (some true) (cond (decide ((lenI s.2.2.2.1) > (100 : Int))) (some true) (cond (decide ((lenI s.2.2.2.2.1) > (100 : Int))) (some true) (some (decide ((lenI s.2.2.2.2.2) > (100 : Int))))))) = some (decide (100 < s.2.2.1.length ∨ 100 < s.2.2.2.1.length ∨ 100 < s.2.2.2.2.1.length ∨ 100 < s.2.2.2.2.2.length)) := by
        by_cases h1 : 100 < s.2.2.1.length
        · rw [decide_eq_true (show lenI s.2.2.1 > 100 by rw [lenI_eq]; omega), decide_eq_true (show 100 < s.2.2.1.length ∨ 100 < s.2.2.2.1.length ∨ 100 < s.2.2.2.2.1.length ∨ 100 < s.2.2.2.2.2.length from .inl h1)]; rfl
        · rw [decide_eq_false (show ¬ lenI s.2.2.1 > 100 by rw [lenI_eq]; omega), cond_false]
          by_cases h2 : 100 < s.2.2.2.1.length
          · rw [decide_eq_true (show lenI s.2.2.2.1 > 100 by rw [lenI_eq]; omega), decide_eq_true (show 100 < s.2.2.1.length ∨ 100 < s.2.2.2.1.length ∨ 100 < s.2.2.2.2.1.length ∨ 100 < s.2.2.2.2.2.length from .inr (.inl h2))]; rfl
          · rw [decide_eq_false (show ¬ lenI s.2.2.2.1 > 100 by rw [lenI_eq]; omega), cond_false]
            by_cases h3 : 100 < s.2.2.2.2.1.length
            · rw [decide_eq_true (show lenI s.2.2.2.2.1 > 100 by rw [lenI_eq]; omega), decide_eq_true (show 100 < s.2.2.1.length ∨ 100 < s.2.2.2.1.length ∨ 100 < s.2.2.2.2.1.length ∨ 100 < s.2.2.2.2.2.length from .inr (.inr (.inl h3)))]; rfl
            · rw [decide_eq_false (show ¬ lenI s.2.2.2.2.1 > 100 by rw [lenI_eq]; omega), cond_false]
              congr 1
              rw [Bool.eq_iff_iff, decide_eq_true_eq, decide_eq_true_eq, lenI_eq]
              omega
      rw [emany]
      simp only [Option.bind_some]
      by_cases hm : 100 < s.2.2.1.length ∨ 100 < s.2.2.2.1.length ∨ 100 < s.2.2.2.2.1.length ∨ 100 < s.2.2.2.2.2.length
      · rw [decide_eq_true hm, if_pos hm]; rfl
      · rw [decide_eq_false hm, if_neg hm, cond_false, t_w22q _ hz.2.1, Option.bind_some]
        by_cases hv : markC s.2.2.1 = 0
        · have hvb : (markC s.2.2.1 == 0) = true := by simpa using hv
          simp only [Bool.not_true, cond_false, hv, beq_self_eq_true, not_true_eq_false, if_false, t_w22q _ hz.2.2.2.1, Option.bind_some]
          by_cases hd : markC s.2.2.2.2.1 = 0
          · have hdb : (markC s.2.2.2.2.1 == 0) = true := by simpa using hd
            simp only [Bool.not_true, cond_false, hd, beq_self_eq_true, not_true_eq_false, if_false, t_w33q s hz (markC_zero hd).1, Option.bind_some]
          · have hdb : (markC s.2.2.2.2.1 == 0) = false := by simpa using hd
            rw [hdb, if_pos hd]; rfl
        · have hvb : (markC s.2.2.1 == 0) = false := by simpa using hv
          rw [hvb, if_pos hv]; rfl
    · have hbb : (balCode s.2.1 == 0) = false := by simpa using hb
      rw [if_pos hb, hbb]; rfl

theorem t_w35q (c : ConT) (h : c.2.length ≤ 1048576) : m_w35q c = some c := by
  show p_w35q FU _ = _
  unfold p_w35q
  have hb : Nat.ble (c.2.length * 32) maxBytes = true := ble_mem (by simp only [maxBytes]; omega)
  rw [chk_true hb]

theorem spec_copy_1 (a : Int) (b : List BalT) (v : List MarkT) (r : List MarkT × List Int) (xs : List ConT) (hl : xs.length ≤ 1048576) (hc : ∀ c ∈ xs, c.2.length ≤ 1048576) : l_w36q_1 FU xs ((0 : Int), (a, (b, (v, ([], r))))) = some (a, (b, (v, (xs, r)))) := by
  unfold l_w36q_1
  refine Eq.trans (lp_foldI xs (fun (s : List ConT) c => s ++ [c]) (fun i (s : List ConT) => ((i : Int), (a, (b, (v, (s, r)))))) (fun s => some (a, (b, (v, (s, r))))) (fun i s => s.length = i) (by unfold B36; omega) [] rfl (fun i hi s hI => ⟨by simp [hI], fun rec => ?_⟩) (fun s hI rec => ?_)).1 ?_
  · have c3 : Nat.ble ((s.length + [xs[i]].length) * 32) maxBytes = true := by rw [Nat.ble_eq]; simp only [List.length_cons, List.length_nil, maxBytes]; omega
    simp only [lt_lenI hi, cond_true, geti_lt xs i hi, Option.bind_some, t_w35q _ (hc _ (List.getElem_mem hi)), chk, c3, wrap_next hi hl]
  · simp only [ge_lenI, cond_false]
  · have : ∀ (ys zs : List ConT), ys.foldl (fun (s : List ConT) c => s ++ [c]) zs = zs ++ ys := by
      intro ys
      induction ys with
      | nil => intro zs; simp
      | cons y ys ih => intro zs; rw [List.foldl_cons, ih]; simp
    rw [this]; rfl
theorem t_w36q (s : ShdT) (hz : SzS s) : m_w36q s = some s := by
  obtain ⟨z1, z2, z3, z4, z5, z6⟩ := hz
  show p_w36q FU _ = _
  unfold p_w36q
  have b1 : Nat.ble (s.2.1.length * 24) maxBytes = true := ble_mem (by simp only [maxBytes]; omega)
  have b2 : Nat.ble (s.2.2.1.length * 16) maxBytes = true := ble_mem (by simp only [maxBytes]; omega)
  have b3 : Nat.ble (s.2.2.2.2.1.length * 16) maxBytes = true := ble_mem (by simp only [maxBytes]; omega)
  have b4 : Nat.ble (s.2.2.2.2.2.length * 8) maxBytes = true := ble_mem (by simp only [maxBytes]; omega)
  have e := spec_copy_1 s.1 s.2.1 s.2.2.1 s.2.2.2.2 s.2.2.2.1 z3 z6
  simp only [chk_true, b1, b2, b3, b4, e, same_self, dup_eq]

theorem t_w37q (xs : List MarkT) (c v : Int) (hl : xs.length ≤ 1048576) : m_w37q (xs, c, v) = some (putAt xs (atK (·.1) xs c) (c, v)) := by
  show p_w37q FU _ = _
  unfold p_w37q
  have e1 : l_w37q_1 FU xs c 0 = some ((atK (·.1) xs c : Nat) : Int) := by
    unfold l_w37q_1 atK
    refine (lp_place xs (fun y => !(decide (y.1 < c))) (fun j => some (j : Int)) (some (xs.length : Int)) (by unfold B36; omega) (fun j hj rec hw => ?_) (fun rec => ?_)).trans (by cases xs.findIdx? (fun y => !(decide (y.1 < c))) <;> rfl)
    · simp only [lt_lenI hj, cond_true, geti_lt xs j hj, Option.bind_some, hw]
      cases decide (xs[j].1 < c) <;> rfl
    · simp only [ge_lenI, cond_false, Option.bind_some]
  have hj := atK_le (·.1) xs c
  generalize atK (·.1) xs c = j at e1 hj ⊢
  have l1 : (xs.take j).length = j := by simp; omega
  have m1 : Nat.ble ((xs.take j).length * 16) maxBytes = true := ble_mem (by rw [l1]; simp only [maxBytes]; omega)
  have m2 : Nat.ble (((xs.take j).length + [(c, v)].length) * 16) maxBytes = true := ble_mem (by rw [l1]; simp only [maxBytes, List.length_singleton]; omega)
  have m3 : Nat.ble (((xs.take j ++ [(c, v)]).length + (xs.drop j).length) * 16) maxBytes = true := ble_mem (by simp only [maxBytes, List.length_append, List.length_singleton, l1, List.length_drop]; omega)
  simp only [e1, Option.bind_some, bnd_take xs hj, bnd_drop xs hj, cut_take, cut_drop, chk_true, m1, m2, m3]
  rfl

theorem key_wrap {a b : Int} (h : plB a b = true) : IntKind.wrap .i64 (IntKind.wrap .i64 (a * 3) + b) = a * 3 + b := by
  have := plB_bnd h
  rw [wrap64 (n := a * 3) (by omega) (by omega), wrap64 (by omega) (by omega)]
theorem t_w38q (xs : List BalT) (a b v : Int) (hg : GoodB xs) (hp : plB a b = true) (hl : xs.length ≤ 1048576) : m_w38q (xs, (a, (b, v))) = some (setB xs a b v) := by
  show p_w38q FU _ = _
  unfold p_w38q
  have key : l_w38q_1 FU xs (a, (b, v)) ([], ((v == 0), (0 : Int))) = some (xs.foldl (setStep a b v) ([], v == 0)) ∧ (xs.foldl (setStep a b v) ([], v == 0)).1.length ≤ xs.length + 1 := by
    unfold l_w38q_1
    have := lp_foldI xs (setStep a b v) (fun i s => (s.1, (s.2, (i : Int)))) (fun s => some s) (fun i s => s.1.length ≤ i + 1 ∧ (s.2 = false → s.1.length ≤ i)) (by unfold B36; omega) ([], v == 0) (by simp)
      (step := fun rec22 (z21 : (List (Int × (Int × Int))) × (Bool × Int)) =>
 (cond (decide (z21.2.2 < (lenI xs)))
  ((geti xs z21.2.2).bind fun y23 =>
  (Option.bind 
   (cond (y23.1 == a)
    (some (y23.2.1 == b))
    (some false)) fun j24 =>
  (cond j24
   (rec22 (z21.1, z21.2.1, IntKind.wrap .i64 (z21.2.2 + (1 : Int))))
   (Option.bind 
    (Option.bind 
     (cond (!z21.2.1)
      (some (decide ((IntKind.wrap .i64 ((IntKind.wrap .i64 (y23.1 * (3 : Int))) + y23.2.1)) > (IntKind.wrap .i64 ((IntKind.wrap .i64 (a * (3 : Int))) + b)))))
      (some false)) fun j26 =>
    (cond j26
     (chk (Nat.ble ((z21.1.length + [(a, (b, v))].length) * 24) maxBytes)
     (some ((z21.1 ++ [(a, (b, v))]), true)))
     (some (z21.1, z21.2.1)))) fun j27 =>
   (chk (Nat.ble ((j27.1.length + [y23].length) * 24) maxBytes)
   (rec22 ((j27.1 ++ [y23]), j27.2, IntKind.wrap .i64 (z21.2.2 + (1 : Int)))))))))
  (some (z21.1, z21.2.1))))
      (fun i hi s hI => by
        obtain ⟨out, dn⟩ := s
        obtain ⟨hI1, hI2⟩ := hI
        simp only at hI1 hI2
        have hy := hg.2 _ (List.getElem_mem hi)
        have w : IntKind.wrap .i64 ((i : Int) + 1) = ((i + 1 : Nat) : Int) := nxt (by unfold B36; omega)
        have e1 := key_wrap hy
        have e2 := key_wrap hp
        have m1 : Nat.ble ((out.length + [(a, (b, v))].length) * 24) maxBytes = true := ble_mem (by simp only [maxBytes, List.length_singleton]; omega)
        have m2 : Nat.ble ((out.length + [xs[i]].length) * 24) maxBytes = true := ble_mem (by simp only [maxBytes, List.length_singleton]; omega)
        have m3 : Nat.ble (((out ++ [(a, (b, v))]).length + [xs[i]].length) * 24) maxBytes = true := ble_mem (by simp only [maxBytes, List.length_append, List.length_singleton]; omega)
        have kb : keyB xs[i] = xs[i].1 * 3 + xs[i].2.1 := rfl
        have goal : ((setStep a b v (out, dn) xs[i]).1.length ≤ i + 1 + 1 ∧ ((setStep a b v (out, dn) xs[i]).2 = false → (setStep a b v (out, dn) xs[i]).1.length ≤ i + 1)) := by
          unfold setStep
          cases (xs[i].1 == a) && (xs[i].2.1 == b) with
          | true => exact ⟨by simp only [cond_true]; omega, fun q => by have := hI2 q; simp only [cond_true]; omega⟩
          | false =>
            cases hd : !dn && decide (a * 3 + b < keyB xs[i]) with
            | true =>
              have hdn : dn = false := by cases dn <;> simp_all
              have := hI2 hdn
              refine ⟨by simp; omega, fun q => by cases q⟩
            | false => exact ⟨by simp; omega, fun q => by have := hI2 q; simp; omega⟩
        refine ⟨goal, fun rec => ?_⟩
        unfold setStep
        simp only [lt_lenI hi, cond_true, geti_lt xs i hi, Option.bind_some, w, e1, e2, kb, gt_iff_lt]
        cases (xs[i].1 == a) with
        | false =>
          cases dn with
          | true => simp only [cond_false, Option.bind_some, Bool.not_true, Bool.false_and, chk_true m2]
          | false =>
            cases decide (a * 3 + b < xs[i].1 * 3 + xs[i].2.1) with
            | true => simp only [cond_false, Option.bind_some, Bool.not_false, cond_true, Bool.true_and, Bool.false_and, chk_true m1, chk_true m3]
            | false => simp only [cond_false, Option.bind_some, Bool.not_false, cond_true, Bool.true_and, Bool.false_and, chk_true m2]
        | true =>
          cases (xs[i].2.1 == b) with
          | true => simp only [cond_true, Option.bind_some, Bool.true_and]
          | false =>
            cases dn with
            | true => simp only [cond_false, cond_true, Option.bind_some, Bool.not_true, Bool.false_and, Bool.true_and, chk_true m2]
            | false =>
              cases decide (a * 3 + b < xs[i].1 * 3 + xs[i].2.1) with
              | true => simp only [cond_false, Option.bind_some, Bool.not_false, cond_true, Bool.true_and, chk_true m1, chk_true m3]
              | false => simp only [cond_false, Option.bind_some, Bool.not_false, cond_true, Bool.true_and, chk_true m2])
      (fun s _ rec => by simp only [ge_lenI, cond_false])
    exact ⟨this.1, this.2.1⟩
  obtain ⟨k1, k2⟩ := key
  have ka := setStep_all a b v hp xs hg
  generalize xs.foldl (setStep a b v) ([], v == 0) = st at k1 k2 ka
  obtain ⟨out, dn⟩ := st
  simp only at k2 ka
  have m1 : Nat.ble ((out.length + [(a, (b, v))].length) * 24) maxBytes = true := ble_mem (by simp only [maxBytes, List.length_singleton]; omega)
  simp only [k1, Option.bind_some, chk_true m1]
  rw [← ka]
  cases dn <;> rfl

theorem t_w39q (xs : List BalT) (ls : List LegT) (hg : GoodB xs) (hp : ∀ l ∈ ls, plB l.2.1 l.2.2.1 = true) (hl : xs.length + ls.length ≤ 1048576) : m_w39q (xs, ls) = some (ls.foldl addL xs) := by
  show p_w39q FU _ = _
  unfold p_w39q
  have m1 : Nat.ble ((([] : List (Int × (Int × Int))).length + xs.length) * 24) maxBytes = true := ble_mem (by simp only [maxBytes, List.length_nil]; omega)
  simp only [chk_true m1, List.nil_append]
  unfold l_w39q_1
  refine (lp_foldI ls addL (fun i s => (s, (i : Int))) (fun s => some s) (fun i s => GoodB s ∧ s.length ≤ xs.length + i) (by unfold B36; omega) xs ⟨hg, by omega⟩ (fun i hi s hI => ?_) (fun s _ rec => ?_)).1
  · have hpl := hp _ (List.getElem_mem hi)
    have w : IntKind.wrap .i64 ((i : Int) + 1) = ((i + 1 : Nat) : Int) := nxt (by unfold B36; omega)
    have h2 := setB_len s ls[i].2.1 ls[i].2.2.1 (IntKind.wrap .i64 (hasB s ls[i].2.1 ls[i].2.2.1 + ls[i].2.2.2))
    refine ⟨⟨setB_good _ hI.1 hpl, ?_⟩, fun rec => ?_⟩
    · have : (addL s ls[i]).length ≤ s.length + 1 := h2
      have := hI.2
      omega
    · have hI2 := hI.2
      simp only [lt_lenI hi, cond_true, geti_lt ls i hi, Option.bind_some, w, t_w31q s ls[i].2.1 ls[i].2.2.1 (by omega), t_w38q s ls[i].2.1 ls[i].2.2.1 (IntKind.wrap .i64 (hasB s ls[i].2.1 ls[i].2.2.1 + ls[i].2.2.2)) hI.1 hpl (by omega)]
      rfl
  · simp only [ge_lenI, cond_false]

theorem outStep_mem (a c o : Int) (x : ConT) (h : List ConT) (b : List BalT) (ap : List Int) : (outStep a c o (h, (b, ap)) x).1.length ≤ h.length + 1 ∧ (outStep a c o (h, (b, ap)) x).2.2.length ≤ ap.length + 1 := by
  unfold outStep
  cases x.1 == c with
  | false => simp
  | true => cases o == 1 <;> simp
theorem t_w40q (s : ShdT) (c o : Int) (hz : SzS s) (h0 : shardC s = 0) (hg : GoodB s.2.1) (hpl : ∀ x ∈ s.2.2.2.1, x.2.length ≤ 8 ∧ ∀ l ∈ x.2, plB l.2.1 l.2.2.1 = true) (hh : s.2.2.2.1.Pairwise fun a b => a.1 < b.1) : m_w40q (s, (c, o)) = some (decS s c o) := by
  have hz' := hz
  obtain ⟨z1, z2, z3, z4, z5, z6⟩ := hz'
  have hlen := shardC_len h0
  show p_w40q FU _ = _
  unfold p_w40q decS
  have e1 := t_w26q s.2.2.2.2.1 c z4
  have e2 := t_w36q s hz
  have e3 := t_w27q s c z3
  have e4 := t_w37q s.2.2.2.2.1 c o z4
  have hd : decide (lenI s.2.2.2.2.1 ≥ (100 : Int)) = decide (100 ≤ s.2.2.2.2.1.length) := by rw [lenI_eq]; congr 1; simp; omega
  have key : ∀ ds : List MarkT, l_w40q_1 FU s.1 c o s.2.2.2.1 ((0 : Int), (s.1, (s.2.1, (s.2.2.1, ([], (ds, s.2.2.2.2.2)))))) =
      (fun st : List ConT × (List BalT × List Int) => some ((0 : Int), ((0 : Int), (s.1, (st.2.1, (s.2.2.1, (st.1, (ds, st.2.2)))))))) (s.2.2.2.1.foldl (outStep s.1 c o) ([], (s.2.1, s.2.2.2.2.2))) := by
    intro ds
    unfold l_w40q_1
    refine (lp_foldI s.2.2.2.1 (outStep s.1 c o) (fun i st => ((i : Int), (s.1, (st.2.1, (s.2.2.1, (st.1, (ds, st.2.2)))))))
      (fun st => some ((0 : Int), ((0 : Int), (s.1, (st.2.1, (s.2.2.1, (st.1, (ds, st.2.2)))))))) (fun i st => GoodB st.2.1 ∧ st.1.length ≤ i ∧ st.2.2.length ≤ 100 + i ∧ st.2.1.length ≤ 18 + 8 * i) (by unfold B36; omega) ([], (s.2.1, s.2.2.2.2.2)) ⟨hg, by simp, by simp; omega, by simp; omega⟩ (fun i hi st hI => ?_) (fun st _ rec => ?_)).1
    · obtain ⟨h, b, ap⟩ := st
      obtain ⟨I1, I2, I3, I4⟩ := hI
      simp only at I1 I2 I3 I4
      have hx := List.getElem_mem hi
      have w : IntKind.wrap .i64 ((i : Int) + 1) = ((i + 1 : Nat) : Int) := nxt (by unfold B36; omega)
      have hc1 := t_w35q s.2.2.2.1[i] (z6 _ hx)
      have hc2 : m_w25q (s.2.2.2.1[i], s.1) = some (legsA s.2.2.2.1[i].2 s.1) := t_w25q s.2.2.2.1[i].1 s.2.2.2.1[i].2 s.1 (z6 _ hx)
      have hls : ∀ l ∈ legsA s.2.2.2.1[i].2 s.1, plB l.2.1 l.2.2.1 = true := fun l hl => (hpl _ hx).2 l (List.mem_filter.1 hl).1
      have hll : (legsA s.2.2.2.1[i].2 s.1).length ≤ 8 := legsA_len (hpl _ hx).1 _
      have hc3 := t_w39q b (legsA s.2.2.2.1[i].2 s.1) I1 hls (by omega)
      have hf := addL_fold (legsA s.2.2.2.1[i].2 s.1) b I1 hls
      have hm := outStep_mem s.1 c o s.2.2.2.1[i] h b ap
      have m1 : Nat.ble ((h.length + [s.2.2.2.1[i]].length) * 32) maxBytes = true := ble_mem (by simp only [maxBytes, List.length_singleton]; omega)
      have m2 : Nat.ble ((ap.length + [c].length) * 8) maxBytes = true := ble_mem (by simp only [maxBytes, List.length_singleton]; omega)
      refine ⟨⟨?_, by omega, by omega, ?_⟩, fun rec => ?_⟩
      · unfold outStep
        cases s.2.2.2.1[i].1 == c with
        | false => exact I1
        | true => cases o == 1 with
          | true => exact hf.1
          | false => exact I1
      · have hf2 := hf.2
        unfold outStep
        cases s.2.2.2.1[i].1 == c with
        | false => simp only [Bool.not_false, cond_true]; omega
        | true => cases o == 1 with
          | true => simp only [Bool.not_true, cond_false, cond_true]; omega
          | false => simp only [Bool.not_true, cond_false]; omega
      · simp only [lt_lenI hi, cond_true, geti_lt s.2.2.2.1 i hi, Option.bind_some, w, hc1]
        unfold outStep
        cases s.2.2.2.1[i].1 == c with
        | false => simp only [Bool.not_false, cond_true, chk_true m1]
        | true =>
          cases o == 1 with
          | true => simp only [Bool.not_true, cond_false, cond_true, hc2, hc3, Option.bind_some, chk_true m2]
          | false => simp only [Bool.not_true, cond_false]
    · simp only [ge_lenI, cond_false]
  simp only [e1, Option.bind_some]
  cases findM s.2.2.2.2.1 c == 0 with
  | false =>
    cases findM s.2.2.2.2.1 c == o with
    | false => rfl
    | true => simp only [Bool.not_false, Bool.not_true, cond_true, cond_false, e2, Option.bind_some]
  | true =>
    simp only [Bool.not_true, cond_false, e3, Option.bind_some, hd, e2, e4, key]
    rw [outStep_all s.1 c o s.2.2.2.1 [] s.2.1 s.2.2.2.2.2 hh]
    unfold outS
    cases ho : o == 1 with
    | false =>
      simp only [cond_false, Option.bind_some, Bool.false_and, List.nil_append]
      cases decide (100 ≤ s.2.2.2.2.1.length) <;> rfl
    | true =>
      cases s.2.2.2.1.any fun x => x.1 == c with
      | false => rfl
      | true =>
        simp only [cond_true, cond_false, Option.bind_some, Bool.not_true, Bool.and_false, Bool.true_and, List.nil_append]
        cases decide (100 ≤ s.2.2.2.2.1.length) <;> rfl

def upB (xs : List BalT) : Prop := xs.Pairwise fun a b => cmpP a b < 0
theorem cmpP_trans {a b c : BalT} (h1 : cmpP a b < 0) (h2 : cmpP b c < 0) : cmpP a c < 0 := by
  rw [cmpP_lt] at *
  omega
theorem balCode_up {xs : List BalT} (h : balCode xs = 0) : upB xs ∧ ∀ b ∈ xs, okBal b = true := by
  unfold balCode at h
  split at h
  · cases h
  · have hne : ∀ i b, balStep xs i b ≠ some 0 := by
      intro i b
      unfold balStep
      cases okBal b with
      | false => simp
      | true => cases decide (0 < i) && decide (cmpP (xs[i - 1]?.getD b) b ≥ 0) <;> simp
    have hn : fstI (balStep xs) 0 xs = none := by
      have := fst_getD hne xs 0
      refine this.1 ?_
      cases hf : fstI (balStep xs) 0 xs with
      | none => rfl
      | some r => rw [hf] at h; exact h
    have key : ∀ (j : Nat) (hj : j < xs.length), okBal xs[j] = true ∧ (0 < j → cmpP (xs[j - 1]?.getD xs[j]) xs[j] < 0) := by
      intro j hj
      have := fst_none hn j hj
      unfold balStep at this
      cases ho : okBal xs[j] with
      | false => rw [ho] at this; cases this
      | true =>
        rw [ho] at this
        refine ⟨rfl, fun h0 => ?_⟩
        simp only [Bool.not_true, cond_false, decide_eq_true h0, Bool.true_and] at this
        cases hd : decide (cmpP (xs[j - 1]?.getD xs[j]) xs[j] ≥ 0) with
        | true => rw [hd] at this; cases this
        | false => have := of_decide_eq_false hd; omega
    constructor
    · have step : ∀ (d i : Nat) (h : i + d + 1 < xs.length), cmpP xs[i] xs[i + d + 1] < 0 := by
        intro d
        induction d with
        | zero =>
          intro i h
          have := (key (i + 1) h).2 (by omega)
          rw [Nat.add_sub_cancel, List.getElem?_eq_getElem (by omega)] at this
          exact this
        | succ d ih =>
          intro i h
          have h1 := ih i (by omega)
          have h2 := (key (i + (d + 1) + 1) h).2 (by omega)
          rw [Nat.add_sub_cancel, List.getElem?_eq_getElem (by omega)] at h2
          exact cmpP_trans h1 h2
      refine List.pairwise_iff_getElem.2 fun i j hi hj hij => ?_
      have := step (j - i - 1) i (by omega)
      have e : i + (j - i - 1) + 1 = j := by omega
      simp only [e] at this
      exact this
    · intro b hb
      obtain ⟨j, hj, rfl⟩ := List.getElem_of_mem hb
      exact (key j hj).1
theorem t_w71q (xs : List BalT) (a b : Int) (hl : xs.length ≤ 1048576) (hu : upB xs) : m_w71q (xs, a, b) = some (hasB xs a b) := by
  have hB : xs.length ≤ B36 := by unfold B36; omega
  obtain ⟨j, q1, q2, q3⟩ := bs_total xs.length hB (fun i => match xs[i]? with | some m => decide (cmpP m (a, (b, 0)) < 0) | none => false) (step := fun rec32 (z31 : Int × Int) =>
 (cond (decide (z31.1 < z31.2))
  (chk (decide (0 ≤ (1 : Int)))
   ((geti xs (IntKind.wrap .i64 (Int.fdiv (IntKind.wrap .u64 (IntKind.wrap .i64 (z31.1 + z31.2))) (2 ^ (min (1 : Int).toNat 64))))).bind fun y33 =>
   ((m_w49q (y33, (a, (b, (0 : Int))))).bind fun r34 =>
   (cond (decide (r34 < (0 : Int)))
    (rec32 (IntKind.wrap .i64 ((IntKind.wrap .i64 (Int.fdiv (IntKind.wrap .u64 (IntKind.wrap .i64 (z31.1 + z31.2))) (2 ^ (min (1 : Int).toNat 64)))) + (1 : Int)), z31.2))
    (rec32 (z31.1, IntKind.wrap .i64 (Int.fdiv (IntKind.wrap .u64 (IntKind.wrap .i64 (z31.1 + z31.2))) (2 ^ (min (1 : Int).toNat 64)))))))))
  (some z31.1)))
    (fun u v rec hab hb => by
      have hlt : (u + v) / 2 < xs.length := by omega
      have hd : decide ((u : Int) < (v : Int)) = true := decide_eq_true (by omega)
      have hc1 : decide ((0 : Int) ≤ 1) = true := rfl
      simp only [hd, cond_true, chk, hc1, mid_eq (a := u) (b := v) (by omega) (by omega), geti_lt xs _ hlt, Option.bind_some, t_w49q, List.getElem?_eq_getElem hlt, nxt (i := (u + v) / 2) (by omega)])
    (fun u rec => by
      have hd : decide ((u : Int) < (u : Int)) = false := decide_eq_false (by omega)
      simp only [hd, cond_false])
  obtain ⟨a1, a2⟩ := q3 (fun i k hik hk hp => by
    have hi : i < xs.length := by omega
    simp only [List.getElem?_eq_getElem hk, List.getElem?_eq_getElem hi, decide_eq_true_eq] at hp ⊢
    rcases Nat.eq_or_lt_of_le hik with e | e
    · subst e; exact hp
    · exact cmpP_trans (List.pairwise_iff_getElem.1 hu i k hi hk e) hp)
  have hfind : xs.find? (fun y => (y.1 == a) && (y.2.1 == b)) = if h : j < xs.length then (if cmpP xs[j] (a, (b, 0)) = 0 then some xs[j] else none) else none := by
    have split : xs = xs.take j ++ xs.drop j := (List.take_append_drop j xs).symm
    have hA : (xs.take j).find? (fun y => (y.1 == a) && (y.2.1 == b)) = none := by
      rw [List.find?_eq_none]
      intro m hm
      obtain ⟨i, hi, rfl⟩ := List.getElem_of_mem hm
      rw [List.length_take] at hi
      rw [List.getElem_take]
      have := a1 i (by omega)
      simp only [List.getElem?_eq_getElem (show i < xs.length by omega), decide_eq_true_eq] at this
      rw [cmpP_lt] at this
      simp only [Bool.and_eq_true, beq_iff_eq]
      simp only at this
      omega
    by_cases hlt : j < xs.length
    · rw [dif_pos hlt]
      have eF : xs.find? (fun y => (y.1 == a) && (y.2.1 == b)) = (xs[j] :: xs.drop (j + 1)).find? (fun y => (y.1 == a) && (y.2.1 == b)) := by
        conv => lhs; rw [split, List.find?_append, hA, Option.none_or, List.drop_eq_getElem_cons hlt]
      rw [eF]
      by_cases hk : cmpP xs[j] (a, (b, 0)) = 0
      · rw [if_pos hk]
        rw [cmpP_zero] at hk
        rw [List.find?_cons_of_pos (by simp only [Bool.and_eq_true, beq_iff_eq]; exact hk)]
      · rw [if_neg hk, List.find?_cons_of_neg (by rw [cmpP_zero] at hk; simp only [Bool.and_eq_true, beq_iff_eq]; exact hk), List.find?_eq_none]
        intro m hm
        obtain ⟨i, hi, rfl⟩ := List.getElem_of_mem hm
        rw [List.length_drop] at hi
        rw [List.getElem_drop]
        have c1 := List.pairwise_iff_getElem.1 hu j (j + 1 + i) hlt (by omega) (by omega)
        have c2 := a2 j (Nat.le_refl _) hlt
        simp only [List.getElem?_eq_getElem hlt, decide_eq_false_iff_not] at c2
        rw [cmpP_lt] at c1 c2
        rw [cmpP_zero] at hk
        simp only [Bool.and_eq_true, beq_iff_eq]
        simp only at c1 c2 hk
        omega
    · rw [dif_neg hlt]
      have : xs.take j = xs := List.take_of_length_le (by omega)
      rw [this] at hA
      exact hA
  show p_w71q FU _ = _
  unfold p_w71q l_w71q_1 hasB
  rw [lenI_eq]
  rw [q2, hfind]
  simp only [Option.bind_some]
  by_cases h : j < xs.length
  · have hd : decide ((j : Int) < (xs.length : Int)) = true := decide_eq_true (by omega)
    simp only [hd, cond_true, geti_lt xs j h, Option.bind_some, t_w49q, dif_pos h]
    by_cases hk : cmpP xs[j] (a, (b, 0)) = 0
    · rw [if_pos hk, hk]
      simp
    · have : (cmpP xs[j] (a, (b, 0)) == 0) = false := by simpa using hk
      rw [if_neg hk, this]
      simp
  · have hd : decide ((j : Int) < (xs.length : Int)) = false := decide_eq_false (by omega)
    simp only [hd, cond_false, dif_neg h, Option.bind_some, Bool.not_false, cond_true, Option.map_none, Option.getD_none]

theorem shard_held {s : ShdT} (h : shardC s = 0) : GoodB s.2.1 ∧ (∀ x ∈ s.2.2.2.1, x.2.length ≤ 8 ∧ ∀ l ∈ x.2, plB l.2.1 l.2.2.1 = true) ∧ s.2.2.2.1.Pairwise fun a b => a.1 < b.1 := by
  obtain ⟨_, k2, _, _, k5, _⟩ := shardC_zero h
  obtain ⟨g1, g2⟩ := heldC_zero k5
  exact ⟨balCode_good (balCode_up k2).1 (balCode_up k2).2, fun x hx => ⟨(conC_zero (g1 x hx).1).2.1, conC_pl (g1 x hx).1⟩, g2⟩
theorem t_w41q (s : ShdT) (c o : Int) (hz : SzS s) : m_w41q (s, (c, o)) = some (decR s c o) := by
  show p_w41q FU _ = _
  unfold p_w41q decR
  simp only [t_w34q s hz, Option.bind_some, t_w21q, t_w17q, vlu_in]
  cases h0 : shardC s == 0 with
  | false => rfl
  | true =>
    obtain ⟨g1, g2, g3⟩ := shard_held (eq_of_beq h0)
    simp only [Bool.not_true, cond_false, t_w40q s c o hz (eq_of_beq h0) g1 g2 g3, Option.bind_some]
    cases idB c with
    | false => rfl
    | true => cases vlu o <;> rfl

theorem t_w43q (a : Int) : m_w43q a = some (shB a) := by
  show p_w43q FU _ = _
  unfold p_w43q shB
  rw [t_w42q]; rfl

theorem t_w51q (a : Int) : m_w51q a = some (idB a) := by
  show p_w51q FU _ = _
  unfold p_w51q idB
  rw [t_w42q]; rfl

theorem t_w52q (a : Int) : m_w52q a = some (vlu a) := by
  show p_w52q FU _ = _
  unfold p_w52q vlu
  cases h : (a == (1 : Int)) <;> simp

theorem t_w53q (a : Int) : m_w53q a = some (vlu a) := by
  show p_w53q FU _ = _
  unfold p_w53q vlu
  cases (a == 1) <;> rfl

theorem t_w54q (xs : List LegT) : m_w54q xs = some (lenI xs) := rfl

theorem t_w55q (l : LegT) : m_w55q l = some (legC l) := by
  show p_w55q FU _ = _
  unfold p_w55q legC
  simp only [t_w43q, t_w45q, t_w42q, Option.bind_some]
  unfold shB
  cases inB l.1 0 2 with
  | false => rfl
  | true =>
    cases plB l.2.1 l.2.2.1 with
    | false => rfl
    | true =>
      cases inB l.2.2.2 (-1000000000000) 1000000000000 with
      | false => rfl
      | true => cases h : (l.2.2.2 == 0) <;> simp [h]

theorem t_w56q (a b : LegT) : m_w56q (a, b) = some (sameP a b) := by
  show p_w56q FU _ = _
  unfold p_w56q sameP
  simp only
  cases (a.1 == b.1) with
  | false => rfl
  | true => cases (a.2.1 == b.2.1) <;> rfl

def mapA : List LegT → List (Int × Int) := fun xs => xs.foldl (fun m l => mupd (.int .i64) m l.2.2.1 (mlook (.int .i64) m l.2.2.1 + l.2.2.2)) []
theorem mapA_snoc (xs : List LegT) (l : LegT) : mapA (xs ++ [l]) = mupd (.int .i64) (mapA xs) l.2.2.1 (mlook (.int .i64) (mapA xs) l.2.2.1 + l.2.2.2) := by
  unfold mapA; rw [List.foldl_append]; rfl
theorem mapA_ok : ∀ (n : Nat) (xs : List LegT), xs.length = n → ((mapA xs).map (·.1)).Nodup ∧ (∀ a, mlook (.int .i64) (mapA xs) a = sumA xs a) ∧ ∀ a, a ∈ (mapA xs).map (·.1) → ∃ l ∈ xs, l.2.2.1 = a
  | 0, xs, h => by
    have : xs = [] := List.length_eq_zero_iff.1 h
    subst this
    exact ⟨List.nodup_nil, fun a => rfl, fun a h => by cases h⟩
  | n + 1, xs, h => by
    obtain ⟨ys, l, rfl⟩ : ∃ ys l, xs = ys ++ [l] := ⟨xs.dropLast, xs.getLast (by intro e; rw [e] at h; cases h), (List.dropLast_concat_getLast _).symm⟩
    obtain ⟨h1, h2, h3⟩ := mapA_ok n ys (by simpa using h)
    rw [mapA_snoc]
    obtain ⟨k1, k2⟩ := mupd_keys (mapA ys) l.2.2.1 (mlook (.int .i64) (mapA ys) l.2.2.1 + l.2.2.2) h1
    refine ⟨k1, fun a => ?_, fun a ha => ?_⟩
    · rw [mlook_upd, h2, h2, sumA_snoc]
      by_cases e : a = l.2.2.1
      · subst e
        simp
      · have e1 : (a == l.2.2.1) = false := by simpa using e
        have e2 : (l.2.2.1 == a) = false := by rw [beq_eq_false_iff_ne]; exact fun h => e h.symm
        rw [e1, e2]; simp
    · rcases (k2 a).1 ha with q | q
      · obtain ⟨x, hx, e⟩ := h3 a q
        exact ⟨x, List.mem_append_left _ hx, e⟩
      · exact ⟨l, by simp, q.symm⟩
theorem mapA_len (xs : List LegT) : (mapA xs).length ≤ xs.length := by
  have key : ∀ (ys : List LegT) (m : List (Int × Int)), (ys.foldl (fun m l => mupd (.int .i64) m l.2.2.1 (mlook (.int .i64) m l.2.2.1 + l.2.2.2)) m).length ≤ m.length + ys.length := by
    intro ys
    induction ys with
    | nil => intro m; simp
    | cons y ys ih =>
      intro m
      rw [List.foldl_cons]
      have h1 := ih (mupd (.int .i64) m y.2.2.1 (mlook (.int .i64) m y.2.2.1 + y.2.2.2))
      have h2 : (mupd (.int .i64) m y.2.2.1 (mlook (.int .i64) m y.2.2.1 + y.2.2.2)).length ≤ m.length + 1 := by
        unfold mupd
        split
        · unfold mset; rw [List.length_modify]; omega
        · rw [List.length_append, List.length_singleton]; omega
      rw [List.length_cons]; omega
  simpa [mapA] using key xs []
theorem t_impl_CF_1 (xs : List LegT) (i : Nat) (hi : i < xs.length) (hl : xs.length ≤ 8) (l : LegT) : ∃ j : Int, l_w57q_1 FU (i : Int) xs l (0 : Int) = some j ∧ decide (j ≥ 0) = (xs.take i).any fun o => sameP o l := by
  have hcut : cutL none (some (i : Int)) xs = xs.take i := by simp [cutL]
  have e : l_w57q_1 FU (i : Int) xs l (0 : Int) = ((xs.take i).findIdx? fun o => sameP o l).elim (some (-1)) (fun j => some (j : Int)) := by
    unfold l_w57q_1
    rw [hcut]
    have hlen : (xs.take i).length ≤ 8 := by rw [List.length_take]; omega
    refine (lp_place (xs.take i) (fun o => sameP o l) (fun j => some (j : Int)) (some (-1 : Int)) (by unfold B36; omega) (fun j hj rec hw => ?_) (fun rec => ?_)).trans ?_
    · simp only [lt_lenI hj, cond_true, geti_lt _ j hj, Option.bind_some, t_w56q, hw]
    · simp only [ge_lenI, cond_false]
    · cases (xs.take i).findIdx? fun o => sameP o l <;> rfl
  cases hf : (xs.take i).findIdx? fun o => sameP o l with
  | none =>
    refine ⟨-1, by rw [e, hf]; rfl, ?_⟩
    have : (xs.take i).any (fun o => sameP o l) = false := by
      rw [List.findIdx?_eq_none_iff] at hf
      rw [List.any_eq_false]
      intro s hs
      simpa using hf s hs
    rw [this]; rfl
  | some j =>
    refine ⟨(j : Int), by rw [e, hf]; rfl, ?_⟩
    have : (xs.take i).any (fun o => sameP o l) = true := by
      rw [List.findIdx?_eq_some_iff_getElem] at hf
      obtain ⟨h, h1, _⟩ := hf
      rw [List.any_eq_true]
      exact ⟨_, List.getElem_mem h, h1⟩
    rw [this]
    exact decide_eq_true (by omega)
theorem t_w57q (c : ConT) (hl : c.2.length ≤ 1048576) : m_w57q c = some (conC c) := by
  obtain ⟨id, xs⟩ := c
  show p_w57q FU _ = _
  unfold p_w57q conC
  simp only [t_w51q, t_w54q, t_w42q, Option.bind_some]
  cases idB id with
  | false => rfl
  | true =>
    simp only [Bool.not_true, cond_false]
    by_cases hn : xs.length < 2 ∨ 8 < xs.length
    · have : inB (lenI xs) 2 8 = false := by
        unfold inB; rw [lenI_eq]
        rcases hn with h | h
        · rw [decide_eq_false (show ¬ (2 : Int) ≤ (xs.length : Int) by omega)]; rfl
        · rw [decide_eq_false (show ¬ (xs.length : Int) ≤ 8 by omega), Bool.and_false]
      simp only [this, Bool.not_false, cond_true, if_pos hn]
    · have : inB (lenI xs) 2 8 = true := by
        unfold inB; rw [lenI_eq, decide_eq_true (show (2 : Int) ≤ (xs.length : Int) by omega), decide_eq_true (show (xs.length : Int) ≤ 8 by omega)]; rfl
      simp only [this, Bool.not_true, cond_false, if_neg hn]
      have h8 : xs.length ≤ 8 := by omega
      have e1 : l_w57q_2 FU xs ((0 : Int), ([] : List (Int × Int))) = (fstI (legStep xs) 0 xs).elim (some (Sum.inl (mapA xs))) (fun r => some (Sum.inr r)) := by
        unfold l_w57q_2
        refine (lp_fstS xs (fun i l => (legStep xs i l).map (Sum.inr (α := List (Int × Int)))) (fun i => ((i : Int), mapA (xs.take i))) (some (Sum.inl (mapA xs))) (fun i => ∀ l ∈ xs.take i, legC l = 0) (by unfold B36; omega) (fun l h => by cases h) (fun i hi hall => ⟨fun rec => ?_, fun hq l hl => ?_⟩) (fun _ rec => ?_)).trans ?_
        · have hw := wrap_next hi (Nat.le_trans h8 (by omega))
          have hbd : bndB none (some (i : Int)) none xs.length = true := by simp [bndB]; omega
          obtain ⟨j, ej, hj⟩ := t_impl_CF_1 xs i hi h8 xs[i]
          simp only [lt_lenI hi, cond_true, geti_lt xs i hi, Option.bind_some, t_w55q, legStep, hw]
          cases hc : legC xs[i] == 0 with
          | false => rfl
          | true =>
            simp only [Bool.not_true, cond_false, cond_true, chk, hbd, ej, Option.bind_some, hj]
            cases (xs.take i).any fun o => sameP o xs[i] with
            | true => rfl
            | false =>
              have hz := legC_zero (by simpa using hc : legC xs[i] = 0)
              have hb := sumA_bnd (xs.take i) xs[i].2.2.1 (fun l hl => (legC_zero (hall l hl)).2.2.2.1)
              have hlt : (xs.take i).length ≤ 7 := by rw [List.length_take]; omega
              have hm := (mapA_ok _ (xs.take i) rfl).2.1 xs[i].2.2.1
              have hwr : IntKind.wrap .i64 (mlook (.int .i64) (mapA (xs.take i)) xs[i].2.2.1 + xs[i].2.2.2) = mlook (.int .i64) (mapA (xs.take i)) xs[i].2.2.1 + xs[i].2.2.2 := by
                rw [hm]
                have := hz.2.2.2.1
                exact wrap64 (by omega) (by omega)
              rw [List.take_succ_eq_append_getElem hi, mapA_snoc]
              simp only [cond_false, hwr, Option.map_none, Option.elim_none]
        · rw [List.take_succ_eq_append_getElem hi] at hl
          rcases List.mem_append.1 hl with hl | hl
          · exact hall l hl
          · rw [List.mem_singleton] at hl
            subst hl
            cases hs : legStep xs i xs[i] with
            | some r => rw [hs] at hq; cases hq
            | none =>
              unfold legStep at hs
              cases hc : legC xs[i] == 0 with
              | true => simpa using hc
              | false => rw [hc] at hs; cases hs
        · simp only [ge_lenI, cond_false, List.take_length]
        · rw [fstI_map]
          cases fstI (legStep xs) 0 xs <;> rfl
      rw [e1]
      cases hf : fstI (legStep xs) 0 xs with
      | some r => rfl
      | none =>
        have hall := fst_ok xs 0 hf
        obtain ⟨k1, k2, k3⟩ := mapA_ok _ xs rfl
        have hml := mapA_len xs
        simp only [Option.elim_none, Option.bind_some, Sum.elim_inl]
        have e2 : l_w57q_3 FU (mapA xs) (lenI (mapA xs), ([] : List Int)) = some (cond ((mapA xs).any fun p => !(p.2 == 0)) 1 0) := by
          unfold l_w57q_3
          refine draw_any (m := mapA xs) (fun p => !(p.2 == 0)) 1 0 (by unfold B36; omega) (fun rec seen => ?_)
          have hlc : (((mapA xs).length : Int) == lenI (mapA xs)) = true := by rw [lenI_eq]; simp
          simp only [chk, hlc, cond_true, List.getLast?_concat, Option.bind_some]
          congr 1
          funext j
          cases geti (mapA xs) j <;> rfl
        rw [e2]
        have : ((mapA xs).any fun p => !(p.2 == 0)) = !decide (sumA xs 0 = 0 ∧ sumA xs 1 = 0 ∧ sumA xs 2 = 0) := by
          rw [Bool.eq_iff_iff]
          simp only [List.any_eq_true, Bool.not_eq_true', beq_eq_false_iff_ne, decide_eq_false_iff_not]
          constructor
          · rintro ⟨p, hp, hne⟩ ⟨q0, q1, q2⟩
            have hlk := mlook_mem (mapA xs) k1 p hp
            rw [k2] at hlk
            obtain ⟨l, hl, ha⟩ := k3 p.1 (List.mem_map.2 ⟨p, hp, rfl⟩)
            have hz := (legC_zero (hall l hl)).2.2.1
            rcases (by omega : p.1 = 0 ∨ p.1 = 1 ∨ p.1 = 2) with e | e | e
            · rw [e] at hlk; omega
            · rw [e] at hlk; omega
            · rw [e] at hlk; omega
          · intro hne
            have : ∃ a, sumA xs a ≠ 0 := by
              by_cases q0 : sumA xs 0 = 0
              · by_cases q1 : sumA xs 1 = 0
                · by_cases q2 : sumA xs 2 = 0
                  · exact absurd ⟨q0, q1, q2⟩ hne
                  · exact ⟨2, q2⟩
                · exact ⟨1, q1⟩
              · exact ⟨0, q0⟩
            obtain ⟨a, ha⟩ := this
            have hk : a ∈ (mapA xs).map (·.1) := by
              by_cases h : a ∈ (mapA xs).map (·.1)
              · exact h
              · have := mlook_none (mapA xs) a h
                rw [k2] at this
                exact absurd this ha
            obtain ⟨p, hp, e⟩ := List.mem_map.1 hk
            refine ⟨p, hp, ?_⟩
            have hlk := mlook_mem (mapA xs) k1 p hp
            rw [k2, e] at hlk
            rw [← hlk]; exact ha
        rw [this]
        by_cases q : sumA xs 0 = 0 ∧ sumA xs 1 = 0 ∧ sumA xs 2 = 0
        · rw [if_pos q, decide_eq_true q]; rfl
        · rw [if_neg q, decide_eq_false q]; rfl

theorem t_w58q (b : Int) (xs : List (Int × (Int × (Int × Int)))) (a : Int) (hl : xs.length ≤ 1048576) : m_w58q ((b, xs), a) = some (xs.filter fun y => y.1 == a) := by
  show p_w58q FU _ = _
  unfold p_w58q l_w58q_1
  simp only
  refine lp_for (fun r => r = some (xs.filter fun y => y.1 == a)) (fun i z => z = ((xs.take i).filter fun y => y.1 == a, (i : Int))) xs.length (fun i z hi hz => ?_) (fun z hz rec => ?_) FU _ (FU_gt hl) rfl
  · subst hz
    have h := List.length_filter_le (fun y : Int × (Int × (Int × Int)) => y.1 == a) (xs.take i)
    simp only [List.length_take] at h
    have hb : Nat.ble ((((xs.take i).filter fun y => y.1 == a).length + [xs[i]].length) * 32) maxBytes = true := ble_mem (by simp only [maxBytes, List.length_singleton]; omega)
    refine .inr ⟨_, rfl, fun rec => ?_⟩
    simp only [lt_lenI hi, cond_true, geti_lt xs i hi, Option.bind_some, wrap_next hi hl, chk_true hb]
    rw [List.take_succ_eq_append_getElem hi, List.filter_append]
    cases hx : (xs[i].1 == a) <;> simp [hx]
  · subst hz
    simp only [ge_lenI, cond_false, List.take_length]

theorem t_w59q (m : MarkT) (c : Int) : m_w59q (m, c) = some (if m.1 < c then -1 else if m.1 > c then 1 else 0) := by
  show p_w59q FU _ = _
  unfold p_w59q
  simp only [t_w47q, Option.bind_some]
theorem t_w60q (xs : List MarkT) (c : Int) (hl : xs.length ≤ 1048576) : ∃ j : Nat, j ≤ xs.length ∧ m_w60q (xs, c) = some ((j : Int), match xs[j]? with | some m => m.1 == c | none => false) ∧
    (upM xs → (∀ (i : Nat) (h : i < xs.length), i < j → xs[i].1 < c) ∧ ∀ (i : Nat) (h : i < xs.length), j ≤ i → ¬ xs[i].1 < c) := by
  have hB : xs.length ≤ B36 := by unfold B36; omega
  obtain ⟨j, q1, q2, q3⟩ := bs_total xs.length hB (fun i => match xs[i]? with | some m => decide (m.1 < c) | none => false) (step := fun rec13 (z12 : Int × Int) =>
 (cond (decide (z12.1 < z12.2))
  (chk (decide (0 ≤ (1 : Int)))
   ((geti xs (IntKind.wrap .i64 (Int.fdiv (IntKind.wrap .u64 (IntKind.wrap .i64 (z12.1 + z12.2))) (2 ^ (min (1 : Int).toNat 64))))).bind fun y14 =>
   ((m_w59q (y14, c)).bind fun r15 =>
   (cond (decide (r15 < (0 : Int)))
    (rec13 (IntKind.wrap .i64 ((IntKind.wrap .i64 (Int.fdiv (IntKind.wrap .u64 (IntKind.wrap .i64 (z12.1 + z12.2))) (2 ^ (min (1 : Int).toNat 64)))) + (1 : Int)), z12.2))
    (rec13 (z12.1, IntKind.wrap .i64 (Int.fdiv (IntKind.wrap .u64 (IntKind.wrap .i64 (z12.1 + z12.2))) (2 ^ (min (1 : Int).toNat 64)))))))))
  (some z12.1)))
    (fun a b rec hab hb => by
      have hlt : (a + b) / 2 < xs.length := by omega
      have hd : decide ((a : Int) < (b : Int)) = true := decide_eq_true (by omega)
      have hc1 : decide ((0 : Int) ≤ 1) = true := rfl
      simp only [hd, cond_true, chk, hc1, mid_eq (a := a) (b := b) (by omega) (by omega), geti_lt xs _ hlt, Option.bind_some, t_w59q, List.getElem?_eq_getElem hlt, nxt (i := (a + b) / 2) (by omega)]
      by_cases h : xs[(a + b) / 2].1 < c
      · simp [h]
      · by_cases h2 : xs[(a + b) / 2].1 > c <;> simp [h, h2])
    (fun a rec => by
      have hd : decide ((a : Int) < (a : Int)) = false := decide_eq_false (by omega)
      simp only [hd, cond_false])
  refine ⟨j, q1, ?_, fun hu => ?_⟩
  · show p_w60q FU _ = _
    unfold p_w60q l_w59q
    rw [lenI_eq]
    rw [q2]
    simp only [Option.bind_some]
    by_cases h : j < xs.length
    · have hd : decide ((j : Int) < (xs.length : Int)) = true := decide_eq_true (by omega)
      simp only [hd, cond_true, geti_lt xs j h, Option.bind_some, t_w59q, List.getElem?_eq_getElem h]
      congr 2
      by_cases h1 : xs[j].1 < c
      · rw [if_pos h1]
        have : (xs[j].1 == c) = false := by rw [beq_eq_false_iff_ne]; omega
        rw [this]; rfl
      · rw [if_neg h1]
        by_cases h2 : xs[j].1 > c
        · rw [if_pos h2]
          have : (xs[j].1 == c) = false := by rw [beq_eq_false_iff_ne]; omega
          rw [this]; rfl
        · rw [if_neg h2]
          have : (xs[j].1 == c) = true := by rw [beq_iff_eq]; omega
          rw [this]; rfl
    · have hd : decide ((j : Int) < (xs.length : Int)) = false := decide_eq_false (by omega)
      simp only [hd, cond_false, List.getElem?_eq_none (Nat.le_of_not_lt h)]
  · obtain ⟨a1, a2⟩ := q3 (fun i k hik hk hp => by
      have hi : i < xs.length := by omega
      simp only [List.getElem?_eq_getElem hk, List.getElem?_eq_getElem hi, decide_eq_true_eq] at hp ⊢
      rcases Nat.eq_or_lt_of_le hik with e | e
      · subst e; exact hp
      · have := List.pairwise_iff_getElem.1 hu i k hi hk e; omega)
    refine ⟨fun i h hij => ?_, fun i h hij => ?_⟩
    · have := a1 i hij
      simpa [List.getElem?_eq_getElem h] using this
    · have := a2 i hij h
      simpa [List.getElem?_eq_getElem h] using this

theorem t_w61q (xs : List MarkT) (c : Int) (hl : xs.length ≤ 1048576) : ∃ v, m_w61q (xs, c) = some v ∧ (upM xs → v = findM xs c) := by
  obtain ⟨j, hj, e, hu⟩ := t_w60q xs c hl
  suffices key : ∃ v, p_w61q FU (xs, c) = some v ∧ (upM xs → v = findM xs c) from key
  unfold p_w61q
  simp only [e, Option.bind_some]
  by_cases h : j < xs.length
  · simp only [List.getElem?_eq_getElem h]
    cases hb : xs[j].1 == c with
    | false =>
      refine ⟨0, rfl, fun hup => ?_⟩
      unfold findM
      have := up_find (fun m : MarkT => m.1) hup c j hj (hu hup).1 (hu hup).2
      rw [dif_pos h, if_neg (by simpa using hb)] at this
      rw [this]; rfl
    | true =>
      refine ⟨xs[j].2, by simp only [Bool.not_true, cond_false, geti_lt xs j h, Option.bind_some], fun hup => ?_⟩
      unfold findM
      have := up_find (fun m : MarkT => m.1) hup c j hj (hu hup).1 (hu hup).2
      rw [dif_pos h, if_pos (by simpa using hb)] at this
      rw [this]; rfl
  · simp only [List.getElem?_eq_none (Nat.le_of_not_lt h)]
    refine ⟨0, rfl, fun hup => ?_⟩
    unfold findM
    have := up_find (fun m : MarkT => m.1) hup c j hj (hu hup).1 (hu hup).2
    rw [dif_neg h] at this
    rw [this]; rfl

theorem t_w62q (s : ShdT) (hz : SzS s) : ∃ r, m_w62q s = some r ∧ (upM s.2.2.1 → upM s.2.2.2.2.1 → r = heldC s) := by
  obtain ⟨z1, z2, z3, z4, z5, z6⟩ := hz
  have hB : s.2.2.2.1.length ≤ B36 := by unfold B36; omega
  suffices key : ∃ r, l_w62q_1 FU s.1 s.2.2.1 s.2.2.2.1 s.2.2.2.2.1 (0 : Int) = some r ∧ (upM s.2.2.1 → upM s.2.2.2.2.1 → r = heldC s) from key
  unfold l_w62q_1
  have hLe : ∀ c : ConT, (lenI (legsA c.2 s.1) == 0) = (legsA c.2 s.1).isEmpty := fun c => by
    rw [lenI_eq]; cases legsA c.2 s.1 with
    | nil => rfl
    | cons a r => rw [List.isEmpty_cons, beq_eq_false_iff_ne, List.length_cons]; omega
  refine lp_for (fun r => ∃ v, r = some v ∧ (upM s.2.2.1 → upM s.2.2.2.2.1 → v = heldC s)) (fun i z => z = (i : Int) ∧ (upM s.2.2.1 → upM s.2.2.2.2.1 → fstI (heldStep s) 0 s.2.2.2.1 = fstI (heldStep s) i (s.2.2.2.1.drop i))) s.2.2.2.1.length (fun i z hi hz => ?_) (fun z hz rec => ?_) FU _ (FUb hB) ⟨rfl, fun _ _ => by rw [List.drop_zero]⟩
  · obtain ⟨rfl, he⟩ := hz
    have hd : s.2.2.2.1.drop i = s.2.2.2.1[i] :: s.2.2.2.1.drop (i + 1) := List.drop_eq_getElem_cons hi
    rw [hd] at he
    simp only [fstI] at he
    have hc := z6 _ (List.getElem_mem hi)
    have L1 : m_w58q (s.2.2.2.1[i], s.1) = some (legsA s.2.2.2.1[i].2 s.1) := t_w58q _ _ _ hc
    obtain ⟨v1, ev1, hv1⟩ := t_w61q s.2.2.1 s.2.2.2.1[i].1 z2
    obtain ⟨v2, ev2, hv2⟩ := t_w61q s.2.2.2.2.1 s.2.2.2.1[i].1 z4
    have hw := wrap_next hi z3
    have hold : heldStep s i s.2.2.2.1[i] = cond (conC s.2.2.2.1[i] == 0) (cond (heldBad s i s.2.2.2.1[i]) (some 1) none) (some (conC s.2.2.2.1[i])) := rfl
    rw [hold] at he
    cases hcc : conC s.2.2.2.1[i] == 0 with
    | false =>
      rw [hcc] at he
      refine .inl fun rec => ⟨conC s.2.2.2.1[i], ?_, fun h1 h2 => ?_⟩
      · simp only [lt_lenI hi, cond_true, geti_lt _ i hi, Option.bind_some, t_w57q _ hc, hcc, Bool.not_false]
      · unfold heldC; rw [he h1 h2]; rfl
    | true =>
      rw [hcc] at he
      simp only [cond_true] at he
      -- what is asked of the contract
      let bad : Bool := (decide (0 < i) && decide ((s.2.2.2.1[i - 1]?.getD s.2.2.2.1[i]).1 ≥ s.2.2.2.1[i].1)) || ((legsA s.2.2.2.1[i].2 s.1).isEmpty || (!(v1 == 1) || !(v2 == 0)))
      have hbad : upM s.2.2.1 → upM s.2.2.2.2.1 → heldBad s i s.2.2.2.1[i] = bad := fun h1 h2 => by
        show _ = ((decide (0 < i) && decide ((s.2.2.2.1[i - 1]?.getD s.2.2.2.1[i]).1 ≥ s.2.2.2.1[i].1)) || ((legsA s.2.2.2.1[i].2 s.1).isEmpty || (!(v1 == 1) || !(v2 == 0))))
        rw [hv1 h1, hv2 h2]; rfl
      have step : ∀ rec : Int → Option Int, (cond (decide ((i : Int) < (lenI s.2.2.2.1)))
  ((geti s.2.2.2.1 (i : Int)).bind fun y21 =>
  ((m_w57q y21).bind fun r22 =>
  (cond (!(r22 == (0 : Int)))
   (some r22)
   (Option.bind
    (cond (decide ((i : Int) > (0 : Int)))
     ((geti s.2.2.2.1 (IntKind.wrap .i64 ((i : Int) - (1 : Int)))).bind fun y30 =>
     (cond (decide (y30.1 ≥ y21.1))
      (some true)
      ((m_w58q (y21, s.1)).bind fun r31 =>
      (cond ((lenI r31) == (0 : Int))
       (some true)
       ((m_w61q (s.2.2.1, y21.1)).bind fun r32 =>
       (cond (!(r32 == (1 : Int)))
        (some true)
        ((m_w61q (s.2.2.2.2.1, y21.1)).bind fun r33 =>
        some (!(r33 == (0 : Int))))))))))
     ((m_w58q (y21, s.1)).bind fun r34 =>
     (cond ((lenI r34) == (0 : Int))
      (some true)
      ((m_w61q (s.2.2.1, y21.1)).bind fun r35 =>
      (cond (!(r35 == (1 : Int)))
       (some true)
       ((m_w61q (s.2.2.2.2.1, y21.1)).bind fun r36 =>
       some (!(r36 == (0 : Int))))))))) fun j37 =>
   (cond j37
    (some (1 : Int))
    (rec (IntKind.wrap .i64 ((i : Int) + (1 : Int)))))))))
  (some (0 : Int))) = cond bad (some 1) (rec ((i + 1 : Nat) : Int)) := by
        intro rec
        show _ = cond ((decide (0 < i) && decide ((s.2.2.2.1[i - 1]?.getD s.2.2.2.1[i]).1 ≥ s.2.2.2.1[i].1)) || ((legsA s.2.2.2.1[i].2 s.1).isEmpty || (!(v1 == 1) || !(v2 == 0)))) _ _
        simp only [lt_lenI hi, cond_true, geti_lt _ i hi, Option.bind_some, t_w57q _ hc, hcc, Bool.not_true, cond_false, L1, hLe, ev1, ev2, hw]
        by_cases h0 : 0 < i
        · have hd : decide ((i : Int) > 0) = true := by simp; omega
          have hi1 : i - 1 < s.2.2.2.1.length := by omega
          simp only [hd, cond_true, prv (i := i) (by unfold B36; omega) h0, geti_lt _ _ hi1, Option.bind_some, h0, decide_true, Bool.true_and, List.getElem?_eq_getElem hi1, Option.getD_some]
          cases decide (s.2.2.2.1[i - 1].1 ≥ s.2.2.2.1[i].1) with
          | true => rfl
          | false =>
            cases (legsA s.2.2.2.1[i].2 s.1).isEmpty with
            | true => rfl
            | false =>
              cases (v1 == 1) with
              | false => rfl
              | true => cases (v2 == 0) <;> rfl
        · have hd : decide ((i : Int) > 0) = false := by simp; omega
          simp only [hd, cond_false, h0, decide_false, Bool.false_and, Bool.false_or]
          cases (legsA s.2.2.2.1[i].2 s.1).isEmpty with
          | true => rfl
          | false =>
            cases (v1 == 1) with
            | false => rfl
            | true => cases (v2 == 0) <;> rfl
      cases hb : bad with
      | true =>
        rw [hb] at hbad step
        refine .inl fun rec => ⟨1, step rec, fun h1 h2 => ?_⟩
        have := he h1 h2
        rw [hbad h1 h2] at this
        unfold heldC; rw [this]; rfl
      | false =>
        rw [hb] at hbad step
        refine .inr ⟨((i + 1 : Nat) : Int), ⟨rfl, fun h1 h2 => ?_⟩, fun rec => step rec⟩
        have := he h1 h2
        rw [hbad h1 h2] at this
        exact this
  · obtain ⟨rfl, he⟩ := hz
    refine ⟨0, by simp only [ge_lenI, cond_false], fun h1 h2 => ?_⟩
    unfold heldC; rw [he h1 h2, List.drop_length]; rfl

theorem t_w63q (a b : Int) : m_w63q [a, b] = some (if a = 0 then b else a) := by
  show p_w63q FU _ = _
  unfold p_w63q l_w63q_1
  obtain ⟨m, hm⟩ : ∃ m, FU = m + 1 + 1 + 1 := ⟨18446744073709551613, rfl⟩
  rw [hm]
  have w1 : IntKind.wrap .i64 1 = 1 := rfl
  have w2 : IntKind.wrap .i64 2 = 2 := rfl
  by_cases h1 : a = 0
  · by_cases h2 : b = 0
    · simp [lp, geti, lenI, h1, h2, w1, w2]
    · have hb : (b == 0) = false := by simp [h2]
      simp [lp, geti, lenI, h1, hb, w1, w2]
  · have hb : (a == 0) = false := by simp [h1]
    simp [lp, geti, lenI, h1, hb]
theorem t_impl_firstOf3 (a b c : Int) : m_w63q [a, b, c] = some (if a = 0 then (if b = 0 then c else b) else a) := by
  show p_w63q FU _ = _
  unfold p_w63q l_w63q_1
  obtain ⟨m, hm⟩ : ∃ m, FU = m + 1 + 1 + 1 + 1 := ⟨18446744073709551612, rfl⟩
  rw [hm]
  have w1 : IntKind.wrap .i64 1 = 1 := rfl
  have w2 : IntKind.wrap .i64 2 = 2 := rfl
  have w3 : IntKind.wrap .i64 3 = 3 := rfl
  by_cases h1 : a = 0
  · by_cases h2 : b = 0
    · by_cases h3 : c = 0
      · simp [lp, geti, lenI, h1, h2, h3, w1, w2, w3]
      · have hb : (c == 0) = false := by simp [h3]
        simp [lp, geti, lenI, h1, h2, hb, w1, w2, w3]
    · have hb : (b == 0) = false := by simp [h2]
      simp [lp, geti, lenI, h1, h2, hb, w1, w2]
  · have hb : (a == 0) = false := by simp [h1]
    simp [lp, geti, lenI, h1, hb]

theorem t_w64q (m : ConT) (c : Int) : m_w64q (m, c) = some (if m.1 < c then -1 else if m.1 > c then 1 else 0) := by
  show p_w64q FU _ = _
  unfold p_w64q
  simp only [t_w47q, Option.bind_some]
theorem t_w65q (s : ShdT) (xs : List ConT) (hs : s.2.2.2.1 = xs) (c : Int) (hl : xs.length ≤ 1048576) : ∃ j : Nat, j ≤ xs.length ∧ m_w65q (s, c) = some ((j : Int), match xs[j]? with | some m => m.1 == c | none => false) ∧
    ((xs.Pairwise fun a b => a.1 < b.1) → (∀ (i : Nat) (h : i < xs.length), i < j → xs[i].1 < c) ∧ ∀ (i : Nat) (h : i < xs.length), j ≤ i → ¬ xs[i].1 < c) := by
  have hB : xs.length ≤ B36 := by unfold B36; omega
  obtain ⟨j, q1, q2, q3⟩ := bs_total xs.length hB (fun i => match xs[i]? with | some m => decide (m.1 < c) | none => false) (step := fun rec13 (z12 : Int × Int) =>
 (cond (decide (z12.1 < z12.2))
  (chk (decide (0 ≤ (1 : Int)))
   ((geti xs (IntKind.wrap .i64 (Int.fdiv (IntKind.wrap .u64 (IntKind.wrap .i64 (z12.1 + z12.2))) (2 ^ (min (1 : Int).toNat 64))))).bind fun y14 =>
   ((m_w64q (y14, c)).bind fun r15 =>
   (cond (decide (r15 < (0 : Int)))
    (rec13 (IntKind.wrap .i64 ((IntKind.wrap .i64 (Int.fdiv (IntKind.wrap .u64 (IntKind.wrap .i64 (z12.1 + z12.2))) (2 ^ (min (1 : Int).toNat 64)))) + (1 : Int)), z12.2))
    (rec13 (z12.1, IntKind.wrap .i64 (Int.fdiv (IntKind.wrap .u64 (IntKind.wrap .i64 (z12.1 + z12.2))) (2 ^ (min (1 : Int).toNat 64)))))))))
  (some z12.1)))
    (fun a b rec hab hb => by
      have hlt : (a + b) / 2 < xs.length := by omega
      have hd : decide ((a : Int) < (b : Int)) = true := decide_eq_true (by omega)
      have hc1 : decide ((0 : Int) ≤ 1) = true := rfl
      simp only [hd, cond_true, chk, hc1, mid_eq (a := a) (b := b) (by omega) (by omega), geti_lt xs _ hlt, Option.bind_some, t_w64q, List.getElem?_eq_getElem hlt, nxt (i := (a + b) / 2) (by omega)]
      by_cases h : xs[(a + b) / 2].1 < c
      · simp [h]
      · by_cases h2 : xs[(a + b) / 2].1 > c <;> simp [h, h2])
    (fun a rec => by
      have hd : decide ((a : Int) < (a : Int)) = false := decide_eq_false (by omega)
      simp only [hd, cond_false])
  refine ⟨j, q1, ?_, fun hu => ?_⟩
  · show p_w65q FU _ = _
    unfold p_w65q l_w64q
    simp only [hs]
    rw [lenI_eq]
    rw [q2]
    simp only [Option.bind_some]
    by_cases h : j < xs.length
    · have hd : decide ((j : Int) < (xs.length : Int)) = true := decide_eq_true (by omega)
      simp only [hd, cond_true, geti_lt xs j h, Option.bind_some, t_w64q, List.getElem?_eq_getElem h]
      congr 2
      by_cases h1 : xs[j].1 < c
      · rw [if_pos h1]
        have : (xs[j].1 == c) = false := by rw [beq_eq_false_iff_ne]; omega
        rw [this]; rfl
      · rw [if_neg h1]
        by_cases h2 : xs[j].1 > c
        · rw [if_pos h2]
          have : (xs[j].1 == c) = false := by rw [beq_eq_false_iff_ne]; omega
          rw [this]; rfl
        · rw [if_neg h2]
          have : (xs[j].1 == c) = true := by rw [beq_iff_eq]; omega
          rw [this]; rfl
    · have hd : decide ((j : Int) < (xs.length : Int)) = false := decide_eq_false (by omega)
      simp only [hd, cond_false, List.getElem?_eq_none (Nat.le_of_not_lt h)]
  · obtain ⟨a1, a2⟩ := q3 (fun i k hik hk hp => by
      have hi : i < xs.length := by omega
      simp only [List.getElem?_eq_getElem hk, List.getElem?_eq_getElem hi, decide_eq_true_eq] at hp ⊢
      rcases Nat.eq_or_lt_of_le hik with e | e
      · subst e; exact hp
      · have := List.pairwise_iff_getElem.1 hu i k hi hk e; omega)
    refine ⟨fun i h hij => ?_, fun i h hij => ?_⟩
    · have := a1 i hij
      simpa [List.getElem?_eq_getElem h] using this
    · have := a2 i hij h
      simpa [List.getElem?_eq_getElem h] using this

theorem held_any {xs : List ConT} {c : Int} {j : Nat} (hj : j ≤ xs.length) (hup : xs.Pairwise fun a b => a.1 < b.1) (h1 : ∀ (i : Nat) (h : i < xs.length), i < j → xs[i].1 < c) (h2 : ∀ (i : Nat) (h : i < xs.length), j ≤ i → ¬ xs[i].1 < c) :
    (match xs[j]? with | some m => m.1 == c | none => false) = xs.any fun x => x.1 == c := by
  have hf := up_find (fun x : ConT => x.1) hup c j hj h1 h2
  by_cases h : j < xs.length
  · rw [dif_pos h] at hf
    simp only [List.getElem?_eq_getElem h]
    cases hb : xs[j].1 == c with
    | true => exact (List.any_eq_true.2 ⟨_, List.getElem_mem h, hb⟩).symm
    | false =>
      rw [if_neg (by simpa using hb), List.find?_eq_none] at hf
      exact (List.any_eq_false.2 hf).symm
  · rw [dif_neg h, List.find?_eq_none] at hf
    simp only [List.getElem?_eq_none (Nat.le_of_not_lt h)]
    exact (List.any_eq_false.2 hf).symm
theorem t_w66q (s : ShdT) (m : MarkT) (h3 : s.2.2.2.1.length ≤ 1048576) (h4 : s.2.2.2.2.1.length ≤ 1048576) (hup : s.2.2.2.1.Pairwise fun a b => a.1 < b.1) (hd : upM s.2.2.2.2.1) : m_w66q (s, m) = some (openB s m) := by
  obtain ⟨j, hj, e, hu⟩ := t_w65q s _ rfl m.1 h3
  obtain ⟨v, e2, hv⟩ := t_w61q s.2.2.2.2.1 m.1 h4
  rw [held_any hj hup (hu hup).1 (hu hup).2] at e
  suffices key : p_w66q FU (s, m) = some (openB s m) from key
  unfold p_w66q openB
  simp only [e, Option.bind_some, e2, hv hd]
  cases (m.2 == 1) with
  | false => rfl
  | true => cases s.2.2.2.1.any fun x => x.1 == m.1 <;> rfl

theorem t_w67q (xs : List Int) (h : xs.length ≤ 1048576) : m_w67q xs = some (sortI xs, xs) := by
  show p_w67q FU _ = _
  unfold p_w67q sortedRun
  rw [if_pos (by omega)]

theorem t_w68q (a b : List Int) (h : a.length ≤ 1048576) : m_w68q (a, b) = some (decide (a = b)) := by
  show p_w68q FU _ = _
  unfold p_w68q
  simp only [lenI_eq]
  by_cases hl : a.length = b.length
  · have : ((a.length : Int) == (b.length : Int)) = true := by rw [beq_iff_eq]; omega
    simp only [this, Bool.not_true, cond_false]
    unfold l_w68q_1
    refine lp_for (fun r => r = some (decide (a = b))) (fun i z => z = (i : Int) ∧ a.take i = b.take i) a.length (fun i z hi hz => ?_) (fun z hz rec => ?_) FU _ (FU_gt h) ⟨rfl, by simp⟩
    · obtain ⟨rfl, hz⟩ := hz
      have hib : i < b.length := by omega
      by_cases he : a[i] = b[i]
      · refine .inr ⟨_, ⟨rfl, ?_⟩, fun rec => ?_⟩
        · rw [List.take_succ_eq_append_getElem hi, List.take_succ_eq_append_getElem hib, hz, he]
        · have hb : (a[i] == b[i]) = true := by rw [beq_iff_eq]; exact he
          simp only [lt_lenI hi, cond_true, geti_lt a i hi, geti_lt b i hib, Option.bind_some, hb, Bool.not_true, cond_false, wrap_next hi h]
      · refine .inl fun rec => ?_
        have hb : (a[i] == b[i]) = false := by rw [beq_eq_false_iff_ne]; exact he
        have hne : a ≠ b := fun e => he (by subst e; rfl)
        simp only [lt_lenI hi, cond_true, geti_lt a i hi, geti_lt b i hib, Option.bind_some, hb, Bool.not_false, decide_eq_false hne]
    · obtain ⟨rfl, hz⟩ := hz
      rw [List.take_length, hl, List.take_length] at hz
      simp only [ge_lenI, cond_false, decide_eq_true hz]
  · have : ((a.length : Int) == (b.length : Int)) = false := by rw [beq_eq_false_iff_ne]; omega
    have hne : a ≠ b := fun e => hl (by rw [e])
    simp only [this, Bool.not_false, cond_true, decide_eq_false hne]

theorem t_w69q (s : ShdT) (h1 : s.2.2.2.2.1.length ≤ 1048576) (h2 : s.2.2.2.2.2.length ≤ 1048576) : m_w69q s = some (appB s) := by
  show p_w69q FU _ = _
  unfold p_w69q appB
  generalize s.2.2.2.2.1 = done at *
  generalize s.2.2.2.2.2 = ap at *
  have e1 : l_w69q_1 FU done (([] : List Int), (0 : Int)) = some (doneL done) := by
    unfold l_w69q_1
    refine lp_for (fun r => r = some (doneL done)) (fun i z => z = (doneL (done.take i), (i : Int))) done.length (fun i z hi hz => ?_) (fun z hz rec => ?_) FU _ (FU_gt h1) (by simp [doneL])
    · subst hz
      have hle : (doneL (done.take i)).length ≤ i := by
        unfold doneL
        rw [List.length_map]
        exact Nat.le_trans (List.length_filter_le _ _) (by rw [List.length_take]; omega)
      have e : doneL (done.take (i + 1)) = doneL (done.take i) ++ cond (done[i].2 == 1) [done[i].1] [] := by
        unfold doneL
        rw [List.take_succ_eq_append_getElem hi, List.filter_append, List.map_append]
        cases h : (done[i].2 == 1) <;> simp [h]
      have hb : Nat.ble (((doneL (done.take i)).length + [done[i].1].length) * 8) maxBytes = true := ble_mem (by simp only [maxBytes, List.length_singleton]; omega)
      refine .inr ⟨_, rfl, fun rec => ?_⟩
      rw [e]
      simp only [lt_lenI hi, cond_true, geti_lt done i hi, Option.bind_some, wrap_next hi h1, chk, hb]
      cases (done[i].2 == 1) with
      | true => rfl
      | false => simp only [cond_false, List.append_nil]
    · subst hz
      simp only [ge_lenI, cond_false, List.take_length]
  simp only [e1, Option.bind_some, t_w67q ap h2, t_w68q (sortI ap) (doneL done) (by rw [sortI_length]; exact h2)]

theorem same_any {α : Type} (xs : List α) (p : α → Bool) : decide (((xs.findIdx? p).elim (-1) (fun j => (j : Int))) ≥ 0) = xs.any p := by
  cases hf : xs.findIdx? p with
  | none =>
    have : xs.any p = false := by
      rw [List.findIdx?_eq_none_iff] at hf
      rw [List.any_eq_false]
      intro s hs
      simpa using hf s hs
    rw [this]; rfl
  | some j =>
    have : xs.any p = true := by
      rw [List.findIdx?_eq_some_iff_getElem] at hf
      obtain ⟨h, h1, _⟩ := hf
      rw [List.any_eq_true]
      exact ⟨_, List.getElem_mem h, h1⟩
    rw [this]
    exact decide_eq_true (by show (0 : Int) ≤ (j : Int); omega)
theorem legsA_same {xs : List LegT} {a : Int} {l : LegT} (h : l ∈ legsA xs a) : l.1 = a := by simpa using (List.mem_filter.1 h).2
theorem meet_eq (a b : List LegT) (c : Int) : ((legsA a c).any fun l => (legsA b c).any fun o => sameP l o) = touchL (legsA a c) (legsA b c) := by
  unfold touchL
  rw [Bool.eq_iff_iff, List.any_eq_true, List.any_eq_true]
  constructor
  · rintro ⟨l, hl, h⟩
    obtain ⟨o, ho, h⟩ := List.any_eq_true.1 h
    refine ⟨l, hl, List.any_eq_true.2 ⟨o, ho, ?_⟩⟩
    simp only [sameP, Bool.and_eq_true] at h ⊢
    exact h.2
  · rintro ⟨l, hl, h⟩
    obtain ⟨o, ho, h⟩ := List.any_eq_true.1 h
    refine ⟨l, hl, List.any_eq_true.2 ⟨o, ho, ?_⟩⟩
    simp only [sameP, Bool.and_eq_true, beq_iff_eq] at h ⊢
    exact ⟨by rw [legsA_same hl, legsA_same ho], h⟩
theorem t_w70q (s : ShdT) (a b : ConT) (ha : a.2.length ≤ 1048576) (hb : b.2.length ≤ 1048576) : m_w70q (s, a, b) = some (touchL (legsA a.2 s.1) (legsA b.2 s.1)) := by
  show p_w70q FU _ = _
  unfold p_w70q
  have L1 : m_w58q (a, s.1) = some (legsA a.2 s.1) := t_w58q a.1 a.2 s.1 ha
  have L2 : m_w58q (b, s.1) = some (legsA b.2 s.1) := t_w58q b.1 b.2 s.1 hb
  have l1 := legsA_len ha s.1
  have l2 := legsA_len hb s.1
  simp only [L1, Option.bind_some]
  have e1 : ∀ y : LegT, l_w70q_1 FU (legsA b.2 s.1) y (0 : Int) = some (((legsA b.2 s.1).findIdx? fun o => sameP y o).elim (-1) (fun j => (j : Int))) := by
    intro y
    unfold l_w70q_1
    refine (lp_place (legsA b.2 s.1) (fun o => sameP y o) (fun j => some (j : Int)) (some (-1 : Int)) (by unfold B36; omega) (fun j hj rec hw => ?_) (fun rec => ?_)).trans ?_
    · simp only [lt_lenI hj, cond_true, geti_lt _ j hj, Option.bind_some, Int.toNat_natCast, List.getElem?_eq_getElem hj, t_w56q, hw]
    · simp only [ge_lenI, cond_false]
    · cases (legsA b.2 s.1).findIdx? fun o => sameP y o <;> rfl
  have e2 : l_w70q_2 FU (legsA a.2 s.1) s.1 b (0 : Int) = some (((legsA a.2 s.1).findIdx? fun l => (legsA b.2 s.1).any fun o => sameP l o).elim (-1) (fun j => (j : Int))) := by
    unfold l_w70q_2
    refine (lp_place (legsA a.2 s.1) (fun l => (legsA b.2 s.1).any fun o => sameP l o) (fun j => some (j : Int)) (some (-1 : Int)) (by unfold B36; omega) (fun j hj rec hw => ?_) (fun rec => ?_)).trans ?_
    · simp only [lt_lenI hj, cond_true, geti_lt _ j hj, Option.bind_some, Int.toNat_natCast, List.getElem?_eq_getElem hj, L2, e1, same_any, hw]
    · simp only [ge_lenI, cond_false]
    · cases (legsA a.2 s.1).findIdx? fun l => (legsA b.2 s.1).any fun o => sameP l o <;> rfl
  rw [e2]
  simp only [Option.bind_some, same_any, meet_eq]

theorem t_w72q (xs : List BalT) (l : LegT) (hl : xs.length ≤ 1048576) (hu : upB xs) : m_w72q (xs, l) = some (legB xs l) := by
  show p_w72q FU _ = _
  unfold p_w72q legB
  simp only [t_w71q xs _ _ hl hu, Option.bind_some]
  cases decide (IntKind.wrap .i64 (hasB xs l.2.1 l.2.2.1 + l.2.2.2) < 0) with
  | true => rfl
  | false => cases decide (IntKind.wrap .i64 (hasB xs l.2.1 l.2.2.1 + l.2.2.2) > 1000000000000) <;> rfl

theorem t_w73q (s : ShdT) (c : ConT) (h1 : s.2.1.length ≤ 1048576) (hu : upB s.2.1) (hc : c.2.length ≤ 1048576) : m_w73q (s, c) = some (legsB s.2.1 (legsA c.2 s.1)) := by
  show p_w73q FU _ = _
  unfold p_w73q
  have L1 : m_w58q (c, s.1) = some (legsA c.2 s.1) := t_w58q c.1 c.2 s.1 hc
  have l1 := legsA_len hc s.1
  simp only [L1, Option.bind_some]
  unfold l_w73q_1 legsB
  refine (lp_fst (legsA c.2 s.1) (fun _ l => nz (legB s.2.1 l)) (some (0 : Int)) (by unfold B36; omega) (fun i hi rec hw => ?_) (fun rec => ?_)).trans ?_
  · simp only [lt_lenI hi, cond_true, geti_lt _ i hi, Option.bind_some, Int.toNat_natCast, List.getElem?_eq_getElem hi, t_w72q _ _ h1 hu, hw, nz]
    cases (legB s.2.1 (legsA c.2 s.1)[i] == 0) <;> rfl
  · simp only [ge_lenI, cond_false]
  · cases fstI (fun _ l => nz (legB s.2.1 l)) 0 (legsA c.2 s.1) <;> rfl

theorem touch_comm (a b : List LegT) : touchL a b = touchL b a := by
  unfold touchL
  rw [Bool.eq_iff_iff, List.any_eq_true, List.any_eq_true]
  constructor
  · rintro ⟨l, hl, h⟩
    obtain ⟨o, ho, h⟩ := List.any_eq_true.1 h
    refine ⟨o, ho, List.any_eq_true.2 ⟨l, hl, ?_⟩⟩
    simp only [Bool.and_eq_true, beq_iff_eq] at h ⊢
    exact ⟨h.1.symm, h.2.symm⟩
  · rintro ⟨l, hl, h⟩
    obtain ⟨o, ho, h⟩ := List.any_eq_true.1 h
    refine ⟨o, ho, List.any_eq_true.2 ⟨l, hl, ?_⟩⟩
    simp only [Bool.and_eq_true, beq_iff_eq] at h ⊢
    exact ⟨h.1.symm, h.2.symm⟩
theorem held_t2 (s : ShdT) (hz : SzS s) : l_w74q_2 FU s (0 : Int) = (fstI (meetStep s) 0 s.2.2.2.1).elim (some (Sum.inl ())) (fun r => some (Sum.inr r)) := by
  obtain ⟨z1, z2, z3, z4, z5, z6⟩ := hz
  have hB : s.2.2.2.1.length ≤ B36 := by unfold B36; omega
  have e1 : ∀ i, i < s.2.2.2.1.length → ∀ c ∈ s.2.2.2.1, l_w74q_1 FU (i : Int) s c (0 : Int) = some (((s.2.2.2.1.take i).findIdx? fun o => touchL (legsA o.2 s.1) (legsA c.2 s.1)).elim (-1) (fun j => (j : Int))) := by
    intro i hi c hc
    have hcut : cutL none (some (i : Int)) s.2.2.2.1 = s.2.2.2.1.take i := by simp [cutL]
    have hlen : (s.2.2.2.1.take i).length ≤ B36 := by rw [List.length_take]; omega
    unfold l_w74q_1
    rw [hcut]
    refine (lp_place (s.2.2.2.1.take i) (fun o => touchL (legsA o.2 s.1) (legsA c.2 s.1)) (fun j => some (j : Int)) (some (-1 : Int)) hlen (fun j hj rec hw => ?_) (fun rec => ?_)).trans ?_
    · have hm : (s.2.2.2.1.take i)[j].2.length ≤ 1048576 := z6 _ (List.mem_of_mem_take (List.getElem_mem hj))
      simp only [lt_lenI hj, cond_true, geti_lt _ j hj, Option.bind_some, t_w70q s _ c hm (z6 c hc), hw]
    · simp only [ge_lenI, cond_false]
    · cases (s.2.2.2.1.take i).findIdx? fun o => touchL (legsA o.2 s.1) (legsA c.2 s.1) <;> rfl
  unfold l_w74q_2
  refine (lp_fst s.2.2.2.1 (fun i c => (meetStep s i c).map (Sum.inr (α := Unit))) (some (Sum.inl ())) hB (fun i hi rec hw => ?_) (fun rec => ?_)).trans ?_
  · have hbd : bndB none (some (i : Int)) none s.2.2.2.1.length = true := by simp [bndB]; omega
    have hsw : (s.2.2.2.1.take i).any (fun o => touchL (legsA o.2 s.1) (legsA s.2.2.2.1[i].2 s.1)) = (s.2.2.2.1.take i).any (fun o => touchL (legsA s.2.2.2.1[i].2 s.1) (legsA o.2 s.1)) := by
      congr 1
      funext o
      exact touch_comm _ _
    simp only [lt_lenI hi, cond_true, geti_lt _ i hi, Option.bind_some, chk, hbd, e1 i hi _ (List.getElem_mem hi), same_any, hw, meetStep, hsw]
    cases (s.2.2.2.1.take i).any fun o => touchL (legsA s.2.2.2.1[i].2 s.1) (legsA o.2 s.1) <;> rfl
  · simp only [ge_lenI, cond_false]
  · rw [fstI_map]
    cases fstI (meetStep s) 0 s.2.2.2.1 <;> rfl
theorem held_t3 (s : ShdT) (hz : SzS s) (hu : upB s.2.1) : l_w74q_3 FU s (0 : Int) = some ((fstI (fun _ c => nz (legsB s.2.1 (legsA c.2 s.1))) 0 s.2.2.2.1).getD 0) := by
  obtain ⟨z1, z2, z3, z4, z5, z6⟩ := hz
  have hB : s.2.2.2.1.length ≤ B36 := by unfold B36; omega
  unfold l_w74q_3
  refine (lp_fst s.2.2.2.1 (fun _ c => nz (legsB s.2.1 (legsA c.2 s.1))) (some (0 : Int)) hB (fun i hi rec hw => ?_) (fun rec => ?_)).trans ?_
  · simp only [lt_lenI hi, cond_true, geti_lt _ i hi, Option.bind_some, t_w73q s _ z1 hu (z6 _ (List.getElem_mem hi)), hw, nz]
    cases (legsB s.2.1 (legsA s.2.2.2.1[i].2 s.1) == 0) <;> rfl
  · simp only [ge_lenI, cond_false]
  · cases fstI (fun _ c => nz (legsB s.2.1 (legsA c.2 s.1))) 0 s.2.2.2.1 <;> rfl
theorem t_w74q (s : ShdT) (hz : SzS s) (hu : upB s.2.1) : m_w74q s = some ((fstI (meetStep s) 0 s.2.2.2.1).getD ((fstI (fun _ c => nz (legsB s.2.1 (legsA c.2 s.1))) 0 s.2.2.2.1).getD 0)) := by
  show p_w74q FU _ = _
  unfold p_w74q
  rw [held_t2 s hz]
  cases fstI (meetStep s) 0 s.2.2.2.1 with
  | some r => simp only [Option.elim_some, Option.bind_some, Sum.elim_inr, Option.getD_some]
  | none =>
    simp only [Option.elim_none, Option.bind_some, Sum.elim_inl, Option.getD_none]
    rw [held_t3 s hz hu]

theorem sh_marks1 (xs : List MarkT) (hl : xs.length ≤ 1048576) : l_w75q_1 FU xs (0 : Int) = some (markC xs) := by
  unfold l_w75q_1 markC
  refine (lp_fst xs (markStep xs) (some (0 : Int)) (by unfold B36; omega) (fun i hi rec hw => ?_) (fun rec => ?_)).trans ?_
  · simp only [lt_lenI hi, cond_true, geti_lt xs i hi, Option.bind_some, t_w51q, t_w52q, hw, markStep]
    cases idB xs[i].1 with
    | false => rfl
    | true =>
      cases vlu xs[i].2 with
      | false => rfl
      | true =>
        simp only [Bool.not_true, cond_false, Option.bind_some, Bool.and_self]
        by_cases h0 : 0 < i
        · have hd : decide ((i : Int) > 0) = true := by simp; omega
          have hi1 : i - 1 < xs.length := by omega
          simp only [hd, cond_true, prv (i := i) (by unfold B36; omega) h0, geti_lt xs _ hi1, Option.bind_some, h0, decide_true, Bool.true_and, List.getElem?_eq_getElem hi1, Option.getD_some]
          have ge : decide (xs[i - 1].1 ≥ xs[i].1) = decide (xs[i].1 ≤ xs[i - 1].1) := rfl
          rw [ge]
          cases decide (xs[i].1 ≤ xs[i - 1].1) <;> rfl
        · have hd : decide ((i : Int) > 0) = false := by simp; omega
          simp only [hd, cond_false, Option.bind_some, h0, decide_false, Bool.false_and]
  · simp only [ge_lenI, cond_false]
  · cases fstI (markStep xs) 0 xs <;> rfl
theorem sh_marks2 (xs : List MarkT) (hl : xs.length ≤ 1048576) : l_w75q_2 FU xs (0 : Int) = some (markC xs) := by
  unfold l_w75q_2 markC
  refine (lp_fst xs (markStep xs) (some (0 : Int)) (by unfold B36; omega) (fun i hi rec hw => ?_) (fun rec => ?_)).trans ?_
  · simp only [lt_lenI hi, cond_true, geti_lt xs i hi, Option.bind_some, t_w51q, t_w53q, hw, markStep]
    cases idB xs[i].1 with
    | false => rfl
    | true =>
      cases vlu xs[i].2 with
      | false => rfl
      | true =>
        simp only [Bool.not_true, cond_false, Option.bind_some, Bool.and_self]
        by_cases h0 : 0 < i
        · have hd : decide ((i : Int) > 0) = true := by simp; omega
          have hi1 : i - 1 < xs.length := by omega
          simp only [hd, cond_true, prv (i := i) (by unfold B36; omega) h0, geti_lt xs _ hi1, Option.bind_some, h0, decide_true, Bool.true_and, List.getElem?_eq_getElem hi1, Option.getD_some]
          have ge : decide (xs[i - 1].1 ≥ xs[i].1) = decide (xs[i].1 ≤ xs[i - 1].1) := rfl
          rw [ge]
          cases decide (xs[i].1 ≤ xs[i - 1].1) <;> rfl
        · have hd : decide ((i : Int) > 0) = false := by simp; omega
          simp only [hd, cond_false, Option.bind_some, h0, decide_false, Bool.false_and]
  · simp only [ge_lenI, cond_false]
  · cases fstI (markStep xs) 0 xs <;> rfl
theorem sh_open (s : ShdT) (hz : SzS s) (hup : s.2.2.2.1.Pairwise fun a b => a.1 < b.1) (hd : upM s.2.2.2.2.1) : l_w75q_3 FU s (0 : Int) = some ((s.2.2.1.findIdx? (openB s)).elim (-1) (fun j => (j : Int))) := by
  obtain ⟨z1, z2, z3, z4, z5, z6⟩ := hz
  unfold l_w75q_3
  refine (lp_place s.2.2.1 (openB s) (fun j => some (j : Int)) (some (-1 : Int)) (by unfold B36; omega) (fun j hj rec hw => ?_) (fun rec => ?_)).trans ?_
  · simp only [lt_lenI hj, cond_true, geti_lt _ j hj, Option.bind_some, t_w66q s _ z3 z4 hup hd, hw]
  · simp only [ge_lenI, cond_false]
  · cases s.2.2.1.findIdx? (openB s) <;> rfl
theorem max4 (a b c d : Int) : (decide ((if d > (if c > (if b > a then b else a) then c else (if b > a then b else a)) then d else (if c > (if b > a then b else a) then c else (if b > a then b else a))) > (100 : Int))) = decide (100 < a ∨ 100 < b ∨ 100 < c ∨ 100 < d) := by
  rw [Bool.eq_iff_iff, decide_eq_true_eq, decide_eq_true_eq]
  omega
theorem t_w75q (s : ShdT) (hz : SzS s) : m_w75q s = some (shardC s) := by
  show p_w75q FU _ = _
  unfold p_w75q shardC
  simp only [t_w43q, t_w50q, Option.bind_some, max4]
  unfold shB
  cases inB s.1 0 2 with
  | false => rfl
  | true =>
    simp only [Bool.not_true, cond_false]
    by_cases hb : balCode s.2.1 = 0
    · simp only [hb, beq_self_eq_true, Bool.not_true, cond_false, ne_eq, not_true_eq_false, if_false]
      have emany : decide (100 < lenI s.2.2.1 ∨ 100 < lenI s.2.2.2.1 ∨ 100 < lenI s.2.2.2.2.1 ∨ 100 < lenI s.2.2.2.2.2) = decide (100 < s.2.2.1.length ∨ 100 < s.2.2.2.1.length ∨ 100 < s.2.2.2.2.1.length ∨ 100 < s.2.2.2.2.2.length) := by
        rw [Bool.eq_iff_iff, decide_eq_true_eq, decide_eq_true_eq, lenI_eq, lenI_eq, lenI_eq, lenI_eq]
        omega
      rw [emany]
      by_cases hm : 100 < s.2.2.1.length ∨ 100 < s.2.2.2.1.length ∨ 100 < s.2.2.2.2.1.length ∨ 100 < s.2.2.2.2.2.length
      · rw [decide_eq_true hm, if_pos hm]; rfl
      · rw [decide_eq_false hm, if_neg hm, cond_false, sh_marks1 _ hz.2.1, Option.bind_some, sh_marks2 _ hz.2.2.2.1, Option.bind_some]
        obtain ⟨r, er, hr⟩ := t_w62q s hz
        rw [er, Option.bind_some, t_impl_firstOf3, Option.bind_some]
        by_cases hv : markC s.2.2.1 = 0
        · have hnv : ¬ markC s.2.2.1 ≠ 0 := by rw [hv]; simp
          rw [if_pos hv, if_neg hnv]
          by_cases hd : markC s.2.2.2.2.1 = 0
          · have hnd : ¬ markC s.2.2.2.2.1 ≠ 0 := by rw [hd]; simp
            rw [if_pos hd, if_neg hnd]
            have hu1 := (markC_zero hv).1
            have hu2 := (markC_zero hd).1
            have hrr := hr hu1 hu2
            subst hrr
            unfold heldAll
            by_cases hh : heldC s = 0
            · have hnh : ¬ heldC s ≠ 0 := by rw [hh]; simp
              rw [if_neg hnh, hh]
              have hup := (heldC_zero hh).2
              have hub := (balCode_up hb).1
              simp only [beq_self_eq_true, Bool.not_true, cond_false]
              rw [sh_open s hz hup hu2]
              simp only [Option.bind_some, same_any]
              cases s.2.2.1.any (openB s) with
              | true => simp only [cond_true, Option.bind_some, Bool.true_or]
              | false =>
                simp only [cond_false, t_w69q s hz.2.2.2.1 hz.2.2.2.2.1, Option.bind_some, Bool.false_or]
                cases appB s with
                | false => simp only [Bool.not_false, cond_true]
                | true =>
                  simp only [Bool.not_true, cond_false]
                  rw [t_w74q s hz hub]
                  simp only [Option.bind_some]
            · have hb2 : (heldC s == 0) = false := by simpa using hh
              rw [if_pos hh, hb2]; rfl
          · have hb2 : (markC s.2.2.2.2.1 == 0) = false := by simpa using hd
            rw [if_neg hd, if_pos hd, hb2]; rfl
        · have hb2 : (markC s.2.2.1 == 0) = false := by simpa using hv
          rw [if_neg hv, if_pos hv, hb2]; rfl
    · have hbb : (balCode s.2.1 == 0) = false := by simpa using hb
      rw [if_pos hb, hbb]; rfl

theorem t_slices_Clone_BalS (xs : List BalT) (h : xs.length ≤ 1048576) : m_w76q xs = some xs := by
  show p_w76q FU _ = _
  unfold p_w76q
  have hb : Nat.ble ((([] : List (Int × (Int × Int))).length + xs.length) * 24) maxBytes = true := ble_mem (by simp only [List.length_nil, maxBytes]; omega)
  rw [chk_true hb]
  exact clone_same xs _ rfl
theorem t_slices_Clone_Mark (xs : List MarkT) (h : xs.length ≤ 1048576) : m_w77q xs = some xs := by
  show p_w77q FU _ = _
  unfold p_w77q
  have hb : Nat.ble ((([] : List (Int × Int)).length + xs.length) * 16) maxBytes = true := ble_mem (by simp only [List.length_nil, maxBytes]; omega)
  rw [chk_true hb]
  exact clone_same xs _ rfl
theorem t_slices_Clone_Leg (xs : List LegT) (h : xs.length ≤ 1048576) : m_w78q xs = some xs := by
  show p_w78q FU _ = _
  unfold p_w78q
  have hb : Nat.ble ((([] : List (Int × (Int × (Int × Int)))).length + xs.length) * 32) maxBytes = true := ble_mem (by simp only [List.length_nil, maxBytes]; omega)
  rw [chk_true hb]
  exact clone_same xs _ rfl
theorem t_slices_Clone_Ints (xs : List Int) (h : xs.length ≤ 1048576) : m_w81q xs = some xs := by
  show p_w81q FU _ = _
  unfold p_w81q
  have hb : Nat.ble ((([] : List Int).length + xs.length) * 8) maxBytes = true := ble_mem (by simp only [List.length_nil, maxBytes]; omega)
  rw [chk_true hb]
  exact clone_same xs _ rfl
theorem t_w79q (c : ConT) (h : c.2.length ≤ 1048576) : m_w79q c = some c := by
  show p_w79q FU _ = _
  unfold p_w79q
  simp only [t_slices_Clone_Leg c.2 h, Option.bind_some]
theorem t_w80q (xs : List ConT) (hl : xs.length ≤ 1048576) (hc : ∀ c ∈ xs, c.2.length ≤ 1048576) : m_w80q xs = some xs := by
  show p_w80q FU _ = _
  unfold p_w80q l_w80q_1
  refine Eq.trans (lp_foldI xs (fun (s : List ConT) c => s ++ [c]) (fun i (s : List ConT) => (s, (i : Int))) (fun s => some s) (fun i s => s.length = i) (by unfold B36; omega) [] rfl (fun i hi s hI => ⟨by simp [hI], fun rec => ?_⟩) (fun s hI rec => ?_)).1 ?_
  · have c3 : Nat.ble ((s.length + [xs[i]].length) * 32) maxBytes = true := by rw [Nat.ble_eq]; simp only [List.length_cons, List.length_nil, maxBytes]; omega
    simp only [lt_lenI hi, cond_true, geti_lt xs i hi, Option.bind_some, t_w79q _ (hc _ (List.getElem_mem hi)), chk, c3, wrap_next hi hl]
  · simp only [ge_lenI, cond_false]
  · have : ∀ (ys zs : List ConT), ys.foldl (fun (s : List ConT) c => s ++ [c]) zs = zs ++ ys := by
      intro ys
      induction ys with
      | nil => intro zs; simp
      | cons y ys ih => intro zs; rw [List.foldl_cons, ih]; simp
    rw [this]; rfl
theorem t_w82q (s : ShdT) (hz : SzS s) : m_w82q s = some s := by
  obtain ⟨z1, z2, z3, z4, z5, z6⟩ := hz
  show p_w82q FU _ = _
  unfold p_w82q
  simp only [t_slices_Clone_BalS _ z1, t_slices_Clone_Mark _ z2, t_slices_Clone_Mark _ z4, t_slices_Clone_Ints _ z5, t_w80q _ z3 z6, Option.bind_some]

theorem insRun_putAt {α : Type} (by_ : Nat) (xs : List α) (j : Nat) (x : α) (hj : j ≤ xs.length) (hl : (xs.length + 1) * by_ ≤ 140737488355328) : insRun by_ (xs, (j : Int), [x]) = some (putAt xs j x) := by
  have h1 : (decide ((0 : Int) ≤ (j : Int)) && decide ((j : Int) ≤ (xs.length : Int)) && Nat.beq [x].length 1 && Nat.ble ((xs.length + 1) * by_) 140737488355328) = true := by
    have : Nat.ble ((xs.length + 1) * by_) 140737488355328 = true := by rw [Nat.ble_eq]; omega
    rw [this]; simp [hj]
  unfold insRun
  simp only [h1, cond_true, Int.toNat_natCast]
  rfl
theorem t_w84q (xs : List MarkT) (c v : Int) (hl : xs.length ≤ 1048576) (hu : upM xs) : m_w84q (xs, c, v) = some (putAt xs (atK (·.1) xs c) (c, v)) := by
  show p_w84q FU _ = _
  unfold p_w84q
  obtain ⟨j, hj, e1, e2⟩ := t_w60q xs c hl
  have hk := atK_of (·.1) hj (e2 hu).1 (e2 hu).2
  have e3 : m_w83q (xs, (j : Int), [(c, v)]) = some (putAt xs j (c, v), (true, true)) := by
    show (insRun 16 _).map _ = _
    rw [insRun_putAt 16 xs j (c, v) hj (by omega)]; rfl
  simp only [e1, Option.bind_some, dup_eq, t_slices_Clone_Mark xs hl, e3, hk]

theorem t_w87q (xs : List BalT) (l : LegT) (hg : GoodB xs) (hp : plB l.2.1 l.2.2.1 = true) (hl : xs.length ≤ 1048575) : m_w87q (xs, l) = some (addL xs l) := by
  obtain ⟨l1, a, b, m⟩ := l
  simp only at hp
  have hB : xs.length ≤ B36 := by unfold B36; omega
  obtain ⟨j, q1, q2, q3⟩ := bs_total xs.length hB (fun i => match xs[i]? with | some m => decide (cmpP m (a, (b, 0)) < 0) | none => false) (step := fun rec33 (z32 : Int × Int) =>
 (cond (decide (z32.1 < z32.2))
  (chk (decide (0 ≤ (1 : Int)))
   ((geti xs (IntKind.wrap .i64 (Int.fdiv (IntKind.wrap .u64 (IntKind.wrap .i64 (z32.1 + z32.2))) (2 ^ (min (1 : Int).toNat 64))))).bind fun _ =>
   ((xs[(IntKind.wrap .i64 (Int.fdiv (IntKind.wrap .u64 (IntKind.wrap .i64 (z32.1 + z32.2))) (2 ^ (min (1 : Int).toNat 64)))).toNat]?).bind fun y34 =>
   ((m_w49q (y34, (a, (b, (0 : Int))))).bind fun r35 =>
   (cond (decide (r35 < (0 : Int)))
    (rec33 (IntKind.wrap .i64 ((IntKind.wrap .i64 (Int.fdiv (IntKind.wrap .u64 (IntKind.wrap .i64 (z32.1 + z32.2))) (2 ^ (min (1 : Int).toNat 64)))) + (1 : Int)), z32.2))
    (rec33 (z32.1, IntKind.wrap .i64 (Int.fdiv (IntKind.wrap .u64 (IntKind.wrap .i64 (z32.1 + z32.2))) (2 ^ (min (1 : Int).toNat 64))))))))))
  (some z32.1)))
    (fun u v rec hab hb => by
      have hlt : (u + v) / 2 < xs.length := by omega
      have hd : decide ((u : Int) < (v : Int)) = true := decide_eq_true (by omega)
      have hc1 : decide ((0 : Int) ≤ 1) = true := rfl
      simp only [hd, cond_true, chk, hc1, mid_eq (a := u) (b := v) (by omega) (by omega), geti_lt xs _ hlt, Option.bind_some, Int.toNat_natCast, t_w49q, List.getElem?_eq_getElem hlt, nxt (i := (u + v) / 2) (by omega)])
    (fun u rec => by
      have hd : decide ((u : Int) < (u : Int)) = false := decide_eq_false (by omega)
      simp only [hd, cond_false])
  obtain ⟨a1, a2⟩ := q3 (fun i k hik hk hpk => by
    have hi : i < xs.length := by omega
    simp only [List.getElem?_eq_getElem hk, List.getElem?_eq_getElem hi, decide_eq_true_eq] at hpk ⊢
    exact good_upB hg hi hk hik (y := (a, (b, 0))) hp hpk)
  have h1 : ∀ (i : Nat) (hi : i < xs.length), i < j → keyB xs[i] < a * 3 + b := fun i hi hij => by
    have := a1 i hij
    simp only [List.getElem?_eq_getElem hi, decide_eq_true_eq] at this
    exact (keyB_cmp (y := (a, (b, 0))) (hg.2 _ (List.getElem_mem hi)) hp).1 this
  have h2 : ∀ (i : Nat) (hi : i < xs.length), j ≤ i → ¬ keyB xs[i] < a * 3 + b := fun i hi hij hk => by
    have := a2 i hij hi
    simp only [List.getElem?_eq_getElem hi, decide_eq_false_iff_not] at this
    exact this ((keyB_cmp (y := (a, (b, 0))) (hg.2 _ (List.getElem_mem hi)) hp).2 hk)
  obtain ⟨B, s1, s2, s3⟩ := setB_mid hg hp q1 h1 h2
  have hjl : (xs.take j).length = j := by simp; omega
  suffices key : p_w87q FU (xs, (l1, (a, (b, m)))) = some (addL xs (l1, (a, (b, m)))) from key
  have e0 : l_w87q_1 FU xs a b ((0 : Int), lenI xs) = some (j : Int) := by
    unfold l_w87q_1
    rw [lenI_eq, q2]
  have fin : ∀ ys : List BalT, ys = xs.take j ++ ([(a, (b, hasB xs a b))] ++ B) →
   ((geti ys (j : Int)).bind fun _ =>
   ((ys[((j : Nat) : Int).toNat]?).bind fun y44 =>
   ((geti ys (j : Int)).bind fun _ =>
   ((ys[((j : Nat) : Int).toNat]?).bind fun y45 =>
   ((geti (ys.set ((j : Nat) : Int).toNat (y45.1, (y45.2.1, IntKind.wrap .i64 (y44.2.2 + m)))) (j : Int)).bind fun _ =>
   (((ys.set ((j : Nat) : Int).toNat (y45.1, (y45.2.1, IntKind.wrap .i64 (y44.2.2 + m))))[((j : Nat) : Int).toNat]?).bind fun y46 =>
   (cond (y46.2.2 == (0 : Int))
    ((m_w86q ((ys.set ((j : Nat) : Int).toNat (y45.1, (y45.2.1, IntKind.wrap .i64 (y44.2.2 + m)))), ((j : Int), IntKind.wrap .i64 ((j : Int) + (1 : Int))))).bind fun r47 =>
    some r47.1)
    (some (ys.set ((j : Nat) : Int).toNat (y45.1, (y45.2.1, IntKind.wrap .i64 (y44.2.2 + m)))))))))))) = some (addL xs (l1, (a, (b, m)))) := by
    intro ys hys
    have g1 : ∀ x : BalT, (xs.take j ++ ([x] ++ B))[j]? = some x := fun x => by have := mid_get (xs.take j) x B; rw [hjl] at this; exact this
    have g2 : ∀ x y : BalT, (xs.take j ++ ([x] ++ B)).set j y = xs.take j ++ ([y] ++ B) := fun x y => by have := mid_set (xs.take j) x y B; rw [hjl] at this; exact this
    have g3 : ∀ x : BalT, (xs.take j ++ ([x] ++ B)).take j = xs.take j := fun x => by have := mid_take (xs.take j) x B; rw [hjl] at this; exact this
    have g4 : ∀ x : BalT, (xs.take j ++ ([x] ++ B)).drop (j + 1) = B := fun x => by have := mid_drop (xs.take j) x B; rw [hjl] at this; exact this
    have g5 : ∀ x : BalT, geti (xs.take j ++ ([x] ++ B)) (j : Int) = some x := fun x => by rw [geti_nat]; exact g1 x
    have g6 : ∀ x : BalT, (xs.take j ++ ([x] ++ B)).length = j + (1 + B.length) := fun x => by rw [List.length_append, hjl, List.length_append]; rfl
    have hw : IntKind.wrap .i64 ((j : Int) + 1) = ((j + 1 : Nat) : Int) := nxt (by unfold B36; omega)
    subst hys
    simp only [g5, Option.bind_some, Int.toNat_natCast, g1, g2, hw]
    have hs := s3 (IntKind.wrap .i64 (hasB xs a b + m))
    have hgoal : addL xs (l1, (a, (b, m))) = setB xs a b (IntKind.wrap .i64 (hasB xs a b + m)) := rfl
    rw [hgoal, hs]
    generalize IntKind.wrap .i64 (hasB xs a b + m) = v
    cases hv : v == 0 with
    | false => rfl
    | true =>
      have hdel : m_w86q ((xs.take j ++ ([(a, (b, v))] ++ B)), ((j : Int), ((j + 1 : Nat) : Int))) = some (xs.take j ++ B, true) := by
        show (delRun _).map _ = _
        unfold delRun
        have c1 : (decide ((0 : Int) ≤ (j : Int)) && decide ((j : Int) ≤ ((j + 1 : Nat) : Int)) && decide (((j + 1 : Nat) : Int) ≤ (((xs.take j ++ ([(a, (b, v))] ++ B)).length : Nat) : Int))) = true := by
          rw [g6]
          simp only [Bool.and_eq_true, decide_eq_true_eq]; omega
        simp only [c1, cond_true, Int.toNat_natCast, g3, g4]
        rfl
      simp only [cond_true, hdel, Option.bind_some, List.nil_append]
  unfold p_w87q
  simp only [t_slices_Clone_BalS xs (by omega), Option.bind_some, e0]
  by_cases h : j < xs.length
  · have hd : decide ((j : Int) < lenI xs) = true := lt_lenI h
    simp only [hd, cond_true, geti_lt xs j h, Option.bind_some, Int.toNat_natCast, List.getElem?_eq_getElem h, t_w49q]
    have hc : (cmpP xs[j] (a, (b, 0)) == 0) = ((xs[j].1 == a) && (xs[j].2.1 == b)) := by
      rw [Bool.eq_iff_iff]
      simp only [beq_iff_eq, Bool.and_eq_true]
      exact cmpP_zero _ _
    cases hh : (xs[j].1 == a) && (xs[j].2.1 == b) with
    | true =>
      simp only [hc, hh, Bool.not_true, cond_false, Option.bind_some]
      have := fin xs (s1 h hh)
      simp only [Int.toNat_natCast] at this
      exact this
    | false =>
      obtain ⟨n1, n2⟩ := s2 fun _ => hh
      have e6 : m_w85q (xs, ((j : Int), [(a, (b, (0 : Int)))])) = some (xs.take j ++ ([(a, (b, hasB xs a b))] ++ B), (true, true)) := by
        show (insRun 24 _).map _ = _
        rw [insRun_putAt 24 xs j (a, (b, (0 : Int))) q1 (by omega), n1, n2]
        unfold putAt
        rw [List.append_assoc]; rfl
      simp only [hc, hh, Bool.not_false, cond_true, e6, Option.bind_some]
      have := fin _ rfl
      simp only [Int.toNat_natCast] at this
      exact this
  · have hd : decide ((j : Int) < lenI xs) = false := decide_eq_false (by rw [lenI_eq]; omega)
    obtain ⟨n1, n2⟩ := s2 fun q => absurd q h
    have e6 : m_w85q (xs, ((j : Int), [(a, (b, (0 : Int)))])) = some (xs.take j ++ ([(a, (b, hasB xs a b))] ++ B), (true, true)) := by
      show (insRun 24 _).map _ = _
      rw [insRun_putAt 24 xs j (a, (b, (0 : Int))) q1 (by omega), n1, n2]
      unfold putAt
      rw [List.append_assoc]; rfl
    simp only [hd, cond_false, Option.bind_some, Bool.not_false, cond_true, e6]
    have := fin _ rfl
    simp only [Int.toNat_natCast] at this
    exact this

theorem t_dec_loop (ls : List LegT) (i0 : Int) (b : List BalT) (r : List MarkT × (List ConT × (List MarkT × List Int))) (hg : GoodB b) (hp : ∀ l ∈ ls, plB l.2.1 l.2.2.1 = true) (hl : b.length + ls.length ≤ 1048575) : l_w89q_1 FU ls ((0 : Int), (i0, (b, r))) = some (i0, (ls.foldl addL b, r)) := by
  unfold l_w89q_1
  refine (lp_foldI ls addL (fun i s => ((i : Int), (i0, (s, r)))) (fun s => some (i0, (s, r))) (fun i s => GoodB s ∧ s.length ≤ b.length + i) (by unfold B36; omega) b ⟨hg, by omega⟩ (fun i hi s hI => ?_) (fun s _ rec => ?_)).1
  · have hpl := hp _ (List.getElem_mem hi)
    have w : IntKind.wrap .i64 ((i : Int) + 1) = ((i + 1 : Nat) : Int) := nxt (by unfold B36; omega)
    have h2 := setB_len s ls[i].2.1 ls[i].2.2.1 (IntKind.wrap .i64 (hasB s ls[i].2.1 ls[i].2.2.1 + ls[i].2.2.2))
    have hI2 := hI.2
    refine ⟨⟨setB_good _ hI.1 hpl, ?_⟩, fun rec => ?_⟩
    · have : (addL s ls[i]).length ≤ s.length + 1 := h2
      omega
    · simp only [lt_lenI hi, cond_true, geti_lt ls i hi, Option.bind_some, Int.toNat_natCast, List.getElem?_eq_getElem hi, t_w87q s ls[i] hI.1 hpl (by omega), w]
  · simp only [ge_lenI, cond_false]
theorem t_w89q (s : ShdT) (c o : Int) (hz : SzS s) (h0 : shardC s = 0) (hg : GoodB s.2.1) (hpl : ∀ x ∈ s.2.2.2.1, x.2.length ≤ 8 ∧ ∀ l ∈ x.2, plB l.2.1 l.2.2.1 = true) (hh : s.2.2.2.1.Pairwise fun a b => a.1 < b.1) (hu : upM s.2.2.2.2.1) : m_w89q (s, (c, o)) = some (cond (!(idB c && vlu o)) (3, (0, zS5)) (decS s c o)) := by
  have hz' := hz
  obtain ⟨z1, z2, z3, z4, z5, z6⟩ := hz'
  have hlen := shardC_len h0
  show p_w89q FU _ = _
  unfold p_w89q decS
  obtain ⟨v, e2, e3⟩ := t_w61q s.2.2.2.2.1 c z4
  have e3 := e3 hu
  subst e3
  obtain ⟨j, hj, e4, e5⟩ := t_w65q s s.2.2.2.1 rfl c z3
  obtain ⟨f, e4, hf1, hf2⟩ : ∃ f, m_w65q (s, c) = some ((j : Int), f) ∧ (s.2.2.2.1.any fun x => x.1 == c) = f ∧ (f = true → ∃ hlt : j < s.2.2.2.1.length, s.2.2.2.1[j].1 = c ∧ s.2.2.2.1.find? (fun x => x.1 == c) = some s.2.2.2.1[j]) := by
    refine ⟨_, e4, held_one hh hj (e5 hh).1 (e5 hh).2 _ (fun hlt => ?_) (fun hn => ?_)⟩
    · rw [List.getElem?_eq_getElem hlt]
    · rw [List.getElem?_eq_none (by omega)]
  have e6 := t_w84q s.2.2.2.2.1 c o z4 hu
  have hd : (lenI s.2.2.2.2.1 == (100 : Int)) = decide (100 ≤ s.2.2.2.2.1.length) := by
    rw [lenI_eq]
    by_cases h : s.2.2.2.2.1.length = 100
    · rw [h]; rfl
    · rw [decide_eq_false (by omega), beq_eq_false_iff_ne]; omega
  simp only [t_w51q, t_w53q, t_w82q s hz, Option.bind_some, dup_eq, same_self, e2, e4, hd, e6]
  cases idB c with
  | false => simp only [Bool.not_false, cond_true, Option.bind_some, Bool.false_and]; rfl
  | true =>
    cases vlu o with
    | false => simp only [Bool.not_false, Bool.not_true, cond_true, cond_false, Option.bind_some, Bool.and_false]; rfl
    | true =>
      simp only [Bool.not_true, cond_false, Bool.and_true, Option.bind_some]
      cases findM s.2.2.2.2.1 c == 0 with
      | false =>
        cases findM s.2.2.2.2.1 c == o <;> simp only [Bool.not_false, Bool.not_true, cond_true, cond_false, Option.bind_some] <;> rfl
      | true =>
        simp only [Bool.not_true, cond_false, Option.bind_some]
        rw [hf1]
        unfold outS
        cases f with
        | false =>
          have hfn : s.2.2.2.1.filter (fun x => !(x.1 == c)) = s.2.2.2.1 := by
            rw [List.filter_eq_self]
            intro x hx
            have := List.any_eq_false.1 hf1 x hx
            simpa using this
          cases o == 1 with
          | true => simp only [Bool.not_false, cond_true, cond_false, Option.bind_some, Bool.and_true]; rfl
          | false =>
            simp only [cond_false, Option.bind_some, Bool.false_and, hfn]
            cases decide (100 ≤ s.2.2.2.2.1.length) <;> simp only [cond_true, cond_false] <;> rfl
        | true =>
          obtain ⟨hlt, hc, hfd⟩ := hf2 rfl
          have hfn := filter_del hh hlt hc
          have hw : IntKind.wrap .i64 ((j : Int) + 1) = ((j + 1 : Nat) : Int) := nxt (by unfold B36; omega)
          have hdel : m_w88q (s.2.2.2.1, ((j : Int), ((j + 1 : Nat) : Int))) = some (s.2.2.2.1.take j ++ s.2.2.2.1.drop (j + 1), true) := by
            show (delRun _).map _ = _
            unfold delRun
            have c1 : (decide ((0 : Int) ≤ (j : Int)) && decide ((j : Int) ≤ ((j + 1 : Nat) : Int)) && decide (((j + 1 : Nat) : Int) ≤ ((s.2.2.2.1.length : Nat) : Int))) = true := by
              simp only [Bool.and_eq_true, decide_eq_true_eq]; omega
            simp only [c1, cond_true, Int.toNat_natCast]
            rfl
          have hx := List.getElem_mem hlt
          have hleg : m_w58q (s.2.2.2.1[j], s.1) = some (legsA s.2.2.2.1[j].2 s.1) := t_w58q s.2.2.2.1[j].1 s.2.2.2.1[j].2 s.1 (z6 _ hx)
          have hls : ∀ l ∈ legsA s.2.2.2.1[j].2 s.1, plB l.2.1 l.2.2.1 = true := fun l hl => (hpl _ hx).2 l (List.mem_filter.1 hl).1
          have hll : (legsA s.2.2.2.1[j].2 s.1).length ≤ 8 := legsA_len (hpl _ hx).1 _
          have hloop := fun r => t_dec_loop (legsA s.2.2.2.1[j].2 s.1) s.1 s.2.1 r hg hls (by omega)
          have m2 : Nat.ble ((s.2.2.2.2.2.length + [c].length) * 8) maxBytes = true := ble_mem (by simp only [maxBytes, List.length_singleton]; omega)
          cases decide (100 ≤ s.2.2.2.2.1.length) with
          | true => cases o == 1 <;> simp only [Bool.not_true, cond_true, cond_false, Option.bind_some, Bool.and_false] <;> rfl
          | false =>
            cases o == 1 with
            | false =>
              simp only [cond_false, cond_true, Option.bind_some, Bool.false_and, hw, hdel, hfn]
            | true =>
              simp only [cond_false, cond_true, Option.bind_some, Bool.not_true, Bool.and_false, geti_lt s.2.2.2.1 j hlt, hleg]
              rw [hloop]
              simp only [Option.bind_some, chk_true m2, hw, hdel, hfn, hfd, Option.elim_some]

theorem t_w90q (s : ShdT) (c o : Int) (hz : SzS s) : m_w90q (s, (c, o)) = some (decR s c o) := by
  show p_w90q FU _ = _
  unfold p_w90q decR
  simp only [t_w75q s hz, Option.bind_some]
  cases h0 : shardC s == 0 with
  | false => rfl
  | true =>
    obtain ⟨g1, g2, g3⟩ := shard_held (eq_of_beq h0)
    obtain ⟨_, _, _, k4, _⟩ := shardC_zero (eq_of_beq h0)
    simp only [Bool.not_true, cond_false, t_w89q s c o hz (eq_of_beq h0) g1 g2 g3 (markC_zero k4).1, Option.bind_some]

theorem szS_of (x : ShdT) (h : W_Shard x ≤ 1048576) : SzS x := by
  unfold W_Shard W_BalanceS W_MarkS W_ContractS W_Int64S at h
  refine ⟨by omega, by omega, by omega, by omega, by omega, fun c hc => ?_⟩
  have h1 := wsum_mem W_Contract x.2.2.2.1 c hc
  have h2 : W_Contract c = c.2.length := rfl
  omega
theorem w_held {xs : List ConT} (h : ∀ c ∈ xs, c.2.length ≤ 8) : wsum W_Contract xs ≤ 8 * xs.length := wsum_bnd W_Contract 8 xs h
theorem w_shard {s : ShdT} (h : shardC s = 0) : W_Shard s ≤ 1500 := by
  have hl := shardC_len h
  have hh := (heldC_zero (shardC_zero h).2.2.2.2.1).1
  have h1 := w_held (xs := s.2.2.2.1) fun c hc => (conC_zero (hh c hc).1).2.1
  unfold W_Shard W_BalanceS W_MarkS W_ContractS W_Int64S
  omega
theorem w_outS {s : ShdT} (h : shardC s = 0) (c o : Int) : W_Shard (outS s c o) ≤ 2000 := by
  have hl := shardC_len h
  obtain ⟨g1, g2, g3⟩ := shard_held h
  have h1 := w_held (xs := s.2.2.2.1.filter (fun x => !(x.1 == c))) fun x hx => (g2 x (List.mem_filter.1 hx).1).1
  have h2 := List.length_filter_le (fun x : ConT => !(x.1 == c)) s.2.2.2.1
  have h3 := putAt_len s.2.2.2.2.1 (atK_le (·.1) s.2.2.2.2.1 c) (c, o)
  have h4 : (cond (o == 1) (s.2.2.2.2.2 ++ [c]) s.2.2.2.2.2).length ≤ 101 := by
    cases o == 1 with
    | false => simp only [cond_false]; omega
    | true => simp only [cond_true, List.length_append, List.length_singleton]; omega
  have h5 : (cond (o == 1) ((s.2.2.2.1.find? fun x => x.1 == c).elim s.2.1 fun x => (legsA x.2 s.1).foldl addL s.2.1) s.2.1).length ≤ 26 := by
    cases o == 1 with
    | false => simp only [cond_false]; omega
    | true =>
      simp only [cond_true]
      cases hf : s.2.2.2.1.find? (fun x => x.1 == c) with
      | none => simp only [Option.elim_none]; omega
      | some x =>
        have hx := g2 x (List.mem_of_find?_eq_some hf)
        have := (addL_fold (legsA x.2 s.1) s.2.1 g1 (fun l hl => hx.2 l (List.mem_filter.1 hl).1)).2
        have := legsA_len hx.1 s.1
        simp only [Option.elim_some]; omega
  unfold outS W_Shard W_BalanceS W_MarkS W_ContractS W_Int64S
  simp only
  omega
theorem w_decR (s : ShdT) (c o : Int) : W_Shard (decR s c o).2.2 ≤ 2000 := by
  have z : W_Shard zS5 ≤ 2000 := by decide
  unfold decR
  cases h0 : shardC s == 0 with
  | false => exact z
  | true =>
    simp only [Bool.not_true, cond_false]
    cases idB c && vlu o with
    | false => exact z
    | true =>
      have hs := w_shard (eq_of_beq h0)
      simp only [Bool.not_true, cond_false]
      unfold decS
      cases findM s.2.2.2.2.1 c == 0 with
      | false =>
        cases findM s.2.2.2.2.1 c == o with
        | false => exact z
        | true => simp only [Bool.not_false, cond_true]; omega
      | true =>
        simp only [Bool.not_true, cond_false]
        cases (o == 1) && !(s.2.2.2.1.any fun x => x.1 == c) with
        | true => exact z
        | false =>
          simp only [cond_false]
          cases decide (100 ≤ s.2.2.2.2.1.length) with
          | true => exact z
          | false => exact w_outS (eq_of_beq h0) c o
theorem law_w114q (x : ShdT × (Int × Int)) (h : WFs S_w114q.ps x) : m_w114q x = some true := by
  obtain ⟨x, c, o⟩ := x
  show p_w114q FU _ = _
  unfold p_w114q
  simp only
  rcases z_w6q x h.1 1048576 (by omega) (by omega) with e1 | ⟨e1, b1⟩
  · rw [e1]; rfl
  · have hW : W_Shard x ≤ 1048576 := by omega
    have d1 : decide ((1048576 : Int) - (W_Shard x : Int) < 0) = false := decide_eq_false (by omega)
    have hz := szS_of x hW
    have hB : B40 = 1099511627776 := rfl
    have hWs : W_BalanceS x.2.1 ≤ 1048576 ∧ W_MarkS x.2.2.1 ≤ 1048576 ∧ W_ContractS x.2.2.2.1 ≤ 1048576 ∧ W_MarkS x.2.2.2.2.1 ≤ 1048576 ∧ W_Int64S x.2.2.2.2.2 ≤ 1048576 := by unfold W_Shard at hW; omega
    have v1 := vb_BalanceS x.2.1
    have v2 := vb_MarkS x.2.2.1
    have v3 := vb_ContractS x.2.2.2.1
    have v4 := vb_MarkS x.2.2.2.2.1
    have v5 := vb_Int64S x.2.2.2.2.2
    have hwr := w_decR x c o
    have q1 := t_w41q x c o hz
    have q2 := t_w90q x c o hz
    generalize decR x c o = r at hwr q1 q2
    obtain ⟨rc, rv, ri, rb, rvs, rh, rd, ra⟩ := r
    have hWr : W_BalanceS rb ≤ 2000 ∧ W_MarkS rvs ≤ 2000 ∧ W_ContractS rh ≤ 2000 ∧ W_MarkS rd ≤ 2000 ∧ W_Int64S ra ≤ 2000 := by
      have : W_BalanceS rb + W_MarkS rvs + W_ContractS rh + W_MarkS rd + W_Int64S ra ≤ 2000 := hwr
      omega
    have u1 := vb_BalanceS rb
    have u2 := vb_MarkS rvs
    have u3 := vb_ContractS rh
    have u4 := vb_MarkS rd
    have u5 := vb_Int64S ra
    have ee := eq_w101q (rc, (rv, (ri, (rb, (rvs, (rh, (rd, ra))))))) (by show W_BalanceS rb + W_MarkS rvs + W_ContractS rh + W_MarkS rd + W_Int64S ra ≤ 1048576; omega)
    obtain ⟨L1, _, m1, _⟩ := mh_BalanceS x.2.1 1 hWs.1 (by omega) (by omega)
    obtain ⟨L2, _, m2, _⟩ := mh_MarkS x.2.2.1 (1 + (V_BalanceS x.2.1 : Int)) hWs.2.1 (by omega) (by omega)
    obtain ⟨L3, _, m3, _⟩ := mh_ContractS x.2.2.2.1 (1 + (V_BalanceS x.2.1 : Int) + (V_MarkS x.2.2.1 : Int)) hWs.2.2.1 (by omega) (by omega)
    obtain ⟨L4, _, m4, _⟩ := mh_MarkS x.2.2.2.2.1 (1 + (V_BalanceS x.2.1 : Int) + (V_MarkS x.2.2.1 : Int) + (V_ContractS x.2.2.2.1 : Int)) hWs.2.2.2.1 (by omega) (by omega)
    obtain ⟨L5, _, m5, _⟩ := mh_Int64S x.2.2.2.2.2 (1 + (V_BalanceS x.2.1 : Int) + (V_MarkS x.2.2.1 : Int) + (V_ContractS x.2.2.2.1 : Int) + (V_MarkS x.2.2.2.2.1 : Int)) hWs.2.2.2.2 (by omega) (by omega)
    have d3 : decide (1 + (V_BalanceS x.2.1 : Int) + (V_MarkS x.2.2.1 : Int) + (V_ContractS x.2.2.2.1 : Int) + (V_MarkS x.2.2.2.2.1 : Int) + (V_Int64S x.2.2.2.2.2 : Int) < 0) = false := decide_eq_false (by omega)
    obtain ⟨M1, _, k1, g1⟩ := mh_BalanceS rb 1 (by omega) (by omega) (by omega)
    obtain ⟨M2, _, k2, g2⟩ := mh_MarkS rvs (1 + (V_BalanceS rb : Int)) (by omega) (by omega) (by omega)
    obtain ⟨M3, _, k3, g3⟩ := mh_ContractS rh (1 + (V_BalanceS rb : Int) + (V_MarkS rvs : Int)) (by omega) (by omega) (by omega)
    obtain ⟨M4, _, k4, g4⟩ := mh_MarkS rd (1 + (V_BalanceS rb : Int) + (V_MarkS rvs : Int) + (V_ContractS rh : Int)) (by omega) (by omega) (by omega)
    obtain ⟨M5, _, k5, g5⟩ := mh_Int64S ra (1 + (V_BalanceS rb : Int) + (V_MarkS rvs : Int) + (V_ContractS rh : Int) + (V_MarkS rd : Int)) (by omega) (by omega) (by omega)
    have d4 : decide (1 + (V_BalanceS rb : Int) + (V_MarkS rvs : Int) + (V_ContractS rh : Int) + (V_MarkS rd : Int) + (V_Int64S ra : Int) < 0) = false := decide_eq_false (by omega)
    have q4 := h_w112q (ri, (M1, (M2, (M3, (M4, M5))))) 1 _ _ _ _ _ g1 (by omega) g2 (by omega) g3 (by omega) g4 (by omega) g5 (by omega)
    have q5 := h_w113q (rc, (rv, (ri, (M1, (M2, (M3, (M4, M5))))))) 1 _ q4 (by omega)
    simp only [e1, Option.bind_some, d1, cond_false, o_w16q x hW, q1, q2, ee, Bool.not_true, eq_w100q x hW, m1, m2, m3, m4, m5, d3, k1, k2, k3, k4, k5, q5, d4, beq_self_eq_true]
end Go.RvP
