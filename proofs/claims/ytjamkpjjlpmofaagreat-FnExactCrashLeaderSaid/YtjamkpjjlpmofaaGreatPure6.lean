/- The plain law: spec and program answer alike, for FnExactCrashLeader. Condition: the data are such as can come in. -/
import Derived.Test.YtjamkpjjlpmofaaGreatRvP6
import Derived.Test.YtjamkpjjlpmofaaGreatRvJ
import Derived.Test.YtjamkpjjlpmofaaGreatRvMt
import Derived.Test.YtjamkpjjlpmofaaGreatRvU
import Derived.Test.YtjamkpjjlpmofaaGreatRvV
import Derived.Test.YtjamkpjjlpmofaaGreatRvZ
namespace Go.RvP
open Go.Rv
def W_LegS (xs : Ty86) : Nat := xs.length

theorem z_w0q (xs : Ty86) (h : WFk Kd39 xs) : SZ m_w0q W_LegS xs := szf xs h.1

def W_Contract (x : Ty81) : Nat := W_LegS x.2

theorem z_w1q (x : Ty81) (h : WFk Kd35 x) : SZ m_w1q W_Contract x := by
 intro left h0 h1
 have hm : maxLen = 9223372036854775807 := rfl
 show p_w1q FU _ = _ ∨ (p_w1q FU _ = _ ∧ _)
 unfold p_w1q W_Contract
 have b1 : 0 ≤ left := by omega
 rcases z_w0q x.2 h.2 (left) (by omega) (by omega) with e1 | ⟨e1,f1⟩
 ·left; simp only [e1,Option.bind_some]; rfl
 ·have d1 : decide (left - (W_LegS x.2 : Int) < 0) = false := decide_eq_false (by omega)
  exact .inr ⟨by simp only [e1,d1,Option.bind_some,cond_false],f1⟩

def W_ContractS (xs : Ty78) : Nat := xs.length + wsum W_Contract xs

theorem z_w2q (xs : Ty78) (h : WFk Kd32 xs) : SZ m_w2q W_ContractS xs := szl xs m_w1q W_Contract h.1 (fun x hx => z_w1q x (h.2 x hx))

def W_BalanceS (xs : Ty92) : Nat := xs.length

theorem z_w3q (xs : Ty92) (h : WFk Kd42 xs) : SZ m_w3q W_BalanceS xs := szf xs h.1

def W_MarkS (xs : (List (Int × Int))) : Nat := xs.length

theorem z_w4q (xs : (List (Int × Int))) (h : WFk Kd44 xs) : SZ m_w4q W_MarkS xs := szf xs h.1

def W_Int64S (xs : (List Int)) : Nat := xs.length

theorem z_w5q (xs : (List Int)) (h : WFk Kd47 xs) : SZ m_w5q W_Int64S xs := szf xs h.1

def W_Shard (x : Ty31) : Nat := W_BalanceS x.2.1 + W_MarkS x.2.2.1 + W_ContractS x.2.2.2.1 + W_MarkS x.2.2.2.2.1 + W_Int64S x.2.2.2.2.2

theorem z_w6q (x : Ty31) (h : WFk Kd10 x) : SZ m_w6q W_Shard x := by
 intro left h0 h1
 have hm : maxLen = 9223372036854775807 := rfl
 show p_w6q FU _ = _ ∨ (p_w6q FU _ = _ ∧ _)
 unfold p_w6q W_Shard
 have b1 : 0 ≤ left := by omega
 rcases z_w3q x.2.1 h.2.1 (left) (by omega) (by omega) with e1 | ⟨e1,f1⟩
 ·left; simp only [e1,Option.bind_some]; rfl
 ·have d1 : decide (left - (W_BalanceS x.2.1 : Int) < 0) = false := decide_eq_false (by omega)
  have b2 : 0 ≤ left - (W_BalanceS x.2.1 : Int) := by omega
  rcases z_w4q x.2.2.1 h.2.2.1 (left - (W_BalanceS x.2.1 : Int)) (by omega) (by omega) with e2 | ⟨e2,f2⟩
  ·left; simp only [e1,d1,e2,Option.bind_some,cond_false]; rfl
  ·have d2 : decide (left - (W_BalanceS x.2.1 : Int) - (W_MarkS x.2.2.1 : Int) < 0) = false := decide_eq_false (by omega)
   have b3 : 0 ≤ left - (W_BalanceS x.2.1 : Int) - (W_MarkS x.2.2.1 : Int) := by omega
   rcases z_w2q x.2.2.2.1 h.2.2.2.1 (left - (W_BalanceS x.2.1 : Int) - (W_MarkS x.2.2.1 : Int)) (by omega) (by omega) with e3 | ⟨e3,f3⟩
   ·left; simp only [e1,d1,e2,d2,e3,Option.bind_some,cond_false]; rfl
   ·have d3 : decide (left - (W_BalanceS x.2.1 : Int) - (W_MarkS x.2.2.1 : Int) - (W_ContractS x.2.2.2.1 : Int) < 0) = false := decide_eq_false (by omega)
    have b4 : 0 ≤ left - (W_BalanceS x.2.1 : Int) - (W_MarkS x.2.2.1 : Int) - (W_ContractS x.2.2.2.1 : Int) := by omega
    rcases z_w4q x.2.2.2.2.1 h.2.2.2.2.1 (left - (W_BalanceS x.2.1 : Int) - (W_MarkS x.2.2.1 : Int) - (W_ContractS x.2.2.2.1 : Int)) (by omega) (by omega) with e4 | ⟨e4,f4⟩
    ·left; simp only [e1,d1,e2,d2,e3,d3,e4,Option.bind_some,cond_false]; rfl
    ·have d4 : decide (left - (W_BalanceS x.2.1 : Int) - (W_MarkS x.2.2.1 : Int) - (W_ContractS x.2.2.2.1 : Int) - (W_MarkS x.2.2.2.2.1 : Int) < 0) = false := decide_eq_false (by omega)
     have b5 : 0 ≤ left - (W_BalanceS x.2.1 : Int) - (W_MarkS x.2.2.1 : Int) - (W_ContractS x.2.2.2.1 : Int) - (W_MarkS x.2.2.2.2.1 : Int) := by omega
     rcases z_w5q x.2.2.2.2.2 h.2.2.2.2.2 (left - (W_BalanceS x.2.1 : Int) - (W_MarkS x.2.2.1 : Int) - (W_ContractS x.2.2.2.1 : Int) - (W_MarkS x.2.2.2.2.1 : Int)) (by omega) (by omega) with e5 | ⟨e5,f5⟩
     ·left; simp only [e1,d1,e2,d2,e3,d3,e4,d4,e5,Option.bind_some,cond_false]; rfl
     ·have d5 : decide (left - (W_BalanceS x.2.1 : Int) - (W_MarkS x.2.2.1 : Int) - (W_ContractS x.2.2.2.1 : Int) - (W_MarkS x.2.2.2.2.1 : Int) - (W_Int64S x.2.2.2.2.2 : Int) < 0) = false := decide_eq_false (by omega)
      refine .inr ⟨?_,by omega⟩
      simp only [e1,d1,e2,d2,e3,d3,e4,d4,e5,d5,Option.bind_some,cond_false]
      congr 1; omega

def W_ShardS (xs : Ty28) : Nat := xs.length + wsum W_Shard xs

theorem z_w7q (xs : Ty28) (h : WFk Kd9 xs) : SZ m_w7q W_ShardS xs := szl xs m_w6q W_Shard h.1 (fun x hx => z_w6q x (h.2 x hx))

def W_VoteS (xs : (List (Int × Int))) : Nat := xs.length

theorem z_w8q (xs : (List (Int × Int))) (h : WFk Kd44 xs) : SZ m_w8q W_VoteS xs := szf xs h.1

def W_Slot (x : Ty72) : Nat := W_VoteS x.2.2.2.2

theorem z_w9q (x : Ty72) (h : WFk Kd30 x) : SZ m_w9q W_Slot x := by
 intro left h0 h1
 have hm : maxLen = 9223372036854775807 := rfl
 show p_w9q FU _ = _ ∨ (p_w9q FU _ = _ ∧ _)
 unfold p_w9q W_Slot
 have b1 : 0 ≤ left := by omega
 rcases z_w8q x.2.2.2.2 h.2.2.2.2 (left) (by omega) (by omega) with e1 | ⟨e1,f1⟩
 ·left; simp only [e1,Option.bind_some]; rfl
 ·have d1 : decide (left - (W_VoteS x.2.2.2.2 : Int) < 0) = false := decide_eq_false (by omega)
  exact .inr ⟨by simp only [e1,d1,Option.bind_some,cond_false],f1⟩

def W_SlotS (xs : Ty67) : Nat := xs.length + wsum W_Slot xs

theorem z_w10q (xs : Ty67) (h : WFk Kd27 xs) : SZ m_w10q W_SlotS xs := szl xs m_w9q W_Slot h.1 (fun x hx => z_w9q x (h.2 x hx))

def W_Acceptor (x : Ty67) : Nat := W_SlotS x

theorem z_w11q (x : Ty67) (h : WFk Kd26 x) : SZ m_w11q W_Acceptor x := by
 intro left h0 h1
 have hm : maxLen = 9223372036854775807 := rfl
 show p_w11q FU _ = _ ∨ (p_w11q FU _ = _ ∧ _)
 unfold p_w11q W_Acceptor
 have b1 : 0 ≤ left := by omega
 rcases z_w10q x h (left) (by omega) (by omega) with e1 | ⟨e1,f1⟩
 ·left; simp only [e1,Option.bind_some]; rfl
 ·have d1 : decide (left - (W_SlotS x : Int) < 0) = false := decide_eq_false (by omega)
  exact .inr ⟨by simp only [e1,d1,Option.bind_some,cond_false],f1⟩

def W_AcceptorS (xs : Ty63) : Nat := xs.length + wsum W_Acceptor xs

theorem z_w12q (xs : Ty63) (h : WFk Kd21 xs) : SZ m_w12q W_AcceptorS xs := szl xs m_w11q W_Acceptor h.1 (fun x hx => z_w11q x (h.2 x hx))

def W_Try (x : Ty68) : Nat := W_Int64S x.2.2.2.2.1 + W_VoteS x.2.2.2.2.2

theorem z_w13q (x : Ty68) (h : WFk Kd28 x) : SZ m_w13q W_Try x := by
 intro left h0 h1
 have hm : maxLen = 9223372036854775807 := rfl
 show p_w13q FU _ = _ ∨ (p_w13q FU _ = _ ∧ _)
 unfold p_w13q W_Try
 have b1 : 0 ≤ left := by omega
 rcases z_w5q x.2.2.2.2.1 h.2.2.2.2.1 (left) (by omega) (by omega) with e1 | ⟨e1,f1⟩
 ·left; simp only [e1,Option.bind_some]; rfl
 ·have d1 : decide (left - (W_Int64S x.2.2.2.2.1 : Int) < 0) = false := decide_eq_false (by omega)
  have b2 : 0 ≤ left - (W_Int64S x.2.2.2.2.1 : Int) := by omega
  rcases z_w8q x.2.2.2.2.2 h.2.2.2.2.2 (left - (W_Int64S x.2.2.2.2.1 : Int)) (by omega) (by omega) with e2 | ⟨e2,f2⟩
  ·left; simp only [e1,d1,e2,Option.bind_some,cond_false]; rfl
  ·have d2 : decide (left - (W_Int64S x.2.2.2.2.1 : Int) - (W_VoteS x.2.2.2.2.2 : Int) < 0) = false := decide_eq_false (by omega)
   refine .inr ⟨?_,by omega⟩
   simp only [e1,d1,e2,d2,Option.bind_some,cond_false]
   congr 1; omega

def W_TryS (xs : Ty64) : Nat := xs.length + wsum W_Try xs

theorem z_w14q (xs : Ty64) (h : WFk Kd24 xs) : SZ m_w14q W_TryS xs := szl xs m_w13q W_Try h.1 (fun x hx => z_w13q x (h.2 x hx))

def W_HeardS (xs : Ty82) : Nat := xs.length

theorem z_w15q (xs : Ty82) (h : WFk Kd36 xs) : SZ m_w15q W_HeardS xs := szf xs h.1

def W_Leader (x : Ty42) : Nat := W_TryS x.2.1 + W_HeardS x.2.2

theorem z_w16q (x : Ty42) (h : WFk Kd14 x) : SZ m_w16q W_Leader x := by
 intro left h0 h1
 have hm : maxLen = 9223372036854775807 := rfl
 show p_w16q FU _ = _ ∨ (p_w16q FU _ = _ ∧ _)
 unfold p_w16q W_Leader
 have b1 : 0 ≤ left := by omega
 rcases z_w14q x.2.1 h.2.1 (left) (by omega) (by omega) with e1 | ⟨e1,f1⟩
 ·left; simp only [e1,Option.bind_some]; rfl
 ·have d1 : decide (left - (W_TryS x.2.1 : Int) < 0) = false := decide_eq_false (by omega)
  have b2 : 0 ≤ left - (W_TryS x.2.1 : Int) := by omega
  rcases z_w15q x.2.2 h.2.2 (left - (W_TryS x.2.1 : Int)) (by omega) (by omega) with e2 | ⟨e2,f2⟩
  ·left; simp only [e1,d1,e2,Option.bind_some,cond_false]; rfl
  ·have d2 : decide (left - (W_TryS x.2.1 : Int) - (W_HeardS x.2.2 : Int) < 0) = false := decide_eq_false (by omega)
   refine .inr ⟨?_,by omega⟩
   simp only [e1,d1,e2,d2,Option.bind_some,cond_false]
   congr 1; omega

def W_LeaderS (xs : Ty41) : Nat := xs.length + wsum W_Leader xs

theorem z_w17q (xs : Ty41) (h : WFk Kd13 xs) : SZ m_w17q W_LeaderS xs := szl xs m_w16q W_Leader h.1 (fun x hx => z_w16q x (h.2 x hx))

def W_MessageS (xs : Ty58) : Nat := xs.length

theorem z_w18q (xs : Ty58) (h : WFk Kd17 xs) : SZ m_w18q W_MessageS xs := szf xs h.1

def W_Cluster (x : Ty15) : Nat := W_ContractS x.1 + W_ShardS x.2.1 + W_AcceptorS x.2.2.1 + W_LeaderS x.2.2.2.1 + W_MessageS x.2.2.2.2

theorem z_w19q (x : Ty15) (h : WFk Kd6 x) : SZ m_w19q W_Cluster x := by
 intro left h0 h1
 have hm : maxLen = 9223372036854775807 := rfl
 show p_w19q FU _ = _ ∨ (p_w19q FU _ = _ ∧ _)
 unfold p_w19q W_Cluster
 have b1 : 0 ≤ left := by omega
 rcases z_w2q x.1 h.1 (left) (by omega) (by omega) with e1 | ⟨e1,f1⟩
 ·left; simp only [e1,Option.bind_some]; rfl
 ·have d1 : decide (left - (W_ContractS x.1 : Int) < 0) = false := decide_eq_false (by omega)
  have b2 : 0 ≤ left - (W_ContractS x.1 : Int) := by omega
  rcases z_w7q x.2.1 h.2.1 (left - (W_ContractS x.1 : Int)) (by omega) (by omega) with e2 | ⟨e2,f2⟩
  ·left; simp only [e1,d1,e2,Option.bind_some,cond_false]; rfl
  ·have d2 : decide (left - (W_ContractS x.1 : Int) - (W_ShardS x.2.1 : Int) < 0) = false := decide_eq_false (by omega)
   have b3 : 0 ≤ left - (W_ContractS x.1 : Int) - (W_ShardS x.2.1 : Int) := by omega
   rcases z_w12q x.2.2.1 h.2.2.1 (left - (W_ContractS x.1 : Int) - (W_ShardS x.2.1 : Int)) (by omega) (by omega) with e3 | ⟨e3,f3⟩
   ·left; simp only [e1,d1,e2,d2,e3,Option.bind_some,cond_false]; rfl
   ·have d3 : decide (left - (W_ContractS x.1 : Int) - (W_ShardS x.2.1 : Int) - (W_AcceptorS x.2.2.1 : Int) < 0) = false := decide_eq_false (by omega)
    have b4 : 0 ≤ left - (W_ContractS x.1 : Int) - (W_ShardS x.2.1 : Int) - (W_AcceptorS x.2.2.1 : Int) := by omega
    rcases z_w17q x.2.2.2.1 h.2.2.2.1 (left - (W_ContractS x.1 : Int) - (W_ShardS x.2.1 : Int) - (W_AcceptorS x.2.2.1 : Int)) (by omega) (by omega) with e4 | ⟨e4,f4⟩
    ·left; simp only [e1,d1,e2,d2,e3,d3,e4,Option.bind_some,cond_false]; rfl
    ·have d4 : decide (left - (W_ContractS x.1 : Int) - (W_ShardS x.2.1 : Int) - (W_AcceptorS x.2.2.1 : Int) - (W_LeaderS x.2.2.2.1 : Int) < 0) = false := decide_eq_false (by omega)
     have b5 : 0 ≤ left - (W_ContractS x.1 : Int) - (W_ShardS x.2.1 : Int) - (W_AcceptorS x.2.2.1 : Int) - (W_LeaderS x.2.2.2.1 : Int) := by omega
     rcases z_w18q x.2.2.2.2 h.2.2.2.2 (left - (W_ContractS x.1 : Int) - (W_ShardS x.2.1 : Int) - (W_AcceptorS x.2.2.1 : Int) - (W_LeaderS x.2.2.2.1 : Int)) (by omega) (by omega) with e5 | ⟨e5,f5⟩
     ·left; simp only [e1,d1,e2,d2,e3,d3,e4,d4,e5,Option.bind_some,cond_false]; rfl
     ·have d5 : decide (left - (W_ContractS x.1 : Int) - (W_ShardS x.2.1 : Int) - (W_AcceptorS x.2.2.1 : Int) - (W_LeaderS x.2.2.2.1 : Int) - (W_MessageS x.2.2.2.2 : Int) < 0) = false := decide_eq_false (by omega)
      refine .inr ⟨?_,by omega⟩
      simp only [e1,d1,e2,d2,e3,d3,e4,d4,e5,d5,Option.bind_some,cond_false]
      congr 1; omega

theorem o_w20q (x : Ty90) : m_w20q x = some x := by
 show p_w20q FU _ = _
 unfold p_w20q
 rfl

theorem o_w21q (xs : Ty86) (h : W_LegS xs ≤ 1048576) : m_w21q xs = some xs := by
 unfold W_LegS at h
 show p_w21q FU xs = _
 unfold p_w21q
 rw [if_pos rfl,if_pos (by simp [lenI_eq])]
 have hb : Nat.ble (32 * (lenI xs).toNat) maxBytes = true := by rw [Nat.ble_eq]; simp only [lenI_eq,Int.toNat_natCast,maxBytes]; omega
 rw [chk_true hb]
 exact copy_loop2 xs _ m_w20q (fun x _ => o_w20q x) (by omega)

theorem o_w22q (x : Ty81) (h : W_Contract x ≤ 1048576) : m_w22q x = some x := by
 unfold W_Contract at h
 show p_w22q FU _ = _
 unfold p_w22q
 simp only [o_w21q x.2 (by omega),Option.bind_some]

theorem o_w23q (xs : Ty78) (h : W_ContractS xs ≤ 1048576) : m_w23q xs = some xs := by
 unfold W_ContractS at h
 show p_w23q FU xs = _
 unfold p_w23q
 rw [if_pos rfl,if_pos (by simp [lenI_eq])]
 have hb : Nat.ble (32 * (lenI xs).toNat) maxBytes = true := by rw [Nat.ble_eq]; simp only [lenI_eq,Int.toNat_natCast,maxBytes]; omega
 rw [chk_true hb]
 exact copy_loop2 xs _ m_w22q (fun x hx => o_w22q x (by have := wsum_mem W_Contract xs x hx; omega)) (by omega)

theorem o_w24q (x : (Int × (Int × Int))) : m_w24q x = some x := by
 show p_w24q FU _ = _
 unfold p_w24q
 rfl

theorem o_w25q (xs : Ty92) (h : W_BalanceS xs ≤ 1048576) : m_w25q xs = some xs := by
 unfold W_BalanceS at h
 show p_w25q FU xs = _
 unfold p_w25q
 rw [if_pos rfl,if_pos (by simp [lenI_eq])]
 have hb : Nat.ble (24 * (lenI xs).toNat) maxBytes = true := by rw [Nat.ble_eq]; simp only [lenI_eq,Int.toNat_natCast,maxBytes]; omega
 rw [chk_true hb]
 exact copy_loop2 xs _ m_w24q (fun x _ => o_w24q x) (by omega)

theorem o_w26q (x : (Int × Int)) : m_w26q x = some x := by
 show p_w26q FU _ = _
 unfold p_w26q
 rfl

theorem o_w27q (xs : (List (Int × Int))) (h : W_MarkS xs ≤ 1048576) : m_w27q xs = some xs := by
 unfold W_MarkS at h
 show p_w27q FU xs = _
 unfold p_w27q
 rw [if_pos rfl,if_pos (by simp [lenI_eq])]
 have hb : Nat.ble (16 * (lenI xs).toNat) maxBytes = true := by rw [Nat.ble_eq]; simp only [lenI_eq,Int.toNat_natCast,maxBytes]; omega
 rw [chk_true hb]
 exact copy_loop2 xs _ m_w26q (fun x _ => o_w26q x) (by omega)

theorem o_w28q (xs : (List Int)) (h : W_Int64S xs ≤ 1048576) : m_w28q xs = some xs := by
 unfold W_Int64S at h
 show p_w28q FU xs = _
 unfold p_w28q
 rw [if_pos rfl,if_pos (by simp [lenI_eq])]
 have hb : Nat.ble (8 * (lenI xs).toNat) maxBytes = true := by rw [Nat.ble_eq]; simp only [lenI_eq,Int.toNat_natCast,maxBytes]; omega
 rw [chk_true hb]
 exact copy_flat xs _ (by omega)

theorem o_w29q (x : Ty31) (h : W_Shard x ≤ 1048576) : m_w29q x = some x := by
 unfold W_Shard at h
 show p_w29q FU _ = _
 unfold p_w29q
 simp only [o_w25q x.2.1 (by omega),o_w27q x.2.2.1 (by omega),o_w23q x.2.2.2.1 (by omega),o_w27q x.2.2.2.2.1 (by omega),o_w28q x.2.2.2.2.2 (by omega),Option.bind_some]

theorem o_w30q (xs : Ty28) (h : W_ShardS xs ≤ 1048576) : m_w30q xs = some xs := by
 unfold W_ShardS at h
 show p_w30q FU xs = _
 unfold p_w30q
 rw [if_pos rfl,if_pos (by simp [lenI_eq])]
 have hb : Nat.ble (128 * (lenI xs).toNat) maxBytes = true := by rw [Nat.ble_eq]; simp only [lenI_eq,Int.toNat_natCast,maxBytes]; omega
 rw [chk_true hb]
 exact copy_loop2 xs _ m_w29q (fun x hx => o_w29q x (by have := wsum_mem W_Shard xs x hx; omega)) (by omega)

theorem o_w31q (x : (Int × Int)) : m_w31q x = some x := by
 show p_w31q FU _ = _
 unfold p_w31q
 rfl

theorem o_w32q (xs : (List (Int × Int))) (h : W_VoteS xs ≤ 1048576) : m_w32q xs = some xs := by
 unfold W_VoteS at h
 show p_w32q FU xs = _
 unfold p_w32q
 rw [if_pos rfl,if_pos (by simp [lenI_eq])]
 have hb : Nat.ble (16 * (lenI xs).toNat) maxBytes = true := by rw [Nat.ble_eq]; simp only [lenI_eq,Int.toNat_natCast,maxBytes]; omega
 rw [chk_true hb]
 exact copy_loop2 xs _ m_w31q (fun x _ => o_w31q x) (by omega)

theorem o_w33q (x : Ty72) (h : W_Slot x ≤ 1048576) : m_w33q x = some x := by
 unfold W_Slot at h
 show p_w33q FU _ = _
 unfold p_w33q
 simp only [o_w31q x.2.2.2.1,o_w32q x.2.2.2.2 (by omega),Option.bind_some]

theorem o_w34q (xs : Ty67) (h : W_SlotS xs ≤ 1048576) : m_w34q xs = some xs := by
 unfold W_SlotS at h
 show p_w34q FU xs = _
 unfold p_w34q
 rw [if_pos rfl,if_pos (by simp [lenI_eq])]
 have hb : Nat.ble (64 * (lenI xs).toNat) maxBytes = true := by rw [Nat.ble_eq]; simp only [lenI_eq,Int.toNat_natCast,maxBytes]; omega
 rw [chk_true hb]
 exact copy_loop2 xs _ m_w33q (fun x hx => o_w33q x (by have := wsum_mem W_Slot xs x hx; omega)) (by omega)

theorem o_w35q (x : Ty67) (h : W_Acceptor x ≤ 1048576) : m_w35q x = some x := by
 unfold W_Acceptor at h
 show p_w35q FU _ = _
 unfold p_w35q
 simp only [o_w34q x (by omega),Option.bind_some]

theorem o_w36q (xs : Ty63) (h : W_AcceptorS xs ≤ 1048576) : m_w36q xs = some xs := by
 unfold W_AcceptorS at h
 show p_w36q FU xs = _
 unfold p_w36q
 rw [if_pos rfl,if_pos (by simp [lenI_eq])]
 have hb : Nat.ble (24 * (lenI xs).toNat) maxBytes = true := by rw [Nat.ble_eq]; simp only [lenI_eq,Int.toNat_natCast,maxBytes]; omega
 rw [chk_true hb]
 exact copy_loop2 xs _ m_w35q (fun x hx => o_w35q x (by have := wsum_mem W_Acceptor xs x hx; omega)) (by omega)

theorem o_w37q (x : Ty68) (h : W_Try x ≤ 1048576) : m_w37q x = some x := by
 unfold W_Try at h
 show p_w37q FU _ = _
 unfold p_w37q
 simp only [o_w28q x.2.2.2.2.1 (by omega),o_w32q x.2.2.2.2.2 (by omega),Option.bind_some]

theorem o_w38q (xs : Ty64) (h : W_TryS xs ≤ 1048576) : m_w38q xs = some xs := by
 unfold W_TryS at h
 show p_w38q FU xs = _
 unfold p_w38q
 rw [if_pos rfl,if_pos (by simp [lenI_eq])]
 have hb : Nat.ble (80 * (lenI xs).toNat) maxBytes = true := by rw [Nat.ble_eq]; simp only [lenI_eq,Int.toNat_natCast,maxBytes]; omega
 rw [chk_true hb]
 exact copy_loop2 xs _ m_w37q (fun x hx => o_w37q x (by have := wsum_mem W_Try xs x hx; omega)) (by omega)

theorem o_w39q (x : Ty85) : m_w39q x = some x := by
 show p_w39q FU _ = _
 unfold p_w39q
 rfl

theorem o_w40q (xs : Ty82) (h : W_HeardS xs ≤ 1048576) : m_w40q xs = some xs := by
 unfold W_HeardS at h
 show p_w40q FU xs = _
 unfold p_w40q
 rw [if_pos rfl,if_pos (by simp [lenI_eq])]
 have hb : Nat.ble (40 * (lenI xs).toNat) maxBytes = true := by rw [Nat.ble_eq]; simp only [lenI_eq,Int.toNat_natCast,maxBytes]; omega
 rw [chk_true hb]
 exact copy_loop2 xs _ m_w39q (fun x _ => o_w39q x) (by omega)

theorem o_w41q (x : Ty42) (h : W_Leader x ≤ 1048576) : m_w41q x = some x := by
 unfold W_Leader at h
 show p_w41q FU _ = _
 unfold p_w41q
 simp only [o_w38q x.2.1 (by omega),o_w40q x.2.2 (by omega),Option.bind_some]

theorem o_w42q (xs : Ty41) (h : W_LeaderS xs ≤ 1048576) : m_w42q xs = some xs := by
 unfold W_LeaderS at h
 show p_w42q FU xs = _
 unfold p_w42q
 rw [if_pos rfl,if_pos (by simp [lenI_eq])]
 have hb : Nat.ble (56 * (lenI xs).toNat) maxBytes = true := by rw [Nat.ble_eq]; simp only [lenI_eq,Int.toNat_natCast,maxBytes]; omega
 rw [chk_true hb]
 exact copy_loop2 xs _ m_w41q (fun x hx => o_w41q x (by have := wsum_mem W_Leader xs x hx; omega)) (by omega)

theorem o_w43q (x : Ty65) : m_w43q x = some x := by
 show p_w43q FU _ = _
 unfold p_w43q
 simp only [o_w31q x.2.2.2.2.2.2.2,Option.bind_some]

theorem o_w44q (xs : Ty58) (h : W_MessageS xs ≤ 1048576) : m_w44q xs = some xs := by
 unfold W_MessageS at h
 show p_w44q FU xs = _
 unfold p_w44q
 rw [if_pos rfl,if_pos (by simp [lenI_eq])]
 have hb : Nat.ble (72 * (lenI xs).toNat) maxBytes = true := by rw [Nat.ble_eq]; simp only [lenI_eq,Int.toNat_natCast,maxBytes]; omega
 rw [chk_true hb]
 exact copy_loop2 xs _ m_w43q (fun x _ => o_w43q x) (by omega)

theorem o_w45q (x : Ty15) (h : W_Cluster x ≤ 1048576) : m_w45q x = some x := by
 unfold W_Cluster at h
 show p_w45q FU _ = _
 unfold p_w45q
 simp only [o_w23q x.1 (by omega),o_w30q x.2.1 (by omega),o_w36q x.2.2.1 (by omega),o_w42q x.2.2.2.1 (by omega),o_w44q x.2.2.2.2 (by omega),Option.bind_some]

theorem eq_w182q (x : Ty90) : m_w182q (x,x) = some true := by
 show p_w182q FU _ = _
 unfold p_w182q
 simp only [beq_self_eq_true,Bool.not_true,cond_false]

theorem eq_w183q (xs : Ty86) (h : W_LegS xs ≤ 1048576) : m_w183q (xs,xs) = some true := by
 unfold W_LegS at h
 show p_w183q FU _ = _
 unfold p_w183q
 simp only [beq_self_eq_true,Bool.not_true,cond_false]
 exact eq_loop xs m_w182q (fun x _ => eq_w182q x) (by omega)

theorem eq_w184q (x : Ty81) (h : W_Contract x ≤ 1048576) : m_w184q (x,x) = some true := by
 unfold W_Contract at h
 show p_w184q FU _ = _
 unfold p_w184q
 simp only [beq_self_eq_true,Bool.not_true,cond_false,eq_w183q x.2 (by omega),Option.bind_some]

theorem eq_w185q (xs : Ty78) (h : W_ContractS xs ≤ 1048576) : m_w185q (xs,xs) = some true := by
 unfold W_ContractS at h
 show p_w185q FU _ = _
 unfold p_w185q
 simp only [beq_self_eq_true,Bool.not_true,cond_false]
 exact eq_loop xs m_w184q (fun x hx => eq_w184q x (by have := wsum_mem W_Contract xs x hx; omega)) (by omega)

theorem eq_w186q (x : (Int × (Int × Int))) : m_w186q (x,x) = some true := by
 show p_w186q FU _ = _
 unfold p_w186q
 simp only [beq_self_eq_true,Bool.not_true,cond_false]

theorem eq_w187q (xs : Ty92) (h : W_BalanceS xs ≤ 1048576) : m_w187q (xs,xs) = some true := by
 unfold W_BalanceS at h
 show p_w187q FU _ = _
 unfold p_w187q
 simp only [beq_self_eq_true,Bool.not_true,cond_false]
 exact eq_loop xs m_w186q (fun x _ => eq_w186q x) (by omega)

theorem eq_w188q (x : (Int × Int)) : m_w188q (x,x) = some true := by
 show p_w188q FU _ = _
 unfold p_w188q
 simp only [beq_self_eq_true,Bool.not_true,cond_false]

theorem eq_w189q (xs : (List (Int × Int))) (h : W_MarkS xs ≤ 1048576) : m_w189q (xs,xs) = some true := by
 unfold W_MarkS at h
 show p_w189q FU _ = _
 unfold p_w189q
 simp only [beq_self_eq_true,Bool.not_true,cond_false]
 exact eq_loop xs m_w188q (fun x _ => eq_w188q x) (by omega)

theorem eq_w190q (xs : (List Int)) (h : W_Int64S xs ≤ 1048576) : m_w190q (xs,xs) = some true := by
 unfold W_Int64S at h
 show p_w190q FU _ = _
 unfold p_w190q
 simp only [beq_self_eq_true,Bool.not_true,cond_false]
 exact eq_flat xs (by omega)

theorem eq_w191q (x : Ty31) (h : W_Shard x ≤ 1048576) : m_w191q (x,x) = some true := by
 unfold W_Shard at h
 show p_w191q FU _ = _
 unfold p_w191q
 simp only [beq_self_eq_true,Bool.not_true,cond_false,eq_w187q x.2.1 (by omega),eq_w189q x.2.2.1 (by omega),eq_w185q x.2.2.2.1 (by omega),eq_w189q x.2.2.2.2.1 (by omega),eq_w190q x.2.2.2.2.2 (by omega),Option.bind_some]

theorem eq_w192q (xs : Ty28) (h : W_ShardS xs ≤ 1048576) : m_w192q (xs,xs) = some true := by
 unfold W_ShardS at h
 show p_w192q FU _ = _
 unfold p_w192q
 simp only [beq_self_eq_true,Bool.not_true,cond_false]
 exact eq_loop xs m_w191q (fun x hx => eq_w191q x (by have := wsum_mem W_Shard xs x hx; omega)) (by omega)

theorem eq_w193q (x : (Int × Int)) : m_w193q (x,x) = some true := by
 show p_w193q FU _ = _
 unfold p_w193q
 simp only [beq_self_eq_true,Bool.not_true,cond_false]

theorem eq_w194q (xs : (List (Int × Int))) (h : W_VoteS xs ≤ 1048576) : m_w194q (xs,xs) = some true := by
 unfold W_VoteS at h
 show p_w194q FU _ = _
 unfold p_w194q
 simp only [beq_self_eq_true,Bool.not_true,cond_false]
 exact eq_loop xs m_w193q (fun x _ => eq_w193q x) (by omega)

theorem eq_w195q (x : Ty72) (h : W_Slot x ≤ 1048576) : m_w195q (x,x) = some true := by
 unfold W_Slot at h
 show p_w195q FU _ = _
 unfold p_w195q
 simp only [beq_self_eq_true,Bool.not_true,cond_false,eq_w193q x.2.2.2.1,eq_w194q x.2.2.2.2 (by omega),Option.bind_some]

theorem eq_w196q (xs : Ty67) (h : W_SlotS xs ≤ 1048576) : m_w196q (xs,xs) = some true := by
 unfold W_SlotS at h
 show p_w196q FU _ = _
 unfold p_w196q
 simp only [beq_self_eq_true,Bool.not_true,cond_false]
 exact eq_loop xs m_w195q (fun x hx => eq_w195q x (by have := wsum_mem W_Slot xs x hx; omega)) (by omega)

theorem eq_w197q (x : Ty67) (h : W_Acceptor x ≤ 1048576) : m_w197q (x,x) = some true := by
 unfold W_Acceptor at h
 show p_w197q FU _ = _
 unfold p_w197q
 simp only [Bool.not_true,cond_false,eq_w196q x (by omega),Option.bind_some]

theorem eq_w198q (xs : Ty63) (h : W_AcceptorS xs ≤ 1048576) : m_w198q (xs,xs) = some true := by
 unfold W_AcceptorS at h
 show p_w198q FU _ = _
 unfold p_w198q
 simp only [beq_self_eq_true,Bool.not_true,cond_false]
 exact eq_loop xs m_w197q (fun x hx => eq_w197q x (by have := wsum_mem W_Acceptor xs x hx; omega)) (by omega)

theorem eq_w199q (x : Ty68) (h : W_Try x ≤ 1048576) : m_w199q (x,x) = some true := by
 unfold W_Try at h
 show p_w199q FU _ = _
 unfold p_w199q
 simp only [beq_self_eq_true,Bool.not_true,cond_false,eq_w190q x.2.2.2.2.1 (by omega),eq_w194q x.2.2.2.2.2 (by omega),Option.bind_some]

theorem eq_w200q (xs : Ty64) (h : W_TryS xs ≤ 1048576) : m_w200q (xs,xs) = some true := by
 unfold W_TryS at h
 show p_w200q FU _ = _
 unfold p_w200q
 simp only [beq_self_eq_true,Bool.not_true,cond_false]
 exact eq_loop xs m_w199q (fun x hx => eq_w199q x (by have := wsum_mem W_Try xs x hx; omega)) (by omega)

theorem eq_w201q (x : Ty85) : m_w201q (x,x) = some true := by
 show p_w201q FU _ = _
 unfold p_w201q
 simp only [beq_self_eq_true,Bool.not_true,cond_false]

theorem eq_w202q (xs : Ty82) (h : W_HeardS xs ≤ 1048576) : m_w202q (xs,xs) = some true := by
 unfold W_HeardS at h
 show p_w202q FU _ = _
 unfold p_w202q
 simp only [beq_self_eq_true,Bool.not_true,cond_false]
 exact eq_loop xs m_w201q (fun x _ => eq_w201q x) (by omega)

theorem eq_w203q (x : Ty42) (h : W_Leader x ≤ 1048576) : m_w203q (x,x) = some true := by
 unfold W_Leader at h
 show p_w203q FU _ = _
 unfold p_w203q
 simp only [beq_self_eq_true,Bool.not_true,cond_false,eq_w200q x.2.1 (by omega),eq_w202q x.2.2 (by omega),Option.bind_some]

theorem eq_w204q (xs : Ty41) (h : W_LeaderS xs ≤ 1048576) : m_w204q (xs,xs) = some true := by
 unfold W_LeaderS at h
 show p_w204q FU _ = _
 unfold p_w204q
 simp only [beq_self_eq_true,Bool.not_true,cond_false]
 exact eq_loop xs m_w203q (fun x hx => eq_w203q x (by have := wsum_mem W_Leader xs x hx; omega)) (by omega)

theorem eq_w205q (x : Ty65) : m_w205q (x,x) = some true := by
 show p_w205q FU _ = _
 unfold p_w205q
 simp only [beq_self_eq_true,Bool.not_true,cond_false,eq_w193q x.2.2.2.2.2.2.2,Option.bind_some]

theorem eq_w206q (xs : Ty58) (h : W_MessageS xs ≤ 1048576) : m_w206q (xs,xs) = some true := by
 unfold W_MessageS at h
 show p_w206q FU _ = _
 unfold p_w206q
 simp only [beq_self_eq_true,Bool.not_true,cond_false]
 exact eq_loop xs m_w205q (fun x _ => eq_w205q x) (by omega)

theorem eq_w207q (x : Ty15) (h : W_Cluster x ≤ 1048576) : m_w207q (x,x) = some true := by
 unfold W_Cluster at h
 show p_w207q FU _ = _
 unfold p_w207q
 simp only [Bool.not_true,cond_false,eq_w185q x.1 (by omega),eq_w192q x.2.1 (by omega),eq_w198q x.2.2.1 (by omega),eq_w204q x.2.2.2.1 (by omega),eq_w206q x.2.2.2.2 (by omega),Option.bind_some]

def W_ClusterResult (x : Ty14) : Nat := W_Cluster x.2

theorem eq_w208q (x : Ty14) (h : W_ClusterResult x ≤ 1048576) : m_w208q (x,x) = some true := by
 unfold W_ClusterResult at h
 show p_w208q FU _ = _
 unfold p_w208q
 simp only [beq_self_eq_true,Bool.not_true,cond_false,eq_w207q x.2 (by omega),Option.bind_some]

def V_Leg (_ : Ty90) : Nat := 4

def V_LegS (xs : Ty86) : Nat := wsum V_Leg xs

theorem vb_LegS (xs : Ty86) : V_LegS xs ≤ 4 * W_LegS xs := wsum_bnd V_Leg 4 xs (fun x _ => by unfold V_Leg; omega)

theorem mh_LegS (xs : Ty86) (k : Int) (hW : W_LegS xs ≤ 1048576) (h0 : 0 ≤ k) (hk : k + (V_LegS xs : Int) ≤ B40) : ∃ L : Ty86,L.length = xs.length ∧ m_w209q (xs,k) = some (k + (V_LegS xs : Int),L) ∧ m_w222q (L,k) = some (k + (V_LegS xs : Int)) := by
 unfold W_LegS at hW
 have hB : B40 = 1099511627776 := rfl
 show ∃ L : Ty86,_ ∧ p_w209q FU (xs,k) = _ ∧ p_w222q FU (L,k) = _
 unfold p_w209q l_w209q_1 p_w222q l_w222q_1
 dsimp only
 refine mark_held V_Leg xs k (by unfold B36; omega) h0 hk (fun i k x hx hi h0 hk hw => ?_) (fun k L rec => ?_) (fun k L rec => ?_)
 ·have hx := True.intro
  unfold V_Leg at hk ⊢
  have w1 : IntKind.wrap .i64 (k + 1) = k + 1 := wrap64 (by omega) (by omega)
  have w2 : IntKind.wrap .i64 (k + 1 + 1) = k + 1 + 1 := wrap64 (by omega) (by omega)
  have w3 : IntKind.wrap .i64 (k + 1 + 1 + 1) = k + 1 + 1 + 1 := wrap64 (by omega) (by omega)
  have w4 : IntKind.wrap .i64 (k + 1 + 1 + 1 + 1) = k + 1 + 1 + 1 + 1 := wrap64 (by omega) (by omega)
  have ew : k + ((4 : Nat) : Int) = k + 1 + 1 + 1 + 1 := by omega
  rw [ew]
  refine ⟨(k,(k + 1,(k + 1 + 1,k + 1 + 1 + 1))),fun L hL g1 g2 rec => ?_,fun L hL g1 rec => ?_⟩
  ·simp only [lt_lenI hL,cond_true,g1,g2,Option.bind_some,Int.toNat_natCast,geti_set hL,gets_set hL,List.set_set,w1,w2,w3,w4,hw]
  ·simp only [lt_lenI hL,cond_true,g1,Option.bind_some,beq_self_eq_true,Bool.not_true,cond_false,w1,w2,w3,w4,hw]
 ·simp only [ge_lenI,cond_false]
 ·simp only [ge_lenI,cond_false]

def V_Contract (x : Ty81) : Nat := 1 + V_LegS x.2

def V_ContractS (xs : Ty78) : Nat := wsum V_Contract xs

theorem vb_ContractS (xs : Ty78) : V_ContractS xs ≤ 4 * W_ContractS xs := wsum_le V_Contract W_Contract 4 xs (fun x _ => by have := vb_LegS x.2; unfold V_Contract W_Contract; omega)

theorem mh_ContractS (xs : Ty78) (k : Int) (hW : W_ContractS xs ≤ 1048576) (h0 : 0 ≤ k) (hk : k + (V_ContractS xs : Int) ≤ B40) : ∃ L : Ty78,L.length = xs.length ∧ m_w210q (xs,k) = some (k + (V_ContractS xs : Int),L) ∧ m_w223q (L,k) = some (k + (V_ContractS xs : Int)) := by
 unfold W_ContractS at hW
 have hB : B40 = 1099511627776 := rfl
 show ∃ L : Ty78,_ ∧ p_w210q FU (xs,k) = _ ∧ p_w223q FU (L,k) = _
 unfold p_w210q l_w210q_1 p_w223q l_w223q_1
 dsimp only
 refine mark_held V_Contract xs k (by unfold B36; omega) h0 hk (fun i k x hx hi h0 hk hw => ?_) (fun k L rec => ?_) (fun k L rec => ?_)
 ·have hx : W_Contract x ≤ 1048576 := by have := wsum_mem W_Contract xs x hx; omega
  unfold W_Contract at hx
  unfold V_Contract at hk ⊢
  have w1 : IntKind.wrap .i64 (k + 1) = k + 1 := wrap64 (by omega) (by omega)
  obtain ⟨L1,_,m1,q1⟩ := mh_LegS x.2 (k + 1) (by omega) (by omega) (by omega)
  have d1 : decide (k + 1 + (V_LegS x.2 : Int) < 0) = false := decide_eq_false (by omega)
  have ew : k + ((1 + V_LegS x.2 : Nat) : Int) = k + 1 + (V_LegS x.2 : Int) := by omega
  rw [ew]
  refine ⟨(k,L1),fun L hL g1 g2 rec => ?_,fun L hL g1 rec => ?_⟩
  ·simp only [lt_lenI hL,cond_true,g1,g2,Option.bind_some,Int.toNat_natCast,geti_set hL,gets_set hL,List.set_set,w1,m1,hw]
  ·simp only [lt_lenI hL,cond_true,g1,Option.bind_some,beq_self_eq_true,Bool.not_true,cond_false,w1,q1,d1,hw]
 ·simp only [ge_lenI,cond_false]
 ·simp only [ge_lenI,cond_false]

def V_Balance (_ : (Int × (Int × Int))) : Nat := 3

def V_BalanceS (xs : Ty92) : Nat := wsum V_Balance xs

theorem vb_BalanceS (xs : Ty92) : V_BalanceS xs ≤ 3 * W_BalanceS xs := wsum_bnd V_Balance 3 xs (fun x _ => by unfold V_Balance; omega)

theorem mh_BalanceS (xs : Ty92) (k : Int) (hW : W_BalanceS xs ≤ 1048576) (h0 : 0 ≤ k) (hk : k + (V_BalanceS xs : Int) ≤ B40) : ∃ L : Ty92,L.length = xs.length ∧ m_w211q (xs,k) = some (k + (V_BalanceS xs : Int),L) ∧ m_w224q (L,k) = some (k + (V_BalanceS xs : Int)) := by
 unfold W_BalanceS at hW
 have hB : B40 = 1099511627776 := rfl
 show ∃ L : Ty92,_ ∧ p_w211q FU (xs,k) = _ ∧ p_w224q FU (L,k) = _
 unfold p_w211q l_w211q_1 p_w224q l_w224q_1
 dsimp only
 refine mark_held V_Balance xs k (by unfold B36; omega) h0 hk (fun i k x hx hi h0 hk hw => ?_) (fun k L rec => ?_) (fun k L rec => ?_)
 ·have hx := True.intro
  unfold V_Balance at hk ⊢
  have w1 : IntKind.wrap .i64 (k + 1) = k + 1 := wrap64 (by omega) (by omega)
  have w2 : IntKind.wrap .i64 (k + 1 + 1) = k + 1 + 1 := wrap64 (by omega) (by omega)
  have w3 : IntKind.wrap .i64 (k + 1 + 1 + 1) = k + 1 + 1 + 1 := wrap64 (by omega) (by omega)
  have ew : k + ((3 : Nat) : Int) = k + 1 + 1 + 1 := by omega
  rw [ew]
  refine ⟨(k,(k + 1,k + 1 + 1)),fun L hL g1 g2 rec => ?_,fun L hL g1 rec => ?_⟩
  ·simp only [lt_lenI hL,cond_true,g1,g2,Option.bind_some,Int.toNat_natCast,geti_set hL,gets_set hL,List.set_set,w1,w2,w3,hw]
  ·simp only [lt_lenI hL,cond_true,g1,Option.bind_some,beq_self_eq_true,Bool.not_true,cond_false,w1,w2,w3,hw]
 ·simp only [ge_lenI,cond_false]
 ·simp only [ge_lenI,cond_false]

def V_Mark (_ : (Int × Int)) : Nat := 2

def V_MarkS (xs : (List (Int × Int))) : Nat := wsum V_Mark xs

theorem vb_MarkS (xs : (List (Int × Int))) : V_MarkS xs ≤ 2 * W_MarkS xs := wsum_bnd V_Mark 2 xs (fun x _ => by unfold V_Mark; omega)

theorem mh_MarkS (xs : (List (Int × Int))) (k : Int) (hW : W_MarkS xs ≤ 1048576) (h0 : 0 ≤ k) (hk : k + (V_MarkS xs : Int) ≤ B40) : ∃ L : (List (Int × Int)),L.length = xs.length ∧ m_w212q (xs,k) = some (k + (V_MarkS xs : Int),L) ∧ m_w225q (L,k) = some (k + (V_MarkS xs : Int)) := by
 unfold W_MarkS at hW
 have hB : B40 = 1099511627776 := rfl
 show ∃ L : (List (Int × Int)),_ ∧ p_w212q FU (xs,k) = _ ∧ p_w225q FU (L,k) = _
 unfold p_w212q l_w212q_1 p_w225q l_w225q_1
 dsimp only
 refine mark_held V_Mark xs k (by unfold B36; omega) h0 hk (fun i k x hx hi h0 hk hw => ?_) (fun k L rec => ?_) (fun k L rec => ?_)
 ·have hx := True.intro
  unfold V_Mark at hk ⊢
  have w1 : IntKind.wrap .i64 (k + 1) = k + 1 := wrap64 (by omega) (by omega)
  have w2 : IntKind.wrap .i64 (k + 1 + 1) = k + 1 + 1 := wrap64 (by omega) (by omega)
  have ew : k + ((2 : Nat) : Int) = k + 1 + 1 := by omega
  rw [ew]
  refine ⟨(k,k + 1),fun L hL g1 g2 rec => ?_,fun L hL g1 rec => ?_⟩
  ·simp only [lt_lenI hL,cond_true,g1,g2,Option.bind_some,Int.toNat_natCast,geti_set hL,gets_set hL,List.set_set,w1,w2,hw]
  ·simp only [lt_lenI hL,cond_true,g1,Option.bind_some,beq_self_eq_true,Bool.not_true,cond_false,w1,w2,hw]
 ·simp only [ge_lenI,cond_false]
 ·simp only [ge_lenI,cond_false]

def V_Int64 (_ : Int) : Nat := 1

def V_Int64S (xs : (List Int)) : Nat := wsum V_Int64 xs

theorem vb_Int64S (xs : (List Int)) : V_Int64S xs ≤ 1 * W_Int64S xs := wsum_bnd V_Int64 1 xs (fun x _ => by unfold V_Int64; omega)

theorem mh_Int64S (xs : (List Int)) (k : Int) (hW : W_Int64S xs ≤ 1048576) (h0 : 0 ≤ k) (hk : k + (V_Int64S xs : Int) ≤ B40) : ∃ L : (List Int),L.length = xs.length ∧ m_w213q (xs,k) = some (k + (V_Int64S xs : Int),L) ∧ m_w226q (L,k) = some (k + (V_Int64S xs : Int)) := by
 unfold W_Int64S at hW
 have hB : B40 = 1099511627776 := rfl
 show ∃ L : (List Int),_ ∧ p_w213q FU (xs,k) = _ ∧ p_w226q FU (L,k) = _
 unfold p_w213q l_w213q_1 p_w226q l_w226q_1
 dsimp only
 refine mark_held V_Int64 xs k (by unfold B36; omega) h0 hk (fun i k x hx hi h0 hk hw => ?_) (fun k L rec => ?_) (fun k L rec => ?_)
 ·have hx := True.intro
  unfold V_Int64 at hk ⊢
  have w1 : IntKind.wrap .i64 (k + 1) = k + 1 := wrap64 (by omega) (by omega)
  have ew : k + ((1 : Nat) : Int) = k + 1 := by omega
  rw [ew]
  refine ⟨k,fun L hL g1 g2 rec => ?_,fun L hL g1 rec => ?_⟩
  ·simp only [lt_lenI hL,cond_true,g1,g2,Option.bind_some,Int.toNat_natCast,w1,hw]
  ·simp only [lt_lenI hL,cond_true,g1,Option.bind_some,beq_self_eq_true,Bool.not_true,cond_false,w1,hw]
 ·simp only [ge_lenI,cond_false]
 ·simp only [ge_lenI,cond_false]

def V_Shard (x : Ty31) : Nat := 1 + V_BalanceS x.2.1 + V_MarkS x.2.2.1 + V_ContractS x.2.2.2.1 + V_MarkS x.2.2.2.2.1 + V_Int64S x.2.2.2.2.2

def V_ShardS (xs : Ty28) : Nat := wsum V_Shard xs

theorem vb_ShardS (xs : Ty28) : V_ShardS xs ≤ 4 * W_ShardS xs := wsum_le V_Shard W_Shard 4 xs (fun x _ => by have := vb_BalanceS x.2.1; have := vb_MarkS x.2.2.1; have := vb_ContractS x.2.2.2.1; have := vb_MarkS x.2.2.2.2.1; have := vb_Int64S x.2.2.2.2.2; unfold V_Shard W_Shard; omega)

theorem mh_ShardS (xs : Ty28) (k : Int) (hW : W_ShardS xs ≤ 1048576) (h0 : 0 ≤ k) (hk : k + (V_ShardS xs : Int) ≤ B40) : ∃ L : Ty28,L.length = xs.length ∧ m_w214q (xs,k) = some (k + (V_ShardS xs : Int),L) ∧ m_w227q (L,k) = some (k + (V_ShardS xs : Int)) := by
 unfold W_ShardS at hW
 have hB : B40 = 1099511627776 := rfl
 show ∃ L : Ty28,_ ∧ p_w214q FU (xs,k) = _ ∧ p_w227q FU (L,k) = _
 unfold p_w214q l_w214q_1 p_w227q l_w227q_1
 dsimp only
 refine mark_held V_Shard xs k (by unfold B36; omega) h0 hk (fun i k x hx hi h0 hk hw => ?_) (fun k L rec => ?_) (fun k L rec => ?_)
 ·have hx : W_Shard x ≤ 1048576 := by have := wsum_mem W_Shard xs x hx; omega
  unfold W_Shard at hx
  unfold V_Shard at hk ⊢
  have w1 : IntKind.wrap .i64 (k + 1) = k + 1 := wrap64 (by omega) (by omega)
  obtain ⟨L1,_,m1,q1⟩ := mh_BalanceS x.2.1 (k + 1) (by omega) (by omega) (by omega)
  have d1 : decide (k + 1 + (V_BalanceS x.2.1 : Int) < 0) = false := decide_eq_false (by omega)
  obtain ⟨L2,_,m2,q2⟩ := mh_MarkS x.2.2.1 (k + 1 + (V_BalanceS x.2.1 : Int)) (by omega) (by omega) (by omega)
  have d2 : decide (k + 1 + (V_BalanceS x.2.1 : Int) + (V_MarkS x.2.2.1 : Int) < 0) = false := decide_eq_false (by omega)
  obtain ⟨L3,_,m3,q3⟩ := mh_ContractS x.2.2.2.1 (k + 1 + (V_BalanceS x.2.1 : Int) + (V_MarkS x.2.2.1 : Int)) (by omega) (by omega) (by omega)
  have d3 : decide (k + 1 + (V_BalanceS x.2.1 : Int) + (V_MarkS x.2.2.1 : Int) + (V_ContractS x.2.2.2.1 : Int) < 0) = false := decide_eq_false (by omega)
  obtain ⟨L4,_,m4,q4⟩ := mh_MarkS x.2.2.2.2.1 (k + 1 + (V_BalanceS x.2.1 : Int) + (V_MarkS x.2.2.1 : Int) + (V_ContractS x.2.2.2.1 : Int)) (by omega) (by omega) (by omega)
  have d4 : decide (k + 1 + (V_BalanceS x.2.1 : Int) + (V_MarkS x.2.2.1 : Int) + (V_ContractS x.2.2.2.1 : Int) + (V_MarkS x.2.2.2.2.1 : Int) < 0) = false := decide_eq_false (by omega)
  obtain ⟨L5,_,m5,q5⟩ := mh_Int64S x.2.2.2.2.2 (k + 1 + (V_BalanceS x.2.1 : Int) + (V_MarkS x.2.2.1 : Int) + (V_ContractS x.2.2.2.1 : Int) + (V_MarkS x.2.2.2.2.1 : Int)) (by omega) (by omega) (by omega)
  have d5 : decide (k + 1 + (V_BalanceS x.2.1 : Int) + (V_MarkS x.2.2.1 : Int) + (V_ContractS x.2.2.2.1 : Int) + (V_MarkS x.2.2.2.2.1 : Int) + (V_Int64S x.2.2.2.2.2 : Int) < 0) = false := decide_eq_false (by omega)
  have ew : k + ((1 + V_BalanceS x.2.1 + V_MarkS x.2.2.1 + V_ContractS x.2.2.2.1 + V_MarkS x.2.2.2.2.1 + V_Int64S x.2.2.2.2.2 : Nat) : Int) = k + 1 + (V_BalanceS x.2.1 : Int) + (V_MarkS x.2.2.1 : Int) + (V_ContractS x.2.2.2.1 : Int) + (V_MarkS x.2.2.2.2.1 : Int) + (V_Int64S x.2.2.2.2.2 : Int) := by omega
  rw [ew]
  refine ⟨(k,(L1,(L2,(L3,(L4,L5))))),fun L hL g1 g2 rec => ?_,fun L hL g1 rec => ?_⟩
  ·simp only [lt_lenI hL,cond_true,g1,g2,Option.bind_some,Int.toNat_natCast,geti_set hL,gets_set hL,List.set_set,w1,m1,m2,m3,m4,m5,hw]
  ·simp only [lt_lenI hL,cond_true,g1,Option.bind_some,beq_self_eq_true,Bool.not_true,cond_false,w1,q1,d1,q2,d2,q3,d3,q4,d4,q5,d5,hw]
 ·simp only [ge_lenI,cond_false]
 ·simp only [ge_lenI,cond_false]

def V_Vote (_ : (Int × Int)) : Nat := 2

def V_VoteS (xs : (List (Int × Int))) : Nat := wsum V_Vote xs

theorem vb_VoteS (xs : (List (Int × Int))) : V_VoteS xs ≤ 2 * W_VoteS xs := wsum_bnd V_Vote 2 xs (fun x _ => by unfold V_Vote; omega)

theorem mh_VoteS (xs : (List (Int × Int))) (k : Int) (hW : W_VoteS xs ≤ 1048576) (h0 : 0 ≤ k) (hk : k + (V_VoteS xs : Int) ≤ B40) : ∃ L : (List (Int × Int)),L.length = xs.length ∧ m_w215q (xs,k) = some (k + (V_VoteS xs : Int),L) ∧ m_w228q (L,k) = some (k + (V_VoteS xs : Int)) := by
 unfold W_VoteS at hW
 have hB : B40 = 1099511627776 := rfl
 show ∃ L : (List (Int × Int)),_ ∧ p_w215q FU (xs,k) = _ ∧ p_w228q FU (L,k) = _
 unfold p_w215q l_w215q_1 p_w228q l_w228q_1
 dsimp only
 refine mark_held V_Vote xs k (by unfold B36; omega) h0 hk (fun i k x hx hi h0 hk hw => ?_) (fun k L rec => ?_) (fun k L rec => ?_)
 ·have hx := True.intro
  unfold V_Vote at hk ⊢
  have w1 : IntKind.wrap .i64 (k + 1) = k + 1 := wrap64 (by omega) (by omega)
  have w2 : IntKind.wrap .i64 (k + 1 + 1) = k + 1 + 1 := wrap64 (by omega) (by omega)
  have ew : k + ((2 : Nat) : Int) = k + 1 + 1 := by omega
  rw [ew]
  refine ⟨(k,k + 1),fun L hL g1 g2 rec => ?_,fun L hL g1 rec => ?_⟩
  ·simp only [lt_lenI hL,cond_true,g1,g2,Option.bind_some,Int.toNat_natCast,geti_set hL,gets_set hL,List.set_set,w1,w2,hw]
  ·simp only [lt_lenI hL,cond_true,g1,Option.bind_some,beq_self_eq_true,Bool.not_true,cond_false,w1,w2,hw]
 ·simp only [ge_lenI,cond_false]
 ·simp only [ge_lenI,cond_false]

def V_Slot (x : Ty72) : Nat := 5 + V_VoteS x.2.2.2.2

def V_SlotS (xs : Ty67) : Nat := wsum V_Slot xs

theorem vb_SlotS (xs : Ty67) : V_SlotS xs ≤ 5 * W_SlotS xs := wsum_le V_Slot W_Slot 5 xs (fun x _ => by have := vb_VoteS x.2.2.2.2; unfold V_Slot W_Slot; omega)

theorem mh_SlotS (xs : Ty67) (k : Int) (hW : W_SlotS xs ≤ 1048576) (h0 : 0 ≤ k) (hk : k + (V_SlotS xs : Int) ≤ B40) : ∃ L : Ty67,L.length = xs.length ∧ m_w216q (xs,k) = some (k + (V_SlotS xs : Int),L) ∧ m_w229q (L,k) = some (k + (V_SlotS xs : Int)) := by
 unfold W_SlotS at hW
 have hB : B40 = 1099511627776 := rfl
 show ∃ L : Ty67,_ ∧ p_w216q FU (xs,k) = _ ∧ p_w229q FU (L,k) = _
 unfold p_w216q l_w216q_1 p_w229q l_w229q_1
 dsimp only
 refine mark_held V_Slot xs k (by unfold B36; omega) h0 hk (fun i k x hx hi h0 hk hw => ?_) (fun k L rec => ?_) (fun k L rec => ?_)
 ·have hx : W_Slot x ≤ 1048576 := by have := wsum_mem W_Slot xs x hx; omega
  unfold W_Slot at hx
  unfold V_Slot at hk ⊢
  have w1 : IntKind.wrap .i64 (k + 1) = k + 1 := wrap64 (by omega) (by omega)
  have w2 : IntKind.wrap .i64 (k + 1 + 1) = k + 1 + 1 := wrap64 (by omega) (by omega)
  have w3 : IntKind.wrap .i64 (k + 1 + 1 + 1) = k + 1 + 1 + 1 := wrap64 (by omega) (by omega)
  have w4 : IntKind.wrap .i64 (k + 1 + 1 + 1 + 1) = k + 1 + 1 + 1 + 1 := wrap64 (by omega) (by omega)
  have w5 : IntKind.wrap .i64 (k + 1 + 1 + 1 + 1 + 1) = k + 1 + 1 + 1 + 1 + 1 := wrap64 (by omega) (by omega)
  obtain ⟨L1,_,m1,q1⟩ := mh_VoteS x.2.2.2.2 (k + 1 + 1 + 1 + 1 + 1) (by omega) (by omega) (by omega)
  have d1 : decide (k + 1 + 1 + 1 + 1 + 1 + (V_VoteS x.2.2.2.2 : Int) < 0) = false := decide_eq_false (by omega)
  have ew : k + ((5 + V_VoteS x.2.2.2.2 : Nat) : Int) = k + 1 + 1 + 1 + 1 + 1 + (V_VoteS x.2.2.2.2 : Int) := by omega
  rw [ew]
  refine ⟨(k,(k + 1,(k + 1 + 1,((k + 1 + 1 + 1,k + 1 + 1 + 1 + 1),L1)))),fun L hL g1 g2 rec => ?_,fun L hL g1 rec => ?_⟩
  ·simp only [lt_lenI hL,cond_true,g1,g2,Option.bind_some,Int.toNat_natCast,geti_set hL,gets_set hL,List.set_set,w1,w2,w3,w4,w5,m1,hw]
  ·simp only [lt_lenI hL,cond_true,g1,Option.bind_some,beq_self_eq_true,Bool.not_true,cond_false,w1,w2,w3,w4,w5,q1,d1,hw]
 ·simp only [ge_lenI,cond_false]
 ·simp only [ge_lenI,cond_false]

def V_Acceptor (x : Ty67) : Nat := 0 + V_SlotS x

def V_AcceptorS (xs : Ty63) : Nat := wsum V_Acceptor xs

theorem vb_AcceptorS (xs : Ty63) : V_AcceptorS xs ≤ 5 * W_AcceptorS xs := wsum_le V_Acceptor W_Acceptor 5 xs (fun x _ => by have := vb_SlotS x; unfold V_Acceptor W_Acceptor; omega)

theorem mh_AcceptorS (xs : Ty63) (k : Int) (hW : W_AcceptorS xs ≤ 1048576) (h0 : 0 ≤ k) (hk : k + (V_AcceptorS xs : Int) ≤ B40) : ∃ L : Ty63,L.length = xs.length ∧ m_w217q (xs,k) = some (k + (V_AcceptorS xs : Int),L) ∧ m_w230q (L,k) = some (k + (V_AcceptorS xs : Int)) := by
 unfold W_AcceptorS at hW
 have hB : B40 = 1099511627776 := rfl
 show ∃ L : Ty63,_ ∧ p_w217q FU (xs,k) = _ ∧ p_w230q FU (L,k) = _
 unfold p_w217q l_w217q_1 p_w230q l_w230q_1
 dsimp only
 refine mark_held V_Acceptor xs k (by unfold B36; omega) h0 hk (fun i k x hx hi h0 hk hw => ?_) (fun k L rec => ?_) (fun k L rec => ?_)
 ·have hx : W_Acceptor x ≤ 1048576 := by have := wsum_mem W_Acceptor xs x hx; omega
  unfold W_Acceptor at hx
  unfold V_Acceptor at hk ⊢
  obtain ⟨L1,_,m1,q1⟩ := mh_SlotS x (k) (by omega) (by omega) (by omega)
  have d1 : decide (k + (V_SlotS x : Int) < 0) = false := decide_eq_false (by omega)
  have ew : k + ((0 + V_SlotS x : Nat) : Int) = k + (V_SlotS x : Int) := by omega
  rw [ew]
  refine ⟨L1,fun L hL g1 g2 rec => ?_,fun L hL g1 rec => ?_⟩
  ·simp only [lt_lenI hL,cond_true,g1,g2,Option.bind_some,Int.toNat_natCast,m1,hw]
  ·simp only [lt_lenI hL,cond_true,g1,Option.bind_some,cond_false,q1,d1,hw]
 ·simp only [ge_lenI,cond_false]
 ·simp only [ge_lenI,cond_false]

def V_Try (x : Ty68) : Nat := 4 + V_Int64S x.2.2.2.2.1 + V_VoteS x.2.2.2.2.2

def V_TryS (xs : Ty64) : Nat := wsum V_Try xs

theorem vb_TryS (xs : Ty64) : V_TryS xs ≤ 4 * W_TryS xs := wsum_le V_Try W_Try 4 xs (fun x _ => by have := vb_Int64S x.2.2.2.2.1; have := vb_VoteS x.2.2.2.2.2; unfold V_Try W_Try; omega)

theorem mh_TryS (xs : Ty64) (k : Int) (hW : W_TryS xs ≤ 1048576) (h0 : 0 ≤ k) (hk : k + (V_TryS xs : Int) ≤ B40) : ∃ L : Ty64,L.length = xs.length ∧ m_w218q (xs,k) = some (k + (V_TryS xs : Int),L) ∧ m_w231q (L,k) = some (k + (V_TryS xs : Int)) := by
 unfold W_TryS at hW
 have hB : B40 = 1099511627776 := rfl
 show ∃ L : Ty64,_ ∧ p_w218q FU (xs,k) = _ ∧ p_w231q FU (L,k) = _
 unfold p_w218q l_w218q_1 p_w231q l_w231q_1
 dsimp only
 refine mark_held V_Try xs k (by unfold B36; omega) h0 hk (fun i k x hx hi h0 hk hw => ?_) (fun k L rec => ?_) (fun k L rec => ?_)
 ·have hx : W_Try x ≤ 1048576 := by have := wsum_mem W_Try xs x hx; omega
  unfold W_Try at hx
  unfold V_Try at hk ⊢
  have w1 : IntKind.wrap .i64 (k + 1) = k + 1 := wrap64 (by omega) (by omega)
  have w2 : IntKind.wrap .i64 (k + 1 + 1) = k + 1 + 1 := wrap64 (by omega) (by omega)
  have w3 : IntKind.wrap .i64 (k + 1 + 1 + 1) = k + 1 + 1 + 1 := wrap64 (by omega) (by omega)
  have w4 : IntKind.wrap .i64 (k + 1 + 1 + 1 + 1) = k + 1 + 1 + 1 + 1 := wrap64 (by omega) (by omega)
  obtain ⟨L1,_,m1,q1⟩ := mh_Int64S x.2.2.2.2.1 (k + 1 + 1 + 1 + 1) (by omega) (by omega) (by omega)
  have d1 : decide (k + 1 + 1 + 1 + 1 + (V_Int64S x.2.2.2.2.1 : Int) < 0) = false := decide_eq_false (by omega)
  obtain ⟨L2,_,m2,q2⟩ := mh_VoteS x.2.2.2.2.2 (k + 1 + 1 + 1 + 1 + (V_Int64S x.2.2.2.2.1 : Int)) (by omega) (by omega) (by omega)
  have d2 : decide (k + 1 + 1 + 1 + 1 + (V_Int64S x.2.2.2.2.1 : Int) + (V_VoteS x.2.2.2.2.2 : Int) < 0) = false := decide_eq_false (by omega)
  have ew : k + ((4 + V_Int64S x.2.2.2.2.1 + V_VoteS x.2.2.2.2.2 : Nat) : Int) = k + 1 + 1 + 1 + 1 + (V_Int64S x.2.2.2.2.1 : Int) + (V_VoteS x.2.2.2.2.2 : Int) := by omega
  rw [ew]
  refine ⟨(k,(k + 1,(k + 1 + 1,(k + 1 + 1 + 1,(L1,L2))))),fun L hL g1 g2 rec => ?_,fun L hL g1 rec => ?_⟩
  ·simp only [lt_lenI hL,cond_true,g1,g2,Option.bind_some,Int.toNat_natCast,geti_set hL,gets_set hL,List.set_set,w1,w2,w3,w4,m1,m2,hw]
  ·simp only [lt_lenI hL,cond_true,g1,Option.bind_some,beq_self_eq_true,Bool.not_true,cond_false,w1,w2,w3,w4,q1,d1,q2,d2,hw]
 ·simp only [ge_lenI,cond_false]
 ·simp only [ge_lenI,cond_false]

def V_Heard (_ : Ty85) : Nat := 5

def V_HeardS (xs : Ty82) : Nat := wsum V_Heard xs

theorem vb_HeardS (xs : Ty82) : V_HeardS xs ≤ 5 * W_HeardS xs := wsum_bnd V_Heard 5 xs (fun x _ => by unfold V_Heard; omega)

theorem mh_HeardS (xs : Ty82) (k : Int) (hW : W_HeardS xs ≤ 1048576) (h0 : 0 ≤ k) (hk : k + (V_HeardS xs : Int) ≤ B40) : ∃ L : Ty82,L.length = xs.length ∧ m_w219q (xs,k) = some (k + (V_HeardS xs : Int),L) ∧ m_w232q (L,k) = some (k + (V_HeardS xs : Int)) := by
 unfold W_HeardS at hW
 have hB : B40 = 1099511627776 := rfl
 show ∃ L : Ty82,_ ∧ p_w219q FU (xs,k) = _ ∧ p_w232q FU (L,k) = _
 unfold p_w219q l_w219q_1 p_w232q l_w232q_1
 dsimp only
 refine mark_held V_Heard xs k (by unfold B36; omega) h0 hk (fun i k x hx hi h0 hk hw => ?_) (fun k L rec => ?_) (fun k L rec => ?_)
 ·have hx := True.intro
  unfold V_Heard at hk ⊢
  have w1 : IntKind.wrap .i64 (k + 1) = k + 1 := wrap64 (by omega) (by omega)
  have w2 : IntKind.wrap .i64 (k + 1 + 1) = k + 1 + 1 := wrap64 (by omega) (by omega)
  have w3 : IntKind.wrap .i64 (k + 1 + 1 + 1) = k + 1 + 1 + 1 := wrap64 (by omega) (by omega)
  have w4 : IntKind.wrap .i64 (k + 1 + 1 + 1 + 1) = k + 1 + 1 + 1 + 1 := wrap64 (by omega) (by omega)
  have w5 : IntKind.wrap .i64 (k + 1 + 1 + 1 + 1 + 1) = k + 1 + 1 + 1 + 1 + 1 := wrap64 (by omega) (by omega)
  have ew : k + ((5 : Nat) : Int) = k + 1 + 1 + 1 + 1 + 1 := by omega
  rw [ew]
  refine ⟨(k,(k + 1,(k + 1 + 1,(k + 1 + 1 + 1,k + 1 + 1 + 1 + 1)))),fun L hL g1 g2 rec => ?_,fun L hL g1 rec => ?_⟩
  ·simp only [lt_lenI hL,cond_true,g1,g2,Option.bind_some,Int.toNat_natCast,geti_set hL,gets_set hL,List.set_set,w1,w2,w3,w4,w5,hw]
  ·simp only [lt_lenI hL,cond_true,g1,Option.bind_some,beq_self_eq_true,Bool.not_true,cond_false,w1,w2,w3,w4,w5,hw]
 ·simp only [ge_lenI,cond_false]
 ·simp only [ge_lenI,cond_false]

def V_Leader (x : Ty42) : Nat := 1 + V_TryS x.2.1 + V_HeardS x.2.2

def V_LeaderS (xs : Ty41) : Nat := wsum V_Leader xs

theorem vb_LeaderS (xs : Ty41) : V_LeaderS xs ≤ 5 * W_LeaderS xs := wsum_le V_Leader W_Leader 5 xs (fun x _ => by have := vb_TryS x.2.1; have := vb_HeardS x.2.2; unfold V_Leader W_Leader; omega)

theorem mh_LeaderS (xs : Ty41) (k : Int) (hW : W_LeaderS xs ≤ 1048576) (h0 : 0 ≤ k) (hk : k + (V_LeaderS xs : Int) ≤ B40) : ∃ L : Ty41,L.length = xs.length ∧ m_w220q (xs,k) = some (k + (V_LeaderS xs : Int),L) ∧ m_w233q (L,k) = some (k + (V_LeaderS xs : Int)) := by
 unfold W_LeaderS at hW
 have hB : B40 = 1099511627776 := rfl
 show ∃ L : Ty41,_ ∧ p_w220q FU (xs,k) = _ ∧ p_w233q FU (L,k) = _
 unfold p_w220q l_w220q_1 p_w233q l_w233q_1
 dsimp only
 refine mark_held V_Leader xs k (by unfold B36; omega) h0 hk (fun i k x hx hi h0 hk hw => ?_) (fun k L rec => ?_) (fun k L rec => ?_)
 ·have hx : W_Leader x ≤ 1048576 := by have := wsum_mem W_Leader xs x hx; omega
  unfold W_Leader at hx
  unfold V_Leader at hk ⊢
  have w1 : IntKind.wrap .i64 (k + 1) = k + 1 := wrap64 (by omega) (by omega)
  obtain ⟨L1,_,m1,q1⟩ := mh_TryS x.2.1 (k + 1) (by omega) (by omega) (by omega)
  have d1 : decide (k + 1 + (V_TryS x.2.1 : Int) < 0) = false := decide_eq_false (by omega)
  obtain ⟨L2,_,m2,q2⟩ := mh_HeardS x.2.2 (k + 1 + (V_TryS x.2.1 : Int)) (by omega) (by omega) (by omega)
  have d2 : decide (k + 1 + (V_TryS x.2.1 : Int) + (V_HeardS x.2.2 : Int) < 0) = false := decide_eq_false (by omega)
  have ew : k + ((1 + V_TryS x.2.1 + V_HeardS x.2.2 : Nat) : Int) = k + 1 + (V_TryS x.2.1 : Int) + (V_HeardS x.2.2 : Int) := by omega
  rw [ew]
  refine ⟨(k,(L1,L2)),fun L hL g1 g2 rec => ?_,fun L hL g1 rec => ?_⟩
  ·simp only [lt_lenI hL,cond_true,g1,g2,Option.bind_some,Int.toNat_natCast,geti_set hL,gets_set hL,List.set_set,w1,m1,m2,hw]
  ·simp only [lt_lenI hL,cond_true,g1,Option.bind_some,beq_self_eq_true,Bool.not_true,cond_false,w1,q1,d1,q2,d2,hw]
 ·simp only [ge_lenI,cond_false]
 ·simp only [ge_lenI,cond_false]

def V_Message (_ : Ty65) : Nat := 9

def V_MessageS (xs : Ty58) : Nat := wsum V_Message xs

theorem vb_MessageS (xs : Ty58) : V_MessageS xs ≤ 9 * W_MessageS xs := wsum_bnd V_Message 9 xs (fun x _ => by unfold V_Message; omega)

theorem mh_MessageS (xs : Ty58) (k : Int) (hW : W_MessageS xs ≤ 1048576) (h0 : 0 ≤ k) (hk : k + (V_MessageS xs : Int) ≤ B40) : ∃ L : Ty58,L.length = xs.length ∧ m_w221q (xs,k) = some (k + (V_MessageS xs : Int),L) ∧ m_w234q (L,k) = some (k + (V_MessageS xs : Int)) := by
 unfold W_MessageS at hW
 have hB : B40 = 1099511627776 := rfl
 show ∃ L : Ty58,_ ∧ p_w221q FU (xs,k) = _ ∧ p_w234q FU (L,k) = _
 unfold p_w221q l_w221q_1 p_w234q l_w234q_1
 dsimp only
 refine mark_held V_Message xs k (by unfold B36; omega) h0 hk (fun i k x hx hi h0 hk hw => ?_) (fun k L rec => ?_) (fun k L rec => ?_)
 ·have hx := True.intro
  unfold V_Message at hk ⊢
  have w1 : IntKind.wrap .i64 (k + 1) = k + 1 := wrap64 (by omega) (by omega)
  have w2 : IntKind.wrap .i64 (k + 1 + 1) = k + 1 + 1 := wrap64 (by omega) (by omega)
  have w3 : IntKind.wrap .i64 (k + 1 + 1 + 1) = k + 1 + 1 + 1 := wrap64 (by omega) (by omega)
  have w4 : IntKind.wrap .i64 (k + 1 + 1 + 1 + 1) = k + 1 + 1 + 1 + 1 := wrap64 (by omega) (by omega)
  have w5 : IntKind.wrap .i64 (k + 1 + 1 + 1 + 1 + 1) = k + 1 + 1 + 1 + 1 + 1 := wrap64 (by omega) (by omega)
  have w6 : IntKind.wrap .i64 (k + 1 + 1 + 1 + 1 + 1 + 1) = k + 1 + 1 + 1 + 1 + 1 + 1 := wrap64 (by omega) (by omega)
  have w7 : IntKind.wrap .i64 (k + 1 + 1 + 1 + 1 + 1 + 1 + 1) = k + 1 + 1 + 1 + 1 + 1 + 1 + 1 := wrap64 (by omega) (by omega)
  have w8 : IntKind.wrap .i64 (k + 1 + 1 + 1 + 1 + 1 + 1 + 1 + 1) = k + 1 + 1 + 1 + 1 + 1 + 1 + 1 + 1 := wrap64 (by omega) (by omega)
  have w9 : IntKind.wrap .i64 (k + 1 + 1 + 1 + 1 + 1 + 1 + 1 + 1 + 1) = k + 1 + 1 + 1 + 1 + 1 + 1 + 1 + 1 + 1 := wrap64 (by omega) (by omega)
  have ew : k + ((9 : Nat) : Int) = k + 1 + 1 + 1 + 1 + 1 + 1 + 1 + 1 + 1 := by omega
  rw [ew]
  refine ⟨(k,(k + 1,(k + 1 + 1,(k + 1 + 1 + 1,(k + 1 + 1 + 1 + 1,(k + 1 + 1 + 1 + 1 + 1,(k + 1 + 1 + 1 + 1 + 1 + 1,(k + 1 + 1 + 1 + 1 + 1 + 1 + 1,k + 1 + 1 + 1 + 1 + 1 + 1 + 1 + 1)))))))),fun L hL g1 g2 rec => ?_,fun L hL g1 rec => ?_⟩
  ·simp only [lt_lenI hL,cond_true,g1,g2,Option.bind_some,Int.toNat_natCast,geti_set hL,gets_set hL,List.set_set,w1,w2,w3,w4,w5,w6,w7,w8,w9,hw]
  ·simp only [lt_lenI hL,cond_true,g1,Option.bind_some,beq_self_eq_true,Bool.not_true,cond_false,w1,w2,w3,w4,w5,w6,w7,w8,w9,hw]
 ·simp only [ge_lenI,cond_false]
 ·simp only [ge_lenI,cond_false]

theorem h_w235q (x : Ty15) (k k1 k2 k3 k4 k5 : Int) (e1 : m_w223q (x.1,k) = some k1) (n1 : 0 ≤ k1) (e2 : m_w227q (x.2.1,k1) = some k2) (n2 : 0 ≤ k2) (e3 : m_w230q (x.2.2.1,k2) = some k3) (n3 : 0 ≤ k3) (e4 : m_w233q (x.2.2.2.1,k3) = some k4) (n4 : 0 ≤ k4) (e5 : m_w234q (x.2.2.2.2,k4) = some k5) (n5 : 0 ≤ k5) : m_w235q (x,k) = some k5 := by
 show p_w235q FU _ = _
 unfold p_w235q
 simp only [e1,decide_eq_false (show ¬ k1 < 0 by omega),e2,decide_eq_false (show ¬ k2 < 0 by omega),e3,decide_eq_false (show ¬ k3 < 0 by omega),e4,decide_eq_false (show ¬ k4 < 0 by omega),e5,decide_eq_false (show ¬ k5 < 0 by omega),Option.bind_some,cond_false]

theorem h_w236q (x : Ty14) (k k1 : Int) (e1 : m_w235q (x.2,k) = some k1) (n1 : 0 ≤ k1) : m_w236q (x,k) = some k1 := by
 show p_w236q FU _ = _
 unfold p_w236q
 simp only [e1,decide_eq_false (show ¬ k1 < 0 by omega),Option.bind_some,cond_false]

theorem t_w46q (a b c : Int) : m_w46q (a,b,c) = some (inB a b c) := by
 show p_w46q FU _ = _
 unfold p_w46q inB
 by_cases h : b ≤ a <;> simp [h]

theorem t_w47q (a : Int) : m_w47q a = some (idB a) := by
 show p_w47q FU _ = _
 unfold p_w47q idB
 rw [t_w46q]; rfl

theorem t_w48q (l : LegT) : m_w48q l = some (legC l) := by
 show p_w48q FU _ = _
 unfold p_w48q legC plB
 simp only [t_w46q,Option.bind_some]
 cases inB l.1 0 2 with
 | false => rfl
 | true =>
  cases inB l.2.1 0 5 with
  | false => rfl
  | true =>
   cases inB l.2.2.1 0 2 with
   | false => rfl
   | true =>
    cases inB l.2.2.2 (-1000000000000) 1000000000000 with
    | false => rfl
    | true => cases h : (l.2.2.2 == 0) <;> simp [h]

theorem t_spec_CF_1 (xs : List LegT) (i : Nat) (hi : i < xs.length) (hl : xs.length ≤ 8) (l : LegT) : l_w49q_1 FU (i : Int) xs l.1 l.2.1 l.2.2.1 (0 : Int) = some (cond ((xs.take i).any fun o => sameP o l) (Sum.inr (Sum.inr (Sum.inr (7 : Int)))) (Sum.inl ())) := by
 unfold l_w49q_1
 have hlen : (xs.take i).length = i := by rw [List.length_take]; omega
 refine (lp_hit (xs.take i) (fun o => sameP o l) (some (Sum.inr (Sum.inr (Sum.inr (7 : Int))))) (some (Sum.inl ())) (by rw [hlen]; unfold B36; omega) (fun j hj rec hw => ?_) (fun rec => ?_)).trans ?_
 ·rw [hlen] at hj
  have hd : decide ((j : Int) < (i : Int)) = true := decide_eq_true (by omega)
  have hg : geti xs (j : Int) = some xs[j] := geti_lt xs j (by omega)
  have ht : (xs.take i)[j]'(by rw [hlen]; exact hj) = xs[j] := List.getElem_take
  simp only [hd,cond_true,hg,Option.bind_some,hw,ht,sameP]
  cases (xs[j].1 == l.1) with
  | false => rfl
  | true => cases (xs[j].2.1 == l.2.1) <;> rfl
 ·rw [hlen]
  have hd : decide ((i : Int) < (i : Int)) = false := decide_eq_false (by omega)
  simp only [hd,cond_false]
 ·cases (xs.take i).any fun o => sameP o l <;> rfl
def sums3 (xs : List LegT) : List Int := [sumA xs 0,sumA xs 1,sumA xs 2]
theorem sums3_set (xs : List LegT) (l : LegT) (a : Nat) (ha : a < 3) (hla : l.2.2.1 = (a : Int)) (hb : -(8 * 1000000000000) ≤ sumA xs a + l.2.2.2 ∧ sumA xs a + l.2.2.2 ≤ 8 * 1000000000000) :
  (sums3 xs)[a]? = some (sumA xs a) ∧ (sums3 xs).set a (IntKind.wrap .i64 (sumA xs a + l.2.2.2)) = sums3 (xs ++ [l]) := by
 have hw : IntKind.wrap .i64 (sumA xs a + l.2.2.2) = sumA xs a + l.2.2.2 := wrap64 (by omega) (by omega)
 rw [hw]
 unfold sums3
 rw [sumA_snoc,sumA_snoc,sumA_snoc,hla]
 rcases (by omega : a = 0 ∨ a = 1 ∨ a = 2) with rfl | rfl | rfl <;> simp
theorem t_w49q (c : ConT) (hl : c.2.length ≤ 1048576) : m_w49q c = some (conC c) := by
 obtain ⟨id,xs⟩ := c
 show p_w49q FU _ = _
 unfold p_w49q conC
 simp only [t_w47q,Option.bind_some]
 cases idB id with
 | false => rfl
 | true =>
  simp only [Bool.not_true,cond_false]
  by_cases h1 : xs.length < 2
  ·have : decide (lenI xs < 2) = true := decide_eq_true (by rw [lenI_eq]; omega)
   rw [this,if_pos (show xs.length < 2 ∨ 8 < xs.length from .inl h1)]; rfl
  ·have d1 : decide (lenI xs < 2) = false := decide_eq_false (by rw [lenI_eq]; omega)
   by_cases h2 : 8 < xs.length
   ·have : decide (lenI xs > 8) = true := decide_eq_true (by rw [lenI_eq]; omega)
    rw [d1,this,if_pos (show xs.length < 2 ∨ 8 < xs.length from .inr h2)]; rfl
   ·have d2 : decide (lenI xs > 8) = false := decide_eq_false (by rw [lenI_eq]; omega)
    have hn : ¬ (xs.length < 2 ∨ 8 < xs.length) := by omega
    have hm : Nat.ble (8 * (3 : Int).toNat) maxBytes = true := rfl
    have h3 : (3 : Int).toNat = 3 := rfl
    rw [d1,d2,if_neg hn]
    simp only [cond_false,Option.bind_some,if_true,show (0 : Int) ≤ 3 from by omega,chk,hm,cond_true]
    have e1 : l_w49q_2 FU xs ((0 : Int),(List.replicate (3 : Int).toNat (0 : Int))) = (fstI (legStep xs) 0 xs).elim (some (Sum.inl (sums3 xs))) (fun r => some (Sum.inr r)) := by
     unfold l_w49q_2
     refine (lp_fstS xs (fun i l => (legStep xs i l).map (Sum.inr (α := List Int))) (fun i => ((i : Int),sums3 (xs.take i))) (some (Sum.inl (sums3 xs))) (fun i => ∀ l ∈ xs.take i,legC l = 0) (by unfold B36; omega) (fun l h => by cases h) (fun i hi hall => ⟨fun rec => ?_,fun hq l hl => ?_⟩) (fun _ rec => ?_)).trans ?_
     ·have hw := wrap_next hi (Nat.le_trans (Nat.le_of_not_lt h2) (by omega))
      simp only [lt_lenI hi,cond_true,geti_lt xs i hi,Option.bind_some,t_w48q,legStep,hw]
      cases hc : legC xs[i] == 0 with
      | false => rfl
      | true =>
       simp only [Bool.not_true,cond_false,cond_true,t_spec_CF_1 xs i hi (Nat.le_of_not_lt h2) xs[i],Option.bind_some]
       cases (xs.take i).any fun o => sameP o xs[i] with
       | true => rfl
       | false =>
        simp only [cond_false,Sum.elim_inl]
        have hz := legC_zero (by simpa using hc : legC xs[i] = 0)
        obtain ⟨a,ha⟩ : ∃ a : Nat,xs[i].2.2.1 = (a : Int) := ⟨xs[i].2.2.1.toNat,by omega⟩
        have ha3 : a < 3 := by have := hz.2.2.1; omega
        have hb := sumA_bnd (xs.take i) a (fun l hl => (legC_zero (hall l hl)).2.2.2.1)
        have hlt : (xs.take i).length ≤ 7 := by rw [List.length_take]; omega
        obtain ⟨s1,s2⟩ := sums3_set (xs.take i) xs[i] a ha3 ha (by have := hz.2.2.2.1; omega)
        have hg : geti (sums3 (xs.take i)) (a : Int) = some (sumA (xs.take i) a) := by rw [geti_nat,s1]
        rw [List.take_succ_eq_append_getElem hi,← s2]
        simp only [ha,hg,Option.bind_some,Int.toNat_natCast,s1,Sum.elim_inl,Option.map_none,Option.elim_none]
     ·rw [List.take_succ_eq_append_getElem hi] at hl
      rcases List.mem_append.1 hl with hl | hl
      ·exact hall l hl
      ·rw [List.mem_singleton] at hl
       subst hl
       cases hs : legStep xs i xs[i] with
       | some r => rw [hs] at hq; cases hq
       | none =>
        unfold legStep at hs
        cases hc : legC xs[i] == 0 with
        | true => simpa using hc
        | false => rw [hc] at hs; cases hs
     ·simp only [ge_lenI,cond_false,List.take_length]
     ·rw [fstI_map]
      cases fstI (legStep xs) 0 xs <;> rfl
    rw [e1]
    cases fstI (legStep xs) 0 xs with
    | some r => rfl
    | none =>
     simp only [Option.elim_none,Option.bind_some,Sum.elim_inl]
     unfold l_w49q_3
     refine (lp_hit (sums3 xs) (fun a => !(a == 0)) (some (1 : Int)) (some 0) (by simp [sums3,B36]) (fun j hj rec hw => ?_) (fun rec => ?_)).trans ?_
     ·simp only [lt_lenI hj,cond_true,geti_lt _ j hj,Option.bind_some,Int.toNat_natCast,List.getElem?_eq_getElem hj,hw]
     ·simp only [ge_lenI,cond_false]
     ·unfold sums3
      simp only [List.any_cons,List.any_nil,Bool.or_false]
      by_cases q0 : sumA xs 0 = 0 <;> by_cases q1 : sumA xs 1 = 0 <;> by_cases q2 : sumA xs 2 = 0 <;> simp [q0,q1,q2,beq_eq_false_iff_ne.2]

theorem t_w50q (xs : List Int) (a : Int) (hl : xs.length ≤ 2097152) : m_w50q (xs,a) = some (put1 xs a) := by
 show p_w50q FU _ = _
 unfold p_w50q
 simp only
 have e1 : l_w50q_1 FU xs a 0 = some (match xs.findIdx? (fun y => !(decide (y < a))) with | some j => (j : Int) | none => (xs.length : Int)) := by
  unfold l_w50q_1
  refine (lp_place xs (fun y => !(decide (y < a))) (fun j => some (j : Int)) (some (xs.length : Int)) (by unfold B36; omega) (fun j hj rec hw => ?_) (fun rec => ?_)).trans (by cases xs.findIdx? (fun y => !(decide (y < a))) <;> rfl)
  ·simp only [lt_lenI hj,cond_true,geti_lt xs j hj,Option.bind_some,hw]
   cases decide (xs[j] < a) <;> rfl
  ·simp only [ge_lenI,cond_false,Option.bind_some]
 rw [e1]
 unfold put1
 cases hf : xs.findIdx? (fun y => !(decide (y < a))) with
 | none =>
  have hd : decide ((xs.length : Int) < lenI xs) = false := ge_lenI
  have b1 : bndB none (some (xs.length : Int)) none xs.length = true := by simp [bndB]
  have b2 : bndB (some (xs.length : Int)) none none xs.length = true := by simp [bndB]
  have c1 : cutL none (some (xs.length : Int)) xs = xs := by simp [cutL]
  have c2 : cutL (some (xs.length : Int)) none xs = [] := by simp [cutL]
  have m1 : Nat.ble (xs.length * 8) maxBytes = true := ble_mem (by simp only [maxBytes]; omega)
  have m2 : Nat.ble ((xs.length + [a].length) * 8) maxBytes = true := ble_mem (by simp only [maxBytes,List.length_singleton]; omega)
  have m3 : Nat.ble (((xs ++ [a]).length + ([] : List Int).length) * 8) maxBytes = true := ble_mem (by simp only [maxBytes,List.length_append,List.length_singleton,List.length_nil]; omega)
  simp only [Option.bind_some,hd,cond_false,b1,b2,c1,c2,chk_true,m1,m2,m3,List.append_nil]
 | some j =>
  have hj : j < xs.length := (List.findIdx?_eq_some_iff_getElem.1 hf).1
  simp only [Option.bind_some,lt_lenI hj,cond_true,geti_lt xs j hj,List.getElem?_eq_getElem hj,Option.some.injEq]
  by_cases hx : xs[j] = a
  ·simp [hx]
  ·have hb : (xs[j] == a) = false := by simp [hx]
   have b1 : bndB none (some (j : Int)) none xs.length = true := by simp [bndB]; omega
   have b2 : bndB (some (j : Int)) none none xs.length = true := by simp [bndB]; omega
   have c1 : cutL none (some (j : Int)) xs = xs.take j := by simp [cutL]
   have c2 : cutL (some (j : Int)) none xs = xs.drop j := by simp only [cutL,Option.getD_some,Option.getD_none,Int.toNat_natCast]; exact List.take_of_length_le (by simp)
   have l1 : (xs.take j).length = j := by simp; omega
   have m1 : Nat.ble ((xs.take j).length * 8) maxBytes = true := ble_mem (by rw [l1]; simp only [maxBytes]; omega)
   have m2 : Nat.ble (((xs.take j).length + [a].length) * 8) maxBytes = true := ble_mem (by rw [l1]; simp only [maxBytes,List.length_singleton]; omega)
   have m3 : Nat.ble (((xs.take j ++ [a]).length + (xs.drop j).length) * 8) maxBytes = true := ble_mem (by simp only [maxBytes,List.length_append,List.length_singleton,l1,List.length_drop]; omega)
   simp only [hb,cond_false,b1,b2,c1,c2,chk_true,m1,m2,m3,if_neg hx]

theorem t_w51q (a : Int) (xs : List (Int × Int × Int × Int)) (hl : xs.length ≤ 1048576) : m_w51q (a,xs) = some (shardsL xs) := by
 show p_w51q FU _ = _
 unfold p_w51q l_w51q_1 shardsL
 simp only
 refine lp_for (fun r => r = some (xs.foldl (fun s y => put1 s y.1) [])) (fun i z => z = ((xs.take i).foldl (fun s y => put1 s y.1) [],(i : Int))) xs.length (fun i z hi hz => ?_) (fun z hz rec => ?_) FU _ (FU_gt hl) rfl
 ·subst hz
  have h := (fold_put (xs.take i) []).1
  simp only [List.length_nil,List.length_take] at h
  refine .inr ⟨_,rfl,fun rec => ?_⟩
  simp only [lt_lenI hi,cond_true,geti_lt xs i hi,Option.bind_some,t_w50q _ _ (show ((xs.take i).foldl (fun s y => put1 s y.1) []).length ≤ 2097152 by omega),wrap_next hi hl]
  rw [List.take_succ_eq_append_getElem hi,List.foldl_append]
  rfl
 ·subst hz
  simp only [ge_lenI,cond_false,List.take_length]

def conOf (xs : List ConT) (i : Int) : Option (Nat × ConT) := (xs.findIdx? fun y => y.1 == i).bind fun j => (xs[j]?).map fun y => (j,y)
theorem conOf_le {xs : List ConT} {i : Int} {j : Nat} {y} (h : conOf xs i = some (j,y)) : j < xs.length ∧ xs[j]? = some y ∧ y ∈ xs ∧ y.1 = i := by
 unfold conOf at h
 simp only [Option.bind_eq_some_iff,Option.map_eq_some_iff,Prod.mk.injEq] at h
 obtain ⟨k,h1,z,h2,rfl,rfl⟩ := h
 have hl := (List.getElem?_eq_some_iff.1 h2).1
 refine ⟨hl,h2,List.mem_of_getElem? h2,?_⟩
 have := (List.findIdx?_eq_some_iff_getElem.1 h1).2.1
 rw [(List.getElem?_eq_some_iff.1 h2).2] at this
 simpa using this
theorem t_w67q (c) (i : Int) (hl : c.1.length ≤ 1048576) : m_w67q (c,i) = some ((conOf c.1 i).elim (-1) fun q => (q.1 : Int)) := by
 show p_w67q FU _ = _
 unfold p_w67q l_w67q_1
 simp only
 refine (lp_place c.1 (fun y => y.1 == i) (fun j => some (j : Int)) (some (-1)) (by unfold B36; omega) (fun j hj rec hw => ?_) (fun rec => ?_)).trans ?_
 ·simp only [lt_lenI hj,cond_true,geti_lt c.1 j hj,Option.bind_some,hw]
 ·simp only [ge_lenI,cond_false]
 ·unfold conOf
  cases hf : c.1.findIdx? (fun y => y.1 == i) with
  | none => rfl
  | some j =>
   have hj : j < c.1.length := (List.findIdx?_eq_some_iff_getElem.1 hf).1
   simp only [Option.bind_some,List.getElem?_eq_getElem hj,Option.map_some,Option.elim]

theorem t_w60q (xs : List Int) (a : Int) (hl : xs.length ≤ 2097152) : m_w60q (xs,a) = some (xs.any fun y => y == a) := by
 show p_w60q FU _ = _
 unfold p_w60q l_w60q_1
 simp only
 refine (lp_hit xs (fun y => y == a) (some true) (some false) (by unfold B36; omega) (fun i hi rec hw => ?_) (fun rec => ?_)).trans (by cases xs.any fun y => y == a <;> rfl)
 ·simp only [lt_lenI hi,cond_true,geti_lt xs i hi,Option.bind_some,hw]
 ·simp only [ge_lenI,cond_false]

def legAny (xs : List LegT) (a : Int) : Bool := xs.any fun y => y.1 == a
/-- Was a contract submitted that has legs on a shard? -/
def hasC (cs : List ConT) (i a : Int) : Bool := (conOf cs i).elim false fun q => legAny q.2.2 a
theorem shards_any (xs : List LegT) (a : Int) : ((shardsL xs).any fun y => y == a) = legAny xs a := by
 rw [Bool.eq_iff_iff]
 unfold legAny shardsL
 simp only [List.any_eq_true,beq_iff_eq,exists_eq_right]
 rw [(fold_put xs []).2]
 simp
theorem shardsL_le (xs : List LegT) (h : xs.length ≤ 1048576) : (shardsL xs).length ≤ 2097152 := by
 have h1 := (fold_put xs []).1
 unfold shardsL
 simp only [List.length_nil] at h1
 omega
theorem t_w68q (c) (i a : Int) (hl : c.1.length ≤ 1048576) (h2 : ∀ y ∈ c.1,y.2.length ≤ 1048576) : m_w68q (c,i,a) = some (hasC c.1 i a) := by
 show p_w68q FU _ = _
 unfold p_w68q hasC
 simp only [t_w67q c i hl,Option.bind_some]
 cases hf : conOf c.1 i with
 | none => rfl
 | some q =>
  obtain ⟨j,y⟩ := q
  obtain ⟨hj,hy,hm,_⟩ := conOf_le hf
  have hd : decide ((j : Int) ≥ 0) = true := decide_eq_true (by omega)
  have hy2 : c.1[j] = y := (List.getElem?_eq_some_iff.1 hy).2
  show (cond (decide ((j : Int) ≥ 0)) ((geti c.1 (j : Int)).bind fun y2 => (m_w51q y2).bind fun r3 => (m_w60q (r3,a)).bind fun r4 => some r4) (some false)) = some (legAny y.2 a)
  rw [hd]
  simp only [cond_true,geti_lt c.1 j hj,Option.bind_some,hy2]
  have hs := t_w51q y.1 y.2 (h2 _ hm)
  simp only [hs,Option.bind_some,t_w60q _ _ (shardsL_le _ (h2 _ hm)),shards_any]

def conStep (cs : List ConT) (n : Nat) (i : Nat) (y : ConT) : Option Int := cond (conC y == 0) (cond (y.2.all fun l => decide (l.1 < (n : Int))) (cond (decide (0 < i) && decide (y.1 ≤ (cs[i - 1]?.getD y).1)) (some 1) none) (some 4)) (some (conC y))
def consC (cs : List ConT) (n : Nat) : Int := (fstI (conStep cs n) 0 cs).getD 0
theorem conC_ne {c : ConT} (h : conC c = 0) : 2 ≤ c.2.length := by
 unfold conC at h
 cases h1 : idB c.1 with
 | false => rw [h1] at h; exact absurd (show (3 : Int) = 0 from h) (by decide)
 | true =>
  rw [h1] at h
  simp only [Bool.not_true,cond_false] at h
  split at h
  ·exact absurd h (by decide)
  ·omega
theorem shards_up (xs : List LegT) : (shardsL xs).Pairwise (· < ·) := by
 have key : ∀ (xs : List LegT) (s : List Int),s.Pairwise (· < ·) → (xs.foldl (fun s y => put1 s y.1) s).Pairwise (· < ·) := by
  intro xs
  induction xs with
  | nil => intro s h; exact h
  | cons x xs ih => intro s h; exact ih _ (put1_up h x.1)
 exact key xs [] List.Pairwise.nil
theorem last_ge (xs : List LegT) (h : xs ≠ []) (n : Int) : ∃ (hl : (shardsL xs).length - 1 < (shardsL xs).length),decide ((shardsL xs)[(shardsL xs).length - 1] ≥ n) = !(xs.all fun l => decide (l.1 < n)) := by
 have hm : ∀ b,b ∈ shardsL xs ↔ ∃ y ∈ xs,y.1 = b := fun b => by unfold shardsL; rw [(fold_put xs []).2]; simp
 obtain ⟨x,hx⟩ := List.exists_mem_of_ne_nil _ h
 have h0 : 0 < (shardsL xs).length := List.length_pos_of_mem ((hm x.1).2 ⟨x,hx,rfl⟩)
 have hl : (shardsL xs).length - 1 < (shardsL xs).length := by omega
 refine ⟨hl,?_⟩
 rw [Bool.eq_iff_iff,Bool.not_eq_true',decide_eq_true_eq]
 constructor
 ·intro hge
  rw [← Bool.not_eq_true,List.all_eq_true]
  intro hall
  obtain ⟨y,hy,hyb⟩ := (hm _).1 (List.getElem_mem hl)
  have := of_decide_eq_true (hall y hy)
  omega
 ·intro hall
  rw [← Bool.not_eq_true,List.all_eq_true] at hall
  obtain ⟨y,hy⟩ := Classical.not_forall.1 hall
  obtain ⟨hy,hyn⟩ := Classical.not_imp.1 hy
  rw [decide_eq_true_eq] at hyn
  obtain ⟨i,hi,hib⟩ := List.getElem_of_mem ((hm y.1).2 ⟨y,hy,rfl⟩)
  have hle : (shardsL xs)[i] ≤ (shardsL xs)[(shardsL xs).length - 1] := by
   rcases Nat.lt_or_ge i ((shardsL xs).length - 1) with h1 | h1
   ·exact Int.le_of_lt ((List.pairwise_iff_getElem.1 (shards_up xs)) i _ hi hl h1)
   ·have : i = (shardsL xs).length - 1 := by omega
    subst this; exact Int.le_refl _
  omega
theorem t_w52q (c : CluT) (hl : c.1.length ≤ 1048576) (h2 : ∀ y ∈ c.1,y.2.length ≤ 1048576) : m_w52q c = some (consC c.1 c.2.1.length) := by
 show p_w52q FU _ = _
 unfold p_w52q l_w52q_1
 refine (lp_fst c.1 (conStep c.1 c.2.1.length) (some 0) (by unfold B36; omega) (fun i hi rec hw => ?_) (fun rec => ?_)).trans ?_
 ·have hy := h2 _ (List.getElem_mem hi)
  have hc := t_w49q c.1[i] hy
  simp only [lt_lenI hi,cond_true,geti_lt c.1 i hi,Option.bind_some,hc]
  unfold conStep
  cases h0 : (conC c.1[i] == 0) with
  | false => simp only [Bool.not_false,cond_true,cond_false]
  | true =>
   have hz : conC c.1[i] = 0 := by simpa using h0
   have hne : c.1[i].2 ≠ [] := fun h => by have := conC_ne hz; rw [h] at this; simp at this
   obtain ⟨hl1,hge⟩ := last_ge c.1[i].2 hne (c.2.1.length : Int)
   have hsl := shardsL_le _ hy
   have e2 : IntKind.wrap .i64 (lenI (shardsL c.1[i].2) - 1) = (((shardsL c.1[i].2).length - 1 : Nat) : Int) := by rw [lenI_eq]; exact prv (by unfold B36; omega) (by omega)
   simp only [Bool.not_true,cond_false,cond_true,t_w51q _ _ hy,Option.bind_some,e2,geti_lt _ _ hl1]
   rw [lenI_eq,hge]
   cases hall : (c.1[i].2.all fun l => decide (l.1 < (c.2.1.length : Int))) with
   | false => rfl
   | true =>
    simp only [Bool.not_true,cond_false,cond_true]
    rcases Nat.eq_zero_or_pos i with rfl | h1
    ·have d1 : decide (((0 : Nat) : Int) > 0) = false := rfl
     have d2 : decide (0 < 0) = false := rfl
     simp only [d1,d2,cond_false,Option.bind_some,Bool.false_and,hw]
    ·have d1 : decide ((i : Int) > 0) = true := decide_eq_true (by omega)
     have d2 : decide (0 < i) = true := decide_eq_true h1
     have hi1 : i - 1 < c.1.length := by omega
     simp only [d1,d2,cond_true,prv (show i ≤ B36 by unfold B36; omega) h1,geti_lt c.1 (i - 1) hi1,Option.bind_some,Bool.true_and,List.getElem?_eq_getElem hi1,Option.getD_some,hw]
     cases decide (c.1[i].1 ≤ c.1[i - 1].1) <;> rfl
 ·simp only [ge_lenI,cond_false]
 ·unfold consC
  cases fstI (conStep c.1 c.2.1.length) 0 c.1 <;> rfl

theorem t_w53q (a b : Int) : m_w53q (a,b) = some (plB a b) := by
 show p_w53q FU _ = _
 unfold p_w53q plB
 simp only [t_w46q,Option.bind_some]
 cases inB a 0 5 <;> rfl

theorem t_w97q (a b c : Int) : m_w97q (a,b,c) = some (inB a b c) := by
 show p_w97q FU _ = _
 unfold p_w97q inB
 by_cases h : b ≤ a <;> simp [h]

theorem t_w102q (a : Int) : m_w102q a = some (inB a 0 2) := by
 show p_w102q FU _ = _
 unfold p_w102q
 simp only [t_w97q,Option.bind_some]

theorem t_w103q (a b : Int) : m_w103q (a,b) = some (plB a b) := by
 show p_w103q FU _ = _
 unfold p_w103q plB
 simp only [t_w97q,t_w102q,Option.bind_some]
 cases inB a 0 5 <;> rfl

theorem t_w111q (a b : Int) : m_w111q (a,b) = some (if a < b then -1 else if a > b then 1 else 0) := by
 show p_w111q FU _ = _
 unfold p_w111q
 have e : ∀ a : Int,m_w110q a = some false := fun a => by
  show p_w110q FU a = _
  unfold p_w110q
  simp
 simp only [e,Option.bind_some,cond_false]
 by_cases h1 : a < b
 ·simp [h1]
 ·by_cases h2 : a > b <;> simp [h1,h2]

theorem t_w112q (a b : Int) : m_w112q [a,b] = some (if a = 0 then b else a) := by
 show p_w112q FU _ = _
 unfold p_w112q l_w112q_1
 obtain ⟨m,hm⟩ : ∃ m,FU = m + 1 + 1 + 1 := ⟨18446744073709551613,rfl⟩
 rw [hm]
 have w1 : IntKind.wrap .i64 1 = 1 := rfl
 have w2 : IntKind.wrap .i64 2 = 2 := rfl
 by_cases h1 : a = 0
 ·by_cases h2 : b = 0
  ·simp [lp,geti,lenI,h1,h2,w1,w2]
  ·have hb : (b == 0) = false := by simp [h2]
   simp [lp,geti,lenI,h1,hb,w1,w2]
 ·have hb : (a == 0) = false := by simp [h1]
  simp [lp,geti,lenI,h1,hb]

theorem t_w113q (a b : BalT) : m_w113q (a,b) = some (cmpP a b) := by
 show p_w113q FU _ = _
 unfold p_w113q cmpP
 simp only [t_w111q,t_w112q,Option.bind_some]

theorem t_w114q (xs : List BalT) : m_w114q xs = some (balCode xs) := by
 show p_w114q FU xs = _
 unfold p_w114q balCode
 by_cases hl : xs.length > 18
 ·have : decide (lenI xs > 18) = true := decide_eq_true (by rw [lenI_eq]; omega)
  rw [this,if_pos hl]; rfl
 ·have : decide (lenI xs > 18) = false := decide_eq_false (by rw [lenI_eq]; omega)
  rw [this,if_neg hl,cond_false]
  unfold l_w114q_1
  refine (lp_fst xs (balStep xs) (some 0) (by unfold B36; omega) (fun i hi rec hw => ?_) (fun rec => ?_)).trans (by cases fstI (balStep xs) 0 xs <;> rfl)
  ·simp only [lt_lenI hi,cond_true,geti_lt xs i hi,Option.bind_some,t_w103q,t_w97q,balStep,okBal,hw]
   cases plB xs[i].1 xs[i].2.1 with
   | false => rfl
   | true =>
    cases inB xs[i].2.2 1 1000000000000 with
    | false => rfl
    | true =>
     simp only [Bool.not_true,cond_false,Option.bind_some,Bool.and_self]
     by_cases h0 : 0 < i
     ·have hd : decide ((i : Int) > 0) = true := by simp; omega
      have hi1 : i - 1 < xs.length := by omega
      simp only [hd,cond_true,prv (i := i) (by unfold B36; omega) h0,geti_lt xs _ hi1,Option.bind_some,t_w113q,h0,decide_true,Bool.true_and,List.getElem?_eq_getElem hi1,Option.getD_some]
      cases decide (cmpP xs[i - 1] xs[i] ≥ 0) <;> rfl
     ·have hd : decide ((i : Int) > 0) = false := by simp; omega
      simp only [hd,cond_false,Option.bind_some,h0,decide_false,Bool.false_and]
  ·simp only [ge_lenI,cond_false]

theorem key_cmp (a b : BalT) (ha : okBal a = true) (hb : okBal b = true) : decide ((IntKind.wrap .i64 ((IntKind.wrap .i64 (b.1 * (3 : Int))) + b.2.1)) ≤ (IntKind.wrap .i64 ((IntKind.wrap .i64 (a.1 * (3 : Int))) + a.2.1))) = decide (cmpP a b ≥ 0) := by
 unfold okBal plB inB at ha hb
 simp only [Bool.and_eq_true,decide_eq_true_eq] at ha hb
 obtain ⟨⟨⟨a1,a2⟩,a3,a4⟩,_⟩ := ha
 obtain ⟨⟨⟨b1,b2⟩,b3,b4⟩,_⟩ := hb
 rw [wrap64 (n := a.1 * 3) (by omega) (by omega),wrap64 (n := b.1 * 3) (by omega) (by omega),wrap64 (by omega) (by omega),wrap64 (by omega) (by omega)]
 have h := cmpP_lt a b
 by_cases hc : cmpP a b < 0
 ·have h1 := h.1 hc
  rw [decide_eq_false (show ¬ cmpP a b ≥ 0 by omega),decide_eq_false (by omega)]
 ·have h1 : ¬ (a.1 < b.1 ∨ a.1 = b.1 ∧ a.2.1 < b.2.1) := fun q => hc (h.2 q)
  rw [decide_eq_true (show cmpP a b ≥ 0 by omega),decide_eq_true (by omega)]
theorem t_w54q (xs : List BalT) : m_w54q xs = some (balCode xs) := by
 show p_w54q FU xs = _
 unfold p_w54q balCode
 by_cases hl : xs.length > 18
 ·have : decide (lenI xs > 18) = true := decide_eq_true (by rw [lenI_eq]; omega)
  rw [this,if_pos hl]; rfl
 ·have : decide (lenI xs > 18) = false := decide_eq_false (by rw [lenI_eq]; omega)
  rw [this,if_neg hl,cond_false]
  unfold l_w54q_1
  refine (lp_fstI xs (balStep xs) (some 0) (fun i => ∀ (h : i - 1 < xs.length),0 < i → okBal (xs[i - 1]'h) = true) (by unfold B36; omega) (fun _ h => by omega) (fun i hi hI hw => ⟨fun rec => ?_,fun hn h _ => ?_⟩) (fun rec => ?_)).trans (by cases fstI (balStep xs) 0 xs <;> rfl)
  ·simp only [lt_lenI hi,cond_true,geti_lt xs i hi,Option.bind_some,t_w53q,t_w46q,balStep,hw]
   cases ho : okBal xs[i] with
   | false =>
    unfold okBal at ho
    cases hp : plB xs[i].1 xs[i].2.1 with
    | false => rfl
    | true => rw [hp] at ho; simp only [Bool.true_and] at ho; rw [ho]; rfl
   | true =>
    have ho' := ho
    unfold okBal at ho'
    simp only [Bool.and_eq_true] at ho'
    simp only [ho'.1,ho'.2,Bool.not_true,cond_false,Option.bind_some]
    by_cases h0 : 0 < i
    ·have hd : decide ((i : Int) > 0) = true := by simp; omega
     have hi1 : i - 1 < xs.length := by omega
     simp only [hd,cond_true,prv (i := i) (by unfold B36; omega) h0,geti_lt xs _ hi1,Option.bind_some,key_cmp _ _ (hI hi1 h0) ho,h0,decide_true,Bool.true_and,List.getElem?_eq_getElem hi1,Option.getD_some]
     cases decide (cmpP xs[i - 1] xs[i] ≥ 0) <;> rfl
    ·have hd : decide ((i : Int) > 0) = false := by simp; omega
     simp only [hd,cond_false,Option.bind_some,h0,decide_false,Bool.false_and]
  ·simp only [Nat.add_sub_cancel]
   unfold balStep at hn
   cases ho : okBal xs[i] with
   | true => rfl
   | false => rw [ho] at hn; cases hn
  ·simp only [ge_lenI,cond_false]

theorem t_w55q (a : Int) (xs : List BalT) : m_w55q (a,xs) = some (cond (!(inB a 0 2)) 3 (balCode xs)) := by
 show p_w55q FU _ = _
 unfold p_w55q
 simp only [t_w46q,t_w54q,Option.bind_some]
 cases inB a 0 2 <;> rfl

theorem vlu_in (v : Int) : inB v 1 2 = vlu v := by
 unfold inB vlu
 rw [Bool.eq_iff_iff]
 simp; omega
theorem t_w56q (xs : List MarkT) (hl : xs.length ≤ 1048576) : m_w56q xs = some (markC xs) := by
 show p_w56q FU _ = _
 unfold p_w56q l_w56q_1 markC
 refine (lp_fst xs (markStep xs) (some (0 : Int)) (by unfold B36; omega) (fun i hi rec hw => ?_) (fun rec => ?_)).trans ?_
 ·simp only [lt_lenI hi,cond_true,geti_lt xs i hi,Option.bind_some,t_w47q,t_w46q,vlu_in,hw,markStep]
  cases idB xs[i].1 with
  | false => rfl
  | true =>
   cases vlu xs[i].2 with
   | false => rfl
   | true =>
    simp only [Bool.not_true,cond_false,Option.bind_some,Bool.and_self]
    by_cases h0 : 0 < i
    ·have hd : decide ((i : Int) > 0) = true := by simp; omega
     have hi1 : i - 1 < xs.length := by omega
     simp only [hd,cond_true,prv (i := i) (by unfold B36; omega) h0,geti_lt xs _ hi1,Option.bind_some,h0,decide_true,Bool.true_and,List.getElem?_eq_getElem hi1,Option.getD_some]
     cases decide (xs[i].1 ≤ xs[i - 1].1) <;> rfl
    ·have hd : decide ((i : Int) > 0) = false := by simp; omega
     simp only [hd,cond_false,Option.bind_some,h0,decide_false,Bool.false_and]
 ·simp only [ge_lenI,cond_false]
 ·cases fstI (markStep xs) 0 xs <;> rfl

theorem t_w57q (b : Int) (xs : List LegT) (a : Int) (hl : xs.length ≤ 1048576) : m_w57q ((b,xs),a) = some (legsA xs a) := by
 show p_w57q FU _ = _
 unfold p_w57q l_w57q_1 legsA
 simp only
 refine lp_for (fun r => r = some (xs.filter fun y => y.1 == a)) (fun i z => z = ((xs.take i).filter fun y => y.1 == a,(i : Int))) xs.length (fun i z hi hz => ?_) (fun z hz rec => ?_) FU _ (FU_gt hl) rfl
 ·subst hz
  have h := List.length_filter_le (fun y : LegT => y.1 == a) (xs.take i)
  simp only [List.length_take] at h
  have hb : Nat.ble ((((xs.take i).filter fun y => y.1 == a).length + [xs[i]].length) * 32) maxBytes = true := ble_mem (by simp only [maxBytes,List.length_singleton]; omega)
  refine .inr ⟨_,rfl,fun rec => ?_⟩
  simp only [lt_lenI hi,cond_true,geti_lt xs i hi,Option.bind_some,wrap_next hi hl,chk_true hb]
  rw [List.take_succ_eq_append_getElem hi,List.filter_append]
  cases hx : (xs[i].1 == a) <;> simp [hx]
 ·subst hz
  simp only [ge_lenI,cond_false,List.take_length]

theorem t_w58q (xs : List MarkT) (c : Int) (hl : xs.length ≤ 1048576) : m_w58q (xs,c) = some (findM xs c) := by
 show p_w58q FU _ = _
 unfold p_w58q l_w58q_1 findM
 simp only
 refine (lp_place xs (fun m => m.1 == c) (fun i => (xs[i]?).map (·.2)) (some (0 : Int)) (by unfold B36; omega) (fun i hi rec hw => ?_) (fun rec => ?_)).trans ?_
 ·simp only [lt_lenI hi,cond_true,geti_lt xs i hi,Option.bind_some,hw,List.getElem?_eq_getElem hi,Option.map_some]
 ·simp only [ge_lenI,cond_false]
 ·rw [find_at]
  cases hf : xs.findIdx? (fun m => m.1 == c) with
  | none => rfl
  | some i =>
   rw [List.findIdx?_eq_some_iff_getElem] at hf
   obtain ⟨h,_⟩ := hf
   simp [List.getElem?_eq_getElem h]

theorem t_w59q (s : ShdT) (c : Int) (hl : s.2.2.2.1.length ≤ 1048576) : m_w59q (s,c) = some (s.2.2.2.1.any fun x => x.1 == c) := by
 show p_w59q FU _ = _
 unfold p_w59q l_w59q_1
 simp only
 generalize s.2.2.2.1 = xs at hl
 refine (lp_hit xs (fun x => x.1 == c) (some true) (some false) (by unfold B36; omega) (fun i hi rec hw => ?_) (fun rec => ?_)).trans ?_
 ·simp only [lt_lenI hi,cond_true,geti_lt xs i hi,Option.bind_some,hw]
 ·simp only [ge_lenI,cond_false]
 ·cases xs.any fun x => x.1 == c <;> rfl

theorem t_w61q (s : ShdT) (hu : upM s.2.2.2.2.1) (h1 : s.2.2.2.2.1.length ≤ 1048576) (h2 : s.2.2.2.2.2.length ≤ 1048576) : m_w61q s = some (appB s) := by
 show p_w61q FU _ = _
 unfold p_w61q appB
 generalize s.2.2.2.2.1 = done at *
 generalize s.2.2.2.2.2 = ap at *
 have e1 : l_w61q_1 FU done ((0 : Int),(0 : Int)) = some (((doneL done).length : Nat) : Int) := by
  unfold l_w61q_1
  refine lp_for (fun r => r = some (((doneL done).length : Nat) : Int)) (fun i z => z = ((((doneL (done.take i)).length : Nat) : Int),(i : Int))) done.length (fun i z hi hz => ?_) (fun z hz rec => ?_) FU _ (FU_gt h1) (by simp [doneL])
  ·subst hz
   have hle : (doneL (done.take i)).length ≤ i := by
    unfold doneL
    rw [List.length_map]
    exact Nat.le_trans (List.length_filter_le _ _) (by rw [List.length_take]; omega)
   have hw : IntKind.wrap .i64 ((((doneL (done.take i)).length : Nat) : Int) + 1) = (((doneL (done.take i)).length + 1 : Nat) : Int) := by rw [wrap64 (by omega) (by omega)]; omega
   have e : doneL (done.take (i + 1)) = doneL (done.take i) ++ cond (done[i].2 == 1) [done[i].1] [] := by
    unfold doneL
    rw [List.take_succ_eq_append_getElem hi,List.filter_append,List.map_append]
    cases h : (done[i].2 == 1) <;> simp [h]
   refine .inr ⟨_,rfl,fun rec => ?_⟩
   rw [e]
   simp only [lt_lenI hi,cond_true,geti_lt done i hi,Option.bind_some,wrap_next hi h1,hw]
   cases (done[i].2 == 1) with
   | true => simp only [cond_true,List.length_append,List.length_singleton]
   | false => simp only [cond_false,List.append_nil]
  ·subst hz
   simp only [ge_lenI,cond_false,List.take_length]
 have e2 : l_w61q_2 FU done ap (0 : Int) = (fstI (fun i a => cond (!(findM done a == 1) || (ap.take i).any fun y => y == a) (some (Sum.inr (α := Unit) false)) none) 0 ap).elim (some (Sum.inl ())) some := by
  unfold l_w61q_2
  refine (lp_fst ap (fun i a => cond (!(findM done a == 1) || (ap.take i).any fun y => y == a) (some (Sum.inr (α := Unit) false)) none) (some (Sum.inl ())) (by unfold B36; omega) (fun i hi rec hw => ?_) (fun rec => ?_)).trans ?_
  ·have hbd : bndB none (some (i : Int)) none ap.length = true := by simp [bndB]; omega
   have hcut : cutL none (some (i : Int)) ap = ap.take i := by simp [cutL]
   simp only [lt_lenI hi,cond_true,geti_lt ap i hi,Option.bind_some,t_w58q done _ h1,hw,chk,hbd,hcut,t_w60q (ap.take i) ap[i] (by rw [List.length_take]; omega)]
   cases (findM done ap[i] == 1) with
   | false => rfl
   | true => cases (ap.take i).any fun y => y == ap[i] <;> rfl
  ·simp only [ge_lenI,cond_false]
  ·cases fstI (fun i a => cond (!(findM done a == 1) || (ap.take i).any fun y => y == a) (some (Sum.inr (α := Unit) false)) none) 0 ap <;> rfl
 rw [e1,e2]
 simp only [Option.bind_some]
 have hiff := app_iff hu ap
 have key : ∀ (ys : List Int) (i : Nat),ap.drop i = ys → (ap.take i).Nodup → (∀ a ∈ ap.take i,findM done a = 1) →
   (∀ r,fstI (fun i a => cond (!(findM done a == 1) || (ap.take i).any fun y => y == a) (some (Sum.inr (α := Unit) false)) none) i ys = some r → r = Sum.inr false ∧ ¬ (ap.Nodup ∧ ∀ a ∈ ap,findM done a = 1)) ∧
   (fstI (fun i a => cond (!(findM done a == 1) || (ap.take i).any fun y => y == a) (some (Sum.inr (α := Unit) false)) none) i ys = none → ap.Nodup ∧ ∀ a ∈ ap,findM done a = 1) := by
  intro ys
  induction ys with
  | nil =>
   intro i hd hn ha
   have : ap.length ≤ i := List.drop_eq_nil_iff.1 hd
   rw [List.take_of_length_le this] at hn ha
   exact ⟨fun r h => by simp [fstI] at h,fun _ => ⟨hn,ha⟩⟩
  | cons y ys ih =>
   intro i hd hn ha
   have hlt : i < ap.length := by
    rcases Nat.lt_or_ge i ap.length with q | q
    ·exact q
    ·rw [List.drop_eq_nil_of_le q] at hd; cases hd
   rw [List.drop_eq_getElem_cons hlt] at hd
   have q1 := (List.cons.inj hd).1
   have q2 := (List.cons.inj hd).2
   subst q1
   simp only [fstI]
   cases hb : (!(findM done ap[i] == 1) || (ap.take i).any fun y => y == ap[i]) with
   | true =>
    simp only [cond_true]
    refine ⟨fun r h => ⟨(Option.some.inj h).symm,?_⟩,fun h => by cases h⟩
    rintro ⟨hnd,hall⟩
    have e1 := hall ap[i] (List.getElem_mem hlt)
    have e2 : (ap.take i).any (fun y => y == ap[i]) = false := by
     rw [List.any_eq_false]
     intro a ha'
     obtain ⟨j,hj,rfl⟩ := List.getElem_of_mem ha'
     rw [List.length_take] at hj
     rw [List.getElem_take]
     simpa using nodup_ne hnd (show j < i by omega) hlt
    rw [e1,e2] at hb
    cases hb
   | false =>
    simp only [cond_false]
    simp only [Bool.or_eq_false_iff,Bool.not_eq_false',beq_iff_eq] at hb
    refine ih (i + 1) q2 ?_ ?_
    ·rw [List.take_succ_eq_append_getElem hlt]
     refine List.nodup_append.2 ⟨hn,by simp,fun a ha b hb' => ?_⟩
     rw [List.mem_singleton] at hb'
     subst hb'
     have := List.any_eq_false.1 hb.2 a ha
     simpa using this
    ·intro a ha'
     rw [List.take_succ_eq_append_getElem hlt] at ha'
     rcases List.mem_append.1 ha' with ha' | ha'
     ·exact ha a ha'
     ·rw [List.mem_singleton] at ha'; subst ha'; exact hb.1
 obtain ⟨k1,k2⟩ := key ap 0 (by rw [List.drop_zero]) (by simp) (fun a h => by cases h)
 cases hf : fstI (fun i a => cond (!(findM done a == 1) || (ap.take i).any fun y => y == a) (some (Sum.inr (α := Unit) false)) none) 0 ap with
 | some r =>
  obtain ⟨rfl,hno⟩ := k1 r hf
  have : decide (sortI ap = doneL done) = false := decide_eq_false (fun h => hno ⟨(hiff.2 h).1,(hiff.2 h).2.1⟩)
  rw [this]; rfl
 | none =>
  obtain ⟨q1,q2⟩ := k2 hf
  simp only [Option.elim_none,Option.bind_some,Sum.elim_inl]
  rw [lenI_eq]
  congr 1
  rw [Bool.eq_iff_iff,beq_iff_eq,decide_eq_true_eq,← hiff]
  constructor
  ·intro h; exact ⟨q1,q2,by omega⟩
  ·rintro ⟨_,_,h⟩; omega

theorem t_w62q (a b : List LegT) (ha : a.length ≤ 1048576) (hb : b.length ≤ 1048576) : m_w62q (a,b) = some (touchL a b) := by
 show p_w62q FU _ = _
 unfold p_w62q l_w62q_2 touchL
 simp only
 refine (lp_hit a (fun l => b.any fun o => (l.2.1 == o.2.1) && (l.2.2.1 == o.2.2.1)) (some true) (some false) (by unfold B36; omega) (fun i hi rec hw => ?_) (fun rec => ?_)).trans ?_
 ·have e : l_w62q_1 FU a b (i : Int) (0 : Int) = some (cond (b.any fun o => (a[i].2.1 == o.2.1) && (a[i].2.2.1 == o.2.2.1)) (Sum.inr true) (Sum.inl ())) := by
   unfold l_w62q_1
   refine (lp_hit b (fun o => (a[i].2.1 == o.2.1) && (a[i].2.2.1 == o.2.2.1)) (some (Sum.inr true)) (some (Sum.inl ())) (by unfold B36; omega) (fun j hj rec hw => ?_) (fun rec => ?_)).trans ?_
   ·simp only [lt_lenI hj,cond_true,geti_lt a i hi,geti_lt b j hj,Option.bind_some,hw]
    cases (a[i].2.1 == b[j].2.1) <;> rfl
   ·simp only [ge_lenI,cond_false]
   ·cases b.any fun o => (a[i].2.1 == o.2.1) && (a[i].2.2.1 == o.2.2.1) <;> rfl
  simp only [lt_lenI hi,cond_true,e,Option.bind_some,hw]
  cases b.any fun o => (a[i].2.1 == o.2.1) && (a[i].2.2.1 == o.2.2.1) <;> rfl
 ·simp only [ge_lenI,cond_false]
 ·cases a.any fun l => b.any fun o => (l.2.1 == o.2.1) && (l.2.2.1 == o.2.2.1) <;> rfl

theorem t_w63q (xs : List BalT) (a b : Int) (hl : xs.length ≤ 1048576) : m_w63q (xs,a,b) = some (hasB xs a b) := by
 show p_w63q FU _ = _
 unfold p_w63q l_w63q_1 hasB
 simp only
 refine (lp_place xs (fun y => (y.1 == a) && (y.2.1 == b)) (fun i => (xs[i]?).map (·.2.2)) (some (0 : Int)) (by unfold B36; omega) (fun i hi rec hw => ?_) (fun rec => ?_)).trans ?_
 ·simp only [lt_lenI hi,cond_true,geti_lt xs i hi,Option.bind_some,hw,List.getElem?_eq_getElem hi,Option.map_some]
  cases (xs[i].1 == a) with
  | false => rfl
  | true => cases (xs[i].2.1 == b) <;> rfl
 ·simp only [ge_lenI,cond_false]
 ·rw [find_at]
  cases hf : xs.findIdx? (fun y => (y.1 == a) && (y.2.1 == b)) with
  | none => rfl
  | some i =>
   rw [List.findIdx?_eq_some_iff_getElem] at hf
   obtain ⟨h,_⟩ := hf
   simp [List.getElem?_eq_getElem h]

theorem t_w64q (xs : List BalT) (ls : List LegT) (hl : xs.length ≤ 1048576) (hs : ls.length ≤ 1048576) : m_w64q (xs,ls) = some (legsB xs ls) := by
 show p_w64q FU _ = _
 unfold p_w64q l_w64q_1 legsB
 simp only
 refine (lp_fst ls (fun _ l => nz (legB xs l)) (some (0 : Int)) (by unfold B36; omega) (fun i hi rec hw => ?_) (fun rec => ?_)).trans ?_
 ·simp only [lt_lenI hi,cond_true,geti_lt ls i hi,Option.bind_some,t_w63q xs _ _ hl,hw,legB,nz]
  cases decide (IntKind.wrap .i64 (hasB xs ls[i].2.1 ls[i].2.2.1 + ls[i].2.2.2) < 0) with
  | true => rfl
  | false => cases decide (IntKind.wrap .i64 (hasB xs ls[i].2.1 ls[i].2.2.1 + ls[i].2.2.2) > 1000000000000) <;> rfl
 ·simp only [ge_lenI,cond_false]
 ·cases fstI (fun _ l => nz (legB xs l)) 0 ls <;> rfl

theorem held_e1 (s : ShdT) (hz : SzS s) : l_w65q_1 FU s.1 s.2.2.1 s.2.2.2.1 s.2.2.2.2.1 (0 : Int) = (fstI (heldStep s) 0 s.2.2.2.1).elim (some (Sum.inl ())) (fun r => some (Sum.inr r)) := by
 obtain ⟨z1,z2,z3,z4,z5,z6⟩ := hz
 have hB : s.2.2.2.1.length ≤ B36 := by unfold B36; omega
 unfold l_w65q_1
 refine (lp_fst s.2.2.2.1 (fun i c => (heldStep s i c).map (Sum.inr (α := Unit))) (some (Sum.inl ())) hB (fun i hi rec hw => ?_) (fun rec => ?_)).trans ?_
 ·have hc := z6 _ (List.getElem_mem hi)
  have hLe : ∀ c : ConT,(lenI (legsA c.2 s.1) == 0) = (legsA c.2 s.1).isEmpty := fun c => by
   rw [lenI_eq]; cases legsA c.2 s.1 with
   | nil => rfl
   | cons a r => rw [List.isEmpty_cons,beq_eq_false_iff_ne,List.length_cons]; omega
  have hL := t_w57q s.2.2.2.1[i].1 s.2.2.2.1[i].2 s.1 hc
  simp only [lt_lenI hi,cond_true,geti_lt _ i hi,Option.bind_some,t_w49q _ hc,hw,heldStep]
  cases hcc : conC s.2.2.2.1[i] == 0 with
  | false => rfl
  | true =>
   simp only [Bool.not_true,cond_false,cond_true]
   have hL' : m_w57q (s.2.2.2.1[i],s.1) = some (legsA s.2.2.2.1[i].2 s.1) := hL
   unfold heldBad
   by_cases h0 : 0 < i
   ·have hd : decide ((i : Int) > 0) = true := by simp; omega
    have hi1 : i - 1 < s.2.2.2.1.length := by omega
    simp only [hd,cond_true,prv (i := i) (by unfold B36; omega) h0,geti_lt _ _ hi1,Option.bind_some,hL',hLe,t_w58q _ _ z2,t_w58q _ _ z4,h0,decide_true,Bool.true_and,List.getElem?_eq_getElem hi1,Option.getD_some]
    cases decide (s.2.2.2.1[i].1 ≤ s.2.2.2.1[i - 1].1) with
    | true => rfl
    | false =>
     cases (legsA s.2.2.2.1[i].2 s.1).isEmpty with
     | true => rfl
     | false =>
      cases (findM s.2.2.1 s.2.2.2.1[i].1 == 1) with
      | false => rfl
      | true => cases (findM s.2.2.2.2.1 s.2.2.2.1[i].1 == 0) <;> rfl
   ·have hd : decide ((i : Int) > 0) = false := by simp; omega
    simp only [hd,cond_false,Option.bind_some,hL',hLe,t_w58q _ _ z2,t_w58q _ _ z4,h0,decide_false,Bool.false_and,Bool.false_or]
    cases (legsA s.2.2.2.1[i].2 s.1).isEmpty with
    | true => rfl
    | false =>
     cases (findM s.2.2.1 s.2.2.2.1[i].1 == 1) with
     | false => rfl
     | true => cases (findM s.2.2.2.2.1 s.2.2.2.1[i].1 == 0) <;> rfl
 ·simp only [ge_lenI,cond_false]
 ·rw [fstI_map]
  cases fstI (heldStep s) 0 s.2.2.2.1 <;> rfl
theorem held_e2 (s : ShdT) (hz : SzS s) : l_w65q_2 FU s (0 : Int) = some (cond (s.2.2.1.any (openB s)) (Sum.inr (1 : Int)) (Sum.inl ())) := by
 obtain ⟨z1,z2,z3,z4,z5,z6⟩ := hz
 have hB : s.2.2.2.1.length ≤ B36 := by unfold B36; omega
 unfold l_w65q_2
 refine (lp_hit s.2.2.1 (openB s) (some (Sum.inr (1 : Int))) (some (Sum.inl ())) (by unfold B36; omega) (fun i hi rec hw => ?_) (fun rec => ?_)).trans ?_
 ·simp only [lt_lenI hi,cond_true,geti_lt _ i hi,Option.bind_some,t_w59q s _ z3,t_w58q _ _ z4,hw,openB]
  cases (s.2.2.1[i].2 == 1) with
  | false => rfl
  | true =>
   cases s.2.2.2.1.any fun x => x.1 == s.2.2.1[i].1 with
   | true => rfl
   | false => rfl
 ·simp only [ge_lenI,cond_false]
 ·cases s.2.2.1.any (openB s) <;> rfl
theorem held_e3 (s : ShdT) (hz : SzS s) : ∀ i,i < s.2.2.2.1.length → ∀ c,s.2.2.2.1[i]? = some c → l_w65q_3 FU (i : Int) s.1 s.2.2.2.1 (0 : Int) = some (cond ((s.2.2.2.1.take i).any fun o => touchL (legsA c.2 s.1) (legsA o.2 s.1)) (Sum.inr (Sum.inr (7 : Int))) (Sum.inl ())) := by
 obtain ⟨z1,z2,z3,z4,z5,z6⟩ := hz
 have hB : s.2.2.2.1.length ≤ B36 := by unfold B36; omega
 intro i hi c hc
 unfold l_w65q_3
 have hlen : (s.2.2.2.1.take i).length = i := by rw [List.length_take]; omega
 have hgc : geti s.2.2.2.1 (i : Int) = some c := by rw [geti_nat,hc]
 have hcl : c.2.length ≤ 1048576 := z6 c (List.mem_of_getElem? hc)
 refine (lp_hit (s.2.2.2.1.take i) (fun o => touchL (legsA c.2 s.1) (legsA o.2 s.1)) (some (Sum.inr (Sum.inr (7 : Int)))) (some (Sum.inl ())) (by rw [hlen]; omega) (fun j hj rec hw => ?_) (fun rec => ?_)).trans ?_
 ·rw [hlen] at hj
  have hd : decide ((j : Int) < (i : Int)) = true := decide_eq_true (by omega)
  have hg : geti s.2.2.2.1 (j : Int) = some s.2.2.2.1[j] := geti_lt _ j (by omega)
  have ht : (s.2.2.2.1.take i)[j]'(by rw [hlen]; exact hj) = s.2.2.2.1[j] := List.getElem_take
  have hjl : s.2.2.2.1[j].2.length ≤ 1048576 := z6 _ (List.getElem_mem (by omega))
  have L1 : m_w57q (c,s.1) = some (legsA c.2 s.1) := t_w57q c.1 c.2 s.1 hcl
  have L2 : m_w57q (s.2.2.2.1[j],s.1) = some (legsA s.2.2.2.1[j].2 s.1) := t_w57q _ _ _ hjl
  simp only [hd,cond_true,hgc,hg,Option.bind_some,L1,L2,t_w62q _ _ (legsA_len hcl _) (legsA_len hjl _),hw,ht]
 ·rw [hlen]
  have hd : decide ((i : Int) < (i : Int)) = false := decide_eq_false (by omega)
  simp only [hd,cond_false]
 ·cases (s.2.2.2.1.take i).any fun o => touchL (legsA c.2 s.1) (legsA o.2 s.1) <;> rfl
theorem held_e4 (s : ShdT) (hz : SzS s) : l_w65q_4 FU s.1 s.2.2.2.1 (0 : Int) = (fstI (meetStep s) 0 s.2.2.2.1).elim (some (Sum.inl ())) (fun r => some (Sum.inr r)) := by
 obtain ⟨z1,z2,z3,z4,z5,z6⟩ := hz
 have hB : s.2.2.2.1.length ≤ B36 := by unfold B36; omega
 unfold l_w65q_4
 refine (lp_fst s.2.2.2.1 (fun i c => (meetStep s i c).map (Sum.inr (α := Unit))) (some (Sum.inl ())) hB (fun i hi rec hw => ?_) (fun rec => ?_)).trans ?_
 ·have := held_e3 s ⟨z1,z2,z3,z4,z5,z6⟩ i hi _ (List.getElem?_eq_getElem hi)
  simp only [lt_lenI hi,cond_true,this,Option.bind_some,hw,meetStep]
  cases (s.2.2.2.1.take i).any fun o => touchL (legsA s.2.2.2.1[i].2 s.1) (legsA o.2 s.1) <;> rfl
 ·simp only [ge_lenI,cond_false]
 ·rw [fstI_map]
  cases fstI (meetStep s) 0 s.2.2.2.1 <;> rfl
theorem held_e5 (s : ShdT) (hz : SzS s) : l_w65q_5 FU s.1 s.2.1 s.2.2.2.1 (0 : Int) = some ((fstI (fun _ c => nz (legsB s.2.1 (legsA c.2 s.1))) 0 s.2.2.2.1).getD 0) := by
 obtain ⟨z1,z2,z3,z4,z5,z6⟩ := hz
 have hB : s.2.2.2.1.length ≤ B36 := by unfold B36; omega
 unfold l_w65q_5
 refine (lp_fst s.2.2.2.1 (fun _ c => nz (legsB s.2.1 (legsA c.2 s.1))) (some (0 : Int)) hB (fun i hi rec hw => ?_) (fun rec => ?_)).trans ?_
 ·have hc := z6 _ (List.getElem_mem hi)
  have L1 : m_w57q (s.2.2.2.1[i],s.1) = some (legsA s.2.2.2.1[i].2 s.1) := t_w57q _ _ _ hc
  simp only [lt_lenI hi,cond_true,geti_lt _ i hi,Option.bind_some,L1,t_w64q _ _ z1 (legsA_len hc _),hw,nz]
  cases (legsB s.2.1 (legsA s.2.2.2.1[i].2 s.1) == 0) <;> rfl
 ·simp only [ge_lenI,cond_false]
 ·cases fstI (fun _ c => nz (legsB s.2.1 (legsA c.2 s.1))) 0 s.2.2.2.1 <;> rfl
theorem t_w65q (s : ShdT) (hz : SzS s) (hu : upM s.2.2.2.2.1) : m_w65q s = some (heldAll s) := by
 show p_w65q FU _ = _
 unfold p_w65q heldAll
 rw [held_e1 s hz]
 have hcz := fst_getD (heldStep_ne s) s.2.2.2.1 0
 unfold heldC
 cases hf : fstI (heldStep s) 0 s.2.2.2.1 with
 | some r =>
  have hr : r ≠ 0 := fun e => by rw [hf,e] at hcz; exact absurd (hcz.1 rfl) (by simp)
  simp only [Option.elim_some,Option.bind_some,Sum.elim_inr,Option.getD_some]
  rw [if_pos hr]
 | none =>
  simp only [Option.elim_none,Option.bind_some,Sum.elim_inl,Option.getD_none,ne_eq,not_true_eq_false,if_false,held_e2 s hz]
  cases s.2.2.1.any (openB s) with
  | true => simp only [cond_true,Sum.elim_inr,Bool.true_or]
  | false =>
   simp only [cond_false,Option.bind_some,Sum.elim_inl,t_w61q s hu hz.2.2.2.1 hz.2.2.2.2.1,Bool.false_or]
   cases appB s with
   | false => simp only [Bool.not_false,cond_true]
   | true =>
    simp only [Bool.not_true,cond_false,held_e4 s hz]
    cases fstI (meetStep s) 0 s.2.2.2.1 with
    | some r => simp only [Option.elim_some,Option.bind_some,Sum.elim_inr,Option.getD_some]
    | none =>
     simp only [Option.elim_none,Option.bind_some,Sum.elim_inl,Option.getD_none]
     rw [held_e5 s hz]

theorem t_w66q (s : ShdT) (hz : SzS s) : m_w66q s = some (shardC s) := by
 show p_w66q FU _ = _
 unfold p_w66q shardC
 simp only [t_w55q,Option.bind_some]
 cases inB s.1 0 2 with
 | false => rfl
 | true =>
  simp only [Bool.not_true,cond_false]
  by_cases hb : balCode s.2.1 = 0
  ·simp only [hb,beq_self_eq_true,Bool.not_true,cond_false,ne_eq,not_true_eq_false,if_false]
   have emany : (cond (decide ((lenI s.2.2.1) > (100 : Int))) (some true) (cond (decide ((lenI s.2.2.2.1) > (100 : Int))) (some true) (cond (decide ((lenI s.2.2.2.2.1) > (100 : Int))) (some true) (some (decide ((lenI s.2.2.2.2.2) > (100 : Int))))))) = some (decide (100 < s.2.2.1.length ∨ 100 < s.2.2.2.1.length ∨ 100 < s.2.2.2.2.1.length ∨ 100 < s.2.2.2.2.2.length)) := by
    by_cases h1 : 100 < s.2.2.1.length
    ·rw [decide_eq_true (show lenI s.2.2.1 > 100 by rw [lenI_eq]; omega),decide_eq_true (show 100 < s.2.2.1.length ∨ 100 < s.2.2.2.1.length ∨ 100 < s.2.2.2.2.1.length ∨ 100 < s.2.2.2.2.2.length from .inl h1)]; rfl
    ·rw [decide_eq_false (show ¬ lenI s.2.2.1 > 100 by rw [lenI_eq]; omega),cond_false]
     by_cases h2 : 100 < s.2.2.2.1.length
     ·rw [decide_eq_true (show lenI s.2.2.2.1 > 100 by rw [lenI_eq]; omega),decide_eq_true (show 100 < s.2.2.1.length ∨ 100 < s.2.2.2.1.length ∨ 100 < s.2.2.2.2.1.length ∨ 100 < s.2.2.2.2.2.length from .inr (.inl h2))]; rfl
     ·rw [decide_eq_false (show ¬ lenI s.2.2.2.1 > 100 by rw [lenI_eq]; omega),cond_false]
      by_cases h3 : 100 < s.2.2.2.2.1.length
      ·rw [decide_eq_true (show lenI s.2.2.2.2.1 > 100 by rw [lenI_eq]; omega),decide_eq_true (show 100 < s.2.2.1.length ∨ 100 < s.2.2.2.1.length ∨ 100 < s.2.2.2.2.1.length ∨ 100 < s.2.2.2.2.2.length from .inr (.inr (.inl h3)))]; rfl
      ·rw [decide_eq_false (show ¬ lenI s.2.2.2.2.1 > 100 by rw [lenI_eq]; omega),cond_false]
       congr 1
       rw [Bool.eq_iff_iff,decide_eq_true_eq,decide_eq_true_eq,lenI_eq]
       omega
   rw [emany]
   simp only [Option.bind_some]
   by_cases hm : 100 < s.2.2.1.length ∨ 100 < s.2.2.2.1.length ∨ 100 < s.2.2.2.2.1.length ∨ 100 < s.2.2.2.2.2.length
   ·rw [decide_eq_true hm,if_pos hm]; rfl
   ·rw [decide_eq_false hm,if_neg hm,cond_false,t_w56q _ hz.2.1,Option.bind_some]
    by_cases hv : markC s.2.2.1 = 0
    ·have hvb : (markC s.2.2.1 == 0) = true := by simpa using hv
     simp only [Bool.not_true,cond_false,hv,beq_self_eq_true,not_true_eq_false,if_false,t_w56q _ hz.2.2.2.1,Option.bind_some]
     by_cases hd : markC s.2.2.2.2.1 = 0
     ·have hdb : (markC s.2.2.2.2.1 == 0) = true := by simpa using hd
      simp only [Bool.not_true,cond_false,hd,beq_self_eq_true,not_true_eq_false,if_false,t_w65q s hz (markC_zero hd).1,Option.bind_some]
     ·have hdb : (markC s.2.2.2.2.1 == 0) = false := by simpa using hd
      rw [hdb,if_pos hd]; rfl
    ·have hvb : (markC s.2.2.1 == 0) = false := by simpa using hv
     rw [hvb,if_pos hv]; rfl
  ·have hbb : (balCode s.2.1 == 0) = false := by simpa using hb
   rw [if_pos hb,hbb]; rfl

theorem pair2_loop (xs ys : List LegT) (hl : xs.length ≤ 1048576) (he : xs.length = ys.length) {step : (Int → Option Bool) → Int → Option Bool}
  (h1 : ∀ (i : Nat) (hi : i < xs.length) (hj : i < ys.length) rec,IntKind.wrap .i64 ((i : Int) + 1) = ((i + 1 : Nat) : Int) → step rec (i : Int) = cond (!(decide (xs[i] = ys[i]))) (some false) (rec ((i + 1 : Nat) : Int)))
  (h2 : ∀ rec,step rec (xs.length : Int) = some true) : lp step FU (0 : Int) = some (decide (xs = ys)) := by
 have key := lp_hit (xs.zip ys) (fun q => !(decide (q.1 = q.2))) (some false) (some true) (step := step) (by rw [List.length_zip]; unfold B36; omega) (fun i hi rec hw => by
  have hi' : i < xs.length ∧ i < ys.length := by rw [List.length_zip] at hi; omega
  rw [h1 i hi'.1 hi'.2 rec hw]
  simp only [List.getElem_zip]) (fun rec => by
  have : (xs.zip ys).length = xs.length := by rw [List.length_zip]; omega
  rw [this]; exact h2 rec)
 rw [key]
 cases ha : (xs.zip ys).any fun q => !(decide (q.1 = q.2)) with
 | true =>
  rw [List.any_eq_true] at ha
  obtain ⟨q,hq,hne⟩ := ha
  have : xs ≠ ys := by
   rintro rfl
   obtain ⟨i,hi,h3⟩ := List.getElem_of_mem hq
   rw [List.getElem_zip] at h3
   rw [← h3] at hne
   simp at hne
  rw [decide_eq_false this]; rfl
 | false =>
  have : xs = ys := by
   refine List.ext_getElem he fun i h3 h4 => ?_
   have hm : (xs[i],ys[i]) ∈ xs.zip ys := by
    have h5 : i < (xs.zip ys).length := by rw [List.length_zip]; omega
    have := List.getElem_mem h5
    rwa [List.getElem_zip] at this
   have := (List.any_eq_false.1 ha) _ hm
   simpa using this
  rw [decide_eq_true this]; rfl
theorem leg_beq (a b : LegT) : ((a.1 == b.1) && ((a.2.1 == b.2.1) && ((a.2.2.1 == b.2.2.1) && ((a.2.2.2 == b.2.2.2) && true)))) = decide (a = b) := by
 obtain ⟨a1,a2,a3,a4⟩ := a
 obtain ⟨b1,b2,b3,b4⟩ := b
 rw [Bool.eq_iff_iff]
 simp only [Bool.and_eq_true,beq_iff_eq,decide_eq_true_eq,Prod.mk.injEq,and_true]
theorem con_dec (x y : ConT) : decide (x = y) = (decide (x.1 = y.1) && decide (x.2 = y.2)) := by
 obtain ⟨a,xs⟩ := x
 obtain ⟨b,ys⟩ := y
 rw [Bool.eq_iff_iff]
 simp only [Bool.and_eq_true,decide_eq_true_eq,Prod.mk.injEq]
theorem t_w69q (x y : ConT) (hl : x.2.length ≤ 1048576) : m_w69q (x,y) = some (decide (x = y)) := by
 show p_w69q FU _ = _
 unfold p_w69q
 rw [con_dec]
 by_cases h1 : x.1 = y.1
 ·by_cases h2 : x.2.length = y.2.length
  ·have e1 : (x.1 == y.1) = true := by simp [h1]
   have e2 : (lenI x.2 == lenI y.2) = true := by rw [lenI_eq,lenI_eq]; simp [h2]
   have e3 : decide (x.1 = y.1) = true := decide_eq_true h1
   simp only [e1,e2,e3,Bool.not_true,cond_false,Option.bind_some,Bool.true_and]
   unfold l_w69q_1
   refine pair2_loop x.2 y.2 hl h2 (fun i hi hj rec hw => ?_) (fun rec => ?_)
   ·simp only [lt_lenI hi,cond_true,geti_lt x.2 i hi,geti_lt y.2 i hj,Option.bind_some,leg_beq,hw]
   ·simp only [ge_lenI,cond_false]
  ·have e1 : (x.1 == y.1) = true := by simp [h1]
   have e2 : (lenI x.2 == lenI y.2) = false := by rw [lenI_eq,lenI_eq]; simp; omega
   have : x.2 ≠ y.2 := fun h => h2 (by rw [h])
   simp only [e1,e2,Bool.not_true,Bool.not_false,cond_true,cond_false,Option.bind_some,decide_eq_false this,Bool.and_false]
 ·have e1 : (x.1 == y.1) = false := by simp [h1]
  simp only [e1,Bool.not_false,cond_true,Option.bind_some,decide_eq_false h1,Bool.false_and]

theorem find_none {c : CluT} {i : Int} (hl : c.1.length ≤ 1048576) (h : conOf c.1 i = none) : m_w67q (c,i) = some (-1) := by rw [t_w67q c i hl,h]; rfl
theorem find_some {c : CluT} {i : Int} {q} (hl : c.1.length ≤ 1048576) (h : conOf c.1 i = some q) : m_w67q (c,i) = some (q.1 : Int) := by rw [t_w67q c i hl,h]; rfl
def sameC (cs : List ConT) (h : ConT) : Bool := (conOf cs h.1).elim false fun q => decide (q.2 = h)
def shdStep (cs : List ConT) (i : Nat) (s : ShdT) : Option Int := cond (shardC s == 0) (cond (s.1 == (i : Int)) (cond ((s.2.2.1 ++ s.2.2.2.2.1).any fun m => !(hasC cs m.1 (i : Int))) (some 1) (cond (s.2.2.2.1.any fun h => !(sameC cs h)) (some 1) none)) (some 1)) (some (shardC s))
theorem shdStep_ne (cs : List ConT) (i : Nat) (s : ShdT) : shdStep cs i s ≠ some 0 := by
 unfold shdStep
 intro h
 cases h0 : (shardC s == 0) with
 | false =>
  rw [h0] at h
  simp only [cond_false,Option.some.injEq] at h
  rw [h] at h0; simp at h0
 | true =>
  rw [h0] at h
  cases h1 : (s.1 == (i : Int)) <;> cases h2 : ((s.2.2.1 ++ s.2.2.2.2.1).any fun m => !(hasC cs m.1 (i : Int))) <;> cases h3 : (s.2.2.2.1.any fun h => !(sameC cs h)) <;> simp [h1,h2,h3] at h
theorem held_nz {s : ShdT} (h : shardC s = 0) : ∀ c ∈ s.2.2.2.1,c.1 ≠ 0 := by
 have h1 := (heldC_zero (shardC_zero h).2.2.2.2.1).1
 intro c hc h0
 have := (conC_zero (h1 c hc).1).1
 rw [h0] at this
 exact absurd this (by decide)
theorem t_w70q (c : CluT) (hl : c.1.length ≤ 1048576) (h2 : ∀ y ∈ c.1,y.2.length ≤ 1048576) (hn : c.2.1.length ≤ 1048576) (hs : ∀ s ∈ c.2.1,SzS s) : m_w70q c = some ((fstI (shdStep c.1) 0 c.2.1).getD 0) := by
 show p_w70q FU _ = _
 unfold p_w70q l_w70q_3
 refine (lp_fst c.2.1 (shdStep c.1) (some 0) (by unfold B36; omega) (fun i hi rec hw => ?_) (fun rec => ?_)).trans ?_
 ·have hz := hs _ (List.getElem_mem hi)
  obtain ⟨z1,z2,z3,z4,z5,z6⟩ := id hz
  have hc := t_w66q c.2.1[i] hz
  simp only [lt_lenI hi,cond_true,geti_lt c.2.1 i hi,Option.bind_some,hc]
  unfold shdStep
  cases h0 : (shardC c.2.1[i] == 0) with
  | false => simp only [Bool.not_false,cond_true,cond_false,Option.bind_some,Sum.elim_inr]
  | true =>
   cases h1 : (c.2.1[i].1 == (i : Int)) with
   | false => simp only [Bool.not_true,Bool.not_false,cond_true,cond_false,Option.bind_some,Sum.elim_inr]
   | true =>
    have hidx : c.2.1[i].1 = (i : Int) := by simpa using h1
    have k1 : Nat.ble (c.2.1[i].2.2.1.length * 16) maxBytes = true := Nat.ble_eq_true_of_le (by unfold maxBytes; omega)
    have k2 : Nat.ble ((c.2.1[i].2.2.1.length + c.2.1[i].2.2.2.2.1.length) * 16) maxBytes = true := Nat.ble_eq_true_of_le (by unfold maxBytes; omega)
    simp only [Bool.not_true,cond_false,k1,k2,chk,cond_true]
    have l1 : l_w70q_1 FU c.2.1[i].1 c.2.1[i].2.2.1 c.2.1[i].2.2.2.2.1 c (0 : Int) = cond ((c.2.1[i].2.2.1 ++ c.2.1[i].2.2.2.2.1).any fun m => !(hasC c.1 m.1 (i : Int))) (some (Sum.inr (Sum.inr (1 : Int)))) (some (Sum.inl ())) := by
     unfold l_w70q_1
     refine lp_hit (c.2.1[i].2.2.1 ++ c.2.1[i].2.2.2.2.1) (fun m => !(hasC c.1 m.1 (i : Int))) _ _ (by rw [List.length_append]; unfold B36; omega) (fun j hj rec hw => ?_) (fun rec => ?_)
     ·simp only [lt_lenI hj,cond_true,geti_lt _ j hj,Option.bind_some,Int.toNat_natCast,List.getElem?_eq_getElem hj,t_w68q c _ _ hl h2,hidx,hw]
     ·simp only [ge_lenI,cond_false]
    have l2 : l_w70q_2 FU c.2.1[i].2.2.2.1 c (0 : Int) = cond (c.2.1[i].2.2.2.1.any fun h => !(sameC c.1 h)) (some (Sum.inr (1 : Int))) (some (Sum.inl ())) := by
     unfold l_w70q_2
     refine lp_hit c.2.1[i].2.2.2.1 (fun h => !(sameC c.1 h)) _ _ (by unfold B36; omega) (fun j hj rec hw => ?_) (fun rec => ?_)
     ·simp only [lt_lenI hj,cond_true,geti_lt _ j hj,Option.bind_some]
      unfold sameC
      cases hf : conOf c.1 (c.2.1[i].2.2.2.1[j]).1 with
      | none =>
       rw [find_none hl hf]
       rfl
      | some q =>
       rw [find_some hl hf]
       obtain ⟨g1,g2,g3,g4⟩ := conOf_le (j := q.1) (y := q.2) hf
       have hd : decide ((q.1 : Int) < 0) = false := decide_eq_false (by omega)
       have hq : c.1[q.1] = q.2 := (List.getElem?_eq_some_iff.1 g2).2
       simp only [Option.bind_some,hd,cond_false,geti_lt c.1 q.1 g1,hq,Option.elim]
       have hsm := t_w69q q.2 c.2.1[i].2.2.2.1[j] (h2 _ g3)
       rw [hsm]
       simp only [Option.bind_some,hw]
     ·simp only [ge_lenI,cond_false]
    rw [l1]
    cases h3 : ((c.2.1[i].2.2.1 ++ c.2.1[i].2.2.2.2.1).any fun m => !(hasC c.1 m.1 (i : Int))) with
    | true => rfl
    | false =>
     simp only [cond_false,Option.bind_some,Sum.elim_inl]
     rw [l2]
     cases h4 : (c.2.1[i].2.2.2.1.any fun h => !(sameC c.1 h)) with
     | true => rfl
     | false => simp only [cond_false,Option.bind_some,Sum.elim_inl,hw]
 ·simp only [ge_lenI,cond_false]
 ·cases fstI (shdStep c.1) 0 c.2.1 <;> rfl

theorem t_w71q (a : Int) : m_w71q a = some (bal a) := by
 show p_w71q FU _ = _
 unfold p_w71q bal
 rw [t_w46q]; rfl

theorem t_w72q (a : Int) : m_w72q a = some (vlu a) := by
 show p_w72q FU _ = _
 unfold p_w72q vlu
 cases h : (a == (1 : Int)) <;> simp

theorem t_w73q : m_w73q () = some (-1,0) := rfl

theorem t_w74q (x : SlotT) (h : x.2.2.2.2.length ≤ 60) : m_w74q x = some (lastV x.2.2.2.2) := by
 obtain ⟨a,b,c,d,xs⟩ := x
 simp only at h
 show p_w74q FU _ = _
 unfold p_w74q lastV
 simp only
 by_cases h0 : xs.length = 0
 ·have : xs = [] := List.eq_nil_of_length_eq_zero h0
  subst this
  rfl
 ·have h1 : (lenI xs == 0) = false := by rw [lenI_eq,beq_eq_false_iff_ne]; omega
  have h2 : IntKind.wrap .i64 (lenI xs - 1) = ((xs.length - 1 : Nat) : Int) := by rw [lenI_eq,wrap64 (by omega) (by omega)]; omega
  have hlt : xs.length - 1 < xs.length := by omega
  simp only [h1,cond_false,h2,geti_lt xs _ hlt,Option.bind_some]
  rw [List.getLast?_eq_getElem?,List.getElem?_eq_getElem hlt]
  rfl

theorem t_w75q (x : SlotT) : m_w75q x = some (slotCode x) := by
 obtain ⟨a,b,c,d,xs⟩ := x
 show p_w75q FU _ = _
 unfold p_w75q slotCode
 simp only [t_w47q,t_w46q,Option.bind_some]
 have e0 : (cond (!idB a) (some true) (cond (!inB b 0 2) (some true) (some (!inB c (-1) 1000)))) = some (!(idB a && (shB b && inB c (-1) 1000))) := by
  unfold shB
  cases idB a <;> cases inB b 0 2 <;> rfl
 rw [e0]
 simp only [Option.bind_some]
 cases (idB a && (shB b && inB c (-1) 1000)) with
 | false => rfl
 | true =>
  simp only [Bool.not_true,cond_false]
  by_cases hl : xs.length > 60
  ·have : decide (lenI xs > 60) = true := by simp [lenI_eq]; omega
   simp [this,hl]
  ·have : decide (lenI xs > 60) = false := by simp [lenI_eq]; omega
   simp only [this,cond_false,if_neg hl]
   have e1 : l_w75q_1 FU xs 0 = match fstI (castF xs) 0 xs with
     | some r => some (Sum.inr r)
     | none => some (Sum.inl ()) := by
    unfold l_w75q_1
    refine (lp_fst xs (fun i v => (castF xs i v).map Sum.inr) (some (Sum.inl ())) (by unfold B36; omega) (fun i hi rec hw => ?_) (fun rec => ?_)).trans ?_
    ·simp only [lt_lenI hi,cond_true,geti_lt xs i hi,Option.bind_some,t_w71q,t_w72q,castF,hw,votB]
     cases bal xs[i].1 with
     | false => rfl
     | true =>
      cases vlu xs[i].2 with
      | false => rfl
      | true =>
       simp only [Bool.not_true,cond_false,Bool.and_self,Option.bind_some]
       by_cases h0 : 0 < i
       ·have hd : decide ((i : Int) > 0) = true := by simp; omega
        have hp := prv (i := i) (by unfold B36; omega) h0
        have hi1 : i - 1 < xs.length := by omega
        simp only [hd,cond_true,hp,geti_lt xs _ hi1,Option.bind_some,h0,decide_true,Bool.true_and,List.getElem?_eq_getElem hi1,Option.getD_some,badP]
        cases decide (xs[i].1 < xs[i - 1].1) <;> cases (xs[i].1 == xs[i - 1].1) <;> cases (xs[i].2 == xs[i - 1].2) <;> rfl
       ·have hd : decide ((i : Int) > 0) = false := by simp; omega
        simp only [hd,cond_false,Option.bind_some,h0,decide_false,Bool.false_and,Option.map_none]
    ·simp only [ge_lenI,cond_false]
    ·have : ∀ (ys : List (Int × Int)) (i : Nat),fstI (R := Unit ⊕ Int) (fun i v => (castF xs i v).map Sum.inr) i ys = (fstI (castF xs) i ys).map Sum.inr := by
      intro ys
      induction ys with
      | nil => intro i; rfl
      | cons y ys ih =>
       intro i
       simp only [fstI]
       cases castF xs i y with
       | some r => rfl
       | none => exact ih (i + 1)
     rw [this]
     cases fstI (castF xs) 0 xs <;> rfl
   rw [e1]
   have hc := cast_all xs
   have nz : ∀ (ys : List (Int × Int)) (i : Nat) r,fstI (castF xs) i ys = some r → r ≠ 0 := by
    intro ys
    induction ys with
    | nil => intro i r h; cases h
    | cons y ys ih =>
     intro i r h
     simp only [fstI] at h
     split at h
     ·rename_i q hq
      simp only [Option.some.injEq] at h
      subst h
      unfold castF at hq
      cases hv : votB y <;> rw [hv] at hq <;> simp only [Bool.not_true,Bool.not_false,cond_true,cond_false,Option.some.injEq] at hq
      ·omega
      ·cases hv2 : (decide (0 < i) && badP (xs[i - 1]?.getD (0,0)) y) <;> rw [hv2] at hq <;> simp only [cond_true,cond_false,Option.some.injEq] at hq
       ·cases hq
       ·omega
     ·exact ih _ _ h
   cases hf : fstI (castF xs) 0 xs with
   | some r =>
    rw [hf] at hc
    simp only at hc
    have hr : r ≠ 0 := nz _ _ _ hf
    rw [← hc]
    simp [hr]
   | none =>
    rw [hf] at hc
    simp only at hc
    rw [← hc]
    simp only [Option.bind_some,Sum.elim_inl,t_w74q (a,b,c,d,xs) (by show xs.length ≤ 60; omega)]
    obtain ⟨d1,d2⟩ := d
    have e2 : (!((d1 == (lastV xs).1) && ((d2 == (lastV xs).2) && true))) = !((d1,d2) == lastV xs) := by
     rw [Bool.and_true]; rfl
    rw [e2]
    cases ((d1,d2) == lastV xs) with
    | false => simp
    | true => by_cases hh : d1 > c <;> simp [hh]

theorem t_w76q (a b : SlotT) : m_w76q (a,b) = some (aheadB a b) := by
 show p_w76q FU _ = _
 unfold p_w76q aheadB
 by_cases h : a.1 = b.1
 ·simp [h]
 ·have hb : (a.1 == b.1) = false := by simp [h]
  simp [hb,h]
theorem t_w77q (xs : List SlotT) : m_w77q xs = some (accCode xs) := by
 show p_w77q FU xs = _
 unfold p_w77q accCode
 by_cases hl : xs.length > 60
 ·have : decide (lenI xs > 60) = true := by simp [lenI_eq]; omega
  rw [this,if_pos hl]; rfl
 ·have : decide (lenI xs > 60) = false := by simp [lenI_eq]; omega
  rw [this,if_neg hl,cond_false]
  unfold l_w77q_1
  refine (lp_fst xs (accStep xs) (some 0) (by unfold B36; omega) (fun i hi rec hw => ?_) (fun rec => ?_)).trans (by cases fstI (accStep xs) 0 xs <;> rfl)
  ·simp only [lt_lenI hi,cond_true,geti_lt xs i hi,Option.bind_some,t_w75q,accStep,hw]
   cases (slotCode xs[i] == 0) with
   | false => rfl
   | true =>
    simp only [Bool.not_true,cond_false]
    by_cases h0 : 0 < i
    ·have hd : decide ((i : Int) > 0) = true := by simp; omega
     have hi1 : i - 1 < xs.length := by omega
     simp only [hd,cond_true,prv (i := i) (by unfold B36; omega) h0,geti_lt xs _ hi1,Option.bind_some,t_w76q,h0,decide_true,Bool.true_and,List.getElem?_eq_getElem hi1,Option.getD_some]
     cases aheadB xs[i - 1] xs[i] <;> rfl
    ·have hd : decide ((i : Int) > 0) = false := by simp; omega
     simp only [hd,cond_false,Option.bind_some,h0,decide_false,Bool.false_and]
  ·simp only [ge_lenI,cond_false]

def acsStep (cs : List ConT) (_ : Nat) (a : List SlotT) : Option Int := cond (accCode a == 0) (cond (a.any fun s => !(hasC cs s.1 s.2.1)) (some 4) none) (some (accCode a))
theorem acsStep_ne (cs : List ConT) (i : Nat) (a : List SlotT) : acsStep cs i a ≠ some 0 := by
 unfold acsStep
 intro h
 cases h0 : (accCode a == 0) with
 | false =>
  rw [h0] at h
  simp only [cond_false,Option.some.injEq] at h
  rw [h] at h0; simp at h0
 | true =>
  rw [h0] at h
  cases h1 : (a.any fun s => !(hasC cs s.1 s.2.1)) <;> simp [h1] at h
theorem accCode_len {a : List SlotT} (h : accCode a = 0) : a.length ≤ 60 := by
 unfold accCode at h
 split at h
 ·exact absurd h (by decide)
 ·omega
theorem t_w78q (c : CluT) (hl : c.1.length ≤ 1048576) (h2 : ∀ y ∈ c.1,y.2.length ≤ 1048576) (hn : c.2.2.1.length ≤ 1048576) : m_w78q c = some ((fstI (acsStep c.1) 0 c.2.2.1).getD 0) := by
 show p_w78q FU _ = _
 unfold p_w78q l_w78q_2
 refine (lp_fst c.2.2.1 (acsStep c.1) (some 0) (by unfold B36; omega) (fun i hi rec hw => ?_) (fun rec => ?_)).trans ?_
 ·have hc := t_w77q c.2.2.1[i]
  simp only [lt_lenI hi,cond_true,geti_lt c.2.2.1 i hi,Option.bind_some,hc]
  unfold acsStep
  cases h0 : (accCode c.2.2.1[i] == 0) with
  | false => simp only [Bool.not_false,cond_true,cond_false,Option.bind_some,Sum.elim_inr]
  | true =>
   have hlen := accCode_len (a := c.2.2.1[i]) (by simpa using h0)
   have l1 : l_w78q_1 FU c (i : Int) (0 : Int) = cond (c.2.2.1[i].any fun s => !(hasC c.1 s.1 s.2.1)) (some (Sum.inr (4 : Int))) (some (Sum.inl ())) := by
    unfold l_w78q_1
    refine lp_hit c.2.2.1[i] (fun s => !(hasC c.1 s.1 s.2.1)) _ _ (by unfold B36; omega) (fun j hj rec hw => ?_) (fun rec => ?_)
    ·simp only [geti_lt c.2.2.1 i hi,Option.bind_some,lt_lenI hj,cond_true,geti_lt _ j hj,t_w68q c _ _ hl h2,hw]
    ·simp only [geti_lt c.2.2.1 i hi,Option.bind_some,ge_lenI,cond_false]
   simp only [Bool.not_true,cond_false,cond_true]
   rw [l1]
   cases c.2.2.1[i].any (fun s => !(hasC c.1 s.1 s.2.1)) with
   | true => rfl
   | false => simp only [cond_false,Option.bind_some,Sum.elim_inl,hw]
 ·simp only [ge_lenI,cond_false]
 ·cases fstI (acsStep c.1) 0 c.2.2.1 <;> rfl

theorem t_w116q (a : Int) : m_w116q a = some (vlu a) := by
 show p_w116q FU _ = _
 unfold p_w116q vlu
 cases (a == 1) <;> rfl

/-- Whom a message goes to, whom it comes from: are they there? (s, a, l: how many shards, acceptors, leaders) -/
def endsB (k to from_ s a l : Int) : Bool := inB to 0 ((if k = 3 ∨ k = 5 then l else if k = 1 ∨ k = 6 then s else a) - 1) && (decide (k < 3) || decide (k > 5) || inB from_ 0 ((if k = 4 then l else a) - 1))
theorem t_w83q (c m) (h1 : c.2.1.length ≤ 1048576) (h2 : c.2.2.1.length ≤ 1048576) (h3 : c.2.2.2.1.length ≤ 1048576) : m_w83q (c,m) = some (endsB m.1 m.2.1 m.2.2.1 c.2.1.length c.2.2.1.length c.2.2.2.1.length) := by
 obtain ⟨k,to,from_,m⟩ := m
 show p_w83q FU _ = _
 unfold p_w83q endsB
 have w1 : IntKind.wrap .i64 ((c.2.1.length : Int) - 1) = (c.2.1.length : Int) - 1 := wrap64 (by omega) (by omega)
 have w2 : IntKind.wrap .i64 ((c.2.2.1.length : Int) - 1) = (c.2.2.1.length : Int) - 1 := wrap64 (by omega) (by omega)
 have w3 : IntKind.wrap .i64 ((c.2.2.2.1.length : Int) - 1) = (c.2.2.2.1.length : Int) - 1 := wrap64 (by omega) (by omega)
 have e1 : (Option.bind (α := Bool) (cond (k == (1 : Int)) (some true) (some (k == (6 : Int)))) fun j2 => (cond j2 (some (lenI c.2.1)) (some (lenI c.2.2.1)))) = some (if k = 1 ∨ k = 6 then (c.2.1.length : Int) else c.2.2.1.length) := by
  by_cases q1 : k = 1
  ·subst q1; rfl
  ·have b1 : (k == 1) = false := by simp [q1]
   by_cases q2 : k = 6
   ·subst q2; rfl
   ·have b2 : (k == 6) = false := by simp [q2]
    simp [b1,b2,q1,q2,lenI_eq]
 simp only [e1,Option.bind_some]
 have e2 : ∀ j3 : Int,(Option.bind (α := Bool) (cond (k == (3 : Int)) (some true) (some (k == (5 : Int)))) fun j5 => (cond j5 (some (lenI c.2.2.2.1)) (some j3))) = some (if k = 3 ∨ k = 5 then (c.2.2.2.1.length : Int) else j3) := by
  intro j3
  by_cases q1 : k = 3
  ·subst q1; rfl
  ·have b1 : (k == 3) = false := by simp [q1]
   by_cases q2 : k = 5
   ·subst q2; rfl
   ·have b2 : (k == 5) = false := by simp [q2]
    simp [b1,b2,q1,q2]
 simp only [e2,Option.bind_some]
 have e3 : (cond (k == (4 : Int)) (some (lenI c.2.2.2.1)) (some (lenI c.2.2.1))) = some (if k = 4 then (c.2.2.2.1.length : Int) else c.2.2.1.length) := by
  by_cases q1 : k = 4
  ·subst q1; rfl
  ·have b1 : (k == 4) = false := by simp [q1]
   simp [b1,q1,lenI_eq]
 simp only [e3,Option.bind_some,t_w46q]
 have w4 : ∀ (n : Int),n = (c.2.1.length : Int) ∨ n = c.2.2.1.length ∨ n = c.2.2.2.1.length → IntKind.wrap .i64 (n - 1) = n - 1 := fun n hn => wrap64 (by omega) (by omega)
 have w5 : IntKind.wrap .i64 ((if k = 3 ∨ k = 5 then (c.2.2.2.1.length : Int) else if k = 1 ∨ k = 6 then (c.2.1.length : Int) else c.2.2.1.length) - 1) = (if k = 3 ∨ k = 5 then (c.2.2.2.1.length : Int) else if k = 1 ∨ k = 6 then (c.2.1.length : Int) else c.2.2.1.length) - 1 := by
  refine w4 _ ?_
  split
  ·exact .inr (.inr rfl)
  ·split
   ·exact .inl rfl
   ·exact .inr (.inl rfl)
 have w6 : IntKind.wrap .i64 ((if k = 4 then (c.2.2.2.1.length : Int) else c.2.2.1.length) - 1) = (if k = 4 then (c.2.2.2.1.length : Int) else c.2.2.1.length) - 1 := by
  refine w4 _ ?_
  split
  ·exact .inr (.inr rfl)
  ·exact .inr (.inl rfl)
 rw [w5,w6]
 cases inB to 0 ((if k = 3 ∨ k = 5 then (c.2.2.2.1.length : Int) else if k = 1 ∨ k = 6 then (c.2.1.length : Int) else c.2.2.1.length) - 1) with
 | false => rfl
 | true =>
  simp only [cond_true,Bool.true_and]
  cases decide (k < 3) with
  | true => rfl
  | false => cases decide (k > 5) <;> rfl

theorem t_place_Shard (i : Int) (xs) (h : xs.length ≤ 1048576) : m_w107q (i,xs) = some (inB i 0 ((xs.length : Int) - 1)) := by
 show p_w107q FU _ = _
 unfold p_w107q
 have e : m_w96q xs = some (xs.length : Int) := rfl
 have w1 : IntKind.wrap .i64 ((xs.length : Int) - 1) = (xs.length : Int) - 1 := wrap64 (by omega) (by omega)
 simp only [e,Option.bind_some,t_w97q,w1]
theorem t_place_Acceptor (i : Int) (xs) (h : xs.length ≤ 1048576) : m_w150q (i,xs) = some (inB i 0 ((xs.length : Int) - 1)) := by
 show p_w150q FU _ = _
 unfold p_w150q
 have e : m_w98q xs = some (xs.length : Int) := rfl
 have w1 : IntKind.wrap .i64 ((xs.length : Int) - 1) = (xs.length : Int) - 1 := wrap64 (by omega) (by omega)
 simp only [e,Option.bind_some,t_w97q,w1]
theorem t_place_Leader (i : Int) (xs) (h : xs.length ≤ 1048576) : m_w160q (i,xs) = some (inB i 0 ((xs.length : Int) - 1)) := by
 show p_w160q FU _ = _
 unfold p_w160q
 have e : m_w159q xs = some (xs.length : Int) := rfl
 have w1 : IntKind.wrap .i64 ((xs.length : Int) - 1) = (xs.length : Int) - 1 := wrap64 (by omega) (by omega)
 simp only [e,Option.bind_some,t_w97q,w1]
def toB (k to s a l : Int) : Bool := inB to 0 ((if k = 1 ∨ k = 6 then s else if k = 2 ∨ k = 4 then a else l) - 1)
def fromB (k fr a l : Int) : Bool := if k = 4 then inB fr 0 (l - 1) else if k = 3 ∨ k = 5 then inB fr 0 (a - 1) else true
theorem t_w161q (c m) (h1 : c.2.1.length ≤ 1048576) (h2 : c.2.2.1.length ≤ 1048576) (h3 : c.2.2.2.1.length ≤ 1048576) : m_w161q (c,m) = some (toB m.1 m.2.1 c.2.1.length c.2.2.1.length c.2.2.2.1.length) := by
 obtain ⟨k,to,m⟩ := m
 show p_w161q FU _ = _
 unfold p_w161q toB
 simp only [t_place_Shard _ _ h1,t_place_Acceptor _ _ h2,t_place_Leader _ _ h3,Option.bind_some]
 by_cases q1 : k = 1
 ·subst q1; rfl
 ·by_cases q6 : k = 6
  ·subst q6; rfl
  ·by_cases q2 : k = 2
   ·subst q2; rfl
   ·by_cases q4 : k = 4
    ·subst q4; rfl
    ·have b1 : (k == 1) = false := by simp [q1]
     have b6 : (k == 6) = false := by simp [q6]
     have b2 : (k == 2) = false := by simp [q2]
     have b4 : (k == 4) = false := by simp [q4]
     simp [b1,b6,b2,b4,q1,q2,q4,q6]
theorem t_w162q (c m) (h2 : c.2.2.1.length ≤ 1048576) (h3 : c.2.2.2.1.length ≤ 1048576) : m_w162q (c,m) = some (fromB m.1 m.2.2.1 c.2.2.1.length c.2.2.2.1.length) := by
 obtain ⟨k,to,fr,m⟩ := m
 show p_w162q FU _ = _
 unfold p_w162q fromB
 simp only [t_place_Acceptor _ _ h2,t_place_Leader _ _ h3,Option.bind_some]
 by_cases q4 : k = 4
 ·subst q4; rfl
 ·by_cases q3 : k = 3
  ·subst q3; rfl
  ·by_cases q5 : k = 5
   ·subst q5; rfl
   ·have b3 : (k == 3) = false := by simp [q3]
    have b5 : (k == 5) = false := by simp [q5]
    have b4 : (k == 4) = false := by simp [q4]
    simp [b3,b4,b5,q3,q4,q5]
theorem ends_to (k to fr s a l : Int) (h : inB k 1 6 = true) : endsB k to fr s a l = (toB k to s a l && fromB k fr a l) := by
 unfold inB at h
 simp only [Bool.and_eq_true,decide_eq_true_eq] at h
 have : k = 1 ∨ k = 2 ∨ k = 3 ∨ k = 4 ∨ k = 5 ∨ k = 6 := by omega
 rcases this with rfl | rfl | rfl | rfl | rfl | rfl <;> simp [endsB,toB,fromB]

theorem t_w135q (c) (i : Int) (hl : c.1.length ≤ 1048576) : m_w135q (c,i) = some ((conOf c.1 i).elim ((0,[]),false) fun q => (q.2,true)) := by
 show p_w135q FU _ = _
 unfold p_w135q
 simp only
 have e1 : l_w135q_1 FU i c.1 0 = match c.1.findIdx? (fun y => y.1 == i) with
   | some j => some (j : Int)
   | none => some (-1) := by
  unfold l_w135q_1
  refine lp_place c.1 (fun y => y.1 == i) (fun j => some (j : Int)) (some (-1)) (by unfold B36; omega) (fun j hj rec hw => ?_) (fun rec => ?_)
  ·simp only [lt_lenI hj,cond_true,geti_lt c.1 j hj,Option.bind_some,hw]
  ·simp only [ge_lenI,cond_false]
 rw [e1]
 unfold conOf
 cases hf : c.1.findIdx? (fun y => y.1 == i) with
 | none => rfl
 | some j =>
  have hj : j < c.1.length := (List.findIdx?_eq_some_iff_getElem.1 hf).1
  have hd : decide ((j : Int) < 0) = false := decide_eq_false (by omega)
  simp only [Option.bind_some,hd,cond_false,geti_lt c.1 j hj,List.getElem?_eq_getElem hj,Option.map_some,Option.elim]

theorem t_w117q (b : Int) (xs : List (Int × Int × Int × Int)) (a : Int) (hl : xs.length ≤ 1048576) : m_w117q ((b,xs),a) = some (xs.filter fun y => y.1 == a) := by
 show p_w117q FU _ = _
 unfold p_w117q l_w117q_1
 simp only
 refine lp_for (fun r => r = some (xs.filter fun y => y.1 == a)) (fun i z => z = ((xs.take i).filter fun y => y.1 == a,(i : Int))) xs.length (fun i z hi hz => ?_) (fun z hz rec => ?_) FU _ (FU_gt hl) rfl
 ·subst hz
  have h := List.length_filter_le (fun y : Int × (Int × (Int × Int)) => y.1 == a) (xs.take i)
  simp only [List.length_take] at h
  have hb : Nat.ble ((((xs.take i).filter fun y => y.1 == a).length + [xs[i]].length) * 32) maxBytes = true := ble_mem (by simp only [maxBytes,List.length_singleton]; omega)
  refine .inr ⟨_,rfl,fun rec => ?_⟩
  simp only [lt_lenI hi,cond_true,geti_lt xs i hi,Option.bind_some,wrap_next hi hl,chk_true hb]
  rw [List.take_succ_eq_append_getElem hi,List.filter_append]
  cases hx : (xs[i].1 == a) <;> simp [hx]
 ·subst hz
  simp only [ge_lenI,cond_false,List.take_length]

theorem legs_any (xs : List LegT) (a : Int) : decide (lenI (xs.filter fun y => y.1 == a) > 0) = legAny xs a := by
 unfold legAny
 rw [Bool.eq_iff_iff]
 simp only [lenI_eq,List.any_eq_true]
 constructor
 ·intro h
  have h1 : (xs.filter fun z => z.1 == a) ≠ [] := by intro e; rw [e] at h; simp at h
  obtain ⟨z,hz⟩ := List.exists_mem_of_ne_nil _ h1
  rw [List.mem_filter] at hz
  exact ⟨z,hz⟩
 ·rintro ⟨z,hz⟩
  have := List.length_pos_of_mem ((List.mem_filter (p := fun z : LegT => z.1 == a)).2 hz)
  exact decide_eq_true (Int.natCast_pos.2 this)
theorem t_w136q (c) (i a : Int) (hl : c.1.length ≤ 1048576) (h2 : ∀ y ∈ c.1,y.2.length ≤ 1048576) : m_w136q (c,i,a) = some (hasC c.1 i a) := by
 show p_w136q FU _ = _
 unfold p_w136q hasC
 simp only [t_w135q c i hl,Option.bind_some]
 cases hf : conOf c.1 i with
 | none => rfl
 | some q =>
  obtain ⟨j,y⟩ := q
  obtain ⟨_,_,hy,_⟩ := conOf_le hf
  have h := t_w117q y.1 y.2 a (h2 y hy)
  simp only [Option.elim,cond_true,h,Option.bind_some,legs_any]

theorem bare_eq (m) (h : inB m.1 1 6 = true) : ∃ r,m_w164q m = some r ∧ m_w84q m = some r := by
 obtain ⟨k,a,b,c,d,e,f,u,v⟩ := m
 unfold inB at h
 simp only [Bool.and_eq_true,decide_eq_true_eq] at h
 have : k = 1 ∨ k = 2 ∨ k = 3 ∨ k = 4 ∨ k = 5 ∨ k = 6 := by omega
 rcases this with rfl | rfl | rfl | rfl | rfl | rfl <;> exact ⟨_,rfl,rfl⟩

theorem t_w140q (a : Int) : m_w140q a = some (bal a) := by
 show p_w140q FU _ = _
 unfold p_w140q bal
 rw [t_w97q]; rfl

theorem t_w115q (a : Int) : m_w115q a = some (vlu a) := by
 show p_w115q FU _ = _
 unfold p_w115q vlu
 cases h : (a == (1 : Int)) <;> simp

theorem t_w141q (a : Int × Int) : m_w141q a = some (votB a) := by
 show p_w141q FU _ = _
 unfold p_w141q votB
 rw [t_w140q,t_w115q]
 cases bal a.1 <;> rfl

theorem t_w143q : m_w143q () = some (-1,0) := rfl

theorem t_w79q (v : Int × Int) : m_w79q v = some (votB v) := by
 show p_w79q FU _ = _
 unfold p_w79q votB
 simp only [t_w71q,t_w72q,Option.bind_some]
 cases bal v.1 <;> rfl
/-- Do a message's numbers lie where they should? -/
def numsB (k bl v : Int) (vt : Int × Int) : Bool := (decide (k < 2) || decide (k > 5) || bal bl) && ((!(k == 2 || k == 3 || k == 6)) || vlu v) && ((!(k == 5)) || (vt.1 == -1 && (vt.2 == 0 && true)) || votB vt)
theorem t_w163q (c m) (hk : inB m.1 1 6 = true) (hl : c.1.length ≤ 1048576) (h2 : ∀ y ∈ c.1,y.2.length ≤ 1048576) : m_w163q (c,m) = some (hasC c.1 m.2.2.2.1 (if m.1 = 1 ∨ m.1 = 6 then m.2.1 else m.2.2.2.2.1) && numsB m.1 m.2.2.2.2.2.1 m.2.2.2.2.2.2.1 m.2.2.2.2.2.2.2) := by
 obtain ⟨k,to,fr,i,sh,bl,v,v1,v2⟩ := m
 unfold inB at hk
 simp only [Bool.and_eq_true,decide_eq_true_eq] at hk
 have hk : k = 1 ∨ k = 2 ∨ k = 3 ∨ k = 4 ∨ k = 5 ∨ k = 6 := by omega
 show p_w163q FU _ = _
 unfold p_w163q
 simp only [t_w136q c _ _ hl h2,t_w116q,t_w140q,t_w115q,t_w143q,t_w141q,Option.bind_some]
 rcases hk with rfl | rfl | rfl | rfl | rfl | rfl
 all_goals
  first
  | (cases hb0 : hasC c.1 i to <;> cases hb3 : vlu v <;> simp [hb0,hb3,numsB]; done)
  | (cases hb : hasC c.1 i sh <;> cases hb2 : bal bl <;> cases hb3 : vlu v <;> cases hb4 : (v1 == -1) <;> cases hb5 : (v2 == 0) <;> cases hb6 : votB (v1,v2) <;> simp [hb,hb2,hb3,hb4,hb5,hb6,numsB])
/-- The code of a message. -/
def msgCode (cs : List ConT) (s a l : Int) (m : Int × (Int × (Int × (Int × Ty85)))) : Int :=
 cond (!(inB m.1 1 6)) 5 (cond (!(endsB m.1 m.2.1 m.2.2.1 s a l)) 3 (cond (!(conOf cs m.2.2.2.1).isSome) 4 (cond (!(hasC cs m.2.2.2.1 (if m.1 = 1 ∨ m.1 = 6 then m.2.1 else m.2.2.2.2.1) && numsB m.1 m.2.2.2.2.2.1 m.2.2.2.2.2.2.1 m.2.2.2.2.2.2.2)) 3 (match m_w164q m with
   | some r => cond (!((m.1 == r.1) && ((m.2.1 == r.2.1) && ((m.2.2.1 == r.2.2.1) && ((m.2.2.2.1 == r.2.2.2.1) && ((m.2.2.2.2.1 == r.2.2.2.2.1) && ((m.2.2.2.2.2.1 == r.2.2.2.2.2.1) && ((m.2.2.2.2.2.2.1 == r.2.2.2.2.2.2.1) && ((m.2.2.2.2.2.2.2.1 == r.2.2.2.2.2.2.2.1) && ((m.2.2.2.2.2.2.2.2 == r.2.2.2.2.2.2.2.2) && true)))))))))) 1 0
   | none => 0))))
theorem t_w165q (c m) (hl : c.1.length ≤ 1048576) (h2 : ∀ y ∈ c.1,y.2.length ≤ 1048576) (l1 : c.2.1.length ≤ 1048576) (l2 : c.2.2.1.length ≤ 1048576) (l3 : c.2.2.2.1.length ≤ 1048576) : m_w165q (c,m) = some (msgCode c.1 c.2.1.length c.2.2.1.length c.2.2.2.1.length m) := by
 show p_w165q FU _ = _
 unfold p_w165q msgCode
 simp only [t_w97q,Option.bind_some]
 cases hk : inB m.1 1 6 with
 | false => rfl
 | true =>
  simp only [Bool.not_true,cond_false,ends_to _ _ _ _ _ _ hk,t_w161q c m l1 l2 l3,t_w162q c m l2 l3,Option.bind_some]
  cases toB m.1 m.2.1 c.2.1.length c.2.2.1.length c.2.2.2.1.length with
  | false => rfl
  | true =>
   cases fromB m.1 m.2.2.1 c.2.2.1.length c.2.2.2.1.length with
   | false => rfl
   | true =>
    simp only [Bool.not_true,cond_false,Option.bind_some,Bool.and_self,t_w135q c _ hl,t_w163q c m hk hl h2]
    cases hf : conOf c.1 m.2.2.2.1 with
    | none => rfl
    | some q =>
     simp only [Option.elim,Option.isSome,Bool.not_true,cond_false]
     cases (hasC c.1 m.2.2.2.1 (if m.1 = 1 ∨ m.1 = 6 then m.2.1 else m.2.2.2.2.1) && numsB m.1 m.2.2.2.2.2.1 m.2.2.2.2.2.2.1 m.2.2.2.2.2.2.2) with
     | false => rfl
     | true =>
      obtain ⟨r,q1,q2⟩ := bare_eq m hk
      simp only [q1,Bool.not_true,cond_false,Option.bind_some]
      cases (!((m.1 == r.1) && ((m.2.1 == r.2.1) && ((m.2.2.1 == r.2.2.1) && ((m.2.2.2.1 == r.2.2.2.1) && ((m.2.2.2.2.1 == r.2.2.2.2.1) && ((m.2.2.2.2.2.1 == r.2.2.2.2.2.1) && ((m.2.2.2.2.2.2.1 == r.2.2.2.2.2.2.1) && ((m.2.2.2.2.2.2.2.1 == r.2.2.2.2.2.2.2.1) && ((m.2.2.2.2.2.2.2.2 == r.2.2.2.2.2.2.2.2) && true)))))))))) <;> rfl
theorem t_w85q (c m) (hl : c.1.length ≤ 1048576) (h2 : ∀ y ∈ c.1,y.2.length ≤ 1048576) (l1 : c.2.1.length ≤ 1048576) (l2 : c.2.2.1.length ≤ 1048576) (l3 : c.2.2.2.1.length ≤ 1048576) : m_w85q (c,m) = some (msgCode c.1 c.2.1.length c.2.2.1.length c.2.2.2.1.length m) := by
 show p_w85q FU _ = _
 unfold p_w85q msgCode
 simp only [t_w46q,Option.bind_some]
 cases hk : inB m.1 1 6 with
 | false => rfl
 | true =>
  simp only [Bool.not_true,cond_false,t_w83q c m l1 l2 l3,Option.bind_some]
  cases endsB m.1 m.2.1 m.2.2.1 c.2.1.length c.2.2.1.length c.2.2.2.1.length with
  | false => rfl
  | true =>
   simp only [Bool.not_true,cond_false,Option.bind_some,t_w67q c _ hl]
   cases hf : conOf c.1 m.2.2.2.1 with
   | none => rfl
   | some q =>
    have hd : decide ((q.1 : Int) < 0) = false := decide_eq_false (by omega)
    simp only [Option.elim,Option.isSome,Bool.not_true,cond_false]
    have e6 : (Option.bind (α := Bool) (cond (m.1 == (1 : Int)) (some true) (some (m.1 == (6 : Int)))) fun j5 => (cond j5 (some m.2.1) (some m.2.2.2.2.1))) = some (if m.1 = 1 ∨ m.1 = 6 then m.2.1 else m.2.2.2.2.1) := by
     by_cases q1 : m.1 = 1
     ·simp [q1]
     ·have b1 : (m.1 == 1) = false := by simp [q1]
      by_cases q2 : m.1 = 6
      ·simp [q2]
      ·have b2 : (m.1 == 6) = false := by simp [q2]
       simp [b1,b2,q1,q2]
    rw [e6]
    simp only [Option.bind_some,t_w68q c _ _ hl h2]
    cases hasC c.1 m.2.2.2.1 (if m.1 = 1 ∨ m.1 = 6 then m.2.1 else m.2.2.2.2.1) with
    | false => rfl
    | true =>
     simp only [Bool.not_true,cond_false,Bool.true_and,t_w71q,t_w72q,t_w73q,t_w79q,Option.bind_some]
     obtain ⟨r,q1,q2⟩ := bare_eq m hk
     rw [q1,q2]
     simp only [Option.bind_some]
     have hk' : m.1 = 1 ∨ m.1 = 2 ∨ m.1 = 3 ∨ m.1 = 4 ∨ m.1 = 5 ∨ m.1 = 6 := by
      unfold inB at hk
      simp only [Bool.and_eq_true,decide_eq_true_eq] at hk
      omega
     generalize ((m.1 == r.1) && ((m.2.1 == r.2.1) && ((m.2.2.1 == r.2.2.1) && ((m.2.2.2.1 == r.2.2.2.1) && ((m.2.2.2.2.1 == r.2.2.2.2.1) && ((m.2.2.2.2.2.1 == r.2.2.2.2.2.1) && ((m.2.2.2.2.2.2.1 == r.2.2.2.2.2.2.1) && ((m.2.2.2.2.2.2.2.1 == r.2.2.2.2.2.2.2.1) && ((m.2.2.2.2.2.2.2.2 == r.2.2.2.2.2.2.2.2) && true))))))))) = Q
     unfold numsB
     rcases hk' with hk' | hk' | hk' | hk' | hk' | hk' <;> rw [hk'] <;> cases bal m.2.2.2.2.2.1 <;> cases vlu m.2.2.2.2.2.2.1 <;> cases votB m.2.2.2.2.2.2.2 <;> cases (m.2.2.2.2.2.2.2.1 == -1) <;> cases (m.2.2.2.2.2.2.2.2 == 0) <;> cases Q <;> rfl

abbrev TryT := Int × (Int × (Int × (Int × ((List Int) × (List (Int × Int))))))
def oldB (v : Int × Int) : Bool := cond (!((v.1 == (-1 : Int)) && ((v.2 == (0 : Int)) && true))) (!(votB v)) false
def dupStep (xs : List Int) (i : Nat) (y : Int) : Option Int := cond ((xs.take i).any fun z => z == y) (some 7) none
/-- A try by itself. -/
def tryC (nA : Int) (t : TryT) : Option Int := cond (!(decide (t.2.2.2.2.1.length = t.2.2.2.2.2.length))) (some 1) (cond ((t.2.2.2.2.1.any fun p => !(inB p 0 (nA - 1))) || t.2.2.2.2.2.any oldB) (some 3) (fstI (dupStep t.2.2.2.2.1) 0 t.2.2.2.2.1))
def ahd2 (a b : TryT) : Bool := aheadB (a.1,(a.2.1,(0,((0,0),[])))) (b.1,(b.2.1,(0,((0,0),[]))))
def tryStep (cs : List ConT) (nA : Int) (ts : List TryT) (i : Nat) (t : TryT) : Option Int :=
 cond (!(hasC cs t.1 t.2.1)) (some 4) (cond (!(inB t.2.2.1 1 1000) || !(inB t.2.2.2.1 0 2)) (some 3) (cond (decide (0 < i) && !(ahd2 (ts[i - 1]?.getD t) t)) (some 1) (tryC nA t)))
theorem fst_dup (xs : List Int) : ∀ (ys : List Int) (i : Nat),fstI (dupStep xs) i ys ≠ some 0
 | [],i,h => by cases h
 | y :: ys,i,h => by
  simp only [fstI] at h
  unfold dupStep at h
  cases hc : ((xs.take i).any fun z => z == y) with
  | true => rw [hc] at h; simp at h
  | false => rw [hc] at h; exact fst_dup xs ys (i + 1) h
theorem tryC_ne (nA : Int) (t : TryT) : tryC nA t ≠ some 0 := by
 unfold tryC
 intro h
 cases h1 : (decide (t.2.2.2.2.1.length = t.2.2.2.2.2.length)) with
 | false => rw [h1] at h; simp at h
 | true =>
  rw [h1] at h
  cases h2 : ((t.2.2.2.2.1.any fun p => !(inB p 0 (nA - 1))) || t.2.2.2.2.2.any oldB) with
  | true => rw [h2] at h; simp at h
  | false => rw [h2] at h; exact fst_dup _ _ _ h
theorem tryStep_ne (cs : List ConT) (nA : Int) (ts : List TryT) (i : Nat) (t : TryT) : tryStep cs nA ts i t ≠ some 0 := by
 unfold tryStep
 intro h
 cases h1 : hasC cs t.1 t.2.1 with
 | false => rw [h1] at h; simp at h
 | true =>
  rw [h1] at h
  cases h2 : (!(inB t.2.2.1 1 1000) || !(inB t.2.2.2.1 0 2)) with
  | true => rw [h2] at h; simp at h
  | false =>
   rw [h2] at h
   cases h3 : (decide (0 < i) && !(ahd2 (ts[i - 1]?.getD t) t)) with
   | true => rw [h3] at h; simp at h
   | false => rw [h3] at h; exact tryC_ne nA t h
theorem zip_any {α β : Type} (p : α → Bool) (q : β → Bool) : ∀ (xs : List α) (ys : List β),xs.length = ys.length → ((xs.zip ys).any fun z => p z.1 || q z.2) = (xs.any p || ys.any q)
 | [],[],_ => rfl
 | [],_ :: _,h => by cases h
 | _ :: _,[],h => by cases h
 | x :: xs,y :: ys,h => by
  have ih := zip_any p q xs ys (by simpa using h)
  simp only [List.zip_cons_cons,List.any_cons,ih]
  cases p x <;> cases q y <;> cases xs.any p <;> rfl
theorem bnd_take {α : Type} (xs : List α) (i : Nat) (h : i ≤ xs.length) : bndB none (some (i : Int)) none xs.length = true := by
 unfold bndB
 simp
 omega
theorem dup_loop (xs : List Int) (hl : xs.length ≤ 1048576) {step : (Int → Option Int) → Int → Option Int}
  (h1 : ∀ (i : Nat) (hi : i < xs.length) rec,IntKind.wrap .i64 ((i : Int) + 1) = ((i + 1 : Nat) : Int) → step rec (i : Int) = cond ((xs.take i).any fun z => z == xs[i]) (some 7) (rec ((i + 1 : Nat) : Int)))
  (h2 : ∀ rec,step rec (xs.length : Int) = some 0) : lp step FU (0 : Int) = some ((fstI (dupStep xs) 0 xs).getD 0) := by
 refine (lp_fst xs (dupStep xs) (some 0) (by unfold B36; omega) (fun i hi rec hw => ?_) h2).trans ?_
 ·rw [h1 i hi rec hw]
  unfold dupStep
  cases (xs.take i).any (fun z => z == xs[i]) <;> rfl
 ·cases fstI (dupStep xs) 0 xs <;> rfl
theorem t_w80q (c : CluT) (hl : c.1.length ≤ 1048576) (h2 : ∀ y ∈ c.1,y.2.length ≤ 1048576) (hn : c.2.2.1.length ≤ 1048576) (ts : List TryT) (hts : ts.length ≤ 1048576) (i : Nat) (hi : i < ts.length) (hf : ts[i].2.2.2.2.1.length ≤ 1048576) :
  m_w80q (c,ts,(i : Int)) = some ((tryStep c.1 c.2.2.1.length ts i ts[i]).getD 0) := by
 show p_w80q FU _ = _
 unfold p_w80q
 simp only [geti_lt ts i hi,Option.bind_some,t_w68q c _ _ hl h2]
 unfold tryStep
 cases hasC c.1 ts[i].1 ts[i].2.1 with
 | false => rfl
 | true =>
  simp only [Bool.not_true,cond_false,t_w46q,Option.bind_some]
  cases inB ts[i].2.2.1 1 1000 with
  | false => rfl
  | true =>
   cases inB ts[i].2.2.2.1 0 2 with
   | false => rfl
   | true =>
    simp only [Bool.not_true,cond_false,Option.bind_some,Bool.or_self]
    have hlen : (!((lenI ts[i].2.2.2.2.1) == (lenI ts[i].2.2.2.2.2))) = !(decide (ts[i].2.2.2.2.1.length = ts[i].2.2.2.2.2.length)) := by
     rw [lenI_eq,lenI_eq]
     congr 1
     rw [Bool.eq_iff_iff]
     simp only [beq_iff_eq,decide_eq_true_eq,Int.natCast_inj]
    have rest : decide (ts[i].2.2.2.2.1.length = ts[i].2.2.2.2.2.length) = true → (Option.bind (l_w80q_1 FU ts[i].2.2.2.2.1 ts[i].2.2.2.2.2 c.2.2.1 (0 : Int)) (Sum.elim (fun j75 => (l_w80q_2 FU ts[i].2.2.2.2.1 (0 : Int))) some)) = some ((tryC c.2.2.1.length ts[i]).getD 0) := by
     intro hd
     have he : ts[i].2.2.2.2.1.length = ts[i].2.2.2.2.2.length := of_decide_eq_true hd
     have w1 : IntKind.wrap .i64 ((lenI c.2.2.1) - 1) = (c.2.2.1.length : Int) - 1 := by rw [lenI_eq]; exact wrap64 (by omega) (by omega)
     have l1 : l_w80q_1 FU ts[i].2.2.2.2.1 ts[i].2.2.2.2.2 c.2.2.1 (0 : Int) = cond ((ts[i].2.2.2.2.1.any fun p => !(inB p 0 ((c.2.2.1.length : Int) - 1))) || ts[i].2.2.2.2.2.any oldB) (some (Sum.inr (3 : Int))) (some (Sum.inl ())) := by
      unfold l_w80q_1
      rw [← zip_any (fun p => !(inB p 0 ((c.2.2.1.length : Int) - 1))) oldB _ _ he]
      have hzl : (ts[i].2.2.2.2.1.zip ts[i].2.2.2.2.2).length = ts[i].2.2.2.2.1.length := by rw [List.length_zip]; omega
      refine lp_hit (ts[i].2.2.2.2.1.zip ts[i].2.2.2.2.2) (fun z => !(inB z.1 0 ((c.2.2.1.length : Int) - 1)) || oldB z.2) _ _ (by rw [hzl]; unfold B36; omega) (fun j hj rec hw => ?_) (fun rec => ?_)
      ·have hj1 : j < ts[i].2.2.2.2.1.length := by omega
       have hj2 : j < ts[i].2.2.2.2.2.length := by omega
       simp only [lt_lenI hj1,cond_true,geti_lt _ j hj1,geti_lt _ j hj2,Option.bind_some,t_w46q,w1,t_w73q,t_w79q,List.getElem_zip,hw]
       unfold oldB
       cases inB ts[i].2.2.2.2.1[j] 0 ((c.2.2.1.length : Int) - 1) with
       | false => rfl
       | true =>
        simp only [Bool.not_true,cond_false,Bool.false_or]
        cases ((ts[i].2.2.2.2.2[j].1 == (-1 : Int)) && ((ts[i].2.2.2.2.2[j].2 == (0 : Int)) && true)) with
        | true => rfl
        | false => cases votB ts[i].2.2.2.2.2[j] <;> rfl
      ·rw [hzl]; simp only [ge_lenI,cond_false]
     have l2 : l_w80q_2 FU ts[i].2.2.2.2.1 (0 : Int) = some ((fstI (dupStep ts[i].2.2.2.2.1) 0 ts[i].2.2.2.2.1).getD 0) := by
      unfold l_w80q_2
      refine dup_loop _ hf (fun j hj rec hw => ?_) (fun rec => ?_)
      ·have hcut : cutL none (some (j : Int)) ts[i].2.2.2.2.1 = ts[i].2.2.2.2.1.take j := by simp [cutL]
       simp only [lt_lenI hj,cond_true,bnd_take _ j (Nat.le_of_lt hj),chk,geti_lt _ j hj,Option.bind_some,hcut,t_w60q _ _ (show (ts[i].2.2.2.2.1.take j).length ≤ 2097152 by rw [List.length_take]; omega),hw]
      ·simp only [ge_lenI,cond_false]
     rw [l1,l2]
     unfold tryC
     rw [hd]
     cases ((ts[i].2.2.2.2.1.any fun p => !(inB p 0 ((c.2.2.1.length : Int) - 1))) || ts[i].2.2.2.2.2.any oldB) <;> rfl
    have fin : ∀ (b : Bool),(cond (b || !(decide (ts[i].2.2.2.2.1.length = ts[i].2.2.2.2.2.length))) (some (1 : Int)) (Option.bind (l_w80q_1 FU ts[i].2.2.2.2.1 ts[i].2.2.2.2.2 c.2.2.1 (0 : Int)) (Sum.elim (fun j75 => (l_w80q_2 FU ts[i].2.2.2.2.1 (0 : Int))) some))) = some ((cond b (some 1) (tryC c.2.2.1.length ts[i])).getD 0) := by
     intro b
     cases b with
     | true => rfl
     | false =>
      cases hd : decide (ts[i].2.2.2.2.1.length = ts[i].2.2.2.2.2.length) with
      | false => unfold tryC; rw [hd]; rfl
      | true => simp only [Bool.false_or,Bool.not_true,cond_false]; exact rest hd
    rcases Nat.eq_zero_or_pos i with h0 | h1
    ·have d1 : decide ((i : Int) > 0) = false := decide_eq_false (by omega)
     have d2 : decide (0 < i) = false := decide_eq_false (by omega)
     have := fin false
     rw [Bool.false_or] at this
     simp only [d1,d2,cond_false,Option.bind_some,Bool.false_and,hlen]
     exact this
    ·have d1 : decide ((i : Int) > 0) = true := decide_eq_true (by omega)
     have d2 : decide (0 < i) = true := decide_eq_true h1
     have hi1 : i - 1 < ts.length := by omega
     simp only [d1,d2,cond_true,prv (show i ≤ B36 by unfold B36; omega) h1,geti_lt ts (i - 1) hi1,Option.bind_some,Bool.true_and,List.getElem?_eq_getElem hi1,Option.getD_some,t_w76q,hlen]
     have := fin (!(ahd2 ts[i - 1] ts[i]))
     have hah : aheadB (ts[i - 1].1,(ts[i - 1].2.1,((0 : Int),(((0 : Int),(0 : Int)),[])))) (ts[i].1,(ts[i].2.1,((0 : Int),(((0 : Int),(0 : Int)),[])))) = ahd2 ts[i - 1] ts[i] := rfl
     rw [hah]
     cases hq : ahd2 ts[i - 1] ts[i] with
     | false => rfl
     | true =>
      rw [hq] at this
      simp only [Bool.not_true,Bool.false_or,cond_false,Option.bind_some] at this ⊢
      exact this

abbrev HrdT := Int × Ty90
def befL (a b : HrdT) : List (Int × Int) := [(a.1,b.1),(a.2.1,b.2.1),(a.2.2.1,b.2.2.1),(a.2.2.2.1,b.2.2.2.1),(a.2.2.2.2,b.2.2.2.2)]
def befS (_ : Nat) (q : Int × Int) : Option Bool := cond (!(q.1 == q.2)) (some (decide (q.1 < q.2))) none
def befB (a b : HrdT) : Bool := (fstI befS 0 (befL a b)).getD false
theorem lp_fstE {α R : Type} (xs : List α) (f : Nat → α → Option R) (fin : Option R) {step : (Int → Option R) → Int → Option R} (hl : xs.length ≤ B36)
  (h1 : ∀ (i : Nat) (hi : i < xs.length) rec,IntKind.wrap .i64 ((i : Int) + 1) = ((i + 1 : Nat) : Int) → step rec (i : Int) = (f i xs[i]).elim (rec ((i + 1 : Nat) : Int)) some)
  (h2 : ∀ rec,step rec (xs.length : Int) = fin) : lp step FU (0 : Int) = (fstI f 0 xs).elim fin some := by
 refine (lp_fst xs f fin hl (fun i hi rec hw => ?_) h2).trans ?_
 ·rw [h1 i hi rec hw]
  cases f i xs[i] <;> rfl
 ·cases fstI f 0 xs <;> rfl
theorem t_w81q (a b : HrdT) : m_w81q (a,b) = some (befB a b) := by
 show p_w81q FU _ = _
 unfold p_w81q l_w81q_1
 refine (lp_fstE (befL a b) befS (some false) (by show 5 ≤ B36; unfold B36; omega) (fun i hi rec hw => ?_) (fun rec => rfl)).trans ?_
 ·have hi5 : i < 5 := hi
  have : i = 0 ∨ i = 1 ∨ i = 2 ∨ i = 3 ∨ i = 4 := by omega
  rw [hw]
  rcases this with rfl | rfl | rfl | rfl | rfl
  ·show cond (!(a.1 == b.1)) (some (decide (a.1 < b.1))) (rec _) = (cond (!(a.1 == b.1)) (some (decide (a.1 < b.1))) none).elim (rec _) some
   cases (a.1 == b.1) <;> rfl
  ·show cond (!(a.2.1 == b.2.1)) (some (decide (a.2.1 < b.2.1))) (rec _) = (cond (!(a.2.1 == b.2.1)) (some (decide (a.2.1 < b.2.1))) none).elim (rec _) some
   cases (a.2.1 == b.2.1) <;> rfl
  ·show cond (!(a.2.2.1 == b.2.2.1)) (some (decide (a.2.2.1 < b.2.2.1))) (rec _) = (cond (!(a.2.2.1 == b.2.2.1)) (some (decide (a.2.2.1 < b.2.2.1))) none).elim (rec _) some
   cases (a.2.2.1 == b.2.2.1) <;> rfl
  ·show cond (!(a.2.2.2.1 == b.2.2.2.1)) (some (decide (a.2.2.2.1 < b.2.2.2.1))) (rec _) = (cond (!(a.2.2.2.1 == b.2.2.2.1)) (some (decide (a.2.2.2.1 < b.2.2.2.1))) none).elim (rec _) some
   cases (a.2.2.2.1 == b.2.2.2.1) <;> rfl
  ·show cond (!(a.2.2.2.2 == b.2.2.2.2)) (some (decide (a.2.2.2.2 < b.2.2.2.2))) (rec _) = (cond (!(a.2.2.2.2 == b.2.2.2.2)) (some (decide (a.2.2.2.2 < b.2.2.2.2))) none).elim (rec _) some
   cases (a.2.2.2.2 == b.2.2.2.2) <;> rfl
 ·unfold befB
  cases fstI befS 0 (befL a b) <;> rfl

abbrev LdrT := Int × ((List TryT) × (List HrdT))
def hrdStep (cs : List ConT) (nA : Int) (ks : List HrdT) (i : Nat) (h : HrdT) : Option Int :=
 cond (!(hasC cs h.1 h.2.1)) (some 4) (cond (!(bal h.2.2.1) || (!(vlu h.2.2.2.1) || !(inB h.2.2.2.2 0 (nA - 1)))) (some 3) (cond (decide (0 < i) && !(befB (ks[i - 1]?.getD h) h)) (some 1) none))
def trsC (cs : List ConT) (nA : Int) (ts : List TryT) : Int := (fstI (tryStep cs nA ts) 0 ts).getD 0
def hrsC (cs : List ConT) (nA : Int) (ks : List HrdT) : Int := (fstI (hrdStep cs nA ks) 0 ks).getD 0
def ldrC (cs : List ConT) (nA : Int) (l : LdrT) : Int := cond (!(inB l.1 0 400)) 3 (cond (decide (60 < l.2.1.length) || decide (300 < l.2.2.length)) 2 (if trsC cs nA l.2.1 = 0 then hrsC cs nA l.2.2 else trsC cs nA l.2.1))
/-- A leader's lists are not greater than what a law lets by. -/
def SzL (l : LdrT) : Prop := ∀ t ∈ l.2.1,t.2.2.2.2.1.length ≤ 1048576 ∧ t.2.2.2.2.2.length ≤ 1048576
theorem hrdStep_ne (cs : List ConT) (nA : Int) (ks : List HrdT) (i : Nat) (h : HrdT) : hrdStep cs nA ks i h ≠ some 0 := by
 unfold hrdStep
 intro q
 cases h1 : hasC cs h.1 h.2.1 with
 | false => rw [h1] at q; simp at q
 | true =>
  rw [h1] at q
  cases h2 : (!(bal h.2.2.1) || (!(vlu h.2.2.2.1) || !(inB h.2.2.2.2 0 (nA - 1)))) with
  | true => rw [h2] at q; simp at q
  | false =>
   rw [h2] at q
   cases h3 : (decide (0 < i) && !(befB (ks[i - 1]?.getD h) h)) with
   | true => rw [h3] at q; simp at q
   | false => rw [h3] at q; simp at q
theorem t_w82q (c : CluT) (hl : c.1.length ≤ 1048576) (h2 : ∀ y ∈ c.1,y.2.length ≤ 1048576) (hn : c.2.2.1.length ≤ 1048576) (hd : c.2.2.2.1.length ≤ 1048576) (hs : ∀ l ∈ c.2.2.2.1,SzL l) : m_w82q c = some ((fstI (fun _ l => nz (ldrC c.1 c.2.2.1.length l)) 0 c.2.2.2.1).getD 0) := by
 show p_w82q FU _ = _
 unfold p_w82q l_w82q_3
 refine (lp_fst c.2.2.2.1 (fun _ l => nz (ldrC c.1 c.2.2.1.length l)) (some 0) (by unfold B36; omega) (fun i hi rec hw => ?_) (fun rec => ?_)).trans ?_
 ·have hz := hs _ (List.getElem_mem hi)
  simp only [lt_lenI hi,cond_true,geti_lt c.2.2.2.1 i hi,Option.bind_some,t_w46q]
  generalize c.2.2.2.1[i] = l at hz
  unfold ldrC
  cases inB l.1 0 400 with
  | false => rfl
  | true =>
   have hlen : (cond (decide ((lenI l.2.1) > (60 : Int))) (some true) (some (decide ((lenI l.2.2) > (300 : Int))))) = some (decide (60 < l.2.1.length) || decide (300 < l.2.2.length)) := by
    have q1 : decide ((lenI l.2.1) > (60 : Int)) = decide (60 < l.2.1.length) := by rw [lenI_eq,Bool.eq_iff_iff]; simp only [decide_eq_true_eq]; omega
    have q2 : decide ((lenI l.2.2) > (300 : Int)) = decide (300 < l.2.2.length) := by rw [lenI_eq,Bool.eq_iff_iff]; simp only [decide_eq_true_eq]; omega
    rw [q1,q2]
    cases decide (60 < l.2.1.length) <;> rfl
   simp only [Bool.not_true,cond_false,hlen,Option.bind_some]
   cases hbig : (decide (60 < l.2.1.length) || decide (300 < l.2.2.length)) with
   | true => rfl
   | false =>
    rw [Bool.or_eq_false_iff] at hbig
    have b1 := of_decide_eq_false hbig.1
    have b2 := of_decide_eq_false hbig.2
    have l1 : l_w82q_1 FU l.2.1 c (0 : Int) = (fstI (fun i t => (tryStep c.1 c.2.2.1.length l.2.1 i t).map fun r => Sum.inr (Sum.inr r)) 0 l.2.1).elim (some (Sum.inl ())) some := by
     unfold l_w82q_1
     refine lp_fstE l.2.1 _ _ (by unfold B36; omega) (fun j hj rec hw => ?_) (fun rec => ?_)
     ·have ht := t_w80q c hl h2 hn l.2.1 (by omega) j hj (hz _ (List.getElem_mem hj)).1
      simp only [lt_lenI hj,cond_true,ht,Option.bind_some,hw]
      have hne := tryStep_ne c.1 c.2.2.1.length l.2.1 j l.2.1[j]
      cases hq : tryStep c.1 c.2.2.1.length l.2.1 j l.2.1[j] with
      | none => rfl
      | some r =>
       have hr0 : (r == 0) = false := by
        rw [beq_eq_false_iff_ne]
        rintro rfl
        exact hne hq
       simp only [Option.getD_some,hr0,Bool.not_false,cond_true,Option.map_some]
       rfl
     ·simp only [ge_lenI,cond_false]
    have l2 : l_w82q_2 FU l.2.2 c (0 : Int) = (fstI (fun i t => (hrdStep c.1 c.2.2.1.length l.2.2 i t).map fun r => Sum.inr r) 0 l.2.2).elim (some (Sum.inl ())) some := by
     unfold l_w82q_2
     refine lp_fstE l.2.2 _ _ (by unfold B36; omega) (fun j hj rec hw => ?_) (fun rec => ?_)
     ·have w1 : IntKind.wrap .i64 ((lenI c.2.2.1) - 1) = (c.2.2.1.length : Int) - 1 := by rw [lenI_eq]; exact wrap64 (by omega) (by omega)
      simp only [lt_lenI hj,cond_true,geti_lt _ j hj,Option.bind_some,t_w68q c _ _ hl h2,w1,t_w46q,t_w71q,t_w72q]
      unfold hrdStep
      cases hasC c.1 l.2.2[j].1 l.2.2[j].2.1 with
      | false => rfl
      | true =>
       simp only [Bool.not_true,cond_false]
       cases bal l.2.2[j].2.2.1 with
       | false => rfl
       | true =>
        cases vlu l.2.2[j].2.2.2.1 with
        | false => rfl
        | true =>
         cases inB l.2.2[j].2.2.2.2 0 ((c.2.2.1.length : Int) - 1) with
         | false => rfl
         | true =>
          simp only [Bool.not_true,cond_false,Option.bind_some,Bool.or_self]
          rcases Nat.eq_zero_or_pos j with h0 | h1
          ·have d1 : decide ((j : Int) > 0) = false := decide_eq_false (by omega)
           have d2 : decide (0 < j) = false := decide_eq_false (by omega)
           simp only [d1,d2,cond_false,Option.bind_some,Bool.false_and,hw]
           rfl
          ·have d1 : decide ((j : Int) > 0) = true := decide_eq_true (by omega)
           have d2 : decide (0 < j) = true := decide_eq_true h1
           have hi1 : j - 1 < l.2.2.length := by omega
           simp only [d1,d2,cond_true,prv (show j ≤ B36 by unfold B36; omega) h1,geti_lt l.2.2 (j - 1) hi1,Option.bind_some,Bool.true_and,List.getElem?_eq_getElem hi1,Option.getD_some,t_w81q,hw]
           cases befB l.2.2[j - 1] l.2.2[j] <;> rfl
     ·simp only [ge_lenI,cond_false]
    have fmap : ∀ {α β γ : Type} (f : Nat → α → Option β) (g : β → γ) (xs : List α) (i : Nat),fstI (fun i x => (f i x).map g) i xs = (fstI f i xs).map g := by
     intro α β γ f g xs
     induction xs with
     | nil => intro i; rfl
     | cons x xs ih =>
      intro i
      simp only [fstI]
      cases f i x with
      | none => exact ih (i + 1)
      | some r => rfl
    rw [fmap] at l1 l2
    simp only [cond_false]
    rw [l1]
    have hnt : fstI (tryStep c.1 c.2.2.1.length l.2.1) 0 l.2.1 ≠ some 0 := by
     intro h
     have key : ∀ (ys : List TryT) (i : Nat),fstI (tryStep c.1 c.2.2.1.length l.2.1) i ys ≠ some 0 := by
      intro ys
      induction ys with
      | nil => intro i h; cases h
      | cons y ys ih =>
       intro i h
       simp only [fstI] at h
       cases hq : tryStep c.1 c.2.2.1.length l.2.1 i y with
       | none => rw [hq] at h; exact ih _ h
       | some r => rw [hq] at h; exact tryStep_ne _ _ _ _ _ (hq.trans h)
     exact key _ _ h
    have hnh : fstI (hrdStep c.1 c.2.2.1.length l.2.2) 0 l.2.2 ≠ some 0 := by
     intro h
     have key : ∀ (ys : List HrdT) (i : Nat),fstI (hrdStep c.1 c.2.2.1.length l.2.2) i ys ≠ some 0 := by
      intro ys
      induction ys with
      | nil => intro i h; cases h
      | cons y ys ih =>
       intro i h
       simp only [fstI] at h
       cases hq : hrdStep c.1 c.2.2.1.length l.2.2 i y with
       | none => rw [hq] at h; exact ih _ h
       | some r => rw [hq] at h; exact hrdStep_ne _ _ _ _ _ (hq.trans h)
     exact key _ _ h
    unfold trsC hrsC nz
    cases ht : fstI (tryStep c.1 c.2.2.1.length l.2.1) 0 l.2.1 with
    | some r =>
     have hr : r ≠ 0 := by rintro rfl; exact hnt ht
     have hr0 : (r == 0) = false := by rw [beq_eq_false_iff_ne]; exact hr
     simp only [Option.map_some,Option.elim,Option.bind_some,Sum.elim_inr,Option.getD_some,if_neg hr,hr0,cond_false]
    | none =>
     simp only [Option.map_none,Option.elim,Option.bind_some,Sum.elim_inl,Option.getD_none,if_pos]
     rw [l2]
     cases hh : fstI (hrdStep c.1 c.2.2.1.length l.2.2) 0 l.2.2 with
     | some r =>
      have hr : r ≠ 0 := by rintro rfl; exact hnh hh
      have hr0 : (r == 0) = false := by rw [beq_eq_false_iff_ne]; exact hr
      simp only [Option.map_some,Option.elim,Option.bind_some,Sum.elim_inr,Option.getD_some,hr0,cond_false]
     | none =>
      simp only [Option.map_none,Option.elim,Option.bind_some,Sum.elim_inl,Option.getD_none,hw]
      rfl
 ·simp only [ge_lenI,cond_false]
 ·cases fstI (fun _ l => nz (ldrC c.1 c.2.2.1.length l)) 0 c.2.2.2.1 <;> rfl

/-- A cluster's lists are not greater than what a law lets by. -/
structure SzC (c : CluT) : Prop where
 l1 : c.1.length ≤ 1048576
 l2 : ∀ y ∈ c.1,y.2.length ≤ 1048576
 l3 : c.2.1.length ≤ 1048576
 l4 : ∀ s ∈ c.2.1,SzS s
 l5 : c.2.2.1.length ≤ 1048576
 l6 : c.2.2.2.1.length ≤ 1048576
 l7 : ∀ l ∈ c.2.2.2.1,SzL l
 l8 : c.2.2.2.2.length ≤ 1048576
def bigC (c : CluT) : Bool := decide (20 < c.1.length) || (!(inB c.2.1.length 1 3) || (!(inB c.2.2.1.length 1 5) || (!(decide (c.2.2.2.1.length = 2)) || decide (200 < c.2.2.2.2.length))))
def orZ (a b : Int) : Int := cond (!(a == 0)) a b
def msgsC (c : CluT) : Int := (fstI (fun _ m => nz (msgCode c.1 c.2.1.length c.2.2.1.length c.2.2.2.1.length m)) 0 c.2.2.2.2).getD 0
/-- The code of a cluster. -/
def cluC (c : CluT) : Int := cond (bigC c) 2 (orZ (consC c.1 c.2.1.length) (orZ ((fstI (shdStep c.1) 0 c.2.1).getD 0) (orZ (orZ ((fstI (acsStep c.1) 0 c.2.2.1).getD 0) ((fstI (fun _ l => nz (ldrC c.1 c.2.2.1.length l)) 0 c.2.2.2.1).getD 0)) (msgsC c))))
theorem orZ_assoc (a b c : Int) : orZ (orZ a b) c = orZ a (orZ b c) := by
 unfold orZ
 cases h : (a == 0) with
 | true => rfl
 | false =>
  simp only [Bool.not_false,cond_true,h]
theorem nz_loop {α : Type} (xs : List α) (f : α → Int) (hl : xs.length ≤ 1048576) {step : (Int → Option Int) → Int → Option Int}
  (h1 : ∀ (i : Nat) (hi : i < xs.length) rec,IntKind.wrap .i64 ((i : Int) + 1) = ((i + 1 : Nat) : Int) → step rec (i : Int) = cond (!(f xs[i] == 0)) (some (f xs[i])) (rec ((i + 1 : Nat) : Int)))
  (h2 : ∀ rec,step rec (xs.length : Int) = some 0) : lp step FU (0 : Int) = some ((fstI (fun _ x => nz (f x)) 0 xs).getD 0) := by
 refine (lp_fst xs (fun _ x => nz (f x)) (some 0) (by unfold B36; omega) (fun i hi rec hw => ?_) h2).trans ?_
 ·rw [h1 i hi rec hw]
  unfold nz
  cases (f xs[i] == 0) <;> rfl
 ·cases fstI (fun _ x => nz (f x)) 0 xs <;> rfl
theorem len_in (n : Nat) (b : Int) (_ : 1 ≤ b) : (cond (decide ((n : Int) < 1)) (some true) (some (decide ((n : Int) > b)))) = some (!(inB n 1 b)) := by
 unfold inB
 by_cases h1 : (n : Int) < 1
 ·rw [decide_eq_true h1,decide_eq_false (show ¬ (1 : Int) ≤ n by omega)]; rfl
 ·rw [decide_eq_false h1,decide_eq_true (show (1 : Int) ≤ n by omega)]
  simp only [cond_false,Bool.true_and]
  congr 1
  rw [Bool.eq_iff_iff]
  simp only [decide_eq_true_eq,Bool.not_eq_true',decide_eq_false_iff_not]
  omega
theorem t_w86q (c : CluT) (hz : SzC c) : m_w86q c = some (cluC c) := by
 obtain ⟨l1,l2,l3,l4,l5,l6,l7,l8⟩ := hz
 show p_w86q FU _ = _
 unfold p_w86q
 have big : (cond (decide ((lenI c.1) > (20 : Int))) (some true) (cond (decide ((lenI c.2.1) < (1 : Int))) (some true) (cond (decide ((lenI c.2.1) > (3 : Int))) (some true) (cond (decide ((lenI c.2.2.1) < (1 : Int))) (some true) (cond (decide ((lenI c.2.2.1) > (5 : Int))) (some true) (cond (!((lenI c.2.2.2.1) == (2 : Int))) (some true) (some (decide ((lenI c.2.2.2.2) > (200 : Int)))))))))) = some (bigC c) := by
  unfold bigC
  have q1 : decide ((lenI c.1) > (20 : Int)) = decide (20 < c.1.length) := by rw [lenI_eq,Bool.eq_iff_iff]; simp only [decide_eq_true_eq]; omega
  have q2 := len_in c.2.1.length 3 (by omega)
  have q3 := len_in c.2.2.1.length 5 (by omega)
  have q4 : ((lenI c.2.2.2.1) == (2 : Int)) = decide (c.2.2.2.1.length = 2) := by rw [lenI_eq,Bool.eq_iff_iff]; simp only [beq_iff_eq,decide_eq_true_eq]; omega
  have q5 : decide ((lenI c.2.2.2.2) > (200 : Int)) = decide (200 < c.2.2.2.2.length) := by rw [lenI_eq,Bool.eq_iff_iff]; simp only [decide_eq_true_eq]; omega
  rw [q1,q4,q5]
  rw [lenI_eq,lenI_eq]
  cases decide (20 < c.1.length) with
  | true => rfl
  | false =>
   simp only [cond_false,Bool.false_or]
   cases h2 : inB c.2.1.length 1 3 with
   | false =>
    rw [h2] at q2
    cases ha : decide ((c.2.1.length : Int) < 1) with
    | true => rfl
    | false => rw [ha] at q2; simp only [cond_false,Option.some.injEq] at q2; rw [q2]; rfl
   | true =>
    rw [h2] at q2
    cases ha : decide ((c.2.1.length : Int) < 1) with
    | true => rw [ha] at q2; simp at q2
    | false =>
     rw [ha] at q2; simp only [cond_false,Option.some.injEq] at q2; rw [q2]
     simp only [Bool.not_true,cond_false,Bool.false_or]
     cases h3 : inB c.2.2.1.length 1 5 with
     | false =>
      rw [h3] at q3
      cases ha : decide ((c.2.2.1.length : Int) < 1) with
      | true => rfl
      | false => rw [ha] at q3; simp only [cond_false,Option.some.injEq] at q3; rw [q3]; rfl
     | true =>
      rw [h3] at q3
      cases ha : decide ((c.2.2.1.length : Int) < 1) with
      | true => rw [ha] at q3; simp at q3
      | false =>
       rw [ha] at q3; simp only [cond_false,Option.some.injEq] at q3; rw [q3]
       simp only [Bool.not_true,cond_false,Bool.false_or]
       cases decide (c.2.2.2.1.length = 2) <;> rfl
 have lm : l_w86q_1 FU c (0 : Int) = some (msgsC c) := by
  unfold l_w86q_1 msgsC
  refine nz_loop c.2.2.2.2 (msgCode c.1 c.2.1.length c.2.2.1.length c.2.2.2.1.length) l8 (fun i hi rec hw => ?_) (fun rec => ?_)
  ·simp only [lt_lenI hi,cond_true,geti_lt _ i hi,Option.bind_some,t_w85q c _ l1 l2 l3 l5 l6,hw]
  ·simp only [ge_lenI,cond_false]
 rw [big,lm]
 simp only [Option.bind_some,t_w52q c l1 l2,t_w70q c l1 l2 l3 l4,t_w78q c l1 l2 l5,t_w82q c l1 l2 l5 l6 l7]
 unfold cluC
 rw [orZ_assoc]
 unfold orZ
 cases bigC c with
 | true => rfl
 | false =>
  simp only [cond_false]
  cases (consC c.1 c.2.1.length == 0) with
  | false => rfl
  | true =>
   cases ((fstI (shdStep c.1) 0 c.2.1).getD 0 == 0) with
   | false => rfl
   | true =>
    cases ((fstI (acsStep c.1) 0 c.2.2.1).getD 0 == 0) with
    | false => rfl
    | true => cases ((fstI (fun _ l => nz (ldrC c.1 c.2.2.1.length l)) 0 c.2.2.2.1).getD 0 == 0) <;> rfl

theorem t_w88q (x : SlotT) (h : x.2.2.2.2.length ≤ 1048576) : m_w88q x = some x := by
 show p_w88q FU _ = _
 unfold p_w88q
 have hb : Nat.ble ((([] : List (Int × Int)).length + x.2.2.2.2.length) * 16) maxBytes = true := ble_mem (by simp only [List.length_nil,maxBytes]; omega)
 rw [chk_true hb]
 rfl

theorem t_w89q (xs : List SlotT) (hl : xs.length ≤ 1048576) (hc : ∀ x ∈ xs,x.2.2.2.2.length ≤ 1048576) : m_w89q xs = some xs := by
 show p_w89q FU _ = _
 unfold p_w89q l_w89q_1
 refine (grow_loop2 64 (by omega) xs m_w88q id (fun x hx => t_w88q x (hc x hx)) hl).trans ?_
 rw [List.map_id]

theorem t_w90q (xs : List (List SlotT)) (hl : xs.length ≤ 1048576) (h : ∀ x ∈ xs,accCode x = 0) : m_w90q xs = some xs := by
 show p_w90q FU _ = _
 unfold p_w90q l_w90q_1
 have hc : ∀ x ∈ xs,m_w89q x = some (id x) := fun x hx => by
  have hz := accCode_zero (h x hx)
  exact t_w89q x (by have := hz.1; omega) (fun y hy => by have := (slotCode_zero (hz.2.1 y hy)).2.1; omega)
 refine (grow_loop 24 (by omega) xs m_w89q id hc hl).trans ?_
 rw [List.map_id]

theorem t_w91q (c : ConT) (h : c.2.length ≤ 1048576) : m_w91q c = some c := by
 show p_w91q FU _ = _
 unfold p_w91q
 have hb : Nat.ble (c.2.length * 32) maxBytes = true := ble_mem (by simp only [maxBytes]; omega)
 rw [chk_true hb]

theorem spec_copy_1 (a : Int) (b : List BalT) (v : List MarkT) (r : List MarkT × List Int) (xs : List ConT) (hl : xs.length ≤ 1048576) (hc : ∀ c ∈ xs,c.2.length ≤ 1048576) : l_w92q_1 FU xs ((0 : Int),(a,(b,(v,([],r))))) = some (a,(b,(v,(xs,r)))) := by
 unfold l_w92q_1
 refine Eq.trans (lp_foldI xs (fun (s : List ConT) c => s ++ [c]) (fun i (s : List ConT) => ((i : Int),(a,(b,(v,(s,r)))))) (fun s => some (a,(b,(v,(s,r))))) (fun i s => s.length = i) (by unfold B36; omega) [] rfl (fun i hi s hI => ⟨by simp [hI],fun rec => ?_⟩) (fun s hI rec => ?_)).1 ?_
 ·have c3 : Nat.ble ((s.length + [xs[i]].length) * 32) maxBytes = true := by rw [Nat.ble_eq]; simp only [List.length_cons,List.length_nil,maxBytes]; omega
  simp only [lt_lenI hi,cond_true,geti_lt xs i hi,Option.bind_some,t_w91q _ (hc _ (List.getElem_mem hi)),chk,c3,wrap_next hi hl]
 ·simp only [ge_lenI,cond_false]
 ·have : ∀ (ys zs : List ConT),ys.foldl (fun (s : List ConT) c => s ++ [c]) zs = zs ++ ys := by
   intro ys
   induction ys with
   | nil => intro zs; simp
   | cons y ys ih => intro zs; rw [List.foldl_cons,ih]; simp
  rw [this]; rfl
theorem t_w92q (s : ShdT) (hz : SzS s) : m_w92q s = some s := by
 obtain ⟨z1,z2,z3,z4,z5,z6⟩ := hz
 show p_w92q FU _ = _
 unfold p_w92q
 have b1 : Nat.ble (s.2.1.length * 24) maxBytes = true := ble_mem (by simp only [maxBytes]; omega)
 have b2 : Nat.ble (s.2.2.1.length * 16) maxBytes = true := ble_mem (by simp only [maxBytes]; omega)
 have b3 : Nat.ble (s.2.2.2.2.1.length * 16) maxBytes = true := ble_mem (by simp only [maxBytes]; omega)
 have b4 : Nat.ble (s.2.2.2.2.2.length * 8) maxBytes = true := ble_mem (by simp only [maxBytes]; omega)
 have e := spec_copy_1 s.1 s.2.1 s.2.2.1 s.2.2.2.2 s.2.2.2.1 z3 z6
 simp only [chk_true,b1,b2,b3,b4,e,same_self,dup_eq]

theorem app_loop {α X R : Type} (xs : List α) (enc : Nat → List α → X) (fin : List α → Option R) {step : (X → Option R) → X → Option R} (hl : xs.length ≤ B36)
  (h1 : ∀ (i : Nat) (hi : i < xs.length) (s : List α),s.length = i → ∀ rec,step rec (enc i s) = rec (enc (i + 1) (s ++ [xs[i]])))
  (h2 : ∀ (s : List α),s.length = xs.length → ∀ rec,step rec (enc xs.length s) = fin s) : lp step FU (enc 0 []) = fin xs := by
 have key := (lp_foldI xs (fun (s : List α) c => s ++ [c]) enc fin (fun i s => s.length = i) hl [] rfl (fun i hi s hI => ⟨by simp [hI],h1 i hi s hI⟩) (fun s hI => h2 s hI)).1
 rw [key]
 have : ∀ (ys zs : List α),ys.foldl (fun (s : List α) c => s ++ [c]) zs = zs ++ ys := by
  intro ys
  induction ys with
  | nil => intro zs; simp
  | cons y ys ih => intro zs; rw [List.foldl_cons,ih]; simp
 rw [this]; rfl
theorem orZ_zero {a b : Int} (h : orZ a b = 0) : a = 0 ∧ b = 0 := by
 unfold orZ at h
 cases ha : (a == 0) with
 | true => rw [ha] at h; exact ⟨by simpa using ha,h⟩
 | false =>
  rw [ha] at h
  simp only [Bool.not_false,cond_true] at h
  rw [h] at ha; simp at ha
theorem fst_zero {α : Type} (f : Nat → α → Option Int) (hf : ∀ i x,f i x ≠ some 0) (xs : List α) (h : (fstI f 0 xs).getD 0 = 0) : ∀ (j : Nat) (hj : j < xs.length),f j xs[j] = none :=
 fun j hj => fst_none ((fst_getD hf xs 0).1 h) j hj
structure OkC (c : CluT) : Prop where
 big : bigC c = false
 con : consC c.1 c.2.1.length = 0
 shd : ∀ (j : Nat) (hj : j < c.2.1.length),shdStep c.1 j c.2.1[j] = none
 acs : ∀ (j : Nat) (hj : j < c.2.2.1.length),acsStep c.1 j c.2.2.1[j] = none
 ldr : ∀ (j : Nat) (hj : j < c.2.2.2.1.length),ldrC c.1 c.2.2.1.length c.2.2.2.1[j] = 0
 msg : ∀ (j : Nat) (hj : j < c.2.2.2.2.length),msgCode c.1 c.2.1.length c.2.2.1.length c.2.2.2.1.length c.2.2.2.2[j] = 0
theorem nz_none {r : Int} (h : nz r = none) : r = 0 := by
 unfold nz at h
 cases hr : (r == 0) with
 | true => simpa using hr
 | false => rw [hr] at h; cases h
theorem cluC_zero {c : CluT} (h : cluC c = 0) : OkC c := by
 unfold cluC at h
 cases hb : bigC c with
 | true => rw [hb] at h; exact absurd (show (2 : Int) = 0 from h) (by decide)
 | false =>
  rw [hb] at h
  simp only [cond_false] at h
  obtain ⟨h1,h⟩ := orZ_zero h
  obtain ⟨h2,h⟩ := orZ_zero h
  obtain ⟨h3,h6⟩ := orZ_zero h
  obtain ⟨h4,h5⟩ := orZ_zero h3
  exact ⟨hb,h1,fst_zero _ (shdStep_ne c.1) _ h2,fst_zero _ (acsStep_ne c.1) _ h4,fun j hj => nz_none (fst_zero _ (fun _ x => nz_ne _) _ h5 j hj),fun j hj => nz_none (fst_zero _ (fun _ x => nz_ne _) _ h6 j hj)⟩
theorem OkC.acc {c : CluT} (h : OkC c) : ∀ a ∈ c.2.2.1,accCode a = 0 := by
 intro a ha
 obtain ⟨j,hj,rfl⟩ := List.getElem_of_mem ha
 have := h.acs j hj
 unfold acsStep at this
 cases h0 : (accCode c.2.2.1[j] == 0) with
 | true => simpa using h0
 | false => rw [h0] at this; cases this
theorem OkC.lens {c : CluT} (h : OkC c) : c.1.length ≤ 20 ∧ (1 ≤ c.2.1.length ∧ c.2.1.length ≤ 3) ∧ (1 ≤ c.2.2.1.length ∧ c.2.2.1.length ≤ 5) ∧ c.2.2.2.1.length = 2 ∧ c.2.2.2.2.length ≤ 200 := by
 have hb := h.big
 unfold bigC inB at hb
 simp only [Bool.or_eq_false_iff,decide_eq_false_iff_not,Bool.not_eq_false',Bool.and_eq_true,decide_eq_true_eq] at hb
 omega
theorem OkC.lead {c : CluT} (h : OkC c) : ∀ l ∈ c.2.2.2.1,l.2.1.length ≤ 60 ∧ l.2.2.length ≤ 300 := by
 intro l hl
 obtain ⟨j,hj,rfl⟩ := List.getElem_of_mem hl
 have := h.ldr j hj
 unfold ldrC at this
 cases h0 : inB c.2.2.2.1[j].1 0 400 with
 | false => rw [h0] at this; exact absurd (show (3 : Int) = 0 from this) (by decide)
 | true =>
  rw [h0] at this
  simp only [Bool.not_true,cond_false] at this
  cases hb : (decide (60 < c.2.2.2.1[j].2.1.length) || decide (300 < c.2.2.2.1[j].2.2.length)) with
  | true => rw [hb] at this; exact absurd (show (2 : Int) = 0 from this) (by decide)
  | false =>
   rw [Bool.or_eq_false_iff] at hb
   have b1 := of_decide_eq_false hb.1
   have b2 := of_decide_eq_false hb.2
   omega
theorem t_w93q (l : LdrT) (h1 : l.2.1.length ≤ 1048576) (h2 : l.2.2.length ≤ 1048576) (hz : SzL l) : m_w93q l = some l := by
 show p_w93q FU _ = _
 unfold p_w93q
 rw [dup_eq]
 have hb : Nat.ble (l.2.2.length * 40) maxBytes = true := Nat.ble_eq_true_of_le (by unfold maxBytes; omega)
 simp only [chk,hb,cond_true]
 unfold l_w93q_1
 refine app_loop l.2.1 (fun i (s : List TryT) => ((i : Int),(l.1,(s,l.2.2)))) (fun s => some (l.1,(s,l.2.2))) (by unfold B36; omega) (fun i hi s hI rec => ?_) (fun s hI rec => ?_)
 ·obtain ⟨z1,z2⟩ := hz _ (List.getElem_mem hi)
  have k1 : Nat.ble ((([] : List Int).length + l.2.1[i].2.2.2.2.1.length) * 8) maxBytes = true := Nat.ble_eq_true_of_le (by simp only [List.length_nil,maxBytes]; omega)
  have k2 : Nat.ble ((([] : List (Int × Int)).length + l.2.1[i].2.2.2.2.2.length) * 16) maxBytes = true := Nat.ble_eq_true_of_le (by simp only [List.length_nil,maxBytes]; omega)
  have k3 : Nat.ble ((s.length + ([(l.2.1[i].1,(l.2.1[i].2.1,(l.2.1[i].2.2.1,(l.2.1[i].2.2.2.1,((([] : List Int) ++ l.2.1[i].2.2.2.2.1),(([] : List (Int × Int)) ++ l.2.1[i].2.2.2.2.2))))))] : List TryT).length) * 80) maxBytes = true := Nat.ble_eq_true_of_le (by simp only [List.length_cons,List.length_nil,maxBytes]; omega)
  simp only [lt_lenI hi,cond_true,geti_lt l.2.1 i hi,Option.bind_some,k1,k2,k3,chk,wrap_next hi h1]
  rfl
 ·simp only [ge_lenI,cond_false]
theorem t_w94q (c : CluT) (hz : SzC c) (hk : OkC c) : m_w94q c = some c := by
 obtain ⟨l1,l2,l3,l4,l5,l6,l7,l8⟩ := hz
 show p_w94q FU _ = _
 unfold p_w94q
 simp only [dup_eq,same_self]
 have hb : Nat.ble (c.2.2.2.2.length * 72) maxBytes = true := Nat.ble_eq_true_of_le (by unfold maxBytes; omega)
 simp only [t_w90q _ l5 hk.acc,Option.bind_some,chk,hb,cond_true]
 have e1 : l_w94q_1 FU c.1 ((0 : Int),([],([],(c.2.2.1,([],c.2.2.2.2))))) = some (c.1,([],(c.2.2.1,([],c.2.2.2.2)))) := by
  unfold l_w94q_1
  refine app_loop c.1 (fun i (s : List ConT) => ((i : Int),(s,(([] : List ShdT),(c.2.2.1,(([] : List LdrT),c.2.2.2.2)))))) (fun s => some (s,([],(c.2.2.1,([],c.2.2.2.2))))) (by unfold B36; omega) (fun i hi s hI rec => ?_) (fun s hI rec => ?_)
  ·have k1 : Nat.ble ((s.length + [c.1[i]].length) * 32) maxBytes = true := Nat.ble_eq_true_of_le (by simp only [List.length_cons,List.length_nil,maxBytes]; omega)
   simp only [lt_lenI hi,cond_true,geti_lt c.1 i hi,Option.bind_some,t_w91q _ (l2 _ (List.getElem_mem hi)),k1,chk,wrap_next hi l1]
  ·simp only [ge_lenI,cond_false]
 have e2 : l_w94q_2 FU c.2.1 ((0 : Int),(c.1,([],(c.2.2.1,([],c.2.2.2.2))))) = some (c.1,(c.2.1,(c.2.2.1,([],c.2.2.2.2)))) := by
  unfold l_w94q_2
  refine app_loop c.2.1 (fun i (s : List ShdT) => ((i : Int),(c.1,(s,(c.2.2.1,(([] : List LdrT),c.2.2.2.2)))))) (fun s => some (c.1,(s,(c.2.2.1,([],c.2.2.2.2))))) (by unfold B36; omega) (fun i hi s hI rec => ?_) (fun s hI rec => ?_)
  ·have k1 : Nat.ble ((s.length + [c.2.1[i]].length) * 128) maxBytes = true := Nat.ble_eq_true_of_le (by simp only [List.length_cons,List.length_nil,maxBytes]; omega)
   have hc := t_w92q c.2.1[i] (l4 _ (List.getElem_mem hi))
   simp only [lt_lenI hi,cond_true,geti_lt c.2.1 i hi,Option.bind_some,hc,k1,chk,wrap_next hi l3]
  ·simp only [ge_lenI,cond_false]
 have e3 : l_w94q_3 FU c.2.2.2.1 ((0 : Int),(c.1,(c.2.1,(c.2.2.1,([],c.2.2.2.2))))) = some (c.1,(c.2.1,(c.2.2.1,(c.2.2.2.1,c.2.2.2.2)))) := by
  unfold l_w94q_3
  refine app_loop c.2.2.2.1 (fun i (s : List LdrT) => ((i : Int),(c.1,(c.2.1,(c.2.2.1,(s,c.2.2.2.2)))))) (fun s => some (c.1,(c.2.1,(c.2.2.1,(s,c.2.2.2.2))))) (by unfold B36; omega) (fun i hi s hI rec => ?_) (fun s hI rec => ?_)
  ·have k1 : Nat.ble ((s.length + [c.2.2.2.1[i]].length) * 56) maxBytes = true := Nat.ble_eq_true_of_le (by simp only [List.length_cons,List.length_nil,maxBytes]; omega)
   obtain ⟨q1,q2⟩ := hk.lead _ (List.getElem_mem hi)
   have hc := t_w93q c.2.2.2.1[i] (by omega) (by omega) (l7 _ (List.getElem_mem hi))
   simp only [lt_lenI hi,cond_true,geti_lt c.2.2.2.1 i hi,Option.bind_some,hc,k1,chk,wrap_next hi l6]
  ·simp only [ge_lenI,cond_false]
 rw [e1]
 simp only [Option.bind_some]
 rw [e2]
 simp only [Option.bind_some]
 rw [e3]

def empC : CluT := ([],([],([],([],[]))))
def crashC (c : CluT) (l : Int) : Int × CluT := cond (!(cluC c == 0)) (cluC c,empC) (cond (!(inB l 0 1)) (3,empC) (0,(c.1,(c.2.1,(c.2.2.1,(c.2.2.2.1.set l.toNat (((c.2.2.2.1[l.toNat]?).getD (0,([],[]))).1,([],[])),c.2.2.2.2))))))
theorem lead_at {c : CluT} (hk : OkC c) {l : Int} (hl : inB l 0 1 = true) : ∃ (h : l.toNat < c.2.2.2.1.length),geti c.2.2.2.1 l = some c.2.2.2.1[l.toNat] := by
 unfold inB at hl
 simp only [Bool.and_eq_true,decide_eq_true_eq] at hl
 have := hk.lens.2.2.2.1
 have hlt : l.toNat < c.2.2.2.1.length := by omega
 refine ⟨hlt,?_⟩
 have := geti_lt c.2.2.2.1 l.toNat hlt
 rwa [Int.toNat_of_nonneg hl.1] at this
theorem t_w95q (c : CluT) (l : Int) (hz : SzC c) : m_w95q (c,l) = some (crashC c l) := by
 show p_w95q FU _ = _
 unfold p_w95q crashC
 have hf := t_w86q c hz
 have hbad : ∀ k,m_w87q k = some (k,empC) := fun k => rfl
 simp only [hf,Option.bind_some,hbad]
 cases h0 : (cluC c == 0) with
 | false => rfl
 | true =>
  have hk := cluC_zero (by simpa using h0)
  simp only [Bool.not_true,cond_false,t_w46q,Option.bind_some]
  cases hl : inB l 0 1 with
  | false => rfl
  | true =>
   obtain ⟨hlt,hg⟩ := lead_at hk hl
   simp only [Bool.not_true,cond_false,t_w94q c hz hk,Option.bind_some,hg,List.getElem?_eq_getElem hlt,Option.getD_some]

theorem t_w99q (a : Int) : m_w99q a = some (idB a) := by
 show p_w99q FU _ = _
 unfold p_w99q idB
 rw [t_w97q]; rfl

theorem t_w100q (xs : List LegT) : m_w100q xs = some (lenI xs) := rfl

theorem t_w101q (a : Int) : m_w101q a = some (shB a) := by
 show p_w101q FU _ = _
 unfold p_w101q shB
 rw [t_w97q]; rfl

theorem t_w104q (l : LegT) : m_w104q l = some (legC l) := by
 show p_w104q FU _ = _
 unfold p_w104q legC
 simp only [t_w101q,t_w103q,t_w97q,Option.bind_some]
 unfold shB
 cases inB l.1 0 2 with
 | false => rfl
 | true =>
  cases plB l.2.1 l.2.2.1 with
  | false => rfl
  | true =>
   cases inB l.2.2.2 (-1000000000000) 1000000000000 with
   | false => rfl
   | true => cases h : (l.2.2.2 == 0) <;> simp [h]

theorem t_w105q (a b : LegT) : m_w105q (a,b) = some (sameP a b) := by
 show p_w105q FU _ = _
 unfold p_w105q sameP
 simp only
 cases (a.1 == b.1) with
 | false => rfl
 | true => cases (a.2.1 == b.2.1) <;> rfl

def mapA : List LegT → List (Int × Int) := fun xs => xs.foldl (fun m l => mupd (.int .i64) m l.2.2.1 (mlook (.int .i64) m l.2.2.1 + l.2.2.2)) []
theorem mapA_snoc (xs : List LegT) (l : LegT) : mapA (xs ++ [l]) = mupd (.int .i64) (mapA xs) l.2.2.1 (mlook (.int .i64) (mapA xs) l.2.2.1 + l.2.2.2) := by
 unfold mapA; rw [List.foldl_append]; rfl
theorem mapA_ok : ∀ (n : Nat) (xs : List LegT),xs.length = n → ((mapA xs).map (·.1)).Nodup ∧ (∀ a,mlook (.int .i64) (mapA xs) a = sumA xs a) ∧ ∀ a,a ∈ (mapA xs).map (·.1) → ∃ l ∈ xs,l.2.2.1 = a
 | 0,xs,h => by
  have : xs = [] := List.length_eq_zero_iff.1 h
  subst this
  exact ⟨List.nodup_nil,fun a => rfl,fun a h => by cases h⟩
 | n + 1,xs,h => by
  obtain ⟨ys,l,rfl⟩ : ∃ ys l,xs = ys ++ [l] := ⟨xs.dropLast,xs.getLast (by intro e; rw [e] at h; cases h),(List.dropLast_concat_getLast _).symm⟩
  obtain ⟨h1,h2,h3⟩ := mapA_ok n ys (by simpa using h)
  rw [mapA_snoc]
  obtain ⟨k1,k2⟩ := mupd_keys (mapA ys) l.2.2.1 (mlook (.int .i64) (mapA ys) l.2.2.1 + l.2.2.2) h1
  refine ⟨k1,fun a => ?_,fun a ha => ?_⟩
  ·rw [mlook_upd,h2,h2,sumA_snoc]
   by_cases e : a = l.2.2.1
   ·subst e
    simp
   ·have e1 : (a == l.2.2.1) = false := by simpa using e
    have e2 : (l.2.2.1 == a) = false := by rw [beq_eq_false_iff_ne]; exact fun h => e h.symm
    rw [e1,e2]; simp
  ·rcases (k2 a).1 ha with q | q
   ·obtain ⟨x,hx,e⟩ := h3 a q
    exact ⟨x,List.mem_append_left _ hx,e⟩
   ·exact ⟨l,by simp,q.symm⟩
theorem mapA_len (xs : List LegT) : (mapA xs).length ≤ xs.length := by
 have key : ∀ (ys : List LegT) (m : List (Int × Int)),(ys.foldl (fun m l => mupd (.int .i64) m l.2.2.1 (mlook (.int .i64) m l.2.2.1 + l.2.2.2)) m).length ≤ m.length + ys.length := by
  intro ys
  induction ys with
  | nil => intro m; simp
  | cons y ys ih =>
   intro m
   rw [List.foldl_cons]
   have h1 := ih (mupd (.int .i64) m y.2.2.1 (mlook (.int .i64) m y.2.2.1 + y.2.2.2))
   have h2 : (mupd (.int .i64) m y.2.2.1 (mlook (.int .i64) m y.2.2.1 + y.2.2.2)).length ≤ m.length + 1 := by
    unfold mupd
    split
    ·unfold mset; rw [List.length_modify]; omega
    ·rw [List.length_append,List.length_singleton]; omega
   rw [List.length_cons]; omega
 simpa [mapA] using key xs []
theorem t_impl_CF_1 (xs : List LegT) (i : Nat) (hi : i < xs.length) (hl : xs.length ≤ 8) (l : LegT) : ∃ j : Int,l_w106q_1 FU (i : Int) xs l (0 : Int) = some j ∧ decide (j ≥ 0) = (xs.take i).any fun o => sameP o l := by
 have hcut : cutL none (some (i : Int)) xs = xs.take i := by simp [cutL]
 have e : l_w106q_1 FU (i : Int) xs l (0 : Int) = ((xs.take i).findIdx? fun o => sameP o l).elim (some (-1)) (fun j => some (j : Int)) := by
  unfold l_w106q_1
  rw [hcut]
  have hlen : (xs.take i).length ≤ 8 := by rw [List.length_take]; omega
  refine (lp_place (xs.take i) (fun o => sameP o l) (fun j => some (j : Int)) (some (-1 : Int)) (by unfold B36; omega) (fun j hj rec hw => ?_) (fun rec => ?_)).trans ?_
  ·simp only [lt_lenI hj,cond_true,geti_lt _ j hj,Option.bind_some,t_w105q,hw]
  ·simp only [ge_lenI,cond_false]
  ·cases (xs.take i).findIdx? fun o => sameP o l <;> rfl
 cases hf : (xs.take i).findIdx? fun o => sameP o l with
 | none =>
  refine ⟨-1,by rw [e,hf]; rfl,?_⟩
  have : (xs.take i).any (fun o => sameP o l) = false := by
   rw [List.findIdx?_eq_none_iff] at hf
   rw [List.any_eq_false]
   intro s hs
   simpa using hf s hs
  rw [this]; rfl
 | some j =>
  refine ⟨(j : Int),by rw [e,hf]; rfl,?_⟩
  have : (xs.take i).any (fun o => sameP o l) = true := by
   rw [List.findIdx?_eq_some_iff_getElem] at hf
   obtain ⟨h,h1,_⟩ := hf
   rw [List.any_eq_true]
   exact ⟨_,List.getElem_mem h,h1⟩
  rw [this]
  exact decide_eq_true (by omega)
theorem t_w106q (c : ConT) (hl : c.2.length ≤ 1048576) : m_w106q c = some (conC c) := by
 obtain ⟨id,xs⟩ := c
 show p_w106q FU _ = _
 unfold p_w106q conC
 simp only [t_w99q,t_w100q,t_w97q,Option.bind_some]
 cases idB id with
 | false => rfl
 | true =>
  simp only [Bool.not_true,cond_false]
  by_cases hn : xs.length < 2 ∨ 8 < xs.length
  ·have : inB (lenI xs) 2 8 = false := by
    unfold inB; rw [lenI_eq]
    rcases hn with h | h
    ·rw [decide_eq_false (show ¬ (2 : Int) ≤ (xs.length : Int) by omega)]; rfl
    ·rw [decide_eq_false (show ¬ (xs.length : Int) ≤ 8 by omega),Bool.and_false]
   simp only [this,Bool.not_false,cond_true,if_pos hn]
  ·have : inB (lenI xs) 2 8 = true := by
    unfold inB; rw [lenI_eq,decide_eq_true (show (2 : Int) ≤ (xs.length : Int) by omega),decide_eq_true (show (xs.length : Int) ≤ 8 by omega)]; rfl
   simp only [this,Bool.not_true,cond_false,if_neg hn]
   have h8 : xs.length ≤ 8 := by omega
   have e1 : l_w106q_2 FU xs ((0 : Int),([] : List (Int × Int))) = (fstI (legStep xs) 0 xs).elim (some (Sum.inl (mapA xs))) (fun r => some (Sum.inr r)) := by
    unfold l_w106q_2
    refine (lp_fstS xs (fun i l => (legStep xs i l).map (Sum.inr (α := List (Int × Int)))) (fun i => ((i : Int),mapA (xs.take i))) (some (Sum.inl (mapA xs))) (fun i => ∀ l ∈ xs.take i,legC l = 0) (by unfold B36; omega) (fun l h => by cases h) (fun i hi hall => ⟨fun rec => ?_,fun hq l hl => ?_⟩) (fun _ rec => ?_)).trans ?_
    ·have hw := wrap_next hi (Nat.le_trans h8 (by omega))
     have hbd : bndB none (some (i : Int)) none xs.length = true := by simp [bndB]; omega
     obtain ⟨j,ej,hj⟩ := t_impl_CF_1 xs i hi h8 xs[i]
     simp only [lt_lenI hi,cond_true,geti_lt xs i hi,Option.bind_some,t_w104q,legStep,hw]
     cases hc : legC xs[i] == 0 with
     | false => rfl
     | true =>
      simp only [Bool.not_true,cond_false,cond_true,chk,hbd,ej,Option.bind_some,hj]
      cases (xs.take i).any fun o => sameP o xs[i] with
      | true => rfl
      | false =>
       have hz := legC_zero (by simpa using hc : legC xs[i] = 0)
       have hb := sumA_bnd (xs.take i) xs[i].2.2.1 (fun l hl => (legC_zero (hall l hl)).2.2.2.1)
       have hlt : (xs.take i).length ≤ 7 := by rw [List.length_take]; omega
       have hm := (mapA_ok _ (xs.take i) rfl).2.1 xs[i].2.2.1
       have hwr : IntKind.wrap .i64 (mlook (.int .i64) (mapA (xs.take i)) xs[i].2.2.1 + xs[i].2.2.2) = mlook (.int .i64) (mapA (xs.take i)) xs[i].2.2.1 + xs[i].2.2.2 := by
        rw [hm]
        have := hz.2.2.2.1
        exact wrap64 (by omega) (by omega)
       rw [List.take_succ_eq_append_getElem hi,mapA_snoc]
       simp only [cond_false,hwr,Option.map_none,Option.elim_none]
    ·rw [List.take_succ_eq_append_getElem hi] at hl
     rcases List.mem_append.1 hl with hl | hl
     ·exact hall l hl
     ·rw [List.mem_singleton] at hl
      subst hl
      cases hs : legStep xs i xs[i] with
      | some r => rw [hs] at hq; cases hq
      | none =>
       unfold legStep at hs
       cases hc : legC xs[i] == 0 with
       | true => simpa using hc
       | false => rw [hc] at hs; cases hs
    ·simp only [ge_lenI,cond_false,List.take_length]
    ·rw [fstI_map]
     cases fstI (legStep xs) 0 xs <;> rfl
   rw [e1]
   cases hf : fstI (legStep xs) 0 xs with
   | some r => rfl
   | none =>
    have hall := fst_ok xs 0 hf
    obtain ⟨k1,k2,k3⟩ := mapA_ok _ xs rfl
    have hml := mapA_len xs
    simp only [Option.elim_none,Option.bind_some,Sum.elim_inl]
    have e2 : l_w106q_3 FU (mapA xs) (lenI (mapA xs),([] : List Int)) = some (cond ((mapA xs).any fun p => !(p.2 == 0)) 1 0) := by
     unfold l_w106q_3
     refine draw_any (m := mapA xs) (fun p => !(p.2 == 0)) 1 0 (by unfold B36; omega) (fun rec seen => ?_)
     have hlc : (((mapA xs).length : Int) == lenI (mapA xs)) = true := by rw [lenI_eq]; simp
     simp only [chk,hlc,cond_true,List.getLast?_concat,Option.bind_some]
     congr 1
     funext j
     cases geti (mapA xs) j <;> rfl
    rw [e2]
    have : ((mapA xs).any fun p => !(p.2 == 0)) = !decide (sumA xs 0 = 0 ∧ sumA xs 1 = 0 ∧ sumA xs 2 = 0) := by
     rw [Bool.eq_iff_iff]
     simp only [List.any_eq_true,Bool.not_eq_true',beq_eq_false_iff_ne,decide_eq_false_iff_not]
     constructor
     ·rintro ⟨p,hp,hne⟩ ⟨q0,q1,q2⟩
      have hlk := mlook_mem (mapA xs) k1 p hp
      rw [k2] at hlk
      obtain ⟨l,hl,ha⟩ := k3 p.1 (List.mem_map.2 ⟨p,hp,rfl⟩)
      have hz := (legC_zero (hall l hl)).2.2.1
      rcases (by omega : p.1 = 0 ∨ p.1 = 1 ∨ p.1 = 2) with e | e | e
      ·rw [e] at hlk; omega
      ·rw [e] at hlk; omega
      ·rw [e] at hlk; omega
     ·intro hne
      have : ∃ a,sumA xs a ≠ 0 := by
       by_cases q0 : sumA xs 0 = 0
       ·by_cases q1 : sumA xs 1 = 0
        ·by_cases q2 : sumA xs 2 = 0
         ·exact absurd ⟨q0,q1,q2⟩ hne
         ·exact ⟨2,q2⟩
        ·exact ⟨1,q1⟩
       ·exact ⟨0,q0⟩
      obtain ⟨a,ha⟩ := this
      have hk : a ∈ (mapA xs).map (·.1) := by
       by_cases h : a ∈ (mapA xs).map (·.1)
       ·exact h
       ·have := mlook_none (mapA xs) a h
        rw [k2] at this
        exact absurd this ha
      obtain ⟨p,hp,e⟩ := List.mem_map.1 hk
      refine ⟨p,hp,?_⟩
      have hlk := mlook_mem (mapA xs) k1 p hp
      rw [k2,e] at hlk
      rw [← hlk]; exact ha
    rw [this]
    by_cases q : sumA xs 0 = 0 ∧ sumA xs 1 = 0 ∧ sumA xs 2 = 0
    ·rw [if_pos q,decide_eq_true q]; rfl
    ·rw [if_neg q,decide_eq_false q]; rfl

theorem t_w108q (c : CluT) (y : ConT) (hn : c.2.1.length ≤ 1048576) (hy : y.2.length ≤ 1048576) (hz : conC y = 0) : m_w108q (c,y) = some (y.2.all fun l => decide (l.1 < (c.2.1.length : Int))) := by
 show p_w108q FU _ = _
 unfold p_w108q
 have e1 : l_w108q_1 FU y.2 c.2.1 (0 : Int) = match y.2.findIdx? (fun l => !(inB l.1 0 ((c.2.1.length : Int) - 1))) with
   | some j => some (j : Int)
   | none => some (-1) := by
  unfold l_w108q_1
  refine lp_place y.2 (fun l => !(inB l.1 0 ((c.2.1.length : Int) - 1))) (fun j => some (j : Int)) (some (-1)) (by unfold B36; omega) (fun i hi rec hw => ?_) (fun rec => ?_)
  ·simp only [lt_lenI hi,cond_true,geti_lt y.2 i hi,Option.bind_some,t_place_Shard _ _ hn,hw]
  ·simp only [ge_lenI,cond_false]
 have hsh := (conC_zero hz).2.2
 have hin : ∀ l ∈ y.2,inB l.1 0 ((c.2.1.length : Int) - 1) = decide (l.1 < (c.2.1.length : Int)) := fun l hl => by
  have h := hsh l hl
  unfold shB inB at h
  unfold inB
  rw [Bool.eq_iff_iff]
  simp only [Bool.and_eq_true,decide_eq_true_eq] at h ⊢
  omega
 show (Option.bind (l_w108q_1 FU y.2 c.2.1 (0 : Int)) fun j17 => some (!(decide (j17 ≥ (0 : Int))))) = _
 rw [e1]
 cases hf : y.2.findIdx? (fun l => !(inB l.1 0 ((c.2.1.length : Int) - 1))) with
 | none =>
  rw [List.findIdx?_eq_none_iff] at hf
  have : (y.2.all fun l => decide (l.1 < (c.2.1.length : Int))) = true := by
   rw [List.all_eq_true]
   intro l hl
   rw [← hin l hl]
   simpa using hf l hl
  rw [this]; rfl
 | some j =>
  obtain ⟨hj,hp,_⟩ := List.findIdx?_eq_some_iff_getElem.1 hf
  have : (y.2.all fun l => decide (l.1 < (c.2.1.length : Int))) = false := by
   rw [← Bool.not_eq_true,List.all_eq_true]
   intro h
   have := h _ (List.getElem_mem hj)
   rw [← hin _ (List.getElem_mem hj)] at this
   rw [this] at hp; simp at hp
  rw [this]
  have hd : decide ((j : Int) ≥ 0) = true := decide_eq_true (by omega)
  simp only [Option.bind_some,hd,Bool.not_true]
theorem t_w109q (c : CluT) (hl : c.1.length ≤ 1048576) (h2 : ∀ y ∈ c.1,y.2.length ≤ 1048576) (hn : c.2.1.length ≤ 1048576) : m_w109q c = some (consC c.1 c.2.1.length) := by
 show p_w109q FU _ = _
 unfold p_w109q l_w109q_1
 refine (lp_fst c.1 (conStep c.1 c.2.1.length) (some 0) (by unfold B36; omega) (fun i hi rec hw => ?_) (fun rec => ?_)).trans ?_
 ·have hy := h2 _ (List.getElem_mem hi)
  have hc := t_w106q c.1[i] hy
  simp only [lt_lenI hi,cond_true,geti_lt c.1 i hi,Option.bind_some,hc]
  unfold conStep
  cases h0 : (conC c.1[i] == 0) with
  | false => simp only [Bool.not_false,cond_true,cond_false]
  | true =>
   have hz : conC c.1[i] = 0 := by simpa using h0
   simp only [Bool.not_true,cond_false,cond_true,t_w108q c _ hn hy hz,Option.bind_some]
   cases hall : (c.1[i].2.all fun l => decide (l.1 < (c.2.1.length : Int))) with
   | false => rfl
   | true =>
    simp only [Bool.not_true,cond_false,cond_true]
    rcases Nat.eq_zero_or_pos i with rfl | h1
    ·have d1 : decide (((0 : Nat) : Int) > 0) = false := rfl
     have d2 : decide (0 < 0) = false := rfl
     simp only [d1,d2,cond_false,Option.bind_some,Bool.false_and,hw]
    ·have d1 : decide ((i : Int) > 0) = true := decide_eq_true (by omega)
     have d2 : decide (0 < i) = true := decide_eq_true h1
     have hi1 : i - 1 < c.1.length := by omega
     simp only [d1,d2,cond_true,prv (show i ≤ B36 by unfold B36; omega) h1,geti_lt c.1 (i - 1) hi1,Option.bind_some,Bool.true_and,List.getElem?_eq_getElem hi1,Option.getD_some,hw]
     rw [show decide (c.1[i - 1].1 ≥ c.1[i].1) = decide (c.1[i].1 ≤ c.1[i - 1].1) from rfl]
     cases decide (c.1[i].1 ≤ c.1[i - 1].1) <;> rfl
 ·simp only [ge_lenI,cond_false]
 ·unfold consC
  cases fstI (conStep c.1 c.2.1.length) 0 c.1 <;> rfl

theorem t_w118q (m : MarkT) (c : Int) : m_w118q (m,c) = some (if m.1 < c then -1 else if m.1 > c then 1 else 0) := by
 show p_w118q FU _ = _
 unfold p_w118q
 simp only [t_w111q,Option.bind_some]
theorem t_w119q (xs : List MarkT) (c : Int) (hl : xs.length ≤ 1048576) : ∃ j : Nat,j ≤ xs.length ∧ m_w119q (xs,c) = some ((j : Int),match xs[j]? with | some m => m.1 == c | none => false) ∧
    (upM xs → (∀ (i : Nat) (h : i < xs.length),i < j → xs[i].1 < c) ∧ ∀ (i : Nat) (h : i < xs.length),j ≤ i → ¬ xs[i].1 < c) := by
  have hB : xs.length ≤ B36 := by unfold B36; omega
  obtain ⟨j,q1,q2,q3⟩ := bs_total xs.length hB (fun i => match xs[i]? with | some m => decide (m.1 < c) | none => false) (step := fun rec13 (z12 : Int × Int) =>
 (cond (decide (z12.1 < z12.2))
  (chk (decide (0 ≤ (1 : Int)))
   ((geti xs (IntKind.wrap .i64 (Int.fdiv (IntKind.wrap .u64 (IntKind.wrap .i64 (z12.1 + z12.2))) (2 ^ (min (1 : Int).toNat 64))))).bind fun y14 =>
   ((m_w118q (y14,c)).bind fun r15 =>
   (cond (decide (r15 < (0 : Int)))
    (rec13 (IntKind.wrap .i64 ((IntKind.wrap .i64 (Int.fdiv (IntKind.wrap .u64 (IntKind.wrap .i64 (z12.1 + z12.2))) (2 ^ (min (1 : Int).toNat 64)))) + (1 : Int)),z12.2))
    (rec13 (z12.1,IntKind.wrap .i64 (Int.fdiv (IntKind.wrap .u64 (IntKind.wrap .i64 (z12.1 + z12.2))) (2 ^ (min (1 : Int).toNat 64)))))))))
  (some z12.1)))
    (fun a b rec hab hb => by
      have hlt : (a + b) / 2 < xs.length := by omega
      have hd : decide ((a : Int) < (b : Int)) = true := decide_eq_true (by omega)
      have hc1 : decide ((0 : Int) ≤ 1) = true := rfl
      simp only [hd,cond_true,chk,hc1,mid_eq (a := a) (b := b) (by omega) (by omega),geti_lt xs _ hlt,Option.bind_some,t_w118q,List.getElem?_eq_getElem hlt,nxt (i := (a + b) / 2) (by omega)]
      by_cases h : xs[(a + b) / 2].1 < c
      · simp [h]
      · by_cases h2 : xs[(a + b) / 2].1 > c <;> simp [h,h2])
    (fun a rec => by
      have hd : decide ((a : Int) < (a : Int)) = false := decide_eq_false (by omega)
      simp only [hd,cond_false])
  refine ⟨j,q1,?_,fun hu => ?_⟩
  · show p_w119q FU _ = _
    unfold p_w119q l_w118q
    rw [lenI_eq]
    rw [q2]
    simp only [Option.bind_some]
    by_cases h : j < xs.length
    · have hd : decide ((j : Int) < (xs.length : Int)) = true := decide_eq_true (by omega)
      simp only [hd,cond_true,geti_lt xs j h,Option.bind_some,t_w118q,List.getElem?_eq_getElem h]
      congr 2
      by_cases h1 : xs[j].1 < c
      · rw [if_pos h1]
        have : (xs[j].1 == c) = false := by rw [beq_eq_false_iff_ne]; omega
        rw [this]; rfl
      · rw [if_neg h1]
        by_cases h2 : xs[j].1 > c
        · rw [if_pos h2]
          have : (xs[j].1 == c) = false := by rw [beq_eq_false_iff_ne]; omega
          rw [this]; rfl
        · rw [if_neg h2]
          have : (xs[j].1 == c) = true := by rw [beq_iff_eq]; omega
          rw [this]; rfl
    · have hd : decide ((j : Int) < (xs.length : Int)) = false := decide_eq_false (by omega)
      simp only [hd,cond_false,List.getElem?_eq_none (Nat.le_of_not_lt h)]
  · obtain ⟨a1,a2⟩ := q3 (fun i k hik hk hp => by
      have hi : i < xs.length := by omega
      simp only [List.getElem?_eq_getElem hk,List.getElem?_eq_getElem hi,decide_eq_true_eq] at hp ⊢
      rcases Nat.eq_or_lt_of_le hik with e | e
      · subst e; exact hp
      · have := List.pairwise_iff_getElem.1 hu i k hi hk e; omega)
    refine ⟨fun i h hij => ?_,fun i h hij => ?_⟩
    · have := a1 i hij
      simpa [List.getElem?_eq_getElem h] using this
    · have := a2 i hij h
      simpa [List.getElem?_eq_getElem h] using this

theorem t_w120q (xs : List MarkT) (c : Int) (hl : xs.length ≤ 1048576) : ∃ v,m_w120q (xs,c) = some v ∧ (upM xs → v = findM xs c) := by
 obtain ⟨j,hj,e,hu⟩ := t_w119q xs c hl
 suffices key : ∃ v,p_w120q FU (xs,c) = some v ∧ (upM xs → v = findM xs c) from key
 unfold p_w120q
 simp only [e,Option.bind_some]
 by_cases h : j < xs.length
 ·simp only [List.getElem?_eq_getElem h]
  cases hb : xs[j].1 == c with
  | false =>
   refine ⟨0,rfl,fun hup => ?_⟩
   unfold findM
   have := up_find (fun m : MarkT => m.1) hup c j hj (hu hup).1 (hu hup).2
   rw [dif_pos h,if_neg (by simpa using hb)] at this
   rw [this]; rfl
  | true =>
   refine ⟨xs[j].2,by simp only [Bool.not_true,cond_false,geti_lt xs j h,Option.bind_some],fun hup => ?_⟩
   unfold findM
   have := up_find (fun m : MarkT => m.1) hup c j hj (hu hup).1 (hu hup).2
   rw [dif_pos h,if_pos (by simpa using hb)] at this
   rw [this]; rfl
 ·simp only [List.getElem?_eq_none (Nat.le_of_not_lt h)]
  refine ⟨0,rfl,fun hup => ?_⟩
  unfold findM
  have := up_find (fun m : MarkT => m.1) hup c j hj (hu hup).1 (hu hup).2
  rw [dif_neg h] at this
  rw [this]; rfl

theorem t_w121q (s : ShdT) (hz : SzS s) : ∃ r, m_w121q s = some r ∧ (upM s.2.2.1 → upM s.2.2.2.2.1 → r = heldC s) := by
  obtain ⟨z1, z2, z3, z4, z5, z6⟩ := hz
  have hB : s.2.2.2.1.length ≤ B36 := by unfold B36; omega
  suffices key : ∃ r, l_w121q_1 FU s.1 s.2.2.1 s.2.2.2.1 s.2.2.2.2.1 (0 : Int) = some r ∧ (upM s.2.2.1 → upM s.2.2.2.2.1 → r = heldC s) from key
  unfold l_w121q_1
  have hLe : ∀ c : ConT, (lenI (legsA c.2 s.1) == 0) = (legsA c.2 s.1).isEmpty := fun c => by
    rw [lenI_eq]; cases legsA c.2 s.1 with
    | nil => rfl
    | cons a r => rw [List.isEmpty_cons, beq_eq_false_iff_ne, List.length_cons]; omega
  refine lp_for (fun r => ∃ v, r = some v ∧ (upM s.2.2.1 → upM s.2.2.2.2.1 → v = heldC s)) (fun i z => z = (i : Int) ∧ (upM s.2.2.1 → upM s.2.2.2.2.1 → fstI (heldStep s) 0 s.2.2.2.1 = fstI (heldStep s) i (s.2.2.2.1.drop i))) s.2.2.2.1.length (fun i z hi hz => ?_) (fun z hz rec => ?_) FU _ (FUb hB) ⟨rfl, fun _ _ => by rw [List.drop_zero]⟩
  · obtain ⟨rfl, he⟩ := hz
    have hd : s.2.2.2.1.drop i = s.2.2.2.1[i] :: s.2.2.2.1.drop (i + 1) := List.drop_eq_getElem_cons hi
    rw [hd] at he
    simp only [fstI] at he
    have hc := z6 _ (List.getElem_mem hi)
    have L1 : m_w117q (s.2.2.2.1[i], s.1) = some (legsA s.2.2.2.1[i].2 s.1) := t_w117q _ _ _ hc
    obtain ⟨v1, ev1, hv1⟩ := t_w120q s.2.2.1 s.2.2.2.1[i].1 z2
    obtain ⟨v2, ev2, hv2⟩ := t_w120q s.2.2.2.2.1 s.2.2.2.1[i].1 z4
    have hw := wrap_next hi z3
    have hold : heldStep s i s.2.2.2.1[i] = cond (conC s.2.2.2.1[i] == 0) (cond (heldBad s i s.2.2.2.1[i]) (some 1) none) (some (conC s.2.2.2.1[i])) := rfl
    rw [hold] at he
    cases hcc : conC s.2.2.2.1[i] == 0 with
    | false =>
      rw [hcc] at he
      refine .inl fun rec => ⟨conC s.2.2.2.1[i], ?_, fun h1 h2 => ?_⟩
      · simp only [lt_lenI hi, cond_true, geti_lt _ i hi, Option.bind_some, t_w106q _ hc, hcc, Bool.not_false]
      · unfold heldC; rw [he h1 h2]; rfl
    | true =>
      rw [hcc] at he
      simp only [cond_true] at he
      -- what is asked of the contract
      let bad : Bool := (decide (0 < i) && decide ((s.2.2.2.1[i - 1]?.getD s.2.2.2.1[i]).1 ≥ s.2.2.2.1[i].1)) || ((legsA s.2.2.2.1[i].2 s.1).isEmpty || (!(v1 == 1) || !(v2 == 0)))
      have hbad : upM s.2.2.1 → upM s.2.2.2.2.1 → heldBad s i s.2.2.2.1[i] = bad := fun h1 h2 => by
        show _ = ((decide (0 < i) && decide ((s.2.2.2.1[i - 1]?.getD s.2.2.2.1[i]).1 ≥ s.2.2.2.1[i].1)) || ((legsA s.2.2.2.1[i].2 s.1).isEmpty || (!(v1 == 1) || !(v2 == 0))))
        rw [hv1 h1, hv2 h2]; rfl
      have step : ∀ rec : Int → Option Int, (cond (decide ((i : Int) < (lenI s.2.2.2.1)))
  ((geti s.2.2.2.1 (i : Int)).bind fun y21 =>
  ((m_w106q y21).bind fun r22 =>
  (cond (!(r22 == (0 : Int)))
   (some r22)
   (Option.bind
    (cond (decide ((i : Int) > (0 : Int)))
     ((geti s.2.2.2.1 (IntKind.wrap .i64 ((i : Int) - (1 : Int)))).bind fun y30 =>
     (cond (decide (y30.1 ≥ y21.1))
      (some true)
      ((m_w117q (y21, s.1)).bind fun r31 =>
      (cond ((lenI r31) == (0 : Int))
       (some true)
       ((m_w120q (s.2.2.1, y21.1)).bind fun r32 =>
       (cond (!(r32 == (1 : Int)))
        (some true)
        ((m_w120q (s.2.2.2.2.1, y21.1)).bind fun r33 =>
        some (!(r33 == (0 : Int))))))))))
     ((m_w117q (y21, s.1)).bind fun r34 =>
     (cond ((lenI r34) == (0 : Int))
      (some true)
      ((m_w120q (s.2.2.1, y21.1)).bind fun r35 =>
      (cond (!(r35 == (1 : Int)))
       (some true)
       ((m_w120q (s.2.2.2.2.1, y21.1)).bind fun r36 =>
       some (!(r36 == (0 : Int))))))))) fun j37 =>
   (cond j37
    (some (1 : Int))
    (rec (IntKind.wrap .i64 ((i : Int) + (1 : Int)))))))))
  (some (0 : Int))) = cond bad (some 1) (rec ((i + 1 : Nat) : Int)) := by
        intro rec
        show _ = cond ((decide (0 < i) && decide ((s.2.2.2.1[i - 1]?.getD s.2.2.2.1[i]).1 ≥ s.2.2.2.1[i].1)) || ((legsA s.2.2.2.1[i].2 s.1).isEmpty || (!(v1 == 1) || !(v2 == 0)))) _ _
        simp only [lt_lenI hi, cond_true, geti_lt _ i hi, Option.bind_some, t_w106q _ hc, hcc, Bool.not_true, cond_false, L1, hLe, ev1, ev2, hw]
        by_cases h0 : 0 < i
        · have hd : decide ((i : Int) > 0) = true := by simp; omega
          have hi1 : i - 1 < s.2.2.2.1.length := by omega
          simp only [hd, cond_true, prv (i := i) (by unfold B36; omega) h0, geti_lt _ _ hi1, Option.bind_some, h0, decide_true, Bool.true_and, List.getElem?_eq_getElem hi1, Option.getD_some]
          cases decide (s.2.2.2.1[i - 1].1 ≥ s.2.2.2.1[i].1) with
          | true => rfl
          | false =>
            cases (legsA s.2.2.2.1[i].2 s.1).isEmpty with
            | true => rfl
            | false =>
              cases (v1 == 1) with
              | false => rfl
              | true => cases (v2 == 0) <;> rfl
        · have hd : decide ((i : Int) > 0) = false := by simp; omega
          simp only [hd, cond_false, h0, decide_false, Bool.false_and, Bool.false_or]
          cases (legsA s.2.2.2.1[i].2 s.1).isEmpty with
          | true => rfl
          | false =>
            cases (v1 == 1) with
            | false => rfl
            | true => cases (v2 == 0) <;> rfl
      cases hb : bad with
      | true =>
        rw [hb] at hbad step
        refine .inl fun rec => ⟨1, step rec, fun h1 h2 => ?_⟩
        have := he h1 h2
        rw [hbad h1 h2] at this
        unfold heldC; rw [this]; rfl
      | false =>
        rw [hb] at hbad step
        refine .inr ⟨((i + 1 : Nat) : Int), ⟨rfl, fun h1 h2 => ?_⟩, fun rec => step rec⟩
        have := he h1 h2
        rw [hbad h1 h2] at this
        exact this
  · obtain ⟨rfl, he⟩ := hz
    refine ⟨0, by simp only [ge_lenI, cond_false], fun h1 h2 => ?_⟩
    unfold heldC; rw [he h1 h2, List.drop_length]; rfl

theorem t_w122q (a b : Int) : m_w122q [a,b] = some (if a = 0 then b else a) := by
 show p_w122q FU _ = _
 unfold p_w122q l_w122q_1
 obtain ⟨m,hm⟩ : ∃ m,FU = m + 1 + 1 + 1 := ⟨18446744073709551613,rfl⟩
 rw [hm]
 have w1 : IntKind.wrap .i64 1 = 1 := rfl
 have w2 : IntKind.wrap .i64 2 = 2 := rfl
 by_cases h1 : a = 0
 ·by_cases h2 : b = 0
  ·simp [lp,geti,lenI,h1,h2,w1,w2]
  ·have hb : (b == 0) = false := by simp [h2]
   simp [lp,geti,lenI,h1,hb,w1,w2]
 ·have hb : (a == 0) = false := by simp [h1]
  simp [lp,geti,lenI,h1,hb]
theorem t_impl_firstOf3 (a b c : Int) : m_w122q [a,b,c] = some (if a = 0 then (if b = 0 then c else b) else a) := by
 show p_w122q FU _ = _
 unfold p_w122q l_w122q_1
 obtain ⟨m,hm⟩ : ∃ m,FU = m + 1 + 1 + 1 + 1 := ⟨18446744073709551612,rfl⟩
 rw [hm]
 have w1 : IntKind.wrap .i64 1 = 1 := rfl
 have w2 : IntKind.wrap .i64 2 = 2 := rfl
 have w3 : IntKind.wrap .i64 3 = 3 := rfl
 by_cases h1 : a = 0
 ·by_cases h2 : b = 0
  ·by_cases h3 : c = 0
   ·simp [lp,geti,lenI,h1,h2,h3,w1,w2,w3]
   ·have hb : (c == 0) = false := by simp [h3]
    simp [lp,geti,lenI,h1,h2,hb,w1,w2,w3]
  ·have hb : (b == 0) = false := by simp [h2]
   simp [lp,geti,lenI,h1,h2,hb,w1,w2]
 ·have hb : (a == 0) = false := by simp [h1]
  simp [lp,geti,lenI,h1,hb]

theorem t_w123q (m : ConT) (c : Int) : m_w123q (m,c) = some (if m.1 < c then -1 else if m.1 > c then 1 else 0) := by
 show p_w123q FU _ = _
 unfold p_w123q
 simp only [t_w111q,Option.bind_some]
theorem t_w124q (s : ShdT) (xs : List ConT) (hs : s.2.2.2.1 = xs) (c : Int) (hl : xs.length ≤ 1048576) : ∃ j : Nat,j ≤ xs.length ∧ m_w124q (s,c) = some ((j : Int),match xs[j]? with | some m => m.1 == c | none => false) ∧
    ((xs.Pairwise fun a b => a.1 < b.1) → (∀ (i : Nat) (h : i < xs.length),i < j → xs[i].1 < c) ∧ ∀ (i : Nat) (h : i < xs.length),j ≤ i → ¬ xs[i].1 < c) := by
  have hB : xs.length ≤ B36 := by unfold B36; omega
  obtain ⟨j,q1,q2,q3⟩ := bs_total xs.length hB (fun i => match xs[i]? with | some m => decide (m.1 < c) | none => false) (step := fun rec13 (z12 : Int × Int) =>
 (cond (decide (z12.1 < z12.2))
  (chk (decide (0 ≤ (1 : Int)))
   ((geti xs (IntKind.wrap .i64 (Int.fdiv (IntKind.wrap .u64 (IntKind.wrap .i64 (z12.1 + z12.2))) (2 ^ (min (1 : Int).toNat 64))))).bind fun y14 =>
   ((m_w123q (y14,c)).bind fun r15 =>
   (cond (decide (r15 < (0 : Int)))
    (rec13 (IntKind.wrap .i64 ((IntKind.wrap .i64 (Int.fdiv (IntKind.wrap .u64 (IntKind.wrap .i64 (z12.1 + z12.2))) (2 ^ (min (1 : Int).toNat 64)))) + (1 : Int)),z12.2))
    (rec13 (z12.1,IntKind.wrap .i64 (Int.fdiv (IntKind.wrap .u64 (IntKind.wrap .i64 (z12.1 + z12.2))) (2 ^ (min (1 : Int).toNat 64)))))))))
  (some z12.1)))
    (fun a b rec hab hb => by
      have hlt : (a + b) / 2 < xs.length := by omega
      have hd : decide ((a : Int) < (b : Int)) = true := decide_eq_true (by omega)
      have hc1 : decide ((0 : Int) ≤ 1) = true := rfl
      simp only [hd,cond_true,chk,hc1,mid_eq (a := a) (b := b) (by omega) (by omega),geti_lt xs _ hlt,Option.bind_some,t_w123q,List.getElem?_eq_getElem hlt,nxt (i := (a + b) / 2) (by omega)]
      by_cases h : xs[(a + b) / 2].1 < c
      · simp [h]
      · by_cases h2 : xs[(a + b) / 2].1 > c <;> simp [h,h2])
    (fun a rec => by
      have hd : decide ((a : Int) < (a : Int)) = false := decide_eq_false (by omega)
      simp only [hd,cond_false])
  refine ⟨j,q1,?_,fun hu => ?_⟩
  · show p_w124q FU _ = _
    unfold p_w124q l_w123q
    simp only [hs]
    rw [lenI_eq]
    rw [q2]
    simp only [Option.bind_some]
    by_cases h : j < xs.length
    · have hd : decide ((j : Int) < (xs.length : Int)) = true := decide_eq_true (by omega)
      simp only [hd,cond_true,geti_lt xs j h,Option.bind_some,t_w123q,List.getElem?_eq_getElem h]
      congr 2
      by_cases h1 : xs[j].1 < c
      · rw [if_pos h1]
        have : (xs[j].1 == c) = false := by rw [beq_eq_false_iff_ne]; omega
        rw [this]; rfl
      · rw [if_neg h1]
        by_cases h2 : xs[j].1 > c
        · rw [if_pos h2]
          have : (xs[j].1 == c) = false := by rw [beq_eq_false_iff_ne]; omega
          rw [this]; rfl
        · rw [if_neg h2]
          have : (xs[j].1 == c) = true := by rw [beq_iff_eq]; omega
          rw [this]; rfl
    · have hd : decide ((j : Int) < (xs.length : Int)) = false := decide_eq_false (by omega)
      simp only [hd,cond_false,List.getElem?_eq_none (Nat.le_of_not_lt h)]
  · obtain ⟨a1,a2⟩ := q3 (fun i k hik hk hp => by
      have hi : i < xs.length := by omega
      simp only [List.getElem?_eq_getElem hk,List.getElem?_eq_getElem hi,decide_eq_true_eq] at hp ⊢
      rcases Nat.eq_or_lt_of_le hik with e | e
      · subst e; exact hp
      · have := List.pairwise_iff_getElem.1 hu i k hi hk e; omega)
    refine ⟨fun i h hij => ?_,fun i h hij => ?_⟩
    · have := a1 i hij
      simpa [List.getElem?_eq_getElem h] using this
    · have := a2 i hij h
      simpa [List.getElem?_eq_getElem h] using this

theorem held_any {xs : List ConT} {c : Int} {j : Nat} (hj : j ≤ xs.length) (hup : xs.Pairwise fun a b => a.1 < b.1) (h1 : ∀ (i : Nat) (h : i < xs.length),i < j → xs[i].1 < c) (h2 : ∀ (i : Nat) (h : i < xs.length),j ≤ i → ¬ xs[i].1 < c) :
  (match xs[j]? with | some m => m.1 == c | none => false) = xs.any fun x => x.1 == c := by
 have hf := up_find (fun x : ConT => x.1) hup c j hj h1 h2
 by_cases h : j < xs.length
 ·rw [dif_pos h] at hf
  simp only [List.getElem?_eq_getElem h]
  cases hb : xs[j].1 == c with
  | true => exact (List.any_eq_true.2 ⟨_,List.getElem_mem h,hb⟩).symm
  | false =>
   rw [if_neg (by simpa using hb),List.find?_eq_none] at hf
   exact (List.any_eq_false.2 hf).symm
 ·rw [dif_neg h,List.find?_eq_none] at hf
  simp only [List.getElem?_eq_none (Nat.le_of_not_lt h)]
  exact (List.any_eq_false.2 hf).symm
theorem t_w125q (s : ShdT) (m : MarkT) (h3 : s.2.2.2.1.length ≤ 1048576) (h4 : s.2.2.2.2.1.length ≤ 1048576) (hup : s.2.2.2.1.Pairwise fun a b => a.1 < b.1) (hd : upM s.2.2.2.2.1) : m_w125q (s,m) = some (openB s m) := by
 obtain ⟨j,hj,e,hu⟩ := t_w124q s _ rfl m.1 h3
 obtain ⟨v,e2,hv⟩ := t_w120q s.2.2.2.2.1 m.1 h4
 rw [held_any hj hup (hu hup).1 (hu hup).2] at e
 suffices key : p_w125q FU (s,m) = some (openB s m) from key
 unfold p_w125q openB
 simp only [e,Option.bind_some,e2,hv hd]
 cases (m.2 == 1) with
 | false => rfl
 | true => cases s.2.2.2.1.any fun x => x.1 == m.1 <;> rfl

theorem t_w126q (xs : List Int) (h : xs.length ≤ 1048576) : m_w126q xs = some (sortI xs,xs) := by
 show p_w126q FU _ = _
 unfold p_w126q sortedRun
 rw [if_pos (by omega)]

theorem t_w127q (a b : List Int) (h : a.length ≤ 1048576) : m_w127q (a,b) = some (decide (a = b)) := by
 show p_w127q FU _ = _
 unfold p_w127q
 simp only [lenI_eq]
 by_cases hl : a.length = b.length
 ·have : ((a.length : Int) == (b.length : Int)) = true := by rw [beq_iff_eq]; omega
  simp only [this,Bool.not_true,cond_false]
  unfold l_w127q_1
  refine lp_for (fun r => r = some (decide (a = b))) (fun i z => z = (i : Int) ∧ a.take i = b.take i) a.length (fun i z hi hz => ?_) (fun z hz rec => ?_) FU _ (FU_gt h) ⟨rfl,by simp⟩
  ·obtain ⟨rfl,hz⟩ := hz
   have hib : i < b.length := by omega
   by_cases he : a[i] = b[i]
   ·refine .inr ⟨_,⟨rfl,?_⟩,fun rec => ?_⟩
    ·rw [List.take_succ_eq_append_getElem hi,List.take_succ_eq_append_getElem hib,hz,he]
    ·have hb : (a[i] == b[i]) = true := by rw [beq_iff_eq]; exact he
     simp only [lt_lenI hi,cond_true,geti_lt a i hi,geti_lt b i hib,Option.bind_some,hb,Bool.not_true,cond_false,wrap_next hi h]
   ·refine .inl fun rec => ?_
    have hb : (a[i] == b[i]) = false := by rw [beq_eq_false_iff_ne]; exact he
    have hne : a ≠ b := fun e => he (by subst e; rfl)
    simp only [lt_lenI hi,cond_true,geti_lt a i hi,geti_lt b i hib,Option.bind_some,hb,Bool.not_false,decide_eq_false hne]
  ·obtain ⟨rfl,hz⟩ := hz
   rw [List.take_length,hl,List.take_length] at hz
   simp only [ge_lenI,cond_false,decide_eq_true hz]
 ·have : ((a.length : Int) == (b.length : Int)) = false := by rw [beq_eq_false_iff_ne]; omega
  have hne : a ≠ b := fun e => hl (by rw [e])
  simp only [this,Bool.not_false,cond_true,decide_eq_false hne]

theorem t_w128q (s : ShdT) (h1 : s.2.2.2.2.1.length ≤ 1048576) (h2 : s.2.2.2.2.2.length ≤ 1048576) : m_w128q s = some (appB s) := by
 show p_w128q FU _ = _
 unfold p_w128q appB
 generalize s.2.2.2.2.1 = done at *
 generalize s.2.2.2.2.2 = ap at *
 have e1 : l_w128q_1 FU done (([] : List Int),(0 : Int)) = some (doneL done) := by
  unfold l_w128q_1
  refine lp_for (fun r => r = some (doneL done)) (fun i z => z = (doneL (done.take i),(i : Int))) done.length (fun i z hi hz => ?_) (fun z hz rec => ?_) FU _ (FU_gt h1) (by simp [doneL])
  ·subst hz
   have hle : (doneL (done.take i)).length ≤ i := by
    unfold doneL
    rw [List.length_map]
    exact Nat.le_trans (List.length_filter_le _ _) (by rw [List.length_take]; omega)
   have e : doneL (done.take (i + 1)) = doneL (done.take i) ++ cond (done[i].2 == 1) [done[i].1] [] := by
    unfold doneL
    rw [List.take_succ_eq_append_getElem hi,List.filter_append,List.map_append]
    cases h : (done[i].2 == 1) <;> simp [h]
   have hb : Nat.ble (((doneL (done.take i)).length + [done[i].1].length) * 8) maxBytes = true := ble_mem (by simp only [maxBytes,List.length_singleton]; omega)
   refine .inr ⟨_,rfl,fun rec => ?_⟩
   rw [e]
   simp only [lt_lenI hi,cond_true,geti_lt done i hi,Option.bind_some,wrap_next hi h1,chk,hb]
   cases (done[i].2 == 1) with
   | true => rfl
   | false => simp only [cond_false,List.append_nil]
  ·subst hz
   simp only [ge_lenI,cond_false,List.take_length]
 simp only [e1,Option.bind_some,t_w126q ap h2,t_w127q (sortI ap) (doneL done) (by rw [sortI_length]; exact h2)]

theorem same_any {α : Type} (xs : List α) (p : α → Bool) : decide (((xs.findIdx? p).elim (-1) (fun j => (j : Int))) ≥ 0) = xs.any p := by
 cases hf : xs.findIdx? p with
 | none =>
  have : xs.any p = false := by
   rw [List.findIdx?_eq_none_iff] at hf
   rw [List.any_eq_false]
   intro s hs
   simpa using hf s hs
  rw [this]; rfl
 | some j =>
  have : xs.any p = true := by
   rw [List.findIdx?_eq_some_iff_getElem] at hf
   obtain ⟨h,h1,_⟩ := hf
   rw [List.any_eq_true]
   exact ⟨_,List.getElem_mem h,h1⟩
  rw [this]
  exact decide_eq_true (by show (0 : Int) ≤ (j : Int); omega)
theorem legsA_same {xs : List LegT} {a : Int} {l : LegT} (h : l ∈ legsA xs a) : l.1 = a := by simpa using (List.mem_filter.1 h).2
theorem meet_eq (a b : List LegT) (c : Int) : ((legsA a c).any fun l => (legsA b c).any fun o => sameP l o) = touchL (legsA a c) (legsA b c) := by
 unfold touchL
 rw [Bool.eq_iff_iff,List.any_eq_true,List.any_eq_true]
 constructor
 ·rintro ⟨l,hl,h⟩
  obtain ⟨o,ho,h⟩ := List.any_eq_true.1 h
  refine ⟨l,hl,List.any_eq_true.2 ⟨o,ho,?_⟩⟩
  simp only [sameP,Bool.and_eq_true] at h ⊢
  exact h.2
 ·rintro ⟨l,hl,h⟩
  obtain ⟨o,ho,h⟩ := List.any_eq_true.1 h
  refine ⟨l,hl,List.any_eq_true.2 ⟨o,ho,?_⟩⟩
  simp only [sameP,Bool.and_eq_true,beq_iff_eq] at h ⊢
  exact ⟨by rw [legsA_same hl,legsA_same ho],h⟩
theorem t_w129q (s : ShdT) (a b : ConT) (ha : a.2.length ≤ 1048576) (hb : b.2.length ≤ 1048576) : m_w129q (s,a,b) = some (touchL (legsA a.2 s.1) (legsA b.2 s.1)) := by
 show p_w129q FU _ = _
 unfold p_w129q
 have L1 : m_w117q (a,s.1) = some (legsA a.2 s.1) := t_w117q a.1 a.2 s.1 ha
 have L2 : m_w117q (b,s.1) = some (legsA b.2 s.1) := t_w117q b.1 b.2 s.1 hb
 have l1 := legsA_len ha s.1
 have l2 := legsA_len hb s.1
 simp only [L1,Option.bind_some]
 have e1 : ∀ y : LegT,l_w129q_1 FU (legsA b.2 s.1) y (0 : Int) = some (((legsA b.2 s.1).findIdx? fun o => sameP y o).elim (-1) (fun j => (j : Int))) := by
  intro y
  unfold l_w129q_1
  refine (lp_place (legsA b.2 s.1) (fun o => sameP y o) (fun j => some (j : Int)) (some (-1 : Int)) (by unfold B36; omega) (fun j hj rec hw => ?_) (fun rec => ?_)).trans ?_
  ·simp only [lt_lenI hj,cond_true,geti_lt _ j hj,Option.bind_some,Int.toNat_natCast,List.getElem?_eq_getElem hj,t_w105q,hw]
  ·simp only [ge_lenI,cond_false]
  ·cases (legsA b.2 s.1).findIdx? fun o => sameP y o <;> rfl
 have e2 : l_w129q_2 FU (legsA a.2 s.1) s.1 b (0 : Int) = some (((legsA a.2 s.1).findIdx? fun l => (legsA b.2 s.1).any fun o => sameP l o).elim (-1) (fun j => (j : Int))) := by
  unfold l_w129q_2
  refine (lp_place (legsA a.2 s.1) (fun l => (legsA b.2 s.1).any fun o => sameP l o) (fun j => some (j : Int)) (some (-1 : Int)) (by unfold B36; omega) (fun j hj rec hw => ?_) (fun rec => ?_)).trans ?_
  ·simp only [lt_lenI hj,cond_true,geti_lt _ j hj,Option.bind_some,Int.toNat_natCast,List.getElem?_eq_getElem hj,L2,e1,same_any,hw]
  ·simp only [ge_lenI,cond_false]
  ·cases (legsA a.2 s.1).findIdx? fun l => (legsA b.2 s.1).any fun o => sameP l o <;> rfl
 rw [e2]
 simp only [Option.bind_some,same_any,meet_eq]

def upB (xs : List BalT) : Prop := xs.Pairwise fun a b => cmpP a b < 0
theorem cmpP_trans {a b c : BalT} (h1 : cmpP a b < 0) (h2 : cmpP b c < 0) : cmpP a c < 0 := by
 rw [cmpP_lt] at *
 omega
theorem balCode_up {xs : List BalT} (h : balCode xs = 0) : upB xs ∧ ∀ b ∈ xs,okBal b = true := by
 unfold balCode at h
 split at h
 ·cases h
 ·have hne : ∀ i b,balStep xs i b ≠ some 0 := by
   intro i b
   unfold balStep
   cases okBal b with
   | false => simp
   | true => cases decide (0 < i) && decide (cmpP (xs[i - 1]?.getD b) b ≥ 0) <;> simp
  have hn : fstI (balStep xs) 0 xs = none := by
   have := fst_getD hne xs 0
   refine this.1 ?_
   cases hf : fstI (balStep xs) 0 xs with
   | none => rfl
   | some r => rw [hf] at h; exact h
  have key : ∀ (j : Nat) (hj : j < xs.length),okBal xs[j] = true ∧ (0 < j → cmpP (xs[j - 1]?.getD xs[j]) xs[j] < 0) := by
   intro j hj
   have := fst_none hn j hj
   unfold balStep at this
   cases ho : okBal xs[j] with
   | false => rw [ho] at this; cases this
   | true =>
    rw [ho] at this
    refine ⟨rfl,fun h0 => ?_⟩
    simp only [Bool.not_true,cond_false,decide_eq_true h0,Bool.true_and] at this
    cases hd : decide (cmpP (xs[j - 1]?.getD xs[j]) xs[j] ≥ 0) with
    | true => rw [hd] at this; cases this
    | false => have := of_decide_eq_false hd; omega
  constructor
  ·have step : ∀ (d i : Nat) (h : i + d + 1 < xs.length),cmpP xs[i] xs[i + d + 1] < 0 := by
    intro d
    induction d with
    | zero =>
     intro i h
     have := (key (i + 1) h).2 (by omega)
     rw [Nat.add_sub_cancel,List.getElem?_eq_getElem (by omega)] at this
     exact this
    | succ d ih =>
     intro i h
     have h1 := ih i (by omega)
     have h2 := (key (i + (d + 1) + 1) h).2 (by omega)
     rw [Nat.add_sub_cancel,List.getElem?_eq_getElem (by omega)] at h2
     exact cmpP_trans h1 h2
   refine List.pairwise_iff_getElem.2 fun i j hi hj hij => ?_
   have := step (j - i - 1) i (by omega)
   have e : i + (j - i - 1) + 1 = j := by omega
   simp only [e] at this
   exact this
  ·intro b hb
   obtain ⟨j,hj,rfl⟩ := List.getElem_of_mem hb
   exact (key j hj).1
theorem t_w130q (xs : List BalT) (a b : Int) (hl : xs.length ≤ 1048576) (hu : upB xs) : m_w130q (xs,a,b) = some (hasB xs a b) := by
  have hB : xs.length ≤ B36 := by unfold B36; omega
  obtain ⟨j,q1,q2,q3⟩ := bs_total xs.length hB (fun i => match xs[i]? with | some m => decide (cmpP m (a,(b,0)) < 0) | none => false) (step := fun rec32 (z31 : Int × Int) =>
 (cond (decide (z31.1 < z31.2))
  (chk (decide (0 ≤ (1 : Int)))
   ((geti xs (IntKind.wrap .i64 (Int.fdiv (IntKind.wrap .u64 (IntKind.wrap .i64 (z31.1 + z31.2))) (2 ^ (min (1 : Int).toNat 64))))).bind fun y33 =>
   ((m_w113q (y33,(a,(b,(0 : Int))))).bind fun r34 =>
   (cond (decide (r34 < (0 : Int)))
    (rec32 (IntKind.wrap .i64 ((IntKind.wrap .i64 (Int.fdiv (IntKind.wrap .u64 (IntKind.wrap .i64 (z31.1 + z31.2))) (2 ^ (min (1 : Int).toNat 64)))) + (1 : Int)),z31.2))
    (rec32 (z31.1,IntKind.wrap .i64 (Int.fdiv (IntKind.wrap .u64 (IntKind.wrap .i64 (z31.1 + z31.2))) (2 ^ (min (1 : Int).toNat 64)))))))))
  (some z31.1)))
    (fun u v rec hab hb => by
      have hlt : (u + v) / 2 < xs.length := by omega
      have hd : decide ((u : Int) < (v : Int)) = true := decide_eq_true (by omega)
      have hc1 : decide ((0 : Int) ≤ 1) = true := rfl
      simp only [hd,cond_true,chk,hc1,mid_eq (a := u) (b := v) (by omega) (by omega),geti_lt xs _ hlt,Option.bind_some,t_w113q,List.getElem?_eq_getElem hlt,nxt (i := (u + v) / 2) (by omega)])
    (fun u rec => by
      have hd : decide ((u : Int) < (u : Int)) = false := decide_eq_false (by omega)
      simp only [hd,cond_false])
  obtain ⟨a1,a2⟩ := q3 (fun i k hik hk hp => by
    have hi : i < xs.length := by omega
    simp only [List.getElem?_eq_getElem hk,List.getElem?_eq_getElem hi,decide_eq_true_eq] at hp ⊢
    rcases Nat.eq_or_lt_of_le hik with e | e
    · subst e; exact hp
    · exact cmpP_trans (List.pairwise_iff_getElem.1 hu i k hi hk e) hp)
  have hfind : xs.find? (fun y => (y.1 == a) && (y.2.1 == b)) = if h : j < xs.length then (if cmpP xs[j] (a,(b,0)) = 0 then some xs[j] else none) else none := by
    have split : xs = xs.take j ++ xs.drop j := (List.take_append_drop j xs).symm
    have hA : (xs.take j).find? (fun y => (y.1 == a) && (y.2.1 == b)) = none := by
      rw [List.find?_eq_none]
      intro m hm
      obtain ⟨i,hi,rfl⟩ := List.getElem_of_mem hm
      rw [List.length_take] at hi
      rw [List.getElem_take]
      have := a1 i (by omega)
      simp only [List.getElem?_eq_getElem (show i < xs.length by omega),decide_eq_true_eq] at this
      rw [cmpP_lt] at this
      simp only [Bool.and_eq_true,beq_iff_eq]
      simp only at this
      omega
    by_cases hlt : j < xs.length
    · rw [dif_pos hlt]
      have eF : xs.find? (fun y => (y.1 == a) && (y.2.1 == b)) = (xs[j] :: xs.drop (j + 1)).find? (fun y => (y.1 == a) && (y.2.1 == b)) := by
        conv => lhs; rw [split,List.find?_append,hA,Option.none_or,List.drop_eq_getElem_cons hlt]
      rw [eF]
      by_cases hk : cmpP xs[j] (a,(b,0)) = 0
      · rw [if_pos hk]
        rw [cmpP_zero] at hk
        rw [List.find?_cons_of_pos (by simp only [Bool.and_eq_true,beq_iff_eq]; exact hk)]
      · rw [if_neg hk,List.find?_cons_of_neg (by rw [cmpP_zero] at hk; simp only [Bool.and_eq_true,beq_iff_eq]; exact hk),List.find?_eq_none]
        intro m hm
        obtain ⟨i,hi,rfl⟩ := List.getElem_of_mem hm
        rw [List.length_drop] at hi
        rw [List.getElem_drop]
        have c1 := List.pairwise_iff_getElem.1 hu j (j + 1 + i) hlt (by omega) (by omega)
        have c2 := a2 j (Nat.le_refl _) hlt
        simp only [List.getElem?_eq_getElem hlt,decide_eq_false_iff_not] at c2
        rw [cmpP_lt] at c1 c2
        rw [cmpP_zero] at hk
        simp only [Bool.and_eq_true,beq_iff_eq]
        simp only at c1 c2 hk
        omega
    · rw [dif_neg hlt]
      have : xs.take j = xs := List.take_of_length_le (by omega)
      rw [this] at hA
      exact hA
  show p_w130q FU _ = _
  unfold p_w130q l_w130q_1 hasB
  rw [lenI_eq]
  rw [q2,hfind]
  simp only [Option.bind_some]
  by_cases h : j < xs.length
  · have hd : decide ((j : Int) < (xs.length : Int)) = true := decide_eq_true (by omega)
    simp only [hd,cond_true,geti_lt xs j h,Option.bind_some,t_w113q,dif_pos h]
    by_cases hk : cmpP xs[j] (a,(b,0)) = 0
    · rw [if_pos hk,hk]
      simp
    · have : (cmpP xs[j] (a,(b,0)) == 0) = false := by simpa using hk
      rw [if_neg hk,this]
      simp
  · have hd : decide ((j : Int) < (xs.length : Int)) = false := decide_eq_false (by omega)
    simp only [hd,cond_false,dif_neg h,Option.bind_some,Bool.not_false,cond_true,Option.map_none,Option.getD_none]

theorem t_w131q (xs : List BalT) (l : LegT) (hl : xs.length ≤ 1048576) (hu : upB xs) : m_w131q (xs,l) = some (legB xs l) := by
 show p_w131q FU _ = _
 unfold p_w131q legB
 simp only [t_w130q xs _ _ hl hu,Option.bind_some]
 cases decide (IntKind.wrap .i64 (hasB xs l.2.1 l.2.2.1 + l.2.2.2) < 0) with
 | true => rfl
 | false => cases decide (IntKind.wrap .i64 (hasB xs l.2.1 l.2.2.1 + l.2.2.2) > 1000000000000) <;> rfl

theorem t_w132q (s : ShdT) (c : ConT) (h1 : s.2.1.length ≤ 1048576) (hu : upB s.2.1) (hc : c.2.length ≤ 1048576) : m_w132q (s,c) = some (legsB s.2.1 (legsA c.2 s.1)) := by
 show p_w132q FU _ = _
 unfold p_w132q
 have L1 : m_w117q (c,s.1) = some (legsA c.2 s.1) := t_w117q c.1 c.2 s.1 hc
 have l1 := legsA_len hc s.1
 simp only [L1,Option.bind_some]
 unfold l_w132q_1 legsB
 refine (lp_fst (legsA c.2 s.1) (fun _ l => nz (legB s.2.1 l)) (some (0 : Int)) (by unfold B36; omega) (fun i hi rec hw => ?_) (fun rec => ?_)).trans ?_
 ·simp only [lt_lenI hi,cond_true,geti_lt _ i hi,Option.bind_some,Int.toNat_natCast,List.getElem?_eq_getElem hi,t_w131q _ _ h1 hu,hw,nz]
  cases (legB s.2.1 (legsA c.2 s.1)[i] == 0) <;> rfl
 ·simp only [ge_lenI,cond_false]
 ·cases fstI (fun _ l => nz (legB s.2.1 l)) 0 (legsA c.2 s.1) <;> rfl

theorem touch_comm (a b : List LegT) : touchL a b = touchL b a := by
 unfold touchL
 rw [Bool.eq_iff_iff,List.any_eq_true,List.any_eq_true]
 constructor
 ·rintro ⟨l,hl,h⟩
  obtain ⟨o,ho,h⟩ := List.any_eq_true.1 h
  refine ⟨o,ho,List.any_eq_true.2 ⟨l,hl,?_⟩⟩
  simp only [Bool.and_eq_true,beq_iff_eq] at h ⊢
  exact ⟨h.1.symm,h.2.symm⟩
 ·rintro ⟨l,hl,h⟩
  obtain ⟨o,ho,h⟩ := List.any_eq_true.1 h
  refine ⟨o,ho,List.any_eq_true.2 ⟨l,hl,?_⟩⟩
  simp only [Bool.and_eq_true,beq_iff_eq] at h ⊢
  exact ⟨h.1.symm,h.2.symm⟩
theorem held_t2 (s : ShdT) (hz : SzS s) : l_w133q_2 FU s (0 : Int) = (fstI (meetStep s) 0 s.2.2.2.1).elim (some (Sum.inl ())) (fun r => some (Sum.inr r)) := by
 obtain ⟨z1,z2,z3,z4,z5,z6⟩ := hz
 have hB : s.2.2.2.1.length ≤ B36 := by unfold B36; omega
 have e1 : ∀ i,i < s.2.2.2.1.length → ∀ c ∈ s.2.2.2.1,l_w133q_1 FU (i : Int) s c (0 : Int) = some (((s.2.2.2.1.take i).findIdx? fun o => touchL (legsA o.2 s.1) (legsA c.2 s.1)).elim (-1) (fun j => (j : Int))) := by
  intro i hi c hc
  have hcut : cutL none (some (i : Int)) s.2.2.2.1 = s.2.2.2.1.take i := by simp [cutL]
  have hlen : (s.2.2.2.1.take i).length ≤ B36 := by rw [List.length_take]; omega
  unfold l_w133q_1
  rw [hcut]
  refine (lp_place (s.2.2.2.1.take i) (fun o => touchL (legsA o.2 s.1) (legsA c.2 s.1)) (fun j => some (j : Int)) (some (-1 : Int)) hlen (fun j hj rec hw => ?_) (fun rec => ?_)).trans ?_
  ·have hm : (s.2.2.2.1.take i)[j].2.length ≤ 1048576 := z6 _ (List.mem_of_mem_take (List.getElem_mem hj))
   simp only [lt_lenI hj,cond_true,geti_lt _ j hj,Option.bind_some,t_w129q s _ c hm (z6 c hc),hw]
  ·simp only [ge_lenI,cond_false]
  ·cases (s.2.2.2.1.take i).findIdx? fun o => touchL (legsA o.2 s.1) (legsA c.2 s.1) <;> rfl
 unfold l_w133q_2
 refine (lp_fst s.2.2.2.1 (fun i c => (meetStep s i c).map (Sum.inr (α := Unit))) (some (Sum.inl ())) hB (fun i hi rec hw => ?_) (fun rec => ?_)).trans ?_
 ·have hbd : bndB none (some (i : Int)) none s.2.2.2.1.length = true := by simp [bndB]; omega
  have hsw : (s.2.2.2.1.take i).any (fun o => touchL (legsA o.2 s.1) (legsA s.2.2.2.1[i].2 s.1)) = (s.2.2.2.1.take i).any (fun o => touchL (legsA s.2.2.2.1[i].2 s.1) (legsA o.2 s.1)) := by
   congr 1
   funext o
   exact touch_comm _ _
  simp only [lt_lenI hi,cond_true,geti_lt _ i hi,Option.bind_some,chk,hbd,e1 i hi _ (List.getElem_mem hi),same_any,hw,meetStep,hsw]
  cases (s.2.2.2.1.take i).any fun o => touchL (legsA s.2.2.2.1[i].2 s.1) (legsA o.2 s.1) <;> rfl
 ·simp only [ge_lenI,cond_false]
 ·rw [fstI_map]
  cases fstI (meetStep s) 0 s.2.2.2.1 <;> rfl
theorem held_t3 (s : ShdT) (hz : SzS s) (hu : upB s.2.1) : l_w133q_3 FU s (0 : Int) = some ((fstI (fun _ c => nz (legsB s.2.1 (legsA c.2 s.1))) 0 s.2.2.2.1).getD 0) := by
 obtain ⟨z1,z2,z3,z4,z5,z6⟩ := hz
 have hB : s.2.2.2.1.length ≤ B36 := by unfold B36; omega
 unfold l_w133q_3
 refine (lp_fst s.2.2.2.1 (fun _ c => nz (legsB s.2.1 (legsA c.2 s.1))) (some (0 : Int)) hB (fun i hi rec hw => ?_) (fun rec => ?_)).trans ?_
 ·simp only [lt_lenI hi,cond_true,geti_lt _ i hi,Option.bind_some,t_w132q s _ z1 hu (z6 _ (List.getElem_mem hi)),hw,nz]
  cases (legsB s.2.1 (legsA s.2.2.2.1[i].2 s.1) == 0) <;> rfl
 ·simp only [ge_lenI,cond_false]
 ·cases fstI (fun _ c => nz (legsB s.2.1 (legsA c.2 s.1))) 0 s.2.2.2.1 <;> rfl
theorem t_w133q (s : ShdT) (hz : SzS s) (hu : upB s.2.1) : m_w133q s = some ((fstI (meetStep s) 0 s.2.2.2.1).getD ((fstI (fun _ c => nz (legsB s.2.1 (legsA c.2 s.1))) 0 s.2.2.2.1).getD 0)) := by
 show p_w133q FU _ = _
 unfold p_w133q
 rw [held_t2 s hz]
 cases fstI (meetStep s) 0 s.2.2.2.1 with
 | some r => simp only [Option.elim_some,Option.bind_some,Sum.elim_inr,Option.getD_some]
 | none =>
  simp only [Option.elim_none,Option.bind_some,Sum.elim_inl,Option.getD_none]
  rw [held_t3 s hz hu]

theorem sh_marks1 (xs : List MarkT) (hl : xs.length ≤ 1048576) : l_w134q_1 FU xs (0 : Int) = some (markC xs) := by
 unfold l_w134q_1 markC
 refine (lp_fst xs (markStep xs) (some (0 : Int)) (by unfold B36; omega) (fun i hi rec hw => ?_) (fun rec => ?_)).trans ?_
 ·simp only [lt_lenI hi,cond_true,geti_lt xs i hi,Option.bind_some,t_w99q,t_w115q,hw,markStep]
  cases idB xs[i].1 with
  | false => rfl
  | true =>
   cases vlu xs[i].2 with
   | false => rfl
   | true =>
    simp only [Bool.not_true,cond_false,Option.bind_some,Bool.and_self]
    by_cases h0 : 0 < i
    ·have hd : decide ((i : Int) > 0) = true := by simp; omega
     have hi1 : i - 1 < xs.length := by omega
     simp only [hd,cond_true,prv (i := i) (by unfold B36; omega) h0,geti_lt xs _ hi1,Option.bind_some,h0,decide_true,Bool.true_and,List.getElem?_eq_getElem hi1,Option.getD_some]
     have ge : decide (xs[i - 1].1 ≥ xs[i].1) = decide (xs[i].1 ≤ xs[i - 1].1) := rfl
     rw [ge]
     cases decide (xs[i].1 ≤ xs[i - 1].1) <;> rfl
    ·have hd : decide ((i : Int) > 0) = false := by simp; omega
     simp only [hd,cond_false,Option.bind_some,h0,decide_false,Bool.false_and]
 ·simp only [ge_lenI,cond_false]
 ·cases fstI (markStep xs) 0 xs <;> rfl
theorem sh_marks2 (xs : List MarkT) (hl : xs.length ≤ 1048576) : l_w134q_2 FU xs (0 : Int) = some (markC xs) := by
 unfold l_w134q_2 markC
 refine (lp_fst xs (markStep xs) (some (0 : Int)) (by unfold B36; omega) (fun i hi rec hw => ?_) (fun rec => ?_)).trans ?_
 ·simp only [lt_lenI hi,cond_true,geti_lt xs i hi,Option.bind_some,t_w99q,t_w116q,hw,markStep]
  cases idB xs[i].1 with
  | false => rfl
  | true =>
   cases vlu xs[i].2 with
   | false => rfl
   | true =>
    simp only [Bool.not_true,cond_false,Option.bind_some,Bool.and_self]
    by_cases h0 : 0 < i
    ·have hd : decide ((i : Int) > 0) = true := by simp; omega
     have hi1 : i - 1 < xs.length := by omega
     simp only [hd,cond_true,prv (i := i) (by unfold B36; omega) h0,geti_lt xs _ hi1,Option.bind_some,h0,decide_true,Bool.true_and,List.getElem?_eq_getElem hi1,Option.getD_some]
     have ge : decide (xs[i - 1].1 ≥ xs[i].1) = decide (xs[i].1 ≤ xs[i - 1].1) := rfl
     rw [ge]
     cases decide (xs[i].1 ≤ xs[i - 1].1) <;> rfl
    ·have hd : decide ((i : Int) > 0) = false := by simp; omega
     simp only [hd,cond_false,Option.bind_some,h0,decide_false,Bool.false_and]
 ·simp only [ge_lenI,cond_false]
 ·cases fstI (markStep xs) 0 xs <;> rfl
theorem sh_open (s : ShdT) (hz : SzS s) (hup : s.2.2.2.1.Pairwise fun a b => a.1 < b.1) (hd : upM s.2.2.2.2.1) : l_w134q_3 FU s (0 : Int) = some ((s.2.2.1.findIdx? (openB s)).elim (-1) (fun j => (j : Int))) := by
 obtain ⟨z1,z2,z3,z4,z5,z6⟩ := hz
 unfold l_w134q_3
 refine (lp_place s.2.2.1 (openB s) (fun j => some (j : Int)) (some (-1 : Int)) (by unfold B36; omega) (fun j hj rec hw => ?_) (fun rec => ?_)).trans ?_
 ·simp only [lt_lenI hj,cond_true,geti_lt _ j hj,Option.bind_some,t_w125q s _ z3 z4 hup hd,hw]
 ·simp only [ge_lenI,cond_false]
 ·cases s.2.2.1.findIdx? (openB s) <;> rfl
theorem max4 (a b c d : Int) : (decide ((if d > (if c > (if b > a then b else a) then c else (if b > a then b else a)) then d else (if c > (if b > a then b else a) then c else (if b > a then b else a))) > (100 : Int))) = decide (100 < a ∨ 100 < b ∨ 100 < c ∨ 100 < d) := by
 rw [Bool.eq_iff_iff,decide_eq_true_eq,decide_eq_true_eq]
 omega
theorem t_w134q (s : ShdT) (hz : SzS s) : m_w134q s = some (shardC s) := by
 show p_w134q FU _ = _
 unfold p_w134q shardC
 simp only [t_w101q,t_w114q,Option.bind_some,max4]
 unfold shB
 cases inB s.1 0 2 with
 | false => rfl
 | true =>
  simp only [Bool.not_true,cond_false]
  by_cases hb : balCode s.2.1 = 0
  ·simp only [hb,beq_self_eq_true,Bool.not_true,cond_false,ne_eq,not_true_eq_false,if_false]
   have emany : decide (100 < lenI s.2.2.1 ∨ 100 < lenI s.2.2.2.1 ∨ 100 < lenI s.2.2.2.2.1 ∨ 100 < lenI s.2.2.2.2.2) = decide (100 < s.2.2.1.length ∨ 100 < s.2.2.2.1.length ∨ 100 < s.2.2.2.2.1.length ∨ 100 < s.2.2.2.2.2.length) := by
    rw [Bool.eq_iff_iff,decide_eq_true_eq,decide_eq_true_eq,lenI_eq,lenI_eq,lenI_eq,lenI_eq]
    omega
   rw [emany]
   by_cases hm : 100 < s.2.2.1.length ∨ 100 < s.2.2.2.1.length ∨ 100 < s.2.2.2.2.1.length ∨ 100 < s.2.2.2.2.2.length
   ·rw [decide_eq_true hm,if_pos hm]; rfl
   ·rw [decide_eq_false hm,if_neg hm,cond_false,sh_marks1 _ hz.2.1,Option.bind_some,sh_marks2 _ hz.2.2.2.1,Option.bind_some]
    obtain ⟨r,er,hr⟩ := t_w121q s hz
    rw [er,Option.bind_some,t_impl_firstOf3,Option.bind_some]
    by_cases hv : markC s.2.2.1 = 0
    ·have hnv : ¬ markC s.2.2.1 ≠ 0 := by rw [hv]; simp
     rw [if_pos hv,if_neg hnv]
     by_cases hd : markC s.2.2.2.2.1 = 0
     ·have hnd : ¬ markC s.2.2.2.2.1 ≠ 0 := by rw [hd]; simp
      rw [if_pos hd,if_neg hnd]
      have hu1 := (markC_zero hv).1
      have hu2 := (markC_zero hd).1
      have hrr := hr hu1 hu2
      subst hrr
      unfold heldAll
      by_cases hh : heldC s = 0
      ·have hnh : ¬ heldC s ≠ 0 := by rw [hh]; simp
       rw [if_neg hnh,hh]
       have hup := (heldC_zero hh).2
       have hub := (balCode_up hb).1
       simp only [beq_self_eq_true,Bool.not_true,cond_false]
       rw [sh_open s hz hup hu2]
       simp only [Option.bind_some,same_any]
       cases s.2.2.1.any (openB s) with
       | true => simp only [cond_true,Option.bind_some,Bool.true_or]
       | false =>
        simp only [cond_false,t_w128q s hz.2.2.2.1 hz.2.2.2.2.1,Option.bind_some,Bool.false_or]
        cases appB s with
        | false => simp only [Bool.not_false,cond_true]
        | true =>
         simp only [Bool.not_true,cond_false]
         rw [t_w133q s hz hub]
         simp only [Option.bind_some]
      ·have hb2 : (heldC s == 0) = false := by simpa using hh
       rw [if_pos hh,hb2]; rfl
     ·have hb2 : (markC s.2.2.2.2.1 == 0) = false := by simpa using hd
      rw [if_neg hd,if_pos hd,hb2]; rfl
    ·have hb2 : (markC s.2.2.1 == 0) = false := by simpa using hv
     rw [if_neg hv,if_pos hv,hb2]; rfl
  ·have hbb : (balCode s.2.1 == 0) = false := by simpa using hb
   rw [if_pos hb,hbb]; rfl

theorem t_w138q (x y : ConT) (hl : x.2.length ≤ 1048576) : m_w138q (x,y) = some (decide (x = y)) := by
 show p_w138q FU _ = _
 unfold p_w138q
 rw [con_dec]
 by_cases h1 : x.1 = y.1
 ·have e1 : (x.1 == y.1) = true := by simp [h1]
  have e3 : decide (x.1 = y.1) = true := decide_eq_true h1
  simp only [e1,e3,cond_true,Bool.true_and]
  have key : m_w137q (x.2,y.2) = some (decide (x.2 = y.2)) := by
   show p_w137q FU _ = _
   unfold p_w137q
   by_cases h2 : x.2.length = y.2.length
   ·have e2 : (lenI x.2 == lenI y.2) = true := by rw [lenI_eq,lenI_eq]; simp [h2]
    simp only [e2,Bool.not_true,cond_false]
    unfold l_w137q_1
    refine pair2_loop x.2 y.2 hl h2 (fun i hi hj rec hw => ?_) (fun rec => ?_)
    ·simp only [lt_lenI hi,cond_true,geti_lt x.2 i hi,geti_lt y.2 i hj,Option.bind_some,leg_beq,hw]
    ·simp only [ge_lenI,cond_false]
   ·have e2 : (lenI x.2 == lenI y.2) = false := by rw [lenI_eq,lenI_eq]; simp; omega
    have : x.2 ≠ y.2 := fun h => h2 (by rw [h])
    simp only [e2,Bool.not_false,cond_true,decide_eq_false this]
  rw [key]; rfl
 ·have e1 : (x.1 == y.1) = false := by simp [h1]
  simp only [e1,cond_false,decide_eq_false h1,Bool.false_and]

theorem con_none {c : CluT} {i : Int} (hl : c.1.length ≤ 1048576) (h : conOf c.1 i = none) : m_w135q (c,i) = some ((0,[]),false) := by rw [t_w135q c i hl,h]; rfl
theorem con_some {c : CluT} {i : Int} {q} (hl : c.1.length ≤ 1048576) (h : conOf c.1 i = some q) : m_w135q (c,i) = some (q.2,true) := by rw [t_w135q c i hl,h]; rfl
theorem fi_ge {α : Type} (p : α → Bool) (xs : List α) {R : Type} (K : Bool → Option R) : ((match xs.findIdx? p with | some j => some (j : Int) | none => some (-1)).bind fun j => K (decide (j ≥ 0))) = K (xs.any p) := by
 cases hf : xs.findIdx? p with
 | none =>
  rw [List.findIdx?_eq_none_iff] at hf
  have : xs.any p = false := by rw [List.any_eq_false]; intro x hx; rw [hf x hx]; decide
  rw [this]; rfl
 | some j =>
  obtain ⟨hj,hp,_⟩ := List.findIdx?_eq_some_iff_getElem.1 hf
  have : xs.any p = true := List.any_eq_true.2 ⟨_,List.getElem_mem hj,hp⟩
  rw [this]
  have hd : decide ((j : Int) ≥ 0) = true := decide_eq_true (by omega)
  simp only [Option.bind_some,hd]
theorem t_w139q (c : CluT) (hl : c.1.length ≤ 1048576) (h2 : ∀ y ∈ c.1,y.2.length ≤ 1048576) (hs : ∀ s ∈ c.2.1,SzS s) (i : Nat) (hi : i < c.2.1.length) : m_w139q (c,(i : Int)) = some ((shdStep c.1 i c.2.1[i]).getD 0) := by
 have hz := hs _ (List.getElem_mem hi)
 obtain ⟨z1,z2,z3,z4,z5,z6⟩ := id hz
 have hc := t_w134q c.2.1[i] hz
 show p_w139q FU _ = _
 unfold p_w139q
 simp only [geti_lt c.2.1 i hi,Option.bind_some,hc]
 unfold shdStep
 cases h0 : (shardC c.2.1[i] == 0) with
 | false => simp only [Bool.not_false,cond_true,cond_false,Option.getD_some]
 | true =>
  have hsz : shardC c.2.1[i] = 0 := by simpa using h0
  cases h1 : (c.2.1[i].1 == (i : Int)) with
  | false => simp only [Bool.not_true,Bool.not_false,cond_true,cond_false,Option.bind_some,Option.getD_some]
  | true =>
   simp only [Bool.not_true,cond_false,cond_true]
   have l1 : l_w139q_1 FU c.2.1[i].2.2.1 c (i : Int) (0 : Int) = match c.2.1[i].2.2.1.findIdx? (fun m => !(hasC c.1 m.1 (i : Int))) with | some j => some (j : Int) | none => some (-1) := by
    unfold l_w139q_1
    refine lp_place c.2.1[i].2.2.1 (fun m => !(hasC c.1 m.1 (i : Int))) (fun j => some (j : Int)) (some (-1)) (by unfold B36; omega) (fun j hj rec hw => ?_) (fun rec => ?_)
    ·simp only [lt_lenI hj,cond_true,geti_lt _ j hj,Option.bind_some,t_w136q c _ _ hl h2,hw]
    ·simp only [ge_lenI,cond_false]
   have l2 : l_w139q_2 FU c.2.1[i].2.2.2.2.1 c (i : Int) (0 : Int) = match c.2.1[i].2.2.2.2.1.findIdx? (fun m => !(hasC c.1 m.1 (i : Int))) with | some j => some (j : Int) | none => some (-1) := by
    unfold l_w139q_2
    refine lp_place c.2.1[i].2.2.2.2.1 (fun m => !(hasC c.1 m.1 (i : Int))) (fun j => some (j : Int)) (some (-1)) (by unfold B36; omega) (fun j hj rec hw => ?_) (fun rec => ?_)
    ·simp only [lt_lenI hj,cond_true,geti_lt _ j hj,Option.bind_some,t_w136q c _ _ hl h2,hw]
    ·simp only [ge_lenI,cond_false]
   have l3 : l_w139q_3 FU c.2.1[i].2.2.2.1 c (0 : Int) = cond (c.2.1[i].2.2.2.1.any fun h => !(sameC c.1 h)) (some (1 : Int)) (some 0) := by
    unfold l_w139q_3
    refine lp_hit c.2.1[i].2.2.2.1 (fun h => !(sameC c.1 h)) _ _ (by unfold B36; omega) (fun j hj rec hw => ?_) (fun rec => ?_)
    ·simp only [lt_lenI hj,cond_true,geti_lt _ j hj,Option.bind_some]
     unfold sameC
     cases hf : conOf c.1 (c.2.1[i].2.2.2.1[j]).1 with
     | none =>
      rw [con_none hl hf]
      have hsm := t_w138q (0,[]) c.2.1[i].2.2.2.1[j] (by simp)
      have hne : ((0,[]) : ConT) ≠ c.2.1[i].2.2.2.1[j] := fun h => held_nz hsz _ (List.getElem_mem hj) (by rw [← h])
      simp only [Option.bind_some,hsm,decide_eq_false hne,Option.elim,hw]
     | some q =>
      rw [con_some hl hf]
      obtain ⟨g1,g2,g3,g4⟩ := conOf_le (j := q.1) (y := q.2) hf
      have hsm := t_w138q q.2 c.2.1[i].2.2.2.1[j] (h2 _ g3)
      simp only [Option.bind_some,hsm,Option.elim,hw]
    ·simp only [ge_lenI,cond_false]
   rw [l1,l2,l3]
   have e1 := fi_ge (fun m : MarkT => !(hasC c.1 m.1 (i : Int))) c.2.1[i].2.2.2.2.1 (fun b => some b)
   rw [e1]
   rw [fi_ge (fun m : MarkT => !(hasC c.1 m.1 (i : Int))) c.2.1[i].2.2.1 (fun b => cond b (some true) (some (c.2.1[i].2.2.2.2.1.any fun m => !(hasC c.1 m.1 (i : Int)))))]
   rw [List.any_append]
   cases c.2.1[i].2.2.1.any (fun m => !(hasC c.1 m.1 (i : Int))) <;> cases c.2.1[i].2.2.2.2.1.any (fun m => !(hasC c.1 m.1 (i : Int))) <;> cases c.2.1[i].2.2.2.1.any (fun h => !(sameC c.1 h)) <;> rfl

theorem t_w142q (xs : List (Int × Int)) (h : xs.length ≤ 60) : m_w142q xs = some (castGo none xs) := by
 show p_w142q FU _ = _
 unfold p_w142q l_w142q_1
 rw [← cast_all]
 refine (lp_fst xs (castF xs) (some 0) (by unfold B36; omega) (fun i hi rec hw => ?_) (fun rec => ?_)).trans (by cases fstI (castF xs) 0 xs <;> rfl)
 ·simp only [lt_lenI hi,cond_true,geti_lt xs i hi,Option.bind_some,t_w141q,castF,hw]
  cases votB xs[i] with
  | false => rfl
  | true =>
   simp only [Bool.not_true,cond_false]
   by_cases h0 : 0 < i
   ·have hd : decide ((i : Int) > 0) = true := by simp; omega
    have hp := prv (i := i) (by unfold B36; omega) h0
    have hi1 : i - 1 < xs.length := by omega
    simp only [hd,cond_true,hp,geti_lt xs _ hi1,Option.bind_some,h0,decide_true,Bool.true_and,List.getElem?_eq_getElem hi1,Option.getD_some,badP]
    cases decide (xs[i].1 < xs[i - 1].1) <;> cases (xs[i].1 == xs[i - 1].1) <;> cases (xs[i].2 == xs[i - 1].2) <;> rfl
   ·have hd : decide ((i : Int) > 0) = false := by simp; omega
    simp only [hd,cond_false,Option.bind_some,h0,decide_false,Bool.false_and,cond_false]
 ·simp only [ge_lenI,cond_false]

theorem t_w144q (xs : List (Int × Int)) (h : xs.length ≤ 60) : m_w144q xs = some (lastV xs) := by
 show p_w144q FU _ = _
 unfold p_w144q lastV
 by_cases h0 : xs.length = 0
 ·have : xs = [] := List.eq_nil_of_length_eq_zero h0
  subst this
  rfl
 ·have h1 : (lenI xs == 0) = false := by rw [lenI_eq,beq_eq_false_iff_ne]; omega
  have h2 : IntKind.wrap .i64 (lenI xs - 1) = ((xs.length - 1 : Nat) : Int) := by rw [lenI_eq,wrap64 (by omega) (by omega)]; omega
  have hlt : xs.length - 1 < xs.length := by omega
  simp only [h1,cond_false,h2,geti_lt xs _ hlt,Option.bind_some]
  rw [List.getLast?_eq_getElem?,List.getElem?_eq_getElem hlt]
  rfl

theorem t_w145q (x : SlotT) : m_w145q x = some (slotCode x) := by
 obtain ⟨a,b,c,d,xs⟩ := x
 show p_w145q FU _ = _
 unfold p_w145q slotCode
 simp only [t_w99q,t_w101q,t_w97q,Option.bind_some]
 have e0 : (cond (!idB a) (some true) (cond (!shB b) (some true) (some (!inB c (-1) 1000)))) = some (!(idB a && (shB b && inB c (-1) 1000))) := by
  cases idB a <;> cases shB b <;> rfl
 rw [e0]
 simp only [Option.bind_some]
 cases (idB a && (shB b && inB c (-1) 1000)) with
 | false => rfl
 | true =>
  simp only [Bool.not_true,cond_false]
  by_cases hl : xs.length > 60
  ·have : decide (lenI xs > 60) = true := by simp [lenI_eq]; omega
   simp [this,hl]
  ·have : decide (lenI xs > 60) = false := by simp [lenI_eq]; omega
   simp only [this,cond_false,if_neg hl,t_w142q xs (by omega),t_w144q xs (by omega),Option.bind_some]
   by_cases hc : castGo none xs = 0
   ·obtain ⟨d1,d2⟩ := d
    have e2 : (!((d1 == (lastV xs).1) && ((d2 == (lastV xs).2) && true))) = !((d1,d2) == lastV xs) := by
     rw [Bool.and_true]; rfl
    simp only [hc,e2]
    cases ((d1,d2) == lastV xs) with
    | false => simp
    | true => by_cases hh : d1 > c <;> simp [hh]
   ·have hb : (castGo none xs == 0) = false := by rw [beq_eq_false_iff_ne]; exact hc
    simp [hc,hb]

theorem t_w146q (a b : SlotT) : m_w146q (a,b) = some (cmpS a b) := by
 show p_w146q FU _ = _
 unfold p_w146q cmpS
 simp only [t_w111q,t_w112q,Option.bind_some]

theorem t_w147q (xs : List SlotT) : m_w147q xs = some (accCode xs) := by
 show p_w147q FU xs = _
 unfold p_w147q accCode
 by_cases hl : xs.length > 60
 ·have : decide (lenI xs > 60) = true := by simp [lenI_eq]; omega
  rw [this,if_pos hl]; rfl
 ·have : decide (lenI xs > 60) = false := by simp [lenI_eq]; omega
  rw [this,if_neg hl,cond_false]
  unfold l_w147q_1
  refine (lp_fst xs (accStep xs) (some 0) (by unfold B36; omega) (fun i hi rec hw => ?_) (fun rec => ?_)).trans (by cases fstI (accStep xs) 0 xs <;> rfl)
  ·simp only [lt_lenI hi,cond_true,geti_lt xs i hi,Option.bind_some,t_w145q,accStep,hw]
   cases (slotCode xs[i] == 0) with
   | false => rfl
   | true =>
    simp only [Bool.not_true,cond_false]
    by_cases h0 : 0 < i
    ·have hd : decide ((i : Int) > 0) = true := by simp; omega
     have hi1 : i - 1 < xs.length := by omega
     simp only [hd,cond_true,prv (i := i) (by unfold B36; omega) h0,geti_lt xs _ hi1,Option.bind_some,t_w146q,cmpS_ahead,h0,decide_true,Bool.true_and,List.getElem?_eq_getElem hi1,Option.getD_some]
     cases aheadB xs[i - 1] xs[i] <;> rfl
    ·have hd : decide ((i : Int) > 0) = false := by simp; omega
     simp only [hd,cond_false,Option.bind_some,h0,decide_false,Bool.false_and]
  ·simp only [ge_lenI,cond_false]

theorem t_w148q (c : CluT) (hl : c.1.length ≤ 1048576) (h2 : ∀ y ∈ c.1,y.2.length ≤ 1048576) (i : Nat) (a : List SlotT) : m_w148q (c,a) = some ((acsStep c.1 i a).getD 0) := by
 show p_w148q FU _ = _
 unfold p_w148q
 have hc := t_w147q a
 simp only [hc,Option.bind_some]
 unfold acsStep
 cases h0 : (accCode a == 0) with
 | false => simp only [Bool.not_false,cond_true,cond_false,Option.getD_some]
 | true =>
  have hlen := accCode_len (a := a) (by simpa using h0)
  have l1 : l_w148q_1 FU c a (0 : Int) = match a.findIdx? (fun s => !(hasC c.1 s.1 s.2.1)) with | some j => some (j : Int) | none => some (-1) := by
   unfold l_w148q_1
   refine lp_place a (fun s => !(hasC c.1 s.1 s.2.1)) (fun j => some (j : Int)) (some (-1)) (by unfold B36; omega) (fun j hj rec hw => ?_) (fun rec => ?_)
   ·simp only [lt_lenI hj,cond_true,geti_lt _ j hj,Option.bind_some,t_w136q c _ _ hl h2,hw]
   ·simp only [ge_lenI,cond_false]
  simp only [Bool.not_true,cond_false,cond_true]
  rw [l1]
  rw [fi_ge (fun s : SlotT => !(hasC c.1 s.1 s.2.1)) a (fun b => cond b (some (4 : Int)) (some 0))]
  cases a.any (fun s => !(hasC c.1 s.1 s.2.1)) <;> rfl

theorem t_Contains (xs : List Int) (y : Int) (hl : xs.length ≤ 1048576) : m_w153q (xs,y) = some (xs.any fun z => z == y) := by
 show p_w153q FU _ = _
 unfold p_w153q
 have e1 : m_w152q (xs,y) = match xs.findIdx? (fun z => z == y) with | some j => some (j : Int) | none => some (-1) := by
  show p_w152q FU _ = _
  unfold p_w152q l_w152q_1
  refine lp_place xs (fun z => z == y) (fun j => some (j : Int)) (some (-1)) (by unfold B36; omega) (fun j hj rec hw => ?_) (fun rec => ?_)
  ·have hb : (y == xs[j]) = (xs[j] == y) := by rw [Bool.eq_iff_iff]; simp only [beq_iff_eq]; exact eq_comm
   simp only [lt_lenI hj,cond_true,geti_lt _ j hj,Option.bind_some,hb,hw]
  ·simp only [ge_lenI,cond_false]
 rw [e1]
 exact fi_ge (fun z => z == y) xs (fun b => some b)
theorem t_w154q (c : CluT) (hn : c.2.2.1.length ≤ 1048576) (t : TryT) (hf : t.2.2.2.2.1.length ≤ 1048576) (ho : t.2.2.2.2.2.length ≤ 1048576) : m_w154q (c,t) = some ((tryC c.2.2.1.length t).getD 0) := by
 show p_w154q FU _ = _
 unfold p_w154q tryC
 have hlen : ((lenI t.2.2.2.2.2) == (lenI t.2.2.2.2.1)) = decide (t.2.2.2.2.1.length = t.2.2.2.2.2.length) := by
  rw [lenI_eq,lenI_eq,Bool.eq_iff_iff]
  simp only [beq_iff_eq,decide_eq_true_eq,Int.natCast_inj]
  exact eq_comm
 simp only [hlen]
 cases decide (t.2.2.2.2.1.length = t.2.2.2.2.2.length) with
 | false => rfl
 | true =>
  simp only [Bool.not_true,cond_false]
  have l1 : l_w154q_1 FU c.2.2.1 t.2.2.2.2.1 (0 : Int) = match t.2.2.2.2.1.findIdx? (fun p => !(inB p 0 ((c.2.2.1.length : Int) - 1))) with | some j => some (j : Int) | none => some (-1) := by
   unfold l_w154q_1
   refine lp_place t.2.2.2.2.1 (fun p => !(inB p 0 ((c.2.2.1.length : Int) - 1))) (fun j => some (j : Int)) (some (-1)) (by unfold B36; omega) (fun j hj rec hw => ?_) (fun rec => ?_)
   ·simp only [lt_lenI hj,cond_true,geti_lt _ j hj,Option.bind_some,t_place_Acceptor _ _ hn,hw]
   ·simp only [ge_lenI,cond_false]
  have t2 : ∀ v : Int × Int,m_w151q v = some (oldB v) := by
   intro v
   show p_w151q FU _ = _
   unfold p_w151q oldB
   simp only [t_w143q,Option.bind_some,t_w141q]
   cases ((v.1 == (-1 : Int)) && ((v.2 == (0 : Int)) && true)) <;> rfl
  have l2 : l_w151q FU t.2.2.2.2.2 (0 : Int) = match t.2.2.2.2.2.findIdx? oldB with | some j => some (j : Int) | none => some (-1) := by
   unfold l_w151q
   refine lp_place t.2.2.2.2.2 oldB (fun j => some (j : Int)) (some (-1)) (by unfold B36; omega) (fun j hj rec hw => ?_) (fun rec => ?_)
   ·simp only [lt_lenI hj,cond_true,geti_lt _ j hj,Option.bind_some,t2,hw]
   ·simp only [ge_lenI,cond_false]
  have l3 : l_w154q_3 FU t.2.2.2.2.1 (0 : Int) = some ((fstI (dupStep t.2.2.2.2.1) 0 t.2.2.2.2.1).getD 0) := by
   unfold l_w154q_3
   refine dup_loop _ hf (fun j hj rec hw => ?_) (fun rec => ?_)
   ·have hcut : cutL none (some (j : Int)) t.2.2.2.2.1 = t.2.2.2.2.1.take j := by simp [cutL]
    simp only [lt_lenI hj,cond_true,bnd_take _ j (Nat.le_of_lt hj),chk,geti_lt _ j hj,Option.bind_some,hcut,t_Contains _ _ (show (t.2.2.2.2.1.take j).length ≤ 1048576 by rw [List.length_take]; omega),hw]
   ·simp only [ge_lenI,cond_false]
  rw [l1,l2,l3]
  have e1 := fi_ge oldB t.2.2.2.2.2 (fun b => some b)
  rw [e1]
  rw [fi_ge (fun p : Int => !(inB p 0 ((c.2.2.1.length : Int) - 1))) t.2.2.2.2.1 (fun b => cond b (some true) (some (t.2.2.2.2.2.any oldB)))]
  cases t.2.2.2.2.1.any (fun p => !(inB p 0 ((c.2.2.1.length : Int) - 1))) <;> cases t.2.2.2.2.2.any oldB <;> rfl
theorem t_w149q (a b : TryT) : ∃ r,m_w149q (a,b) = some r ∧ decide (r ≥ 0) = !(ahd2 a b) := by
 refine ⟨cmpS (a.1,(a.2.1,(0,((0,0),[])))) (b.1,(b.2.1,(0,((0,0),[])))),?_,cmpS_ahead _ _⟩
 show p_w149q FU _ = _
 unfold p_w149q
 simp only [t_w111q,t_w112q,Option.bind_some]
 rfl
theorem t_w155q (c : CluT) (hl : c.1.length ≤ 1048576) (h2 : ∀ y ∈ c.1,y.2.length ≤ 1048576) (hn : c.2.2.1.length ≤ 1048576) (ts : List TryT) (hts : ts.length ≤ 1048576) (hf : ∀ t ∈ ts,t.2.2.2.2.1.length ≤ 1048576 ∧ t.2.2.2.2.2.length ≤ 1048576) :
  m_w155q (c,ts) = some ((fstI (tryStep c.1 c.2.2.1.length ts) 0 ts).getD 0) := by
 show p_w155q FU _ = _
 unfold p_w155q l_w155q_1
 refine (lp_fst ts (tryStep c.1 c.2.2.1.length ts) (some 0) (by unfold B36; omega) (fun i hi rec hw => ?_) (fun rec => ?_)).trans ?_
 ·have hb := hf _ (List.getElem_mem hi)
  have htf := t_w154q c hn ts[i] hb.1 hb.2
  simp only [lt_lenI hi,cond_true,geti_lt ts i hi,Option.bind_some,t_w136q c _ _ hl h2]
  unfold tryStep
  cases hasC c.1 ts[i].1 ts[i].2.1 with
  | false => rfl
  | true =>
   simp only [Bool.not_true,cond_false,t_w97q,Option.bind_some]
   cases inB ts[i].2.2.1 1 1000 with
   | false => rfl
   | true =>
    cases inB ts[i].2.2.2.1 0 2 with
    | false => rfl
    | true =>
     simp only [Bool.not_true,cond_false,Option.bind_some,Bool.or_self]
     rcases Nat.eq_zero_or_pos i with h0 | h1
     ·have d1 : decide ((i : Int) > 0) = false := decide_eq_false (by omega)
      have d2 : decide (0 < i) = false := decide_eq_false (by omega)
      simp only [d1,d2,cond_false,Option.bind_some,Bool.false_and,htf,hw]
      have hne := tryC_ne (c.2.2.1.length : Int) ts[i]
      cases hq : tryC (c.2.2.1.length : Int) ts[i] with
      | none => rfl
      | some r =>
       have hr0 : (r == 0) = false := by
        rw [beq_eq_false_iff_ne]
        rintro rfl
        exact hne hq
       simp only [Option.getD_some,hr0,Bool.not_false,cond_true]
     ·have d1 : decide ((i : Int) > 0) = true := decide_eq_true (by omega)
      have d2 : decide (0 < i) = true := decide_eq_true h1
      have hi1 : i - 1 < ts.length := by omega
      obtain ⟨r,hr,hd⟩ := t_w149q ts[i - 1] ts[i]
      simp only [d1,d2,cond_true,prv (show i ≤ B36 by unfold B36; omega) h1,geti_lt ts (i - 1) hi1,Option.bind_some,Bool.true_and,List.getElem?_eq_getElem hi1,Option.getD_some,hr,hd]
      cases ahd2 ts[i - 1] ts[i] with
      | false => rfl
      | true =>
       simp only [Bool.not_true,cond_false,htf,Option.bind_some,hw]
       have hne := tryC_ne (c.2.2.1.length : Int) ts[i]
       cases hq : tryC (c.2.2.1.length : Int) ts[i] with
       | none => rfl
       | some r =>
        have hr0 : (r == 0) = false := by
         rw [beq_eq_false_iff_ne]
         rintro rfl
         exact hne hq
        simp only [Option.getD_some,hr0,Bool.not_false,cond_true]
 ·simp only [ge_lenI,cond_false]
 ·cases fstI (tryStep c.1 c.2.2.1.length ts) 0 ts <;> rfl

theorem t_Or (xs : List Int) (hl : xs.length ≤ 5) : m_w112q xs = some ((fstI (fun _ y => cond (!(y == 0)) (some y) none) 0 xs).getD 0) := by
 show p_w112q FU _ = _
 unfold p_w112q l_w112q_1
 refine (lp_fst xs (fun _ y => cond (!(y == 0)) (some y) none) (some 0) (by unfold B36; omega) (fun i hi rec hw => ?_) (fun rec => ?_)).trans ?_
 ·simp only [lt_lenI hi,cond_true,geti_lt xs i hi,Option.bind_some,hw]
  cases (xs[i] == 0) <;> rfl
 ·simp only [ge_lenI,cond_false]
 ·cases fstI (fun _ y => cond (!(y == 0)) (some y) none) 0 xs <;> rfl
def cmp1 (a b : Int) : Int := if a < b then -1 else if a > b then 1 else 0
theorem cmp_bef : ∀ (qs : List (Int × Int)) (i : Nat),decide ((fstI (fun _ y => cond (!(y == 0)) (some y) none) i (qs.map fun q => cmp1 q.1 q.2)).getD 0 ≥ (0 : Int)) = !((fstI befS i qs).getD false)
 | [],_ => rfl
 | q :: qs,i => by
  have ih := cmp_bef qs (i + 1)
  simp only [List.map_cons,fstI]
  unfold befS
  by_cases h1 : q.1 < q.2
  ·have hc : cmp1 q.1 q.2 = -1 := by unfold cmp1; rw [if_pos h1]
   have hn : (q.1 == q.2) = false := by rw [beq_eq_false_iff_ne]; omega
   have hd : decide (q.1 < q.2) = true := decide_eq_true h1
   rw [hc,hn,hd]; rfl
  ·by_cases h2 : q.1 > q.2
   ·have hc : cmp1 q.1 q.2 = 1 := by unfold cmp1; rw [if_neg h1,if_pos h2]
    have hn : (q.1 == q.2) = false := by rw [beq_eq_false_iff_ne]; omega
    have hd : decide (q.1 < q.2) = false := decide_eq_false h1
    rw [hc,hn,hd]; rfl
   ·have hc : cmp1 q.1 q.2 = 0 := by unfold cmp1; rw [if_neg h1,if_neg h2]
    have hn : (q.1 == q.2) = true := by rw [beq_iff_eq]; omega
    rw [hc,hn]
    exact ih
theorem t_w156q (a b : HrdT) : ∃ r,m_w156q (a,b) = some r ∧ decide (r ≥ 0) = !(befB a b) := by
 refine ⟨_,?_,cmp_bef (befL a b) 0⟩
 show p_w156q FU _ = _
 unfold p_w156q
 simp only [t_w111q,Option.bind_some]
 have h := t_Or [cmp1 a.1 b.1,cmp1 a.2.1 b.2.1,cmp1 a.2.2.1 b.2.2.1,cmp1 a.2.2.2.1 b.2.2.2.1,cmp1 a.2.2.2.2 b.2.2.2.2] (by simp)
 unfold cmp1 at h
 rw [h]
 rfl

theorem t_w157q (c : CluT) (hl : c.1.length ≤ 1048576) (h2 : ∀ y ∈ c.1,y.2.length ≤ 1048576) (hn : c.2.2.1.length ≤ 1048576) (ks : List HrdT) (hk : ks.length ≤ 1048576) : m_w157q (c,ks) = some (hrsC c.1 c.2.2.1.length ks) := by
 show p_w157q FU _ = _
 unfold p_w157q l_w157q_1
 refine (lp_fst ks (hrdStep c.1 c.2.2.1.length ks) (some 0) (by unfold B36; omega) (fun j hj rec hw => ?_) (fun rec => ?_)).trans ?_
 ·simp only [lt_lenI hj,cond_true,geti_lt _ j hj,Option.bind_some,t_w136q c _ _ hl h2,t_w140q,t_w115q,t_place_Acceptor _ _ hn]
  unfold hrdStep
  cases hasC c.1 ks[j].1 ks[j].2.1 with
  | false => rfl
  | true =>
   simp only [Bool.not_true,cond_false]
   cases bal ks[j].2.2.1 with
   | false => rfl
   | true =>
    cases vlu ks[j].2.2.2.1 with
    | false => rfl
    | true =>
     cases inB ks[j].2.2.2.2 0 ((c.2.2.1.length : Int) - 1) with
     | false => rfl
     | true =>
      simp only [Bool.not_true,cond_false,Option.bind_some,Bool.or_self]
      rcases Nat.eq_zero_or_pos j with h0 | h1
      ·have d1 : decide ((j : Int) > 0) = false := decide_eq_false (by omega)
       have d2 : decide (0 < j) = false := decide_eq_false (by omega)
       simp only [d1,d2,cond_false,Option.bind_some,Bool.false_and,hw]
      ·have d1 : decide ((j : Int) > 0) = true := decide_eq_true (by omega)
       have d2 : decide (0 < j) = true := decide_eq_true h1
       have hi1 : j - 1 < ks.length := by omega
       obtain ⟨r,hr,hd⟩ := t_w156q ks[j - 1] ks[j]
       simp only [d1,d2,cond_true,prv (show j ≤ B36 by unfold B36; omega) h1,geti_lt ks (j - 1) hi1,Option.bind_some,Bool.true_and,List.getElem?_eq_getElem hi1,Option.getD_some,hr,hd,hw]
       cases befB ks[j - 1] ks[j] <;> rfl
 ·simp only [ge_lenI,cond_false]
 ·unfold hrsC
  cases fstI (hrdStep c.1 c.2.2.1.length ks) 0 ks <;> rfl
theorem t_w158q (c : CluT) (hl : c.1.length ≤ 1048576) (h2 : ∀ y ∈ c.1,y.2.length ≤ 1048576) (hn : c.2.2.1.length ≤ 1048576) (l : LdrT) (hz : SzL l) : m_w158q (c,l) = some (ldrC c.1 c.2.2.1.length l) := by
 show p_w158q FU _ = _
 unfold p_w158q ldrC
 simp only [t_w97q,Option.bind_some]
 cases inB l.1 0 400 with
 | false => rfl
 | true =>
  have hlen : (cond (decide ((lenI l.2.1) > (60 : Int))) (some true) (some (decide ((lenI l.2.2) > (300 : Int))))) = some (decide (60 < l.2.1.length) || decide (300 < l.2.2.length)) := by
   have q1 : decide ((lenI l.2.1) > (60 : Int)) = decide (60 < l.2.1.length) := by rw [lenI_eq,Bool.eq_iff_iff]; simp only [decide_eq_true_eq]; omega
   have q2 : decide ((lenI l.2.2) > (300 : Int)) = decide (300 < l.2.2.length) := by rw [lenI_eq,Bool.eq_iff_iff]; simp only [decide_eq_true_eq]; omega
   rw [q1,q2]
   cases decide (60 < l.2.1.length) <;> rfl
  simp only [Bool.not_true,cond_false,hlen,Option.bind_some]
  cases hbig : (decide (60 < l.2.1.length) || decide (300 < l.2.2.length)) with
  | true => rfl
  | false =>
   rw [Bool.or_eq_false_iff] at hbig
   have b1 := of_decide_eq_false hbig.1
   have b2 := of_decide_eq_false hbig.2
   simp only [cond_false,t_w155q c hl h2 hn l.2.1 (by omega) hz,t_w157q c hl h2 hn l.2.2 (by omega),Option.bind_some,t_w122q]
   rfl

theorem fstI_nz {α : Type} (f : Nat → α → Option Int) (hf : ∀ i x,f i x ≠ some 0) : ∀ (xs : List α) (i : Nat),fstI f i xs ≠ some 0
 | [],i,h => by cases h
 | x :: xs,i,h => by
  simp only [fstI] at h
  cases hq : f i x with
  | none => rw [hq] at h; exact fstI_nz f hf xs (i + 1) h
  | some r => rw [hq] at h; exact hf i x (hq.trans h)
theorem fstI_map {α β γ : Type} (f : Nat → α → Option β) (g : β → γ) : ∀ (xs : List α) (i : Nat),fstI (fun i x => (f i x).map g) i xs = (fstI f i xs).map g
 | [],i => rfl
 | x :: xs,i => by
  simp only [fstI]
  cases f i x with
  | none => exact fstI_map f g xs (i + 1)
  | some r => rfl
theorem fstI_const {α : Type} (f : Nat → α → Option Int) (g : α → Option Int) (h : ∀ i x,f i x = g x) : ∀ (xs : List α) (i : Nat),fstI f i xs = fstI (fun _ x => g x) i xs
 | [],i => rfl
 | x :: xs,i => by
  simp only [fstI,h]
  cases g x with
  | none => exact fstI_const f g h xs (i + 1)
  | some r => rfl
theorem t_w166q (c : CluT) (hz : SzC c) : m_w166q c = some (cluC c) := by
 obtain ⟨l1,l2,l3,l4,l5,l6,l7,l8⟩ := hz
 show p_w166q FU _ = _
 unfold p_w166q
 have z1 : m_w96q c.2.1 = some (c.2.1.length : Int) := rfl
 have z2 : m_w98q c.2.2.1 = some (c.2.2.1.length : Int) := rfl
 have big : (cond (decide ((lenI c.1) > (20 : Int))) (some true) ((m_w96q c.2.1).bind fun r5 => ((m_w97q (r5,(1 : Int),(3 : Int))).bind fun r6 => (cond (!r6) (some true) ((m_w98q c.2.2.1).bind fun r7 => ((m_w97q (r7,(1 : Int),(5 : Int))).bind fun r8 => (cond (!r8) (some true) (cond (!((lenI c.2.2.2.1) == (2 : Int))) (some true) (some (decide ((lenI c.2.2.2.2) > (200 : Int)))))))))))) = some (bigC c) := by
  unfold bigC
  have q1 : decide ((lenI c.1) > (20 : Int)) = decide (20 < c.1.length) := by rw [lenI_eq,Bool.eq_iff_iff]; simp only [decide_eq_true_eq]; omega
  have q4 : ((lenI c.2.2.2.1) == (2 : Int)) = decide (c.2.2.2.1.length = 2) := by rw [lenI_eq,Bool.eq_iff_iff]; simp only [beq_iff_eq,decide_eq_true_eq]; omega
  have q5 : decide ((lenI c.2.2.2.2) > (200 : Int)) = decide (200 < c.2.2.2.2.length) := by rw [lenI_eq,Bool.eq_iff_iff]; simp only [decide_eq_true_eq]; omega
  rw [q1,q4,q5]
  simp only [z1,z2,t_w97q,Option.bind_some]
  cases decide (20 < c.1.length) <;> cases inB c.2.1.length 1 3 <;> cases inB c.2.2.1.length 1 5 <;> cases decide (c.2.2.2.1.length = 2) <;> rfl
 have lm : l_w166q_4 FU c (0 : Int) = some (msgsC c) := by
  unfold l_w166q_4 msgsC
  refine nz_loop c.2.2.2.2 (msgCode c.1 c.2.1.length c.2.2.1.length c.2.2.2.1.length) l8 (fun i hi rec hw => ?_) (fun rec => ?_)
  ·simp only [lt_lenI hi,cond_true,geti_lt _ i hi,Option.bind_some,t_w165q c _ l1 l2 l3 l5 l6,hw]
  ·simp only [ge_lenI,cond_false]
 have ll : l_w166q_3 FU c (0 : Int) = some ((fstI (fun _ l => nz (ldrC c.1 c.2.2.1.length l)) 0 c.2.2.2.1).getD 0) := by
  unfold l_w166q_3
  refine nz_loop c.2.2.2.1 (ldrC c.1 c.2.2.1.length) l6 (fun i hi rec hw => ?_) (fun rec => ?_)
  ·simp only [lt_lenI hi,cond_true,geti_lt _ i hi,Option.bind_some,t_w158q c l1 l2 l5 _ (l7 _ (List.getElem_mem hi)),hw]
  ·simp only [ge_lenI,cond_false]
 have la : l_w166q_2 FU c (0 : Int) = some ((fstI (acsStep c.1) 0 c.2.2.1).getD 0) := by
  unfold l_w166q_2
  have hc : fstI (acsStep c.1) 0 c.2.2.1 = fstI (fun _ a => nz ((acsStep c.1 0 a).getD 0)) 0 c.2.2.1 := fstI_const _ _ (fun i a => by
   show acsStep c.1 0 a = _
   unfold nz
   have hne := acsStep_ne c.1 0 a
   cases hq : acsStep c.1 0 a with
   | none => rfl
   | some r =>
    have hr0 : (r == 0) = false := by
     rw [beq_eq_false_iff_ne]
     rintro rfl
     exact hne hq
    simp only [Option.getD_some,hr0,cond_false]) _ _
  rw [hc]
  refine nz_loop c.2.2.1 (fun a => (acsStep c.1 0 a).getD 0) l5 (fun i hi rec hw => ?_) (fun rec => ?_)
  ·simp only [lt_lenI hi,cond_true,geti_lt _ i hi,Option.bind_some,t_w148q c l1 l2 0,hw]
  ·simp only [ge_lenI,cond_false]
 have ls : l_w166q_1 FU c (0 : Int) = ((fstI (shdStep c.1) 0 c.2.1).map Sum.inr).elim (some (Sum.inl ())) some := by
  unfold l_w166q_1
  rw [← fstI_map]
  refine lp_fstE c.2.1 _ _ (by unfold B36; omega) (fun i hi rec hw => ?_) (fun rec => ?_)
  ·simp only [lt_lenI hi,cond_true,Option.bind_some,t_w139q c l1 l2 l4 i hi,hw]
   have hne := shdStep_ne c.1 i c.2.1[i]
   cases hq : shdStep c.1 i c.2.1[i] with
   | none => rfl
   | some r =>
    have hr0 : (r == 0) = false := by
     rw [beq_eq_false_iff_ne]
     rintro rfl
     exact hne hq
    simp only [Option.getD_some,hr0,Bool.not_false,cond_true,Option.map_some]
    rfl
  ·simp only [ge_lenI,cond_false]
 rw [big,lm,ll,la,ls]
 simp only [Option.bind_some,t_w109q c l1 l2 l3,t_w122q]
 have hfo : ∀ a b : Int,(if a = 0 then b else a) = orZ a b := fun a b => by
  unfold orZ
  by_cases h : a = 0
  ·rw [if_pos h,h]; rfl
  ·have : (a == 0) = false := by rw [beq_eq_false_iff_ne]; exact h
   rw [if_neg h,this]; rfl
 rw [hfo]
 unfold cluC
 cases bigC c with
 | true => rfl
 | false =>
  simp only [cond_false]
  show cond (!(consC c.1 c.2.1.length == 0)) (some (consC c.1 c.2.1.length)) _ = some (cond (!(consC c.1 c.2.1.length == 0)) (consC c.1 c.2.1.length) _)
  cases (consC c.1 c.2.1.length == 0) with
  | false => rfl
  | true =>
   simp only [Bool.not_true,cond_false]
   have hne := fstI_nz (shdStep c.1) (shdStep_ne c.1) c.2.1 0
   cases hq : fstI (shdStep c.1) 0 c.2.1 with
   | some r =>
    have hr0 : (r == 0) = false := by
     rw [beq_eq_false_iff_ne]
     rintro rfl
     exact hne hq
    simp only [Option.map_some,Option.elim,Option.bind_some,Sum.elim_inr,Option.getD_some]
    unfold orZ
    rw [hr0]
    rfl
   | none =>
    simp only [Option.map_none,Option.elim,Option.bind_some,Sum.elim_inl,Option.getD_none]
    generalize orZ ((fstI (acsStep c.1) 0 c.2.2.1).getD 0) ((fstI (fun _ l => nz (ldrC c.1 c.2.2.1.length l)) 0 c.2.2.2.1).getD 0) = u
    show cond (!(u == 0)) (some u) (some (msgsC c)) = some (cond (!(u == 0)) u (msgsC c))
    cases (u == 0) <;> rfl

theorem t_w170q (xs : List (Int × Int)) (h : xs.length ≤ 1048576) : m_w170q xs = some xs := by
 show p_w170q FU _ = _
 unfold p_w170q
 have hb : Nat.ble ((([] : List (Int × Int)).length + xs.length) * 16) maxBytes = true := ble_mem (by simp only [List.length_nil,maxBytes]; omega)
 rw [chk_true hb]
 exact clone_same xs _ rfl

theorem t_w171q (x : SlotT) (h : x.2.2.2.2.length ≤ 1048576) : m_w171q x = some x := by
 show p_w171q FU _ = _
 unfold p_w171q
 rw [t_w170q _ h]
 rfl

theorem t_w172q (xs : List SlotT) (hl : xs.length ≤ 1048576) (hc : ∀ x ∈ xs,x.2.2.2.2.length ≤ 1048576) : m_w172q xs = some xs := by
 show p_w172q FU _ = _
 unfold p_w172q l_w172q_1
 refine (grow_loop2 64 (by omega) xs m_w171q id (fun x hx => t_w171q x (hc x hx)) hl).trans ?_
 rw [List.map_id]

theorem t_w173q (xs : List (List SlotT)) (hl : xs.length ≤ 1048576) (h : ∀ x ∈ xs,accCode x = 0) : m_w173q xs = some xs := by
 show p_w173q FU _ = _
 unfold p_w173q l_w173q_1
 have hc : ∀ x ∈ xs,m_w172q x = some (id x) := fun x hx => by
  have hz := accCode_zero (h x hx)
  exact t_w172q x (by have := hz.1; omega) (fun y hy => by have := (slotCode_zero (hz.2.1 y hy)).2.1; omega)
 refine (grow_loop 24 (by omega) xs m_w172q id hc hl).trans ?_
 rw [List.map_id]

theorem t_slices_Clone_BalS (xs : List BalT) (h : xs.length ≤ 1048576) : m_w175q xs = some xs := by
 show p_w175q FU _ = _
 unfold p_w175q
 have hb : Nat.ble ((([] : List (Int × (Int × Int))).length + xs.length) * 24) maxBytes = true := ble_mem (by simp only [List.length_nil,maxBytes]; omega)
 rw [chk_true hb]
 exact clone_same xs _ rfl
theorem t_slices_Clone_Mark (xs : List MarkT) (h : xs.length ≤ 1048576) : m_w176q xs = some xs := by
 show p_w176q FU _ = _
 unfold p_w176q
 have hb : Nat.ble ((([] : List (Int × Int)).length + xs.length) * 16) maxBytes = true := ble_mem (by simp only [List.length_nil,maxBytes]; omega)
 rw [chk_true hb]
 exact clone_same xs _ rfl
theorem t_slices_Clone_Leg (xs : List LegT) (h : xs.length ≤ 1048576) : m_w167q xs = some xs := by
 show p_w167q FU _ = _
 unfold p_w167q
 have hb : Nat.ble ((([] : List Ty90).length + xs.length) * 32) maxBytes = true := ble_mem (by simp only [List.length_nil,maxBytes]; omega)
 rw [chk_true hb]
 exact clone_same xs _ rfl
theorem t_slices_Clone_Ints (xs : List Int) (h : xs.length ≤ 1048576) : m_w177q xs = some xs := by
 show p_w177q FU _ = _
 unfold p_w177q
 have hb : Nat.ble ((([] : List Int).length + xs.length) * 8) maxBytes = true := ble_mem (by simp only [List.length_nil,maxBytes]; omega)
 rw [chk_true hb]
 exact clone_same xs _ rfl
theorem t_w168q (c : ConT) (h : c.2.length ≤ 1048576) : m_w168q c = some c := by
 show p_w168q FU _ = _
 unfold p_w168q
 simp only [t_slices_Clone_Leg c.2 h,Option.bind_some]
theorem t_w169q (xs : List ConT) (hl : xs.length ≤ 1048576) (hc : ∀ c ∈ xs,c.2.length ≤ 1048576) : m_w169q xs = some xs := by
 show p_w169q FU _ = _
 unfold p_w169q l_w169q_1
 refine Eq.trans (lp_foldI xs (fun (s : List ConT) c => s ++ [c]) (fun i (s : List ConT) => (s,(i : Int))) (fun s => some s) (fun i s => s.length = i) (by unfold B36; omega) [] rfl (fun i hi s hI => ⟨by simp [hI],fun rec => ?_⟩) (fun s hI rec => ?_)).1 ?_
 ·have c3 : Nat.ble ((s.length + [xs[i]].length) * 32) maxBytes = true := by rw [Nat.ble_eq]; simp only [List.length_cons,List.length_nil,maxBytes]; omega
  simp only [lt_lenI hi,cond_true,geti_lt xs i hi,Option.bind_some,t_w168q _ (hc _ (List.getElem_mem hi)),chk,c3,wrap_next hi hl]
 ·simp only [ge_lenI,cond_false]
 ·have : ∀ (ys zs : List ConT),ys.foldl (fun (s : List ConT) c => s ++ [c]) zs = zs ++ ys := by
   intro ys
   induction ys with
   | nil => intro zs; simp
   | cons y ys ih => intro zs; rw [List.foldl_cons,ih]; simp
  rw [this]; rfl
theorem t_w178q (s : ShdT) (hz : SzS s) : m_w178q s = some s := by
 obtain ⟨z1,z2,z3,z4,z5,z6⟩ := hz
 show p_w178q FU _ = _
 unfold p_w178q
 simp only [t_slices_Clone_BalS _ z1,t_slices_Clone_Mark _ z2,t_slices_Clone_Mark _ z4,t_slices_Clone_Ints _ z5,t_w169q _ z3 z6,Option.bind_some]

theorem t_Clone_Msg (xs : List MsgT) (h : xs.length ≤ 1048576) : m_w174q xs = some xs := by
 show p_w174q FU _ = _
 unfold p_w174q
 have hb : Nat.ble ((([] : List MsgT).length + xs.length) * 72) maxBytes = true := Nat.ble_eq_true_of_le (by simp only [List.length_nil,maxBytes]; omega)
 simp only [chk,hb,cond_true]
 exact clone_same xs _ rfl
theorem t_Clone_Hrd (xs : List HrdT) (h : xs.length ≤ 1048576) : m_w179q xs = some xs := by
 show p_w179q FU _ = _
 unfold p_w179q
 have hb : Nat.ble ((([] : List HrdT).length + xs.length) * 40) maxBytes = true := Nat.ble_eq_true_of_le (by simp only [List.length_nil,maxBytes]; omega)
 simp only [chk,hb,cond_true]
 exact clone_same xs _ rfl
theorem t_w180q (c : CluT) (hz : SzC c) (hk : OkC c) : m_w180q c = some c := by
 obtain ⟨l1,l2,l3,l4,l5,l6,l7,l8⟩ := hz
 show p_w180q FU _ = _
 unfold p_w180q
 simp only [t_w169q c.1 l1 l2,t_w173q _ l5 hk.acc,t_Clone_Msg _ l8,Option.bind_some,dup_eq,same_self]
 have e1 : l_w180q_1 FU c.2.1 ((0 : Int),(c.1,([],(c.2.2.1,([],c.2.2.2.2))))) = some (c.1,(c.2.1,(c.2.2.1,([],c.2.2.2.2)))) := by
  unfold l_w180q_1
  refine app_loop c.2.1 (fun i (s : List ShdT) => ((i : Int),(c.1,(s,(c.2.2.1,(([] : List LdrT),c.2.2.2.2)))))) (fun s => some (c.1,(s,(c.2.2.1,([],c.2.2.2.2))))) (by unfold B36; omega) (fun i hi s hI rec => ?_) (fun s hI rec => ?_)
  ·have k1 : Nat.ble ((s.length + [c.2.1[i]].length) * 128) maxBytes = true := Nat.ble_eq_true_of_le (by simp only [List.length_cons,List.length_nil,maxBytes]; omega)
   have hc := t_w178q c.2.1[i] (l4 _ (List.getElem_mem hi))
   simp only [lt_lenI hi,cond_true,geti_lt c.2.1 i hi,Option.bind_some,hc,k1,chk,wrap_next hi l3]
  ·simp only [ge_lenI,cond_false]
 have et : ∀ l ∈ c.2.2.2.1,l_w180q_2 FU l.2.1 (([] : List TryT),(0 : Int)) = some l.2.1 := by
  intro l hl
  obtain ⟨q1,q2⟩ := hk.lead l hl
  unfold l_w180q_2
  refine app_loop l.2.1 (fun i (s : List TryT) => (s,(i : Int))) (fun s => some s) (by unfold B36; omega) (fun i hi s hI rec => ?_) (fun s hI rec => ?_)
  ·obtain ⟨z1,z2⟩ := l7 l hl _ (List.getElem_mem hi)
   have k1 : Nat.ble ((s.length + [(l.2.1[i].1,(l.2.1[i].2.1,(l.2.1[i].2.2.1,(l.2.1[i].2.2.2.1,(l.2.1[i].2.2.2.2.1,l.2.1[i].2.2.2.2.2)))))].length) * 80) maxBytes = true := Nat.ble_eq_true_of_le (by simp only [List.length_cons,List.length_nil,maxBytes]; omega)
   simp only [lt_lenI hi,cond_true,geti_lt l.2.1 i hi,Option.bind_some,t_slices_Clone_Ints _ z1,t_w170q _ z2,k1,chk,wrap_next hi (show l.2.1.length ≤ 1048576 by omega)]
  ·simp only [ge_lenI,cond_false]
 have e3 : l_w180q_3 FU c.2.2.2.1 ((0 : Int),(c.1,(c.2.1,(c.2.2.1,([],c.2.2.2.2))))) = some (c.1,(c.2.1,(c.2.2.1,(c.2.2.2.1,c.2.2.2.2)))) := by
  unfold l_w180q_3
  refine app_loop c.2.2.2.1 (fun i (s : List LdrT) => ((i : Int),(c.1,(c.2.1,(c.2.2.1,(s,c.2.2.2.2)))))) (fun s => some (c.1,(c.2.1,(c.2.2.1,(s,c.2.2.2.2))))) (by unfold B36; omega) (fun i hi s hI rec => ?_) (fun s hI rec => ?_)
  ·obtain ⟨q1,q2⟩ := hk.lead _ (List.getElem_mem hi)
   have k1 : Nat.ble ((s.length + [(c.2.2.2.1[i].1,(c.2.2.2.1[i].2.1,c.2.2.2.1[i].2.2))].length) * 56) maxBytes = true := Nat.ble_eq_true_of_le (by simp only [List.length_cons,List.length_nil,maxBytes]; omega)
   have h1 := et _ (List.getElem_mem hi)
   simp only [lt_lenI hi,cond_true,geti_lt c.2.2.2.1 i hi,Option.bind_some]
   rw [h1]
   simp only [Option.bind_some,t_Clone_Hrd _ (show c.2.2.2.1[i].2.2.length ≤ 1048576 by omega),k1,chk,cond_true,wrap_next hi l6]
  ·simp only [ge_lenI,cond_false]
 rw [e1]
 simp only [Option.bind_some]
 rw [e3]
theorem t_w181q (c : CluT) (l : Int) (hz : SzC c) : m_w181q (c,l) = some (crashC c l) := by
 show p_w181q FU _ = _
 unfold p_w181q crashC
 have hf := t_w166q c hz
 simp only [hf,Option.bind_some]
 cases h0 : (cluC c == 0) with
 | false => rfl
 | true =>
  have hk := cluC_zero (by simpa using h0)
  have hlen := hk.lens
  have hp := t_place_Leader l c.2.2.2.1 hz.l6
  have hw : (c.2.2.2.1.length : Int) - 1 = 1 := by omega
  rw [hw] at hp
  simp only [Bool.not_true,cond_false,t_w180q c hz hk,Option.bind_some,hp]
  cases hl : inB l 0 1 with
  | false => rfl
  | true =>
   obtain ⟨hlt,hg⟩ := lead_at hk hl
   have hm : decide (lenI c.2.2.2.2 > 200) = false := decide_eq_false (by rw [lenI_eq]; omega)
   simp only [Bool.not_true,cond_false,hg,List.getElem?_eq_getElem hlt,Option.bind_some,Option.getD_some,beq_self_eq_true,cond_true,hm]

theorem szC_of (x : CluT) (h : W_Cluster x ≤ 1048576) : SzC x := by
 have h' := h
 unfold W_Cluster W_ContractS W_ShardS W_AcceptorS W_LeaderS W_MessageS at h'
 refine ⟨by omega,fun y hy => ?_,by omega,fun s hs => ?_,by omega,by omega,fun l hl t ht => ?_,by omega⟩
 ·have h1 := wsum_mem W_Contract x.1 y hy
  have h3 : W_Contract y = y.2.length := rfl
  omega
 ·have h1 := wsum_mem W_Shard x.2.1 s hs
  have hs2 : W_Shard s ≤ 1048576 := by omega
  unfold W_Shard W_BalanceS W_MarkS W_ContractS W_Int64S at hs2
  refine ⟨by omega,by omega,by omega,by omega,by omega,fun c hc => ?_⟩
  have h3 := wsum_mem W_Contract s.2.2.2.1 c hc
  have h4 : W_Contract c = c.2.length := rfl
  omega
 ·have h1 := wsum_mem W_Leader x.2.2.2.1 l hl
  have h2 : W_Leader l ≤ 1048576 := by omega
  unfold W_Leader W_TryS at h2
  have h3 := wsum_mem W_Try l.2.1 t ht
  have h4 : W_Try t ≤ 1048576 := by omega
  unfold W_Try W_Int64S W_VoteS at h4
  exact ⟨by omega,by omega⟩
theorem wsum_set {α : Type} (w : α → Nat) (y : α) (h0 : w y = 0) : ∀ (xs : List α) (i : Nat),wsum w (xs.set i y) ≤ wsum w xs
 | [],_ => Nat.le_refl _
 | x :: xs,0 => by
  show w y + wsum w xs ≤ w x + wsum w xs
  omega
 | x :: xs,i + 1 => by
  show w x + wsum w (xs.set i y) ≤ w x + wsum w xs
  have := wsum_set w y h0 xs i
  omega
theorem law_w237q (x : CluT × Int) (h : WFs S_w237q.ps x) : m_w237q x = some true := by
 obtain ⟨x,l⟩ := x
 show p_w237q FU _ = _
 unfold p_w237q
 simp only
 rcases z_w19q x h.1 1048576 (by omega) (by omega) with e1 | ⟨e1,b1⟩
 ·rw [e1]; rfl
 ·have hW : W_Cluster x ≤ 1048576 := by omega
  have hz := szC_of x hW
  have d1 : decide ((1048576 : Int) - (W_Cluster x : Int) < 0) = false := decide_eq_false (by omega)
  have hB : B40 = 1099511627776 := rfl
  have hW' := hW
  unfold W_Cluster at hW'
  -- the result
  have hr : ∃ k cs s a q m,crashC x l = (k,(cs,(s,(a,(q,m))))) ∧ W_ContractS cs + W_ShardS s + W_AcceptorS a + W_LeaderS q + W_MessageS m ≤ 1048576 := by
   have hemp : ∀ k : Int,∃ k' cs s a q m,((k,empC) : Int × CluT) = (k',(cs,(s,(a,(q,m))))) ∧ W_ContractS cs + W_ShardS s + W_AcceptorS a + W_LeaderS q + W_MessageS m ≤ 1048576 := fun k => ⟨k,[],[],[],[],[],rfl,Nat.zero_le _⟩
   unfold crashC
   cases (cluC x == 0) with
   | false => exact hemp _
   | true =>
    cases inB l 0 1 with
    | false => exact hemp _
    | true =>
     refine ⟨_,_,_,_,_,_,rfl,?_⟩
     have hs : W_LeaderS (x.2.2.2.1.set l.toNat (((x.2.2.2.1[l.toNat]?).getD (0,([],[]))).1,([],[]))) ≤ W_LeaderS x.2.2.2.1 := by
      unfold W_LeaderS
      rw [List.length_set]
      exact Nat.add_le_add_left (wsum_set W_Leader _ rfl _ _) _
     omega
  obtain ⟨k,cs,s,a,q,m,hr1,hw⟩ := hr
  have v1 := vb_ContractS x.1
  have v2 := vb_ShardS x.2.1
  have v3 := vb_AcceptorS x.2.2.1
  have v4 := vb_LeaderS x.2.2.2.1
  have v5 := vb_MessageS x.2.2.2.2
  have u1 := vb_ContractS cs
  have u2 := vb_ShardS s
  have u3 := vb_AcceptorS a
  have u4 := vb_LeaderS q
  have u5 := vb_MessageS m
  obtain ⟨L1,_,a1,_⟩ := mh_ContractS x.1 1 (by omega) (by omega) (by omega)
  obtain ⟨L2,_,a2,_⟩ := mh_ShardS x.2.1 (1 + (V_ContractS x.1 : Int)) (by omega) (by omega) (by omega)
  obtain ⟨L3,_,a3,_⟩ := mh_AcceptorS x.2.2.1 (1 + (V_ContractS x.1 : Int) + (V_ShardS x.2.1 : Int)) (by omega) (by omega) (by omega)
  obtain ⟨L4,_,a4,_⟩ := mh_LeaderS x.2.2.2.1 (1 + (V_ContractS x.1 : Int) + (V_ShardS x.2.1 : Int) + (V_AcceptorS x.2.2.1 : Int)) (by omega) (by omega) (by omega)
  obtain ⟨L5,_,a5,_⟩ := mh_MessageS x.2.2.2.2 (1 + (V_ContractS x.1 : Int) + (V_ShardS x.2.1 : Int) + (V_AcceptorS x.2.2.1 : Int) + (V_LeaderS x.2.2.2.1 : Int)) (by omega) (by omega) (by omega)
  obtain ⟨M1,_,k1,g1⟩ := mh_ContractS cs 1 (by omega) (by omega) (by omega)
  obtain ⟨M2,_,k2,g2⟩ := mh_ShardS s (1 + (V_ContractS cs : Int)) (by omega) (by omega) (by omega)
  obtain ⟨M3,_,k3,g3⟩ := mh_AcceptorS a (1 + (V_ContractS cs : Int) + (V_ShardS s : Int)) (by omega) (by omega) (by omega)
  obtain ⟨M4,_,k4,g4⟩ := mh_LeaderS q (1 + (V_ContractS cs : Int) + (V_ShardS s : Int) + (V_AcceptorS a : Int)) (by omega) (by omega) (by omega)
  obtain ⟨M5,_,k5,g5⟩ := mh_MessageS m (1 + (V_ContractS cs : Int) + (V_ShardS s : Int) + (V_AcceptorS a : Int) + (V_LeaderS q : Int)) (by omega) (by omega) (by omega)
  have d2 : decide ((1 : Int) + (V_ContractS x.1 : Int) + (V_ShardS x.2.1 : Int) + (V_AcceptorS x.2.2.1 : Int) + (V_LeaderS x.2.2.2.1 : Int) + (V_MessageS x.2.2.2.2 : Int) < 0) = false := decide_eq_false (by omega)
  have d3 : decide (1 + (V_ContractS cs : Int) + (V_ShardS s : Int) + (V_AcceptorS a : Int) + (V_LeaderS q : Int) + (V_MessageS m : Int) < 0) = false := decide_eq_false (by omega)
  have q2 := h_w235q (M1,(M2,(M3,(M4,M5)))) 1 _ _ _ _ _ g1 (by omega) g2 (by omega) g3 (by omega) g4 (by omega) g5 (by omega)
  have q3 := h_w236q (k,(M1,(M2,(M3,(M4,M5))))) 1 _ q2 (by omega)
  have ee := eq_w208q (k,(cs,(s,(a,(q,m))))) hw
  simp only [e1,Option.bind_some,d1,cond_false,o_w45q x hW,t_w95q x l hz,t_w181q x l hz,hr1,ee,Bool.not_true,eq_w207q x hW,a1,a2,a3,a4,a5,d2,k1,k2,k3,k4,k5,q3,d3,beq_self_eq_true]
end Go.RvP
