/- The plain law: spec and program answer alike, for FnExactShardTextCard. Condition: the data are such as can come in. -/
import Derived.Test.YtjamkpjjlpmofaaGreatDoorRvP3
import Derived.Test.YtjamkpjjlpmofaaGreatDoorRvJ
import Derived.Test.YtjamkpjjlpmofaaGreatDoorRvM
import Derived.Test.YtjamkpjjlpmofaaGreatDoorRvMt
import Derived.Test.YtjamkpjjlpmofaaGreatDoorRvU
import Derived.Test.YtjamkpjjlpmofaaGreatDoorRvSf
namespace Go.RvP
open Go.Rv
def W_BalanceS (xs : Ty21) : Nat := xs.length

theorem z_w0q (xs : Ty21) (h : WFk Kd10 xs) : SZ m_w0q W_BalanceS xs := szf xs h.1

def W_MarkS (xs : (List (Int × Int))) : Nat := xs.length

theorem z_w1q (xs : (List (Int × Int))) (h : WFk Kd13 xs) : SZ m_w1q W_MarkS xs := szf xs h.1

def W_LegS (xs : Ty18) : Nat := xs.length

theorem z_w2q (xs : Ty18) (h : WFk Kd7 xs) : SZ m_w2q W_LegS xs := szf xs h.1

def W_Contract (x : Ty16) : Nat := W_LegS x.2

theorem z_w3q (x : Ty16) (h : WFk Kd5 x) : SZ m_w3q W_Contract x := by
 intro left h0 h1
 have hm : maxLen = 9223372036854775807 := rfl
 show p_w3q FU _ = _ ∨ (p_w3q FU _ = _ ∧ _)
 unfold p_w3q W_Contract
 have b1 : 0 ≤ left := by omega
 rcases z_w2q x.2 h.2 (left) (by omega) (by omega) with e1 | ⟨e1,f1⟩
 ·left; simp only [e1,Option.bind_some,cond_false]; rfl
 ·have d1 : decide (left - (W_LegS x.2 : Int) < 0) = false := decide_eq_false (by omega)
  exact .inr ⟨by simp only [e1,d1,Option.bind_some,cond_false],f1⟩

def W_ContractS (xs : Ty13) : Nat := xs.length + wsum W_Contract xs

theorem z_w4q (xs : Ty13) (h : WFk Kd3 xs) : SZ m_w4q W_ContractS xs := szl xs m_w3q W_Contract h.1 (fun x hx => z_w3q x (h.2 x hx))

def W_Int64S (xs : (List Int)) : Nat := xs.length

theorem z_w5q (xs : (List Int)) (h : WFk Kd17 xs) : SZ m_w5q W_Int64S xs := szf xs h.1

def W_Shard (x : Ty6) : Nat := W_BalanceS x.2.1 + W_MarkS x.2.2.1 + W_ContractS x.2.2.2.1 + W_MarkS x.2.2.2.2.1 + W_Int64S x.2.2.2.2.2

theorem z_w6q (x : Ty6) (h : WFk Kd1 x) : SZ m_w6q W_Shard x := by
 intro left h0 h1
 have hm : maxLen = 9223372036854775807 := rfl
 show p_w6q FU _ = _ ∨ (p_w6q FU _ = _ ∧ _)
 unfold p_w6q W_Shard
 have b1 : 0 ≤ left := by omega
 rcases z_w0q x.2.1 h.2.1 (left) (by omega) (by omega) with e1 | ⟨e1,f1⟩
 ·left; simp only [e1,Option.bind_some,cond_false]; rfl
 ·have d1 : decide (left - (W_BalanceS x.2.1 : Int) < 0) = false := decide_eq_false (by omega)
  have b2 : 0 ≤ left - (W_BalanceS x.2.1 : Int) := by omega
  rcases z_w1q x.2.2.1 h.2.2.1 (left - (W_BalanceS x.2.1 : Int)) (by omega) (by omega) with e2 | ⟨e2,f2⟩
  ·left; simp only [e1,d1,e2,Option.bind_some,cond_false]; rfl
  ·have d2 : decide (left - (W_BalanceS x.2.1 : Int) - (W_MarkS x.2.2.1 : Int) < 0) = false := decide_eq_false (by omega)
   have b3 : 0 ≤ left - (W_BalanceS x.2.1 : Int) - (W_MarkS x.2.2.1 : Int) := by omega
   rcases z_w4q x.2.2.2.1 h.2.2.2.1 (left - (W_BalanceS x.2.1 : Int) - (W_MarkS x.2.2.1 : Int)) (by omega) (by omega) with e3 | ⟨e3,f3⟩
   ·left; simp only [e1,d1,e2,d2,e3,Option.bind_some,cond_false]; rfl
   ·have d3 : decide (left - (W_BalanceS x.2.1 : Int) - (W_MarkS x.2.2.1 : Int) - (W_ContractS x.2.2.2.1 : Int) < 0) = false := decide_eq_false (by omega)
    have b4 : 0 ≤ left - (W_BalanceS x.2.1 : Int) - (W_MarkS x.2.2.1 : Int) - (W_ContractS x.2.2.2.1 : Int) := by omega
    rcases z_w1q x.2.2.2.2.1 h.2.2.2.2.1 (left - (W_BalanceS x.2.1 : Int) - (W_MarkS x.2.2.1 : Int) - (W_ContractS x.2.2.2.1 : Int)) (by omega) (by omega) with e4 | ⟨e4,f4⟩
    ·left; simp only [e1,d1,e2,d2,e3,d3,e4,Option.bind_some,cond_false]; rfl
    ·have d4 : decide (left - (W_BalanceS x.2.1 : Int) - (W_MarkS x.2.2.1 : Int) - (W_ContractS x.2.2.2.1 : Int) - (W_MarkS x.2.2.2.2.1 : Int) < 0) = false := decide_eq_false (by omega)
     have b5 : 0 ≤ left - (W_BalanceS x.2.1 : Int) - (W_MarkS x.2.2.1 : Int) - (W_ContractS x.2.2.2.1 : Int) - (W_MarkS x.2.2.2.2.1 : Int) := by omega
     rcases z_w5q x.2.2.2.2.2 h.2.2.2.2.2 (left - (W_BalanceS x.2.1 : Int) - (W_MarkS x.2.2.1 : Int) - (W_ContractS x.2.2.2.1 : Int) - (W_MarkS x.2.2.2.2.1 : Int)) (by omega) (by omega) with e5 | ⟨e5,f5⟩
     ·left; simp only [e1,d1,e2,d2,e3,d3,e4,d4,e5,Option.bind_some,cond_false]; rfl
     ·have d5 : decide (left - (W_BalanceS x.2.1 : Int) - (W_MarkS x.2.2.1 : Int) - (W_ContractS x.2.2.2.1 : Int) - (W_MarkS x.2.2.2.2.1 : Int) - (W_Int64S x.2.2.2.2.2 : Int) < 0) = false := decide_eq_false (by omega)
      refine .inr ⟨?_,by omega⟩
      simp only [e1,d1,e2,d2,e3,d3,e4,d4,e5,d5,Option.bind_some,cond_false]
      congr 1; omega

theorem o_w7q (x : (Int × (Int × Int))) : m_w7q x = some x := by
 show p_w7q FU _ = _
 unfold p_w7q
 rfl

theorem o_w8q (xs : Ty21) (h : W_BalanceS xs ≤ 1048576) : m_w8q xs = some xs := by
 unfold W_BalanceS at h
 show p_w8q FU xs = _
 unfold p_w8q
 rw [if_pos rfl,if_pos (by simp [lenI_eq])]
 have hb : Nat.ble (24 * (lenI xs).toNat) maxBytes = true := by rw [Nat.ble_eq]; simp only [lenI_eq,Int.toNat_natCast,maxBytes]; omega
 rw [chk_true hb]
 exact copy_loop2 xs _ m_w7q (fun x _ => o_w7q x) (by omega)

theorem o_w9q (x : (Int × Int)) : m_w9q x = some x := by
 show p_w9q FU _ = _
 unfold p_w9q
 rfl

theorem o_w10q (xs : (List (Int × Int))) (h : W_MarkS xs ≤ 1048576) : m_w10q xs = some xs := by
 unfold W_MarkS at h
 show p_w10q FU xs = _
 unfold p_w10q
 rw [if_pos rfl,if_pos (by simp [lenI_eq])]
 have hb : Nat.ble (16 * (lenI xs).toNat) maxBytes = true := by rw [Nat.ble_eq]; simp only [lenI_eq,Int.toNat_natCast,maxBytes]; omega
 rw [chk_true hb]
 exact copy_loop2 xs _ m_w9q (fun x _ => o_w9q x) (by omega)

theorem o_w11q (x : Ty20) : m_w11q x = some x := by
 show p_w11q FU _ = _
 unfold p_w11q
 rfl

theorem o_w12q (xs : Ty18) (h : W_LegS xs ≤ 1048576) : m_w12q xs = some xs := by
 unfold W_LegS at h
 show p_w12q FU xs = _
 unfold p_w12q
 rw [if_pos rfl,if_pos (by simp [lenI_eq])]
 have hb : Nat.ble (32 * (lenI xs).toNat) maxBytes = true := by rw [Nat.ble_eq]; simp only [lenI_eq,Int.toNat_natCast,maxBytes]; omega
 rw [chk_true hb]
 exact copy_loop2 xs _ m_w11q (fun x _ => o_w11q x) (by omega)

theorem o_w13q (x : Ty16) (h : W_Contract x ≤ 1048576) : m_w13q x = some x := by
 unfold W_Contract at h
 show p_w13q FU _ = _
 unfold p_w13q
 simp only [o_w12q x.2 (by omega),Option.bind_some]

theorem o_w14q (xs : Ty13) (h : W_ContractS xs ≤ 1048576) : m_w14q xs = some xs := by
 unfold W_ContractS at h
 show p_w14q FU xs = _
 unfold p_w14q
 rw [if_pos rfl,if_pos (by simp [lenI_eq])]
 have hb : Nat.ble (32 * (lenI xs).toNat) maxBytes = true := by rw [Nat.ble_eq]; simp only [lenI_eq,Int.toNat_natCast,maxBytes]; omega
 rw [chk_true hb]
 exact copy_loop2 xs _ m_w13q (fun x hx => o_w13q x (by have := wsum_mem W_Contract xs x hx; omega)) (by omega)

theorem o_w15q (xs : (List Int)) (h : W_Int64S xs ≤ 1048576) : m_w15q xs = some xs := by
 unfold W_Int64S at h
 show p_w15q FU xs = _
 unfold p_w15q
 rw [if_pos rfl,if_pos (by simp [lenI_eq])]
 have hb : Nat.ble (8 * (lenI xs).toNat) maxBytes = true := by rw [Nat.ble_eq]; simp only [lenI_eq,Int.toNat_natCast,maxBytes]; omega
 rw [chk_true hb]
 exact copy_flat xs _ (by omega)

theorem o_w16q (x : Ty6) (h : W_Shard x ≤ 1048576) : m_w16q x = some x := by
 unfold W_Shard at h
 show p_w16q FU _ = _
 unfold p_w16q
 simp only [o_w8q x.2.1 (by omega),o_w10q x.2.2.1 (by omega),o_w14q x.2.2.2.1 (by omega),o_w10q x.2.2.2.2.1 (by omega),o_w15q x.2.2.2.2.2 (by omega),Option.bind_some]

theorem eq_w81q (x : (Int × (Int × Int))) : m_w81q (x,x) = some true := by
 show p_w81q FU _ = _
 unfold p_w81q
 simp only [beq_self_eq_true,Bool.not_true,cond_false]

theorem eq_w82q (xs : Ty21) (h : W_BalanceS xs ≤ 1048576) : m_w82q (xs,xs) = some true := by
 unfold W_BalanceS at h
 show p_w82q FU _ = _
 unfold p_w82q
 simp only [beq_self_eq_true,Bool.not_true,cond_false]
 exact eq_loop xs m_w81q (fun x _ => eq_w81q x) (by omega)

theorem eq_w83q (x : (Int × Int)) : m_w83q (x,x) = some true := by
 show p_w83q FU _ = _
 unfold p_w83q
 simp only [beq_self_eq_true,Bool.not_true,cond_false]

theorem eq_w84q (xs : (List (Int × Int))) (h : W_MarkS xs ≤ 1048576) : m_w84q (xs,xs) = some true := by
 unfold W_MarkS at h
 show p_w84q FU _ = _
 unfold p_w84q
 simp only [beq_self_eq_true,Bool.not_true,cond_false]
 exact eq_loop xs m_w83q (fun x _ => eq_w83q x) (by omega)

theorem eq_w85q (x : Ty20) : m_w85q (x,x) = some true := by
 show p_w85q FU _ = _
 unfold p_w85q
 simp only [beq_self_eq_true,Bool.not_true,cond_false]

theorem eq_w86q (xs : Ty18) (h : W_LegS xs ≤ 1048576) : m_w86q (xs,xs) = some true := by
 unfold W_LegS at h
 show p_w86q FU _ = _
 unfold p_w86q
 simp only [beq_self_eq_true,Bool.not_true,cond_false]
 exact eq_loop xs m_w85q (fun x _ => eq_w85q x) (by omega)

theorem eq_w87q (x : Ty16) (h : W_Contract x ≤ 1048576) : m_w87q (x,x) = some true := by
 unfold W_Contract at h
 show p_w87q FU _ = _
 unfold p_w87q
 simp only [beq_self_eq_true,Bool.not_true,cond_false,eq_w86q x.2 (by omega),Option.bind_some]

theorem eq_w88q (xs : Ty13) (h : W_ContractS xs ≤ 1048576) : m_w88q (xs,xs) = some true := by
 unfold W_ContractS at h
 show p_w88q FU _ = _
 unfold p_w88q
 simp only [beq_self_eq_true,Bool.not_true,cond_false]
 exact eq_loop xs m_w87q (fun x hx => eq_w87q x (by have := wsum_mem W_Contract xs x hx; omega)) (by omega)

theorem eq_w89q (xs : (List Int)) (h : W_Int64S xs ≤ 1048576) : m_w89q (xs,xs) = some true := by
 unfold W_Int64S at h
 show p_w89q FU _ = _
 unfold p_w89q
 simp only [beq_self_eq_true,Bool.not_true,cond_false]
 exact eq_flat xs (by omega)

theorem eq_w90q (x : Ty6) (h : W_Shard x ≤ 1048576) : m_w90q (x,x) = some true := by
 unfold W_Shard at h
 show p_w90q FU _ = _
 unfold p_w90q
 simp only [beq_self_eq_true,Bool.not_true,cond_false,eq_w82q x.2.1 (by omega),eq_w84q x.2.2.1 (by omega),eq_w88q x.2.2.2.1 (by omega),eq_w84q x.2.2.2.2.1 (by omega),eq_w89q x.2.2.2.2.2 (by omega),Option.bind_some]

theorem t_w17q (a b c : Int) : m_w17q (a,b,c) = some (inB a b c) := by
 show p_w17q FU _ = _
 unfold p_w17q inB
 by_cases h : b ≤ a <;> simp [h]

theorem t_w18q (a b : Int) : m_w18q (a,b) = some (plB a b) := by
 show p_w18q FU _ = _
 unfold p_w18q plB
 simp only [t_w17q,Option.bind_some]
 cases inB a 0 5 <;> rfl

theorem t_w39q (a b c : Int) : m_w39q (a,b,c) = some (inB a b c) := by
 show p_w39q FU _ = _
 unfold p_w39q inB
 by_cases h : b ≤ a <;> simp [h]

theorem t_w41q (a : Int) : m_w41q a = some (inB a 0 2) := by
 show p_w41q FU _ = _
 unfold p_w41q
 simp only [t_w39q,Option.bind_some]

theorem t_w42q (a b : Int) : m_w42q (a,b) = some (plB a b) := by
 show p_w42q FU _ = _
 unfold p_w42q plB
 simp only [t_w39q,t_w41q,Option.bind_some]
 cases inB a 0 5 <;> rfl

theorem t_w44q (a b : Int) : m_w44q (a,b) = some (if a < b then -1 else if a > b then 1 else 0) := by
 show p_w44q FU _ = _
 unfold p_w44q
 have e : ∀ a : Int,m_w43q a = some false := fun a => by
  show p_w43q FU a = _
  unfold p_w43q
  simp
 simp only [e,Option.bind_some,cond_false]
 by_cases h1 : a < b
 ·simp [h1]
 ·by_cases h2 : a > b <;> simp [h1,h2]

theorem t_w45q (a b : Int) : m_w45q [a,b] = some (if a = 0 then b else a) := by
 show p_w45q FU _ = _
 unfold p_w45q l_w45q_1
 obtain ⟨m,hm⟩ : ∃ m,FU = m + 1 + 1 + 1 := ⟨18446744073709551613,rfl⟩
 rw [hm]
 have w1 : IntKind.wrap .i64 1 = 1 := rfl
 have w2 : IntKind.wrap .i64 2 = 2 := rfl
 by_cases h1 : a = 0
 ·by_cases h2 : b = 0
  ·simp [lp,geti,lenI,h1,h2,w1,w2]
  ·have hb : (b == 0) = false := by simp [h2]
   simp [lp,geti,lenI,h1,hb,w1,w2]
 ·have hb : (a == 0) = false := by simp [h1]
  simp [lp,geti,lenI,h1,hb]

theorem t_w46q (a b : BalT) : m_w46q (a,b) = some (cmpP a b) := by
 show p_w46q FU _ = _
 unfold p_w46q cmpP
 simp only [t_w44q,t_w45q,Option.bind_some]

theorem t_w47q (xs : List BalT) : m_w47q xs = some (balCode xs) := by
 show p_w47q FU xs = _
 unfold p_w47q balCode
 by_cases hl : xs.length > 18
 ·have : decide (lenI xs > 18) = true := decide_eq_true (by rw [lenI_eq]; omega)
  rw [this,if_pos hl]; rfl
 ·have : decide (lenI xs > 18) = false := decide_eq_false (by rw [lenI_eq]; omega)
  rw [this,if_neg hl,cond_false]
  unfold l_w47q_1
  refine (lp_fst xs (balStep xs) (some 0) (by unfold B36; omega) (fun i hi rec hw => ?_) (fun rec => ?_)).trans (by cases fstI (balStep xs) 0 xs <;> rfl)
  ·simp only [lt_lenI hi,cond_true,geti_lt xs i hi,Option.bind_some,t_w42q,t_w39q,balStep,okBal,hw]
   cases plB xs[i].1 xs[i].2.1 with
   | false => rfl
   | true =>
    cases inB xs[i].2.2 1 1000000000000 with
    | false => rfl
    | true =>
     simp only [Bool.not_true,cond_false,Option.bind_some,Bool.and_self]
     by_cases h0 : 0 < i
     ·have hd : decide ((i : Int) > 0) = true := by simp; omega
      have hi1 : i - 1 < xs.length := by omega
      simp only [hd,cond_true,prv (i := i) (by unfold B36; omega) h0,geti_lt xs _ hi1,Option.bind_some,t_w46q,h0,decide_true,Bool.true_and,List.getElem?_eq_getElem hi1,Option.getD_some]
      cases decide (cmpP xs[i - 1] xs[i] ≥ 0) <;> rfl
     ·have hd : decide ((i : Int) > 0) = false := by simp; omega
      simp only [hd,cond_false,Option.bind_some,h0,decide_false,Bool.false_and]
  ·simp only [ge_lenI,cond_false]

theorem key_cmp (a b : BalT) (ha : okBal a = true) (hb : okBal b = true) : decide ((IntKind.wrap .i64 ((IntKind.wrap .i64 (b.1 * (3 : Int))) + b.2.1)) ≤ (IntKind.wrap .i64 ((IntKind.wrap .i64 (a.1 * (3 : Int))) + a.2.1))) = decide (cmpP a b ≥ 0) := by
 unfold okBal plB inB at ha hb
 simp only [Bool.and_eq_true,decide_eq_true_eq] at ha hb
 obtain ⟨⟨⟨a1,a2⟩,a3,a4⟩,_⟩ := ha
 obtain ⟨⟨⟨b1,b2⟩,b3,b4⟩,_⟩ := hb
 rw [wrap64 (n := a.1 * 3) (by omega) (by omega),wrap64 (n := b.1 * 3) (by omega) (by omega),wrap64 (by omega) (by omega),wrap64 (by omega) (by omega)]
 have h := cmpP_lt a b
 by_cases hc : cmpP a b < 0
 ·have h1 := h.1 hc
  rw [decide_eq_false (show ¬ cmpP a b ≥ 0 by omega),decide_eq_false (by omega)]
 ·have h1 : ¬ (a.1 < b.1 ∨ a.1 = b.1 ∧ a.2.1 < b.2.1) := fun q => hc (h.2 q)
  rw [decide_eq_true (show cmpP a b ≥ 0 by omega),decide_eq_true (by omega)]
theorem t_w19q (xs : List BalT) : m_w19q xs = some (balCode xs) := by
 show p_w19q FU xs = _
 unfold p_w19q balCode
 by_cases hl : xs.length > 18
 ·have : decide (lenI xs > 18) = true := decide_eq_true (by rw [lenI_eq]; omega)
  rw [this,if_pos hl]; rfl
 ·have : decide (lenI xs > 18) = false := decide_eq_false (by rw [lenI_eq]; omega)
  rw [this,if_neg hl,cond_false]
  unfold l_w19q_1
  refine (lp_fstI xs (balStep xs) (some 0) (fun i => ∀ (h : i - 1 < xs.length),0 < i → okBal (xs[i - 1]'h) = true) (by unfold B36; omega) (fun _ h => by omega) (fun i hi hI hw => ⟨fun rec => ?_,fun hn h _ => ?_⟩) (fun rec => ?_)).trans (by cases fstI (balStep xs) 0 xs <;> rfl)
  ·simp only [lt_lenI hi,cond_true,geti_lt xs i hi,Option.bind_some,t_w18q,t_w17q,balStep,hw]
   cases ho : okBal xs[i] with
   | false =>
    unfold okBal at ho
    cases hp : plB xs[i].1 xs[i].2.1 with
    | false => rfl
    | true => rw [hp] at ho; simp only [Bool.true_and] at ho; rw [ho]; rfl
   | true =>
    have ho' := ho
    unfold okBal at ho'
    simp only [Bool.and_eq_true] at ho'
    simp only [ho'.1,ho'.2,Bool.not_true,cond_false,Option.bind_some]
    by_cases h0 : 0 < i
    ·have hd : decide ((i : Int) > 0) = true := by simp; omega
     have hi1 : i - 1 < xs.length := by omega
     simp only [hd,cond_true,prv (i := i) (by unfold B36; omega) h0,geti_lt xs _ hi1,Option.bind_some,key_cmp _ _ (hI hi1 h0) ho,h0,decide_true,Bool.true_and,List.getElem?_eq_getElem hi1,Option.getD_some]
     cases decide (cmpP xs[i - 1] xs[i] ≥ 0) <;> rfl
    ·have hd : decide ((i : Int) > 0) = false := by simp; omega
     simp only [hd,cond_false,Option.bind_some,h0,decide_false,Bool.false_and]
  ·simp only [Nat.add_sub_cancel]
   unfold balStep at hn
   cases ho : okBal xs[i] with
   | true => rfl
   | false => rw [ho] at hn; cases hn
  ·simp only [ge_lenI,cond_false]

theorem t_w20q (a : Int) (xs : List BalT) : m_w20q (a,xs) = some (cond (!(inB a 0 2)) 3 (balCode xs)) := by
 show p_w20q FU _ = _
 unfold p_w20q
 simp only [t_w17q,t_w19q,Option.bind_some]
 cases inB a 0 2 <;> rfl

theorem t_w21q (a : Int) : m_w21q a = some (idB a) := by
 show p_w21q FU _ = _
 unfold p_w21q idB
 rw [t_w17q]; rfl

theorem vlu_in (v : Int) : inB v 1 2 = vlu v := by
 unfold inB vlu
 rw [Bool.eq_iff_iff]
 simp; omega
theorem t_w22q (xs : List MarkT) (hl : xs.length ≤ 1048576) : m_w22q xs = some (markC xs) := by
 show p_w22q FU _ = _
 unfold p_w22q l_w22q_1 markC
 refine (lp_fst xs (markStep xs) (some (0 : Int)) (by unfold B36; omega) (fun i hi rec hw => ?_) (fun rec => ?_)).trans ?_
 ·simp only [lt_lenI hi,cond_true,geti_lt xs i hi,Option.bind_some,t_w21q,t_w17q,vlu_in,hw,markStep]
  cases idB xs[i].1 with
  | false => rfl
  | true =>
   cases vlu xs[i].2 with
   | false => rfl
   | true =>
    simp only [Bool.not_true,cond_false,Option.bind_some,Bool.and_self]
    by_cases h0 : 0 < i
    ·have hd : decide ((i : Int) > 0) = true := by simp; omega
     have hi1 : i - 1 < xs.length := by omega
     simp only [hd,cond_true,prv (i := i) (by unfold B36; omega) h0,geti_lt xs _ hi1,Option.bind_some,h0,decide_true,Bool.true_and,List.getElem?_eq_getElem hi1,Option.getD_some]
     cases decide (xs[i].1 ≤ xs[i - 1].1) <;> rfl
    ·have hd : decide ((i : Int) > 0) = false := by simp; omega
     simp only [hd,cond_false,Option.bind_some,h0,decide_false,Bool.false_and]
 ·simp only [ge_lenI,cond_false]
 ·cases fstI (markStep xs) 0 xs <;> rfl

theorem t_w23q (l : LegT) : m_w23q l = some (legC l) := by
 show p_w23q FU _ = _
 unfold p_w23q legC plB
 simp only [t_w17q,Option.bind_some]
 cases inB l.1 0 2 with
 | false => rfl
 | true =>
  cases inB l.2.1 0 5 with
  | false => rfl
  | true =>
   cases inB l.2.2.1 0 2 with
   | false => rfl
   | true =>
    cases inB l.2.2.2 (-1000000000000) 1000000000000 with
    | false => rfl
    | true => cases h : (l.2.2.2 == 0) <;> simp [h]

theorem t_spec_CF_1 (xs : List LegT) (i : Nat) (hi : i < xs.length) (hl : xs.length ≤ 8) (l : LegT) : l_w24q_1 FU (i : Int) xs l.1 l.2.1 l.2.2.1 (0 : Int) = some (cond ((xs.take i).any fun o => sameP o l) (Sum.inr (Sum.inr (Sum.inr (7 : Int)))) (Sum.inl ())) := by
 unfold l_w24q_1
 have hlen : (xs.take i).length = i := by rw [List.length_take]; omega
 refine (lp_hit (xs.take i) (fun o => sameP o l) (some (Sum.inr (Sum.inr (Sum.inr (7 : Int))))) (some (Sum.inl ())) (by rw [hlen]; unfold B36; omega) (fun j hj rec hw => ?_) (fun rec => ?_)).trans ?_
 ·rw [hlen] at hj
  have hd : decide ((j : Int) < (i : Int)) = true := decide_eq_true (by omega)
  have hg : geti xs (j : Int) = some xs[j] := geti_lt xs j (by omega)
  have ht : (xs.take i)[j]'(by rw [hlen]; exact hj) = xs[j] := List.getElem_take
  simp only [hd,cond_true,hg,Option.bind_some,hw,ht,sameP]
  cases (xs[j].1 == l.1) with
  | false => rfl
  | true => cases (xs[j].2.1 == l.2.1) <;> rfl
 ·rw [hlen]
  have hd : decide ((i : Int) < (i : Int)) = false := decide_eq_false (by omega)
  simp only [hd,cond_false]
 ·cases (xs.take i).any fun o => sameP o l <;> rfl
def sums3 (xs : List LegT) : List Int := [sumA xs 0,sumA xs 1,sumA xs 2]
theorem sums3_set (xs : List LegT) (l : LegT) (a : Nat) (ha : a < 3) (hla : l.2.2.1 = (a : Int)) (hb : -(8 * 1000000000000) ≤ sumA xs a + l.2.2.2 ∧ sumA xs a + l.2.2.2 ≤ 8 * 1000000000000) :
  (sums3 xs)[a]? = some (sumA xs a) ∧ (sums3 xs).set a (IntKind.wrap .i64 (sumA xs a + l.2.2.2)) = sums3 (xs ++ [l]) := by
 have hw : IntKind.wrap .i64 (sumA xs a + l.2.2.2) = sumA xs a + l.2.2.2 := wrap64 (by omega) (by omega)
 rw [hw]
 unfold sums3
 rw [sumA_snoc,sumA_snoc,sumA_snoc,hla]
 rcases (by omega : a = 0 ∨ a = 1 ∨ a = 2) with rfl | rfl | rfl <;> simp
theorem t_w24q (c : ConT) (hl : c.2.length ≤ 1048576) : m_w24q c = some (conC c) := by
 obtain ⟨id,xs⟩ := c
 show p_w24q FU _ = _
 unfold p_w24q conC
 simp only [t_w21q,Option.bind_some]
 cases idB id with
 | false => rfl
 | true =>
  simp only [Bool.not_true,cond_false]
  by_cases h1 : xs.length < 2
  ·have : decide (lenI xs < 2) = true := decide_eq_true (by rw [lenI_eq]; omega)
   rw [this,if_pos (show xs.length < 2 ∨ 8 < xs.length from .inl h1)]; rfl
  ·have d1 : decide (lenI xs < 2) = false := decide_eq_false (by rw [lenI_eq]; omega)
   by_cases h2 : 8 < xs.length
   ·have : decide (lenI xs > 8) = true := decide_eq_true (by rw [lenI_eq]; omega)
    rw [d1,this,if_pos (show xs.length < 2 ∨ 8 < xs.length from .inr h2)]; rfl
   ·have d2 : decide (lenI xs > 8) = false := decide_eq_false (by rw [lenI_eq]; omega)
    have hn : ¬ (xs.length < 2 ∨ 8 < xs.length) := by omega
    have hm : Nat.ble (8 * (3 : Int).toNat) maxBytes = true := rfl
    have h3 : (3 : Int).toNat = 3 := rfl
    rw [d1,d2,if_neg hn]
    simp only [cond_false,Option.bind_some,if_true,show (0 : Int) ≤ 3 from by omega,chk,hm,cond_true]
    have e1 : l_w24q_2 FU xs ((0 : Int),(List.replicate (3 : Int).toNat (0 : Int))) = (fstI (legStep xs) 0 xs).elim (some (Sum.inl (sums3 xs))) (fun r => some (Sum.inr r)) := by
     unfold l_w24q_2
     refine (lp_fstS xs (fun i l => (legStep xs i l).map (Sum.inr (α := List Int))) (fun i => ((i : Int),sums3 (xs.take i))) (some (Sum.inl (sums3 xs))) (fun i => ∀ l ∈ xs.take i,legC l = 0) (by unfold B36; omega) (fun l h => by cases h) (fun i hi hall => ⟨fun rec => ?_,fun hq l hl => ?_⟩) (fun _ rec => ?_)).trans ?_
     ·have hw := wrap_next hi (Nat.le_trans (Nat.le_of_not_lt h2) (by omega))
      simp only [lt_lenI hi,cond_true,geti_lt xs i hi,Option.bind_some,t_w23q,legStep,hw]
      cases hc : legC xs[i] == 0 with
      | false => rfl
      | true =>
       simp only [Bool.not_true,cond_false,cond_true,t_spec_CF_1 xs i hi (Nat.le_of_not_lt h2) xs[i],Option.bind_some]
       cases (xs.take i).any fun o => sameP o xs[i] with
       | true => rfl
       | false =>
        simp only [cond_false,Sum.elim_inl]
        have hz := legC_zero (by simpa using hc : legC xs[i] = 0)
        obtain ⟨a,ha⟩ : ∃ a : Nat,xs[i].2.2.1 = (a : Int) := ⟨xs[i].2.2.1.toNat,by omega⟩
        have ha3 : a < 3 := by have := hz.2.2.1; omega
        have hb := sumA_bnd (xs.take i) a (fun l hl => (legC_zero (hall l hl)).2.2.2.1)
        have hlt : (xs.take i).length ≤ 7 := by rw [List.length_take]; omega
        obtain ⟨s1,s2⟩ := sums3_set (xs.take i) xs[i] a ha3 ha (by have := hz.2.2.2.1; omega)
        have hg : geti (sums3 (xs.take i)) (a : Int) = some (sumA (xs.take i) a) := by rw [geti_nat,s1]
        rw [List.take_succ_eq_append_getElem hi,← s2]
        simp only [ha,hg,Option.bind_some,Int.toNat_natCast,s1,Sum.elim_inl,Option.map_none,Option.elim_none]
     ·rw [List.take_succ_eq_append_getElem hi] at hl
      rcases List.mem_append.1 hl with hl | hl
      ·exact hall l hl
      ·rw [List.mem_singleton] at hl
       subst hl
       cases hs : legStep xs i xs[i] with
       | some r => rw [hs] at hq; cases hq
       | none =>
        unfold legStep at hs
        cases hc : legC xs[i] == 0 with
        | true => simpa using hc
        | false => rw [hc] at hs; cases hs
     ·simp only [ge_lenI,cond_false,List.take_length]
     ·rw [fstI_map]
      cases fstI (legStep xs) 0 xs <;> rfl
    rw [e1]
    cases fstI (legStep xs) 0 xs with
    | some r => rfl
    | none =>
     simp only [Option.elim_none,Option.bind_some,Sum.elim_inl]
     unfold l_w24q_3
     refine (lp_hit (sums3 xs) (fun a => !(a == 0)) (some (1 : Int)) (some 0) (by simp [sums3,B36]) (fun j hj rec hw => ?_) (fun rec => ?_)).trans ?_
     ·simp only [lt_lenI hj,cond_true,geti_lt _ j hj,Option.bind_some,Int.toNat_natCast,List.getElem?_eq_getElem hj,hw]
     ·simp only [ge_lenI,cond_false]
     ·unfold sums3
      simp only [List.any_cons,List.any_nil,Bool.or_false]
      by_cases q0 : sumA xs 0 = 0 <;> by_cases q1 : sumA xs 1 = 0 <;> by_cases q2 : sumA xs 2 = 0 <;> simp [q0,q1,q2,beq_eq_false_iff_ne.2]

theorem t_w25q (b : Int) (xs : List LegT) (a : Int) (hl : xs.length ≤ 1048576) : m_w25q ((b,xs),a) = some (legsA xs a) := by
 show p_w25q FU _ = _
 unfold p_w25q l_w25q_1 legsA
 simp only
 refine lp_for (fun r => r = some (xs.filter fun y => y.1 == a)) (fun i z => z = ((xs.take i).filter fun y => y.1 == a,(i : Int))) xs.length (fun i z hi hz => ?_) (fun z hz rec => ?_) FU _ (FU_gt hl) rfl
 ·subst hz
  have h := List.length_filter_le (fun y : LegT => y.1 == a) (xs.take i)
  simp only [List.length_take] at h
  have hb : Nat.ble ((((xs.take i).filter fun y => y.1 == a).length + [xs[i]].length) * 32) maxBytes = true := ble_mem (by simp only [maxBytes,List.length_singleton]; omega)
  refine .inr ⟨_,rfl,fun rec => ?_⟩
  simp only [lt_lenI hi,cond_true,geti_lt xs i hi,Option.bind_some,wrap_next hi hl,chk_true hb]
  rw [List.take_succ_eq_append_getElem hi,List.filter_append]
  cases hx : (xs[i].1 == a) <;> simp [hx]
 ·subst hz
  simp only [ge_lenI,cond_false,List.take_length]

theorem t_w26q (xs : List MarkT) (c : Int) (hl : xs.length ≤ 1048576) : m_w26q (xs,c) = some (findM xs c) := by
 show p_w26q FU _ = _
 unfold p_w26q l_w26q_1 findM
 simp only
 refine (lp_place xs (fun m => m.1 == c) (fun i => (xs[i]?).map (·.2)) (some (0 : Int)) (by unfold B36; omega) (fun i hi rec hw => ?_) (fun rec => ?_)).trans ?_
 ·simp only [lt_lenI hi,cond_true,geti_lt xs i hi,Option.bind_some,hw,List.getElem?_eq_getElem hi,Option.map_some]
 ·simp only [ge_lenI,cond_false]
 ·rw [find_at]
  cases hf : xs.findIdx? (fun m => m.1 == c) with
  | none => rfl
  | some i =>
   rw [List.findIdx?_eq_some_iff_getElem] at hf
   obtain ⟨h,_⟩ := hf
   simp [List.getElem?_eq_getElem h]

theorem t_w27q (s : ShdT) (c : Int) (hl : s.2.2.2.1.length ≤ 1048576) : m_w27q (s,c) = some (s.2.2.2.1.any fun x => x.1 == c) := by
 show p_w27q FU _ = _
 unfold p_w27q l_w27q_1
 simp only
 generalize s.2.2.2.1 = xs at hl
 refine (lp_hit xs (fun x => x.1 == c) (some true) (some false) (by unfold B36; omega) (fun i hi rec hw => ?_) (fun rec => ?_)).trans ?_
 ·simp only [lt_lenI hi,cond_true,geti_lt xs i hi,Option.bind_some,hw]
 ·simp only [ge_lenI,cond_false]
 ·cases xs.any fun x => x.1 == c <;> rfl

theorem t_w28q (xs : List Int) (a : Int) (hl : xs.length ≤ 2097152) : m_w28q (xs,a) = some (xs.any fun y => y == a) := by
 show p_w28q FU _ = _
 unfold p_w28q l_w28q_1
 simp only
 refine (lp_hit xs (fun y => y == a) (some true) (some false) (by unfold B36; omega) (fun i hi rec hw => ?_) (fun rec => ?_)).trans (by cases xs.any fun y => y == a <;> rfl)
 ·simp only [lt_lenI hi,cond_true,geti_lt xs i hi,Option.bind_some,hw]
 ·simp only [ge_lenI,cond_false]

theorem t_w29q (s : ShdT) (hu : upM s.2.2.2.2.1) (h1 : s.2.2.2.2.1.length ≤ 1048576) (h2 : s.2.2.2.2.2.length ≤ 1048576) : m_w29q s = some (appB s) := by
 show p_w29q FU _ = _
 unfold p_w29q appB
 generalize s.2.2.2.2.1 = done at *
 generalize s.2.2.2.2.2 = ap at *
 have e1 : l_w29q_1 FU done ((0 : Int),(0 : Int)) = some (((doneL done).length : Nat) : Int) := by
  unfold l_w29q_1
  refine lp_for (fun r => r = some (((doneL done).length : Nat) : Int)) (fun i z => z = ((((doneL (done.take i)).length : Nat) : Int),(i : Int))) done.length (fun i z hi hz => ?_) (fun z hz rec => ?_) FU _ (FU_gt h1) (by simp [doneL])
  ·subst hz
   have hle : (doneL (done.take i)).length ≤ i := by
    unfold doneL
    rw [List.length_map]
    exact Nat.le_trans (List.length_filter_le _ _) (by rw [List.length_take]; omega)
   have hw : IntKind.wrap .i64 ((((doneL (done.take i)).length : Nat) : Int) + 1) = (((doneL (done.take i)).length + 1 : Nat) : Int) := by rw [wrap64 (by omega) (by omega)]; omega
   have e : doneL (done.take (i + 1)) = doneL (done.take i) ++ cond (done[i].2 == 1) [done[i].1] [] := by
    unfold doneL
    rw [List.take_succ_eq_append_getElem hi,List.filter_append,List.map_append]
    cases h : (done[i].2 == 1) <;> simp [h]
   refine .inr ⟨_,rfl,fun rec => ?_⟩
   rw [e]
   simp only [lt_lenI hi,cond_true,geti_lt done i hi,Option.bind_some,wrap_next hi h1,hw]
   cases (done[i].2 == 1) with
   | true => simp only [cond_true,List.length_append,List.length_singleton]
   | false => simp only [cond_false,List.append_nil]
  ·subst hz
   simp only [ge_lenI,cond_false,List.take_length]
 have e2 : l_w29q_2 FU done ap (0 : Int) = (fstI (fun i a => cond (!(findM done a == 1) || (ap.take i).any fun y => y == a) (some (Sum.inr (α := Unit) false)) none) 0 ap).elim (some (Sum.inl ())) some := by
  unfold l_w29q_2
  refine (lp_fst ap (fun i a => cond (!(findM done a == 1) || (ap.take i).any fun y => y == a) (some (Sum.inr (α := Unit) false)) none) (some (Sum.inl ())) (by unfold B36; omega) (fun i hi rec hw => ?_) (fun rec => ?_)).trans ?_
  ·have hbd : bndB none (some (i : Int)) none ap.length = true := by simp [bndB]; omega
   have hcut : cutL none (some (i : Int)) ap = ap.take i := by simp [cutL]
   simp only [lt_lenI hi,cond_true,geti_lt ap i hi,Option.bind_some,t_w26q done _ h1,hw,chk,hbd,hcut,t_w28q (ap.take i) ap[i] (by rw [List.length_take]; omega)]
   cases (findM done ap[i] == 1) with
   | false => rfl
   | true => cases (ap.take i).any fun y => y == ap[i] <;> rfl
  ·simp only [ge_lenI,cond_false]
  ·cases fstI (fun i a => cond (!(findM done a == 1) || (ap.take i).any fun y => y == a) (some (Sum.inr (α := Unit) false)) none) 0 ap <;> rfl
 rw [e1,e2]
 simp only [Option.bind_some]
 have hiff := app_iff hu ap
 have key : ∀ (ys : List Int) (i : Nat),ap.drop i = ys → (ap.take i).Nodup → (∀ a ∈ ap.take i,findM done a = 1) →
   (∀ r,fstI (fun i a => cond (!(findM done a == 1) || (ap.take i).any fun y => y == a) (some (Sum.inr (α := Unit) false)) none) i ys = some r → r = Sum.inr false ∧ ¬ (ap.Nodup ∧ ∀ a ∈ ap,findM done a = 1)) ∧
   (fstI (fun i a => cond (!(findM done a == 1) || (ap.take i).any fun y => y == a) (some (Sum.inr (α := Unit) false)) none) i ys = none → ap.Nodup ∧ ∀ a ∈ ap,findM done a = 1) := by
  intro ys
  induction ys with
  | nil =>
   intro i hd hn ha
   have : ap.length ≤ i := List.drop_eq_nil_iff.1 hd
   rw [List.take_of_length_le this] at hn ha
   exact ⟨fun r h => by simp [fstI] at h,fun _ => ⟨hn,ha⟩⟩
  | cons y ys ih =>
   intro i hd hn ha
   have hlt : i < ap.length := by
    rcases Nat.lt_or_ge i ap.length with q | q
    ·exact q
    ·rw [List.drop_eq_nil_of_le q] at hd; cases hd
   rw [List.drop_eq_getElem_cons hlt] at hd
   have q1 := (List.cons.inj hd).1
   have q2 := (List.cons.inj hd).2
   subst q1
   simp only [fstI]
   cases hb : (!(findM done ap[i] == 1) || (ap.take i).any fun y => y == ap[i]) with
   | true =>
    simp only [cond_true]
    refine ⟨fun r h => ⟨(Option.some.inj h).symm,?_⟩,fun h => by cases h⟩
    rintro ⟨hnd,hall⟩
    have e1 := hall ap[i] (List.getElem_mem hlt)
    have e2 : (ap.take i).any (fun y => y == ap[i]) = false := by
     rw [List.any_eq_false]
     intro a ha'
     obtain ⟨j,hj,rfl⟩ := List.getElem_of_mem ha'
     rw [List.length_take] at hj
     rw [List.getElem_take]
     simpa using nodup_ne hnd (show j < i by omega) hlt
    rw [e1,e2] at hb
    cases hb
   | false =>
    simp only [cond_false]
    simp only [Bool.or_eq_false_iff,Bool.not_eq_false',beq_iff_eq] at hb
    refine ih (i + 1) q2 ?_ ?_
    ·rw [List.take_succ_eq_append_getElem hlt]
     refine List.nodup_append.2 ⟨hn,by simp,fun a ha b hb' => ?_⟩
     rw [List.mem_singleton] at hb'
     subst hb'
     have := List.any_eq_false.1 hb.2 a ha
     simpa using this
    ·intro a ha'
     rw [List.take_succ_eq_append_getElem hlt] at ha'
     rcases List.mem_append.1 ha' with ha' | ha'
     ·exact ha a ha'
     ·rw [List.mem_singleton] at ha'; subst ha'; exact hb.1
 obtain ⟨k1,k2⟩ := key ap 0 (by rw [List.drop_zero]) (by simp) (fun a h => by cases h)
 cases hf : fstI (fun i a => cond (!(findM done a == 1) || (ap.take i).any fun y => y == a) (some (Sum.inr (α := Unit) false)) none) 0 ap with
 | some r =>
  obtain ⟨rfl,hno⟩ := k1 r hf
  have : decide (sortI ap = doneL done) = false := decide_eq_false (fun h => hno ⟨(hiff.2 h).1,(hiff.2 h).2.1⟩)
  rw [this]; rfl
 | none =>
  obtain ⟨q1,q2⟩ := k2 hf
  simp only [Option.elim_none,Option.bind_some,Sum.elim_inl]
  rw [lenI_eq]
  congr 1
  rw [Bool.eq_iff_iff,beq_iff_eq,decide_eq_true_eq,← hiff]
  constructor
  ·intro h; exact ⟨q1,q2,by omega⟩
  ·rintro ⟨_,_,h⟩; omega

theorem t_w30q (a b : List LegT) (ha : a.length ≤ 1048576) (hb : b.length ≤ 1048576) : m_w30q (a,b) = some (touchL a b) := by
 show p_w30q FU _ = _
 unfold p_w30q l_w30q_2 touchL
 simp only
 refine (lp_hit a (fun l => b.any fun o => (l.2.1 == o.2.1) && (l.2.2.1 == o.2.2.1)) (some true) (some false) (by unfold B36; omega) (fun i hi rec hw => ?_) (fun rec => ?_)).trans ?_
 ·have e : l_w30q_1 FU a b (i : Int) (0 : Int) = some (cond (b.any fun o => (a[i].2.1 == o.2.1) && (a[i].2.2.1 == o.2.2.1)) (Sum.inr true) (Sum.inl ())) := by
   unfold l_w30q_1
   refine (lp_hit b (fun o => (a[i].2.1 == o.2.1) && (a[i].2.2.1 == o.2.2.1)) (some (Sum.inr true)) (some (Sum.inl ())) (by unfold B36; omega) (fun j hj rec hw => ?_) (fun rec => ?_)).trans ?_
   ·simp only [lt_lenI hj,cond_true,geti_lt a i hi,geti_lt b j hj,Option.bind_some,hw]
    cases (a[i].2.1 == b[j].2.1) <;> rfl
   ·simp only [ge_lenI,cond_false]
   ·cases b.any fun o => (a[i].2.1 == o.2.1) && (a[i].2.2.1 == o.2.2.1) <;> rfl
  simp only [lt_lenI hi,cond_true,e,Option.bind_some,hw]
  cases b.any fun o => (a[i].2.1 == o.2.1) && (a[i].2.2.1 == o.2.2.1) <;> rfl
 ·simp only [ge_lenI,cond_false]
 ·cases a.any fun l => b.any fun o => (l.2.1 == o.2.1) && (l.2.2.1 == o.2.2.1) <;> rfl

theorem t_w31q (xs : List BalT) (a b : Int) (hl : xs.length ≤ 1048576) : m_w31q (xs,a,b) = some (hasB xs a b) := by
 show p_w31q FU _ = _
 unfold p_w31q l_w31q_1 hasB
 simp only
 refine (lp_place xs (fun y => (y.1 == a) && (y.2.1 == b)) (fun i => (xs[i]?).map (·.2.2)) (some (0 : Int)) (by unfold B36; omega) (fun i hi rec hw => ?_) (fun rec => ?_)).trans ?_
 ·simp only [lt_lenI hi,cond_true,geti_lt xs i hi,Option.bind_some,hw,List.getElem?_eq_getElem hi,Option.map_some]
  cases (xs[i].1 == a) with
  | false => rfl
  | true => cases (xs[i].2.1 == b) <;> rfl
 ·simp only [ge_lenI,cond_false]
 ·rw [find_at]
  cases hf : xs.findIdx? (fun y => (y.1 == a) && (y.2.1 == b)) with
  | none => rfl
  | some i =>
   rw [List.findIdx?_eq_some_iff_getElem] at hf
   obtain ⟨h,_⟩ := hf
   simp [List.getElem?_eq_getElem h]

theorem t_w32q (xs : List BalT) (ls : List LegT) (hl : xs.length ≤ 1048576) (hs : ls.length ≤ 1048576) : m_w32q (xs,ls) = some (legsB xs ls) := by
 show p_w32q FU _ = _
 unfold p_w32q l_w32q_1 legsB
 simp only
 refine (lp_fst ls (fun _ l => nz (legB xs l)) (some (0 : Int)) (by unfold B36; omega) (fun i hi rec hw => ?_) (fun rec => ?_)).trans ?_
 ·simp only [lt_lenI hi,cond_true,geti_lt ls i hi,Option.bind_some,t_w31q xs _ _ hl,hw,legB,nz]
  cases decide (IntKind.wrap .i64 (hasB xs ls[i].2.1 ls[i].2.2.1 + ls[i].2.2.2) < 0) with
  | true => rfl
  | false => cases decide (IntKind.wrap .i64 (hasB xs ls[i].2.1 ls[i].2.2.1 + ls[i].2.2.2) > 1000000000000) <;> rfl
 ·simp only [ge_lenI,cond_false]
 ·cases fstI (fun _ l => nz (legB xs l)) 0 ls <;> rfl

theorem held_e1 (s : ShdT) (hz : SzS s) : l_w33q_1 FU s.1 s.2.2.1 s.2.2.2.1 s.2.2.2.2.1 (0 : Int) = (fstI (heldStep s) 0 s.2.2.2.1).elim (some (Sum.inl ())) (fun r => some (Sum.inr r)) := by
 obtain ⟨z1,z2,z3,z4,z5,z6⟩ := hz
 have hB : s.2.2.2.1.length ≤ B36 := by unfold B36; omega
 unfold l_w33q_1
 refine (lp_fst s.2.2.2.1 (fun i c => (heldStep s i c).map (Sum.inr (α := Unit))) (some (Sum.inl ())) hB (fun i hi rec hw => ?_) (fun rec => ?_)).trans ?_
 ·have hc := z6 _ (List.getElem_mem hi)
  have hLe : ∀ c : ConT,(lenI (legsA c.2 s.1) == 0) = (legsA c.2 s.1).isEmpty := fun c => by
   rw [lenI_eq]; cases legsA c.2 s.1 with
   | nil => rfl
   | cons a r => rw [List.isEmpty_cons,beq_eq_false_iff_ne,List.length_cons]; omega
  have hL := t_w25q s.2.2.2.1[i].1 s.2.2.2.1[i].2 s.1 hc
  simp only [lt_lenI hi,cond_true,geti_lt _ i hi,Option.bind_some,t_w24q _ hc,hw,heldStep]
  cases hcc : conC s.2.2.2.1[i] == 0 with
  | false => rfl
  | true =>
   simp only [Bool.not_true,cond_false,cond_true]
   have hL' : m_w25q (s.2.2.2.1[i],s.1) = some (legsA s.2.2.2.1[i].2 s.1) := hL
   unfold heldBad
   by_cases h0 : 0 < i
   ·have hd : decide ((i : Int) > 0) = true := by simp; omega
    have hi1 : i - 1 < s.2.2.2.1.length := by omega
    simp only [hd,cond_true,prv (i := i) (by unfold B36; omega) h0,geti_lt _ _ hi1,Option.bind_some,hL',hLe,t_w26q _ _ z2,t_w26q _ _ z4,h0,decide_true,Bool.true_and,List.getElem?_eq_getElem hi1,Option.getD_some]
    cases decide (s.2.2.2.1[i].1 ≤ s.2.2.2.1[i - 1].1) with
    | true => rfl
    | false =>
     cases (legsA s.2.2.2.1[i].2 s.1).isEmpty with
     | true => rfl
     | false =>
      cases (findM s.2.2.1 s.2.2.2.1[i].1 == 1) with
      | false => rfl
      | true => cases (findM s.2.2.2.2.1 s.2.2.2.1[i].1 == 0) <;> rfl
   ·have hd : decide ((i : Int) > 0) = false := by simp; omega
    simp only [hd,cond_false,Option.bind_some,hL',hLe,t_w26q _ _ z2,t_w26q _ _ z4,h0,decide_false,Bool.false_and,Bool.false_or]
    cases (legsA s.2.2.2.1[i].2 s.1).isEmpty with
    | true => rfl
    | false =>
     cases (findM s.2.2.1 s.2.2.2.1[i].1 == 1) with
     | false => rfl
     | true => cases (findM s.2.2.2.2.1 s.2.2.2.1[i].1 == 0) <;> rfl
 ·simp only [ge_lenI,cond_false]
 ·rw [fstI_map]
  cases fstI (heldStep s) 0 s.2.2.2.1 <;> rfl
theorem held_e2 (s : ShdT) (hz : SzS s) : l_w33q_2 FU s (0 : Int) = some (cond (s.2.2.1.any (openB s)) (Sum.inr (1 : Int)) (Sum.inl ())) := by
 obtain ⟨z1,z2,z3,z4,z5,z6⟩ := hz
 have hB : s.2.2.2.1.length ≤ B36 := by unfold B36; omega
 unfold l_w33q_2
 refine (lp_hit s.2.2.1 (openB s) (some (Sum.inr (1 : Int))) (some (Sum.inl ())) (by unfold B36; omega) (fun i hi rec hw => ?_) (fun rec => ?_)).trans ?_
 ·simp only [lt_lenI hi,cond_true,geti_lt _ i hi,Option.bind_some,t_w27q s _ z3,t_w26q _ _ z4,hw,openB]
  cases (s.2.2.1[i].2 == 1) with
  | false => rfl
  | true =>
   cases s.2.2.2.1.any fun x => x.1 == s.2.2.1[i].1 with
   | true => rfl
   | false => rfl
 ·simp only [ge_lenI,cond_false]
 ·cases s.2.2.1.any (openB s) <;> rfl
theorem held_e3 (s : ShdT) (hz : SzS s) : ∀ i,i < s.2.2.2.1.length → ∀ c,s.2.2.2.1[i]? = some c → l_w33q_3 FU (i : Int) s.1 s.2.2.2.1 (0 : Int) = some (cond ((s.2.2.2.1.take i).any fun o => touchL (legsA c.2 s.1) (legsA o.2 s.1)) (Sum.inr (Sum.inr (7 : Int))) (Sum.inl ())) := by
 obtain ⟨z1,z2,z3,z4,z5,z6⟩ := hz
 have hB : s.2.2.2.1.length ≤ B36 := by unfold B36; omega
 intro i hi c hc
 unfold l_w33q_3
 have hlen : (s.2.2.2.1.take i).length = i := by rw [List.length_take]; omega
 have hgc : geti s.2.2.2.1 (i : Int) = some c := by rw [geti_nat,hc]
 have hcl : c.2.length ≤ 1048576 := z6 c (List.mem_of_getElem? hc)
 refine (lp_hit (s.2.2.2.1.take i) (fun o => touchL (legsA c.2 s.1) (legsA o.2 s.1)) (some (Sum.inr (Sum.inr (7 : Int)))) (some (Sum.inl ())) (by rw [hlen]; omega) (fun j hj rec hw => ?_) (fun rec => ?_)).trans ?_
 ·rw [hlen] at hj
  have hd : decide ((j : Int) < (i : Int)) = true := decide_eq_true (by omega)
  have hg : geti s.2.2.2.1 (j : Int) = some s.2.2.2.1[j] := geti_lt _ j (by omega)
  have ht : (s.2.2.2.1.take i)[j]'(by rw [hlen]; exact hj) = s.2.2.2.1[j] := List.getElem_take
  have hjl : s.2.2.2.1[j].2.length ≤ 1048576 := z6 _ (List.getElem_mem (by omega))
  have L1 : m_w25q (c,s.1) = some (legsA c.2 s.1) := t_w25q c.1 c.2 s.1 hcl
  have L2 : m_w25q (s.2.2.2.1[j],s.1) = some (legsA s.2.2.2.1[j].2 s.1) := t_w25q _ _ _ hjl
  simp only [hd,cond_true,hgc,hg,Option.bind_some,L1,L2,t_w30q _ _ (legsA_len hcl _) (legsA_len hjl _),hw,ht]
 ·rw [hlen]
  have hd : decide ((i : Int) < (i : Int)) = false := decide_eq_false (by omega)
  simp only [hd,cond_false]
 ·cases (s.2.2.2.1.take i).any fun o => touchL (legsA c.2 s.1) (legsA o.2 s.1) <;> rfl
theorem held_e4 (s : ShdT) (hz : SzS s) : l_w33q_4 FU s.1 s.2.2.2.1 (0 : Int) = (fstI (meetStep s) 0 s.2.2.2.1).elim (some (Sum.inl ())) (fun r => some (Sum.inr r)) := by
 obtain ⟨z1,z2,z3,z4,z5,z6⟩ := hz
 have hB : s.2.2.2.1.length ≤ B36 := by unfold B36; omega
 unfold l_w33q_4
 refine (lp_fst s.2.2.2.1 (fun i c => (meetStep s i c).map (Sum.inr (α := Unit))) (some (Sum.inl ())) hB (fun i hi rec hw => ?_) (fun rec => ?_)).trans ?_
 ·have := held_e3 s ⟨z1,z2,z3,z4,z5,z6⟩ i hi _ (List.getElem?_eq_getElem hi)
  simp only [lt_lenI hi,cond_true,this,Option.bind_some,hw,meetStep]
  cases (s.2.2.2.1.take i).any fun o => touchL (legsA s.2.2.2.1[i].2 s.1) (legsA o.2 s.1) <;> rfl
 ·simp only [ge_lenI,cond_false]
 ·rw [fstI_map]
  cases fstI (meetStep s) 0 s.2.2.2.1 <;> rfl
theorem held_e5 (s : ShdT) (hz : SzS s) : l_w33q_5 FU s.1 s.2.1 s.2.2.2.1 (0 : Int) = some ((fstI (fun _ c => nz (legsB s.2.1 (legsA c.2 s.1))) 0 s.2.2.2.1).getD 0) := by
 obtain ⟨z1,z2,z3,z4,z5,z6⟩ := hz
 have hB : s.2.2.2.1.length ≤ B36 := by unfold B36; omega
 unfold l_w33q_5
 refine (lp_fst s.2.2.2.1 (fun _ c => nz (legsB s.2.1 (legsA c.2 s.1))) (some (0 : Int)) hB (fun i hi rec hw => ?_) (fun rec => ?_)).trans ?_
 ·have hc := z6 _ (List.getElem_mem hi)
  have L1 : m_w25q (s.2.2.2.1[i],s.1) = some (legsA s.2.2.2.1[i].2 s.1) := t_w25q _ _ _ hc
  simp only [lt_lenI hi,cond_true,geti_lt _ i hi,Option.bind_some,L1,t_w32q _ _ z1 (legsA_len hc _),hw,nz]
  cases (legsB s.2.1 (legsA s.2.2.2.1[i].2 s.1) == 0) <;> rfl
 ·simp only [ge_lenI,cond_false]
 ·cases fstI (fun _ c => nz (legsB s.2.1 (legsA c.2 s.1))) 0 s.2.2.2.1 <;> rfl
theorem t_w33q (s : ShdT) (hz : SzS s) (hu : upM s.2.2.2.2.1) : m_w33q s = some (heldAll s) := by
 show p_w33q FU _ = _
 unfold p_w33q heldAll
 rw [held_e1 s hz]
 have hcz := fst_getD (heldStep_ne s) s.2.2.2.1 0
 unfold heldC
 cases hf : fstI (heldStep s) 0 s.2.2.2.1 with
 | some r =>
  have hr : r ≠ 0 := fun e => by rw [hf,e] at hcz; exact absurd (hcz.1 rfl) (by simp)
  simp only [Option.elim_some,Option.bind_some,Sum.elim_inr,Option.getD_some]
  rw [if_pos hr]
 | none =>
  simp only [Option.elim_none,Option.bind_some,Sum.elim_inl,Option.getD_none,ne_eq,not_true_eq_false,if_false,held_e2 s hz]
  cases s.2.2.1.any (openB s) with
  | true => simp only [cond_true,Option.bind_some,Sum.elim_inr,Bool.true_or]
  | false =>
   simp only [cond_false,Option.bind_some,Sum.elim_inl,t_w29q s hu hz.2.2.2.1 hz.2.2.2.2.1,Bool.false_or]
   cases appB s with
   | false => simp only [Bool.not_false,cond_true]
   | true =>
    simp only [Bool.not_true,cond_false,held_e4 s hz]
    cases fstI (meetStep s) 0 s.2.2.2.1 with
    | some r => simp only [Option.elim_some,Option.bind_some,Sum.elim_inr,Option.getD_some]
    | none =>
     simp only [Option.elim_none,Option.bind_some,Sum.elim_inl,Option.getD_none]
     rw [held_e5 s hz]

theorem t_w34q (s : ShdT) (hz : SzS s) : m_w34q s = some (shardC s) := by
 show p_w34q FU _ = _
 unfold p_w34q shardC
 simp only [t_w20q,Option.bind_some]
 cases inB s.1 0 2 with
 | false => rfl
 | true =>
  simp only [Bool.not_true,cond_false]
  by_cases hb : balCode s.2.1 = 0
  ·simp only [hb,beq_self_eq_true,Bool.not_true,cond_false,ne_eq,not_true_eq_false,if_false]
   have emany : (cond (decide ((lenI s.2.2.1) > (100 : Int))) (some true) (cond (decide ((lenI s.2.2.2.1) > (100 : Int))) (some true) (cond (decide ((lenI s.2.2.2.2.1) > (100 : Int))) (some true) (some (decide ((lenI s.2.2.2.2.2) > (100 : Int))))))) = some (decide (100 < s.2.2.1.length ∨ 100 < s.2.2.2.1.length ∨ 100 < s.2.2.2.2.1.length ∨ 100 < s.2.2.2.2.2.length)) := by
    by_cases h1 : 100 < s.2.2.1.length
    ·rw [decide_eq_true (show lenI s.2.2.1 > 100 by rw [lenI_eq]; omega),decide_eq_true (show 100 < s.2.2.1.length ∨ 100 < s.2.2.2.1.length ∨ 100 < s.2.2.2.2.1.length ∨ 100 < s.2.2.2.2.2.length from .inl h1)]; rfl
    ·rw [decide_eq_false (show ¬ lenI s.2.2.1 > 100 by rw [lenI_eq]; omega),cond_false]
     by_cases h2 : 100 < s.2.2.2.1.length
     ·rw [decide_eq_true (show lenI s.2.2.2.1 > 100 by rw [lenI_eq]; omega),decide_eq_true (show 100 < s.2.2.1.length ∨ 100 < s.2.2.2.1.length ∨ 100 < s.2.2.2.2.1.length ∨ 100 < s.2.2.2.2.2.length from .inr (.inl h2))]; rfl
     ·rw [decide_eq_false (show ¬ lenI s.2.2.2.1 > 100 by rw [lenI_eq]; omega),cond_false]
      by_cases h3 : 100 < s.2.2.2.2.1.length
      ·rw [decide_eq_true (show lenI s.2.2.2.2.1 > 100 by rw [lenI_eq]; omega),decide_eq_true (show 100 < s.2.2.1.length ∨ 100 < s.2.2.2.1.length ∨ 100 < s.2.2.2.2.1.length ∨ 100 < s.2.2.2.2.2.length from .inr (.inr (.inl h3)))]; rfl
      ·rw [decide_eq_false (show ¬ lenI s.2.2.2.2.1 > 100 by rw [lenI_eq]; omega),cond_false]
       congr 1
       rw [Bool.eq_iff_iff,decide_eq_true_eq,decide_eq_true_eq,lenI_eq]
       omega
   rw [emany]
   simp only [Option.bind_some]
   by_cases hm : 100 < s.2.2.1.length ∨ 100 < s.2.2.2.1.length ∨ 100 < s.2.2.2.2.1.length ∨ 100 < s.2.2.2.2.2.length
   ·rw [decide_eq_true hm,if_pos hm]; rfl
   ·rw [decide_eq_false hm,if_neg hm,cond_false,t_w22q _ hz.2.1,Option.bind_some]
    by_cases hv : markC s.2.2.1 = 0
    ·have hvb : (markC s.2.2.1 == 0) = true := by simpa using hv
     simp only [hvb,Bool.not_true,cond_false,hv,beq_self_eq_true,ne_eq,not_true_eq_false,if_false,t_w22q _ hz.2.2.2.1,Option.bind_some]
     by_cases hd : markC s.2.2.2.2.1 = 0
     ·have hdb : (markC s.2.2.2.2.1 == 0) = true := by simpa using hd
      simp only [hdb,Bool.not_true,cond_false,hd,beq_self_eq_true,not_true_eq_false,if_false,t_w33q s hz (markC_zero hd).1,Option.bind_some]
     ·have hdb : (markC s.2.2.2.2.1 == 0) = false := by simpa using hd
      rw [hdb,if_pos hd]; rfl
    ·have hvb : (markC s.2.2.1 == 0) = false := by simpa using hv
     rw [hvb,if_pos hv]; rfl
  ·have hbb : (balCode s.2.1 == 0) = false := by simpa using hb
   rw [if_pos hb,hbb]; rfl

theorem w_u8 {n : Int} (h : 0 ≤ n) (h1 : n < 256) : IntKind.wrap .u8 n = n := by
 show n.emod _ = n
 exact Int.emod_eq_of_lt h h1
theorem itoa_nat (u : Nat) : Lib.itoa (u : Int) = Lib.decDigits u := by
 unfold Lib.itoa
 rw [if_neg (by omega)]; rfl
theorem itoaB_size {x : Int} (h0 : 0 ≤ x) (h : x ≤ 1000000000000) : (itoaB x).size ≤ 19 := by
  obtain ⟨u, rfl⟩ := Int.eq_ofNat_of_zero_le h0
  show (Lib.itoa (u : Int)).toArray.size ≤ 19
  simp only [List.size_toArray]
  rw [itoa_nat, Lib.decDigits_length]
  rcases Nat.lt_or_ge (Lib.nDigits u) 20 with hq | hq
  · omega
  · exfalso
    have key : ∀ (k v : Nat), k + 1 ≤ Lib.nDigits v → 10 ^ k ≤ v ∨ v = 0 := by
      intro k
      induction k with
      | zero => intro v _; rcases Nat.eq_zero_or_pos v with e | e
                · exact .inr e
                · exact .inl (by rw [Nat.pow_zero]; omega)
      | succ k ih =>
        intro v hv
        by_cases hs : v < 10
        · rw [Lib.nDigits_small hs] at hv; omega
        · rw [Lib.nDigits_big hs] at hv
          rcases ih (v / 10) (by omega) with e | e
          · left; rw [Nat.pow_succ]; omega
          · omega
    rcases key 19 u hq with e | e
    · have : (10 : Nat) ^ 19 = 10000000000000000000 := by decide
      omega
    · subst e; rw [Lib.nDigits_small (by decide)] at hq; omega
theorem itoaB_lt {x : Int} (h0 : 0 ≤ x) (h : x < 10) : strOfNums [48 + x] = itoaB x := by
 obtain ⟨u,rfl⟩ := Int.eq_ofNat_of_zero_le h0
 unfold itoaB
 rw [itoa_nat,Lib.decDigits,dif_pos (by omega)]
 unfold strOfNums
 simp only [List.map_cons,List.map_nil]
 rw [show ((48 : Int) + (u : Int)).toNat = 48 + u by omega]
theorem itoaB_ge {x : Int} (h : 10 ≤ x) : itoaB (x / 10) ++ strOfNums [48 + x % 10] = itoaB x := by
 obtain ⟨u,rfl⟩ := Int.eq_ofNat_of_zero_le (show 0 ≤ x by omega)
 have e1 : ((u : Int) / 10) = ((u / 10 : Nat) : Int) := by omega
 have e2 : ((48 : Int) + (u : Int) % 10).toNat = 48 + u % 10 := by omega
 unfold itoaB
 rw [e1,itoa_nat,itoa_nat,Lib.decDigits.eq_1 u,dif_neg (by omega)]
 unfold strOfNums
 simp only [List.map_cons,List.map_nil,e2]
 rw [← List.append_toArray]
 apply ByteArray.ext
 simp [ByteArray.data_append]
theorem digits_ok (n d : Nat) : ∀ (x : Int),0 ≤ x → x ≤ 1000000000000 → x < 10 ^ (d + 1) → R_w35q n (d + 1) x = some (itoaB x) := by
 induction d with
 | zero =>
  intro x h0 h1 h2
  show p_w35q _ n x = _
  unfold p_w35q
  have hd : decide (x < (10 : Int)) = true := decide_eq_true (by simpa using h2)
  have hx : x < 10 := of_decide_eq_true hd
  simp only [hd,cond_true]
  rw [wrap64 (by omega) (by omega),w_u8 (by omega) (by omega),itoaB_lt h0 hx]
 | succ d ih =>
  intro x h0 h1 h2
  show p_w35q _ n x = _
  unfold p_w35q
  by_cases hx : x < 10
  ·simp only [decide_eq_true hx,cond_true]
   rw [wrap64 (by omega) (by omega),w_u8 (by omega) (by omega),itoaB_lt h0 hx]
  ·have e1 : Int.tdiv x 10 = x / 10 := Int.tdiv_eq_ediv_of_nonneg h0
   have e2 : Int.tmod x 10 = x % 10 := Int.tmod_eq_emod_of_nonneg h0
   have hz : ((10 : Int) == 0) = false := rfl
   have hp : (10 : Int) ^ (d + 1 + 1) = 10 ^ (d + 1) * 10 := Int.pow_succ 10 (d + 1)
   have hq := ih (x / 10) (by omega) (by omega) (by omega)
   have hs := itoaB_size (x := x / 10) (by omega) (by omega)
   simp only [decide_eq_false hx,cond_false,hz,e1,e2]
   rw [dup_eq,wrap64 (n := x / 10) (by omega) (by omega),hq,Option.bind_some]
   rw [wrap64 (by omega) (by omega),w_u8 (by omega) (by omega),chk_true (Nat.ble_eq_true_of_le (by rw [show (strOfNums [(48 : Int) + x % 10]).size = 1 from rfl]; omega)),itoaB_ge (by omega)]
theorem t_w35q (x : Int) (h0 : 0 ≤ x) (h1 : x ≤ 1000000000000) : m_w35q x = some (itoaB x) :=
 digits_ok FU 63 x h0 h1 (Int.lt_of_le_of_lt h1 (by decide))
/-- A line: a word, numbers, a new line. -/
def lineT (a : ByteArray) (xs : List Int) : ByteArray := xs.foldl (fun s x => (s ++ ⟨#[32]⟩) ++ itoaB x) a ++ ⟨#[10]⟩
def okN (xs : List Int) : Prop := ∀ x ∈ xs,0 ≤ x ∧ x ≤ 1000000000000
theorem line_size : ∀ (xs : List Int) (a : ByteArray),okN xs → (xs.foldl (fun s x => (s ++ ⟨#[32]⟩) ++ itoaB x) a).size ≤ a.size + 20 * xs.length
 | [],_,_ => by simp
 | x :: xs,a,h => by
  have h1 := line_size xs ((a ++ ⟨#[32]⟩) ++ itoaB x) fun y hy => h y (List.mem_cons_of_mem _ hy)
  have h2 := itoaB_size (h x (List.mem_cons_self ..)).1 (h x (List.mem_cons_self ..)).2
  simp only [ByteArray.size_append,List.length_cons,List.foldl_cons] at h1 ⊢
  have h3 : (⟨#[32]⟩ : ByteArray).size = 1 := rfl
  omega
theorem lineT_size {xs : List Int} {a : ByteArray} (h : okN xs) : (lineT a xs).size ≤ a.size + 20 * xs.length + 1 := by
 have h1 := line_size xs a h
 unfold lineT
 rw [ByteArray.size_append,show (⟨#[10]⟩ : ByteArray).size = 1 from rfl]
 omega

theorem t_w36q (a : ByteArray) (xs : List Int) (ha : a.size ≤ 100) (hl : xs.length ≤ 10) (h : okN xs) : m_w36q (a,xs) = some (lineT a xs) := by
 show p_w36q FU _ = _
 unfold p_w36q l_w36q_1 lineT
 have hB : xs.length ≤ B36 := by unfold B36; omega
 refine (lp_foldI xs (fun s x => (s ++ ⟨#[32]⟩) ++ itoaB x) (fun i s => (s,(i : Int))) (fun s => some (s ++ ⟨#[10]⟩)) (fun i s => s.size ≤ 100 + 20 * i) hB a (by omega) (fun i hi s hI => ?_) (fun s hI rec => ?_)).1
 ·have hx := h _ (List.getElem_mem hi)
  have hs := itoaB_size hx.1 hx.2
  have h3 : (⟨#[32]⟩ : ByteArray).size = 1 := rfl
  refine ⟨by rw [ByteArray.size_append,ByteArray.size_append,h3]; omega,fun rec => ?_⟩
  simp only [lt_lenI hi,cond_true,geti_lt xs i hi,Option.bind_some,t_w35q _ hx.1 hx.2,nxt (show i ≤ B36 by omega)]
  rw [chk_true (Nat.ble_eq_true_of_le (by rw [h3]; omega)),chk_true (Nat.ble_eq_true_of_le (by rw [ByteArray.size_append,h3]; omega))]
 ·simp only [ge_lenI,cond_false]
  rw [chk_true (Nat.ble_eq_true_of_le (by rw [show (⟨#[10]⟩ : ByteArray).size = 1 from rfl]; omega))]

def hasG (t : ByteArray) (b : BalT) : ByteArray := t ++ lineT (⟨#[104,97,115]⟩ : ByteArray) [b.1,b.2.1,b.2.2]
theorem hasG_size (t : ByteArray) (b : BalT) (h : okN [b.1,b.2.1,b.2.2]) : (hasG t b).size ≤ t.size + 100 := by
 have h1 := lineT_size (a := (⟨#[104,97,115]⟩ : ByteArray)) h
 have h2 : (⟨#[104,97,115]⟩ : ByteArray).size ≤ 5 := by decide
 unfold hasG
 rw [ByteArray.size_append]
 simp only [List.length_cons,List.length_nil] at h1
 omega
theorem has_spec (xs : List BalT) (hl : xs.length ≤ 100) (ho : ∀ b ∈ xs,okN [b.1,b.2.1,b.2.2]) (t : ByteArray) (N : Nat) (ht : t.size ≤ N) (hN : N ≤ 100000) : l_w37q_1 FU xs (t,(0 : Int)) = some (xs.foldl hasG t) ∧ (xs.foldl hasG t).size ≤ N + 100 * xs.length := by
 unfold l_w37q_1
 have hB : xs.length ≤ B36 := by unfold B36; omega
 refine lp_foldI xs hasG (fun i s => (s,(i : Int))) (fun s => some s) (fun i s => s.size ≤ N + 100 * i) hB t (by omega) (fun i hi s hI => ?_) (fun s hI rec => ?_)
 ·have hx := ho _ (List.getElem_mem hi)
  have hg := hasG_size s xs[i] hx
  refine ⟨by omega,fun rec => ?_⟩
  have e := t_w36q (⟨#[104,97,115]⟩ : ByteArray) [xs[i].1,xs[i].2.1,xs[i].2.2] (by decide) (by simp) hx
  simp only [lt_lenI hi,cond_true,geti_lt xs i hi,Option.bind_some,e,nxt (show i ≤ B36 by omega)]
  have hm : maxBytes = 140737488355328 := rfl
  unfold hasG at hg ⊢
  rw [ByteArray.size_append] at hg
  rw [chk_true (Nat.ble_eq_true_of_le (by omega))]
 ·simp only [ge_lenI,cond_false]
def voteG (t : ByteArray) (b : MarkT) : ByteArray := t ++ lineT (⟨#[118,111,116,101]⟩ : ByteArray) [b.1,b.2]
theorem voteG_size (t : ByteArray) (b : MarkT) (h : okN [b.1,b.2]) : (voteG t b).size ≤ t.size + 100 := by
 have h1 := lineT_size (a := (⟨#[118,111,116,101]⟩ : ByteArray)) h
 have h2 : (⟨#[118,111,116,101]⟩ : ByteArray).size ≤ 5 := by decide
 unfold voteG
 rw [ByteArray.size_append]
 simp only [List.length_cons,List.length_nil] at h1
 omega
theorem vote_spec (xs : List MarkT) (hl : xs.length ≤ 100) (ho : ∀ b ∈ xs,okN [b.1,b.2]) (t : ByteArray) (N : Nat) (ht : t.size ≤ N) (hN : N ≤ 100000) : l_w37q_2 FU xs (t,(0 : Int)) = some (xs.foldl voteG t) ∧ (xs.foldl voteG t).size ≤ N + 100 * xs.length := by
 unfold l_w37q_2
 have hB : xs.length ≤ B36 := by unfold B36; omega
 refine lp_foldI xs voteG (fun i s => (s,(i : Int))) (fun s => some s) (fun i s => s.size ≤ N + 100 * i) hB t (by omega) (fun i hi s hI => ?_) (fun s hI rec => ?_)
 ·have hx := ho _ (List.getElem_mem hi)
  have hg := voteG_size s xs[i] hx
  refine ⟨by omega,fun rec => ?_⟩
  have e := t_w36q (⟨#[118,111,116,101]⟩ : ByteArray) [xs[i].1,xs[i].2] (by decide) (by simp) hx
  simp only [lt_lenI hi,cond_true,geti_lt xs i hi,Option.bind_some,e,nxt (show i ≤ B36 by omega)]
  have hm : maxBytes = 140737488355328 := rfl
  unfold voteG at hg ⊢
  rw [ByteArray.size_append] at hg
  rw [chk_true (Nat.ble_eq_true_of_le (by omega))]
 ·simp only [ge_lenI,cond_false]
def heldG (t : ByteArray) (b : ConT) : ByteArray := t ++ lineT (⟨#[104,101,108,100]⟩ : ByteArray) [b.1]
theorem heldG_size (t : ByteArray) (b : ConT) (h : okN [b.1]) : (heldG t b).size ≤ t.size + 100 := by
 have h1 := lineT_size (a := (⟨#[104,101,108,100]⟩ : ByteArray)) h
 have h2 : (⟨#[104,101,108,100]⟩ : ByteArray).size ≤ 5 := by decide
 unfold heldG
 rw [ByteArray.size_append]
 simp only [List.length_cons,List.length_nil] at h1
 omega
theorem held_spec (xs : List ConT) (hl : xs.length ≤ 100) (ho : ∀ b ∈ xs,okN [b.1]) (t : ByteArray) (N : Nat) (ht : t.size ≤ N) (hN : N ≤ 100000) : l_w37q_3 FU xs (t,(0 : Int)) = some (xs.foldl heldG t) ∧ (xs.foldl heldG t).size ≤ N + 100 * xs.length := by
 unfold l_w37q_3
 have hB : xs.length ≤ B36 := by unfold B36; omega
 refine lp_foldI xs heldG (fun i s => (s,(i : Int))) (fun s => some s) (fun i s => s.size ≤ N + 100 * i) hB t (by omega) (fun i hi s hI => ?_) (fun s hI rec => ?_)
 ·have hx := ho _ (List.getElem_mem hi)
  have hg := heldG_size s xs[i] hx
  refine ⟨by omega,fun rec => ?_⟩
  have e := t_w36q (⟨#[104,101,108,100]⟩ : ByteArray) [xs[i].1] (by decide) (by simp) hx
  simp only [lt_lenI hi,cond_true,geti_lt xs i hi,Option.bind_some,e,nxt (show i ≤ B36 by omega)]
  have hm : maxBytes = 140737488355328 := rfl
  unfold heldG at hg ⊢
  rw [ByteArray.size_append] at hg
  rw [chk_true (Nat.ble_eq_true_of_le (by omega))]
 ·simp only [ge_lenI,cond_false]
def doneG (t : ByteArray) (b : MarkT) : ByteArray := t ++ lineT (⟨#[100,111,110,101]⟩ : ByteArray) [b.1,b.2]
theorem doneG_size (t : ByteArray) (b : MarkT) (h : okN [b.1,b.2]) : (doneG t b).size ≤ t.size + 100 := by
 have h1 := lineT_size (a := (⟨#[100,111,110,101]⟩ : ByteArray)) h
 have h2 : (⟨#[100,111,110,101]⟩ : ByteArray).size ≤ 5 := by decide
 unfold doneG
 rw [ByteArray.size_append]
 simp only [List.length_cons,List.length_nil] at h1
 omega
theorem done_spec (xs : List MarkT) (hl : xs.length ≤ 100) (ho : ∀ b ∈ xs,okN [b.1,b.2]) (t : ByteArray) (N : Nat) (ht : t.size ≤ N) (hN : N ≤ 100000) : l_w37q_4 FU xs (t,(0 : Int)) = some (xs.foldl doneG t) ∧ (xs.foldl doneG t).size ≤ N + 100 * xs.length := by
 unfold l_w37q_4
 have hB : xs.length ≤ B36 := by unfold B36; omega
 refine lp_foldI xs doneG (fun i s => (s,(i : Int))) (fun s => some s) (fun i s => s.size ≤ N + 100 * i) hB t (by omega) (fun i hi s hI => ?_) (fun s hI rec => ?_)
 ·have hx := ho _ (List.getElem_mem hi)
  have hg := doneG_size s xs[i] hx
  refine ⟨by omega,fun rec => ?_⟩
  have e := t_w36q (⟨#[100,111,110,101]⟩ : ByteArray) [xs[i].1,xs[i].2] (by decide) (by simp) hx
  simp only [lt_lenI hi,cond_true,geti_lt xs i hi,Option.bind_some,e,nxt (show i ≤ B36 by omega)]
  have hm : maxBytes = 140737488355328 := rfl
  unfold doneG at hg ⊢
  rw [ByteArray.size_append] at hg
  rw [chk_true (Nat.ble_eq_true_of_le (by omega))]
 ·simp only [ge_lenI,cond_false]
def shardT (s : ShdT) : ByteArray := s.2.2.2.2.1.foldl doneG (s.2.2.2.1.foldl heldG (s.2.2.1.foldl voteG (s.2.1.foldl hasG (lineT ⟨#[115,104,97,114,100]⟩ [s.1]))))
theorem shard_nums {s : ShdT} (h : shardC s = 0) : okN [s.1] ∧ (∀ b ∈ s.2.1,okN [b.1,b.2.1,b.2.2]) ∧ (∀ b ∈ s.2.2.1,okN [b.1,b.2]) ∧ (∀ b ∈ s.2.2.2.1,okN [b.1]) ∧ ∀ b ∈ s.2.2.2.2.1,okN [b.1,b.2] := by
 obtain ⟨k1,k2,k3,k4,k5,_⟩ := shardC_zero h
 have inr : ∀ {a b c : Int},inB a b c = true → 0 ≤ b → c ≤ 1000000000000 → 0 ≤ a ∧ a ≤ 1000000000000 := by
  intro a b c hi h0 h1
  unfold inB at hi
  simp only [Bool.and_eq_true,decide_eq_true_eq] at hi
  omega
 have vl : ∀ {a : Int},vlu a = true → 0 ≤ a ∧ a ≤ 1000000000000 := by
  intro a ha
  unfold vlu at ha
  simp only [Bool.or_eq_true,beq_iff_eq] at ha
  omega
 have mk : ∀ xs : List MarkT,markC xs = 0 → ∀ b ∈ xs,okN [b.1,b.2] := by
  intro xs hm b hb x hx
  have h3 := (markC_zero hm).2 b hb
  simp only [List.mem_cons,List.not_mem_nil,or_false] at hx
  rcases hx with rfl | rfl
  ·exact inr h3.1 (by decide) (by decide)
  ·exact vl h3.2
 refine ⟨fun x hx => ?_,fun b hb x hx => ?_,mk _ k3,fun b hb x hx => ?_,mk _ k4⟩
 ·rw [List.mem_singleton] at hx; subst hx; exact inr k1 (by decide) (by decide)
 ·have hz : okBal b = true := by
   unfold balCode at k2
   split at k2
   ·cases k2
   ·cases hf : fstI (balStep s.2.1) 0 s.2.1 with
    | some r =>
     rw [hf] at k2
     have k2 : r = 0 := k2
     have := (fst_getD (f := balStep s.2.1) (fun i y => by unfold balStep; cases okBal y <;> cases (decide (0 < i) && decide (cmpP (s.2.1[i - 1]?.getD y) y ≥ 0)) <;> simp) s.2.1 0).1 (by rw [hf]; exact k2)
     rw [hf] at this; cases this
    | none =>
     obtain ⟨j,hj,rfl⟩ := List.getElem_of_mem hb
     have := fst_none hf j hj
     unfold balStep at this
     cases ho : okBal s.2.1[j] with
     | true => rfl
     | false => rw [ho] at this; cases this
  unfold okBal plB at hz
  simp only [Bool.and_eq_true] at hz
  simp only [List.mem_cons,List.not_mem_nil,or_false] at hx
  rcases hx with rfl | rfl | rfl
  ·exact inr hz.1.1 (by decide) (by decide)
  ·exact inr hz.1.2 (by decide) (by decide)
  ·exact inr hz.2 (by decide) (by decide)
 ·rw [List.mem_singleton] at hx; subst hx
  exact inr (conC_zero ((heldC_zero k5).1 b hb).1).1 (by decide) (by decide)
theorem t_w37q (s : ShdT) (h : shardC s = 0) : m_w37q s = some (shardT s) := by
 obtain ⟨n1,n2,n3,n4,n5⟩ := shard_nums h
 obtain ⟨l1,l2,l3,l4,_⟩ := shardC_len h
 have s0 : (lineT ⟨#[115,104,97,114,100]⟩ [s.1]).size ≤ 100 := by
  have := lineT_size (a := ⟨#[115,104,97,114,100]⟩) n1
  have h2 : (⟨#[115,104,97,114,100]⟩ : ByteArray).size ≤ 5 := by decide
  simp only [List.length_cons,List.length_nil] at this
  omega
 obtain ⟨a1,b1⟩ := has_spec s.2.1 (by omega) n2 (lineT ⟨#[115,104,97,114,100]⟩ [s.1]) 100 s0 (by omega)
 obtain ⟨a2,b2⟩ := vote_spec s.2.2.1 (by omega) n3 (s.2.1.foldl hasG (lineT ⟨#[115,104,97,114,100]⟩ [s.1])) 2000 (by omega) (by omega)
 obtain ⟨a3,b3⟩ := held_spec s.2.2.2.1 (by omega) n4 (s.2.2.1.foldl voteG (s.2.1.foldl hasG (lineT ⟨#[115,104,97,114,100]⟩ [s.1]))) 12000 (by omega) (by omega)
 obtain ⟨a4,b4⟩ := done_spec s.2.2.2.2.1 (by omega) n5 (s.2.2.2.1.foldl heldG (s.2.2.1.foldl voteG (s.2.1.foldl hasG (lineT ⟨#[115,104,97,114,100]⟩ [s.1])))) 22000 (by omega) (by omega)
 show p_w37q FU _ = _
 unfold p_w37q
 rw [t_w36q _ _ (by decide) (by simp) n1,Option.bind_some,a1,Option.bind_some,a2,Option.bind_some,a3,Option.bind_some,a4]
 rfl

def textR (s : ShdT) : Int × ByteArray := cond (shardC s == 0) (0,shardT s) (shardC s,⟨#[]⟩)
theorem t_w38q (s : ShdT) (hz : SzS s) : m_w38q s = some (textR s) := by
 show p_w38q FU _ = _
 unfold p_w38q textR
 rw [t_w34q s hz,Option.bind_some]
 cases h : shardC s == 0 with
 | false => rfl
 | true => simp only [Bool.not_true,cond_false,cond_true,t_w37q s (eq_of_beq h),Option.bind_some]

theorem t_w40q (a : Int) : m_w40q a = some (shB a) := by
 show p_w40q FU _ = _
 unfold p_w40q shB
 rw [t_w39q]; rfl

theorem t_w48q (a : Int) : m_w48q a = some (idB a) := by
 show p_w48q FU _ = _
 unfold p_w48q idB
 rw [t_w39q]; rfl

theorem t_w49q (a : Int) : m_w49q a = some (vlu a) := by
 show p_w49q FU _ = _
 unfold p_w49q vlu
 cases h : (a == (1 : Int)) <;> simp

theorem t_w50q (a : Int) : m_w50q a = some (vlu a) := by
 show p_w50q FU _ = _
 unfold p_w50q vlu
 cases (a == 1) <;> rfl

theorem t_w51q (xs : List LegT) : m_w51q xs = some (lenI xs) := rfl

theorem t_w52q (l : LegT) : m_w52q l = some (legC l) := by
 show p_w52q FU _ = _
 unfold p_w52q legC
 simp only [t_w40q,t_w42q,t_w39q,Option.bind_some]
 unfold shB
 cases inB l.1 0 2 with
 | false => rfl
 | true =>
  cases plB l.2.1 l.2.2.1 with
  | false => rfl
  | true =>
   cases inB l.2.2.2 (-1000000000000) 1000000000000 with
   | false => rfl
   | true => cases h : (l.2.2.2 == 0) <;> simp [h]

theorem t_w53q (a b : LegT) : m_w53q (a,b) = some (sameP a b) := by
 show p_w53q FU _ = _
 unfold p_w53q sameP
 simp only
 cases (a.1 == b.1) with
 | false => rfl
 | true => cases (a.2.1 == b.2.1) <;> rfl

def mapA : List LegT → List (Int × Int) := fun xs => xs.foldl (fun m l => mupd (.int .i64) m l.2.2.1 (mlook (.int .i64) m l.2.2.1 + l.2.2.2)) []
theorem mapA_snoc (xs : List LegT) (l : LegT) : mapA (xs ++ [l]) = mupd (.int .i64) (mapA xs) l.2.2.1 (mlook (.int .i64) (mapA xs) l.2.2.1 + l.2.2.2) := by
 unfold mapA; rw [List.foldl_append]; rfl
theorem mapA_ok : ∀ (n : Nat) (xs : List LegT),xs.length = n → ((mapA xs).map (·.1)).Nodup ∧ (∀ a,mlook (.int .i64) (mapA xs) a = sumA xs a) ∧ ∀ a,a ∈ (mapA xs).map (·.1) → ∃ l ∈ xs,l.2.2.1 = a
 | 0,xs,h => by
  have : xs = [] := List.length_eq_zero_iff.1 h
  subst this
  exact ⟨List.nodup_nil,fun a => rfl,fun a h => by cases h⟩
 | n + 1,xs,h => by
  obtain ⟨ys,l,rfl⟩ : ∃ ys l,xs = ys ++ [l] := ⟨xs.dropLast,xs.getLast (by intro e; rw [e] at h; cases h),(List.dropLast_concat_getLast _).symm⟩
  obtain ⟨h1,h2,h3⟩ := mapA_ok n ys (by simpa using h)
  rw [mapA_snoc]
  obtain ⟨k1,k2⟩ := mupd_keys (mapA ys) l.2.2.1 (mlook (.int .i64) (mapA ys) l.2.2.1 + l.2.2.2) h1
  refine ⟨k1,fun a => ?_,fun a ha => ?_⟩
  ·rw [mlook_upd,h2,h2,sumA_snoc]
   by_cases e : a = l.2.2.1
   ·subst e
    simp
   ·have e1 : (a == l.2.2.1) = false := by simpa using e
    have e2 : (l.2.2.1 == a) = false := by rw [beq_eq_false_iff_ne]; exact fun h => e h.symm
    rw [e1,e2]; simp
  ·rcases (k2 a).1 ha with q | q
   ·obtain ⟨x,hx,e⟩ := h3 a q
    exact ⟨x,List.mem_append_left _ hx,e⟩
   ·exact ⟨l,by simp,q.symm⟩
theorem mapA_len (xs : List LegT) : (mapA xs).length ≤ xs.length := by
 have key : ∀ (ys : List LegT) (m : List (Int × Int)),(ys.foldl (fun m l => mupd (.int .i64) m l.2.2.1 (mlook (.int .i64) m l.2.2.1 + l.2.2.2)) m).length ≤ m.length + ys.length := by
  intro ys
  induction ys with
  | nil => intro m; simp
  | cons y ys ih =>
   intro m
   rw [List.foldl_cons]
   have h1 := ih (mupd (.int .i64) m y.2.2.1 (mlook (.int .i64) m y.2.2.1 + y.2.2.2))
   have h2 : (mupd (.int .i64) m y.2.2.1 (mlook (.int .i64) m y.2.2.1 + y.2.2.2)).length ≤ m.length + 1 := by
    unfold mupd
    split
    ·unfold mset; rw [List.length_modify]; omega
    ·rw [List.length_append,List.length_singleton]; omega
   rw [List.length_cons]; omega
 simpa [mapA] using key xs []
theorem t_impl_CF_1 (xs : List LegT) (i : Nat) (hi : i < xs.length) (hl : xs.length ≤ 8) (l : LegT) : ∃ j : Int,l_w54q_1 FU (i : Int) xs l (0 : Int) = some j ∧ decide (j ≥ 0) = (xs.take i).any fun o => sameP o l := by
 have hcut : cutL none (some (i : Int)) xs = xs.take i := by simp [cutL]
 have e : l_w54q_1 FU (i : Int) xs l (0 : Int) = ((xs.take i).findIdx? fun o => sameP o l).elim (some (-1)) (fun j => some (j : Int)) := by
  unfold l_w54q_1
  rw [hcut]
  have hlen : (xs.take i).length ≤ 8 := by rw [List.length_take]; omega
  refine (lp_place (xs.take i) (fun o => sameP o l) (fun j => some (j : Int)) (some (-1 : Int)) (by unfold B36; omega) (fun j hj rec hw => ?_) (fun rec => ?_)).trans ?_
  ·simp only [lt_lenI hj,cond_true,geti_lt _ j hj,Option.bind_some,t_w53q,hw]
  ·simp only [ge_lenI,cond_false]
  ·cases (xs.take i).findIdx? fun o => sameP o l <;> rfl
 cases hf : (xs.take i).findIdx? fun o => sameP o l with
 | none =>
  refine ⟨-1,by rw [e,hf]; rfl,?_⟩
  have : (xs.take i).any (fun o => sameP o l) = false := by
   rw [List.findIdx?_eq_none_iff] at hf
   rw [List.any_eq_false]
   intro s hs
   simpa using hf s hs
  rw [this]; rfl
 | some j =>
  refine ⟨(j : Int),by rw [e,hf]; rfl,?_⟩
  have : (xs.take i).any (fun o => sameP o l) = true := by
   rw [List.findIdx?_eq_some_iff_getElem] at hf
   obtain ⟨h,h1,_⟩ := hf
   rw [List.any_eq_true]
   exact ⟨_,List.getElem_mem h,h1⟩
  rw [this]
  exact decide_eq_true (by omega)
theorem t_w54q (c : ConT) (hl : c.2.length ≤ 1048576) : m_w54q c = some (conC c) := by
 obtain ⟨id,xs⟩ := c
 show p_w54q FU _ = _
 unfold p_w54q conC
 simp only [t_w48q,t_w51q,t_w39q,Option.bind_some]
 cases idB id with
 | false => rfl
 | true =>
  simp only [Bool.not_true,cond_false]
  by_cases hn : xs.length < 2 ∨ 8 < xs.length
  ·have : inB (lenI xs) 2 8 = false := by
    unfold inB; rw [lenI_eq]
    rcases hn with h | h
    ·rw [decide_eq_false (show ¬ (2 : Int) ≤ (xs.length : Int) by omega)]; rfl
    ·rw [decide_eq_false (show ¬ (xs.length : Int) ≤ 8 by omega),Bool.and_false]
   simp only [this,Bool.not_false,cond_true,if_pos hn]
  ·have : inB (lenI xs) 2 8 = true := by
    unfold inB; rw [lenI_eq,decide_eq_true (show (2 : Int) ≤ (xs.length : Int) by omega),decide_eq_true (show (xs.length : Int) ≤ 8 by omega)]; rfl
   simp only [this,Bool.not_true,cond_false,if_neg hn]
   have h8 : xs.length ≤ 8 := by omega
   have e1 : l_w54q_2 FU xs ((0 : Int),([] : List (Int × Int))) = (fstI (legStep xs) 0 xs).elim (some (Sum.inl (mapA xs))) (fun r => some (Sum.inr r)) := by
    unfold l_w54q_2
    refine (lp_fstS xs (fun i l => (legStep xs i l).map (Sum.inr (α := List (Int × Int)))) (fun i => ((i : Int),mapA (xs.take i))) (some (Sum.inl (mapA xs))) (fun i => ∀ l ∈ xs.take i,legC l = 0) (by unfold B36; omega) (fun l h => by cases h) (fun i hi hall => ⟨fun rec => ?_,fun hq l hl => ?_⟩) (fun _ rec => ?_)).trans ?_
    ·have hw := wrap_next hi (Nat.le_trans h8 (by omega))
     have hbd : bndB none (some (i : Int)) none xs.length = true := by simp [bndB]; omega
     obtain ⟨j,ej,hj⟩ := t_impl_CF_1 xs i hi h8 xs[i]
     simp only [lt_lenI hi,cond_true,geti_lt xs i hi,Option.bind_some,t_w52q,legStep,hw]
     cases hc : legC xs[i] == 0 with
     | false => rfl
     | true =>
      simp only [Bool.not_true,cond_false,cond_true,chk,hbd,ej,Option.bind_some,hj]
      cases (xs.take i).any fun o => sameP o xs[i] with
      | true => rfl
      | false =>
       have hz := legC_zero (by simpa using hc : legC xs[i] = 0)
       have hb := sumA_bnd (xs.take i) xs[i].2.2.1 (fun l hl => (legC_zero (hall l hl)).2.2.2.1)
       have hlt : (xs.take i).length ≤ 7 := by rw [List.length_take]; omega
       have hm := (mapA_ok _ (xs.take i) rfl).2.1 xs[i].2.2.1
       have hwr : IntKind.wrap .i64 (mlook (.int .i64) (mapA (xs.take i)) xs[i].2.2.1 + xs[i].2.2.2) = mlook (.int .i64) (mapA (xs.take i)) xs[i].2.2.1 + xs[i].2.2.2 := by
        rw [hm]
        have := hz.2.2.2.1
        exact wrap64 (by omega) (by omega)
       rw [List.take_succ_eq_append_getElem hi,mapA_snoc]
       simp only [cond_false,hwr,Option.map_none,Option.elim_none]
    ·rw [List.take_succ_eq_append_getElem hi] at hl
     rcases List.mem_append.1 hl with hl | hl
     ·exact hall l hl
     ·rw [List.mem_singleton] at hl
      subst hl
      cases hs : legStep xs i xs[i] with
      | some r => rw [hs] at hq; cases hq
      | none =>
       unfold legStep at hs
       cases hc : legC xs[i] == 0 with
       | true => simpa using hc
       | false => rw [hc] at hs; cases hs
    ·simp only [ge_lenI,cond_false,List.take_length]
    ·rw [fstI_map]
     cases fstI (legStep xs) 0 xs <;> rfl
   rw [e1]
   cases hf : fstI (legStep xs) 0 xs with
   | some r => rfl
   | none =>
    have hall := fst_ok xs 0 hf
    obtain ⟨k1,k2,k3⟩ := mapA_ok _ xs rfl
    have hml := mapA_len xs
    simp only [Option.elim_none,Option.bind_some,Sum.elim_inl]
    have e2 : l_w54q_3 FU (mapA xs) (lenI (mapA xs),([] : List Int)) = some (cond ((mapA xs).any fun p => !(p.2 == 0)) 1 0) := by
     unfold l_w54q_3
     refine draw_any (m := mapA xs) (fun p => !(p.2 == 0)) 1 0 (by unfold B36; omega) (fun rec seen => ?_)
     have hlc : (((mapA xs).length : Int) == lenI (mapA xs)) = true := by rw [lenI_eq]; simp
     simp only [chk,hlc,cond_true,List.getLast?_concat,Option.bind_some]
     congr 1
     funext j
     cases geti (mapA xs) j <;> rfl
    rw [e2]
    have : ((mapA xs).any fun p => !(p.2 == 0)) = !decide (sumA xs 0 = 0 ∧ sumA xs 1 = 0 ∧ sumA xs 2 = 0) := by
     rw [Bool.eq_iff_iff]
     simp only [List.any_eq_true,Bool.not_eq_true',beq_eq_false_iff_ne,decide_eq_false_iff_not]
     constructor
     ·rintro ⟨p,hp,hne⟩ ⟨q0,q1,q2⟩
      have hlk := mlook_mem (mapA xs) k1 p hp
      rw [k2] at hlk
      obtain ⟨l,hl,ha⟩ := k3 p.1 (List.mem_map.2 ⟨p,hp,rfl⟩)
      have hz := (legC_zero (hall l hl)).2.2.1
      rcases (by omega : p.1 = 0 ∨ p.1 = 1 ∨ p.1 = 2) with e | e | e
      ·rw [e] at hlk; omega
      ·rw [e] at hlk; omega
      ·rw [e] at hlk; omega
     ·intro hne
      have : ∃ a,sumA xs a ≠ 0 := by
       by_cases q0 : sumA xs 0 = 0
       ·by_cases q1 : sumA xs 1 = 0
        ·by_cases q2 : sumA xs 2 = 0
         ·exact absurd ⟨q0,q1,q2⟩ hne
         ·exact ⟨2,q2⟩
        ·exact ⟨1,q1⟩
       ·exact ⟨0,q0⟩
      obtain ⟨a,ha⟩ := this
      have hk : a ∈ (mapA xs).map (·.1) := by
       by_cases h : a ∈ (mapA xs).map (·.1)
       ·exact h
       ·have := mlook_none (mapA xs) a h
        rw [k2] at this
        exact absurd this ha
      obtain ⟨p,hp,e⟩ := List.mem_map.1 hk
      refine ⟨p,hp,?_⟩
      have hlk := mlook_mem (mapA xs) k1 p hp
      rw [k2,e] at hlk
      rw [← hlk]; exact ha
    rw [this]
    by_cases q : sumA xs 0 = 0 ∧ sumA xs 1 = 0 ∧ sumA xs 2 = 0
    ·rw [if_pos q,decide_eq_true q]; rfl
    ·rw [if_neg q,decide_eq_false q]; rfl

theorem t_w55q (b : Int) (xs : List (Int × Int × Int × Int)) (a : Int) (hl : xs.length ≤ 1048576) : m_w55q ((b,xs),a) = some (xs.filter fun y => y.1 == a) := by
 show p_w55q FU _ = _
 unfold p_w55q l_w55q_1
 simp only
 refine lp_for (fun r => r = some (xs.filter fun y => y.1 == a)) (fun i z => z = ((xs.take i).filter fun y => y.1 == a,(i : Int))) xs.length (fun i z hi hz => ?_) (fun z hz rec => ?_) FU _ (FU_gt hl) rfl
 ·subst hz
  have h := List.length_filter_le (fun y : Int × (Int × (Int × Int)) => y.1 == a) (xs.take i)
  simp only [List.length_take] at h
  have hb : Nat.ble ((((xs.take i).filter fun y => y.1 == a).length + [xs[i]].length) * 32) maxBytes = true := ble_mem (by simp only [maxBytes,List.length_singleton]; omega)
  refine .inr ⟨_,rfl,fun rec => ?_⟩
  simp only [lt_lenI hi,cond_true,geti_lt xs i hi,Option.bind_some,wrap_next hi hl,chk_true hb]
  rw [List.take_succ_eq_append_getElem hi,List.filter_append]
  cases hx : (xs[i].1 == a) <;> simp [hx]
 ·subst hz
  simp only [ge_lenI,cond_false,List.take_length]

theorem t_w56q (m : MarkT) (c : Int) : m_w56q (m,c) = some (if m.1 < c then -1 else if m.1 > c then 1 else 0) := by
 show p_w56q FU _ = _
 unfold p_w56q
 simp only [t_w44q,Option.bind_some]
theorem t_w57q (xs : List MarkT) (c : Int) (hl : xs.length ≤ 1048576) : ∃ j : Nat,j ≤ xs.length ∧ m_w57q (xs,c) = some ((j : Int),match xs[j]? with | some m => m.1 == c | none => false) ∧
    (upM xs → (∀ (i : Nat) (h : i < xs.length),i < j → xs[i].1 < c) ∧ ∀ (i : Nat) (h : i < xs.length),j ≤ i → ¬ xs[i].1 < c) := by
  have hB : xs.length ≤ B36 := by unfold B36; omega
  obtain ⟨j,q1,q2,q3⟩ := bs_total xs.length hB (fun i => match xs[i]? with | some m => decide (m.1 < c) | none => false) (step := fun rec13 (z12 : Int × Int) =>
 (cond (decide (z12.1 < z12.2))
  (chk (decide (0 ≤ (1 : Int)))
   ((geti xs (IntKind.wrap .i64 (Int.fdiv (IntKind.wrap .u64 (IntKind.wrap .i64 (z12.1 + z12.2))) (2 ^ (min (1 : Int).toNat 64))))).bind fun y14 =>
   ((m_w56q (y14,c)).bind fun r15 =>
   (cond (decide (r15 < (0 : Int)))
    (rec13 (IntKind.wrap .i64 ((IntKind.wrap .i64 (Int.fdiv (IntKind.wrap .u64 (IntKind.wrap .i64 (z12.1 + z12.2))) (2 ^ (min (1 : Int).toNat 64)))) + (1 : Int)),z12.2))
    (rec13 (z12.1,IntKind.wrap .i64 (Int.fdiv (IntKind.wrap .u64 (IntKind.wrap .i64 (z12.1 + z12.2))) (2 ^ (min (1 : Int).toNat 64)))))))))
  (some z12.1)))
    (fun a b rec hab hb => by
      have hlt : (a + b) / 2 < xs.length := by omega
      have hd : decide ((a : Int) < (b : Int)) = true := decide_eq_true (by omega)
      have hc1 : decide ((0 : Int) ≤ 1) = true := rfl
      simp only [hd,cond_true,chk,hc1,mid_eq (a := a) (b := b) (by omega) (by omega),geti_lt xs _ hlt,Option.bind_some,t_w56q,List.getElem?_eq_getElem hlt,nxt (i := (a + b) / 2) (by omega)]
      by_cases h : xs[(a + b) / 2].1 < c
      · simp [h]
      · by_cases h2 : xs[(a + b) / 2].1 > c <;> simp [h,h2])
    (fun a rec => by
      have hd : decide ((a : Int) < (a : Int)) = false := decide_eq_false (by omega)
      simp only [hd,cond_false])
  refine ⟨j,q1,?_,fun hu => ?_⟩
  · show p_w57q FU _ = _
    unfold p_w57q l_w56q
    rw [lenI_eq]
    rw [q2]
    simp only [Option.bind_some]
    by_cases h : j < xs.length
    · have hd : decide ((j : Int) < (xs.length : Int)) = true := decide_eq_true (by omega)
      simp only [hd,cond_true,geti_lt xs j h,Option.bind_some,t_w56q,List.getElem?_eq_getElem h]
      congr 2
      by_cases h1 : xs[j].1 < c
      · rw [if_pos h1]
        have : (xs[j].1 == c) = false := by rw [beq_eq_false_iff_ne]; omega
        rw [this]; rfl
      · rw [if_neg h1]
        by_cases h2 : xs[j].1 > c
        · rw [if_pos h2]
          have : (xs[j].1 == c) = false := by rw [beq_eq_false_iff_ne]; omega
          rw [this]; rfl
        · rw [if_neg h2]
          have : (xs[j].1 == c) = true := by rw [beq_iff_eq]; omega
          rw [this]; rfl
    · have hd : decide ((j : Int) < (xs.length : Int)) = false := decide_eq_false (by omega)
      simp only [hd,cond_false,List.getElem?_eq_none (Nat.le_of_not_lt h)]
  · obtain ⟨a1,a2⟩ := q3 (fun i k hik hk hp => by
      have hi : i < xs.length := by omega
      simp only [List.getElem?_eq_getElem hk,List.getElem?_eq_getElem hi,decide_eq_true_eq] at hp ⊢
      rcases Nat.eq_or_lt_of_le hik with e | e
      · subst e; exact hp
      · have := List.pairwise_iff_getElem.1 hu i k hi hk e; omega)
    refine ⟨fun i h hij => ?_,fun i h hij => ?_⟩
    · have := a1 i hij
      simpa [List.getElem?_eq_getElem h] using this
    · have := a2 i hij h
      simpa [List.getElem?_eq_getElem h] using this

theorem t_w58q (xs : List MarkT) (c : Int) (hl : xs.length ≤ 1048576) : ∃ v,m_w58q (xs,c) = some v ∧ (upM xs → v = findM xs c) := by
 obtain ⟨j,hj,e,hu⟩ := t_w57q xs c hl
 suffices key : ∃ v,p_w58q FU (xs,c) = some v ∧ (upM xs → v = findM xs c) from key
 unfold p_w58q
 simp only [e,Option.bind_some]
 by_cases h : j < xs.length
 ·simp only [List.getElem?_eq_getElem h]
  cases hb : xs[j].1 == c with
  | false =>
   refine ⟨0,rfl,fun hup => ?_⟩
   unfold findM
   have := up_find (fun m : MarkT => m.1) hup c j hj (hu hup).1 (hu hup).2
   rw [dif_pos h,if_neg (by simpa using hb)] at this
   rw [this]; rfl
  | true =>
   refine ⟨xs[j].2,by simp only [Bool.not_true,cond_false,geti_lt xs j h,Option.bind_some],fun hup => ?_⟩
   unfold findM
   have := up_find (fun m : MarkT => m.1) hup c j hj (hu hup).1 (hu hup).2
   rw [dif_pos h,if_pos (by simpa using hb)] at this
   rw [this]; rfl
 ·simp only [List.getElem?_eq_none (Nat.le_of_not_lt h)]
  refine ⟨0,rfl,fun hup => ?_⟩
  unfold findM
  have := up_find (fun m : MarkT => m.1) hup c j hj (hu hup).1 (hu hup).2
  rw [dif_neg h] at this
  rw [this]; rfl

theorem t_w59q (s : ShdT) (hz : SzS s) : ∃ r, m_w59q s = some r ∧ (upM s.2.2.1 → upM s.2.2.2.2.1 → r = heldC s) := by
  obtain ⟨z1, z2, z3, z4, z5, z6⟩ := hz
  have hB : s.2.2.2.1.length ≤ B36 := by unfold B36; omega
  suffices key : ∃ r, l_w59q_1 FU s.1 s.2.2.1 s.2.2.2.1 s.2.2.2.2.1 (0 : Int) = some r ∧ (upM s.2.2.1 → upM s.2.2.2.2.1 → r = heldC s) from key
  unfold l_w59q_1
  have hLe : ∀ c : ConT, (lenI (legsA c.2 s.1) == 0) = (legsA c.2 s.1).isEmpty := fun c => by
    rw [lenI_eq]; cases legsA c.2 s.1 with
    | nil => rfl
    | cons a r => rw [List.isEmpty_cons, beq_eq_false_iff_ne, List.length_cons]; omega
  refine lp_for (fun r => ∃ v, r = some v ∧ (upM s.2.2.1 → upM s.2.2.2.2.1 → v = heldC s)) (fun i z => z = (i : Int) ∧ (upM s.2.2.1 → upM s.2.2.2.2.1 → fstI (heldStep s) 0 s.2.2.2.1 = fstI (heldStep s) i (s.2.2.2.1.drop i))) s.2.2.2.1.length (fun i z hi hz => ?_) (fun z hz rec => ?_) FU _ (FUb hB) ⟨rfl, fun _ _ => by rw [List.drop_zero]⟩
  · obtain ⟨rfl, he⟩ := hz
    have hd : s.2.2.2.1.drop i = s.2.2.2.1[i] :: s.2.2.2.1.drop (i + 1) := List.drop_eq_getElem_cons hi
    rw [hd] at he
    simp only [fstI] at he
    have hc := z6 _ (List.getElem_mem hi)
    have L1 : m_w55q (s.2.2.2.1[i], s.1) = some (legsA s.2.2.2.1[i].2 s.1) := t_w55q _ _ _ hc
    obtain ⟨v1, ev1, hv1⟩ := t_w58q s.2.2.1 s.2.2.2.1[i].1 z2
    obtain ⟨v2, ev2, hv2⟩ := t_w58q s.2.2.2.2.1 s.2.2.2.1[i].1 z4
    have hw := wrap_next hi z3
    have hold : heldStep s i s.2.2.2.1[i] = cond (conC s.2.2.2.1[i] == 0) (cond (heldBad s i s.2.2.2.1[i]) (some 1) none) (some (conC s.2.2.2.1[i])) := rfl
    rw [hold] at he
    cases hcc : conC s.2.2.2.1[i] == 0 with
    | false =>
      rw [hcc] at he
      refine .inl fun rec => ⟨conC s.2.2.2.1[i], ?_, fun h1 h2 => ?_⟩
      · simp only [lt_lenI hi, cond_true, geti_lt _ i hi, Option.bind_some, t_w54q _ hc, hcc, Bool.not_false]
      · unfold heldC; rw [he h1 h2]; rfl
    | true =>
      rw [hcc] at he
      simp only [cond_true] at he
      -- what is asked of the contract
      let bad : Bool := (decide (0 < i) && decide ((s.2.2.2.1[i - 1]?.getD s.2.2.2.1[i]).1 ≥ s.2.2.2.1[i].1)) || ((legsA s.2.2.2.1[i].2 s.1).isEmpty || (!(v1 == 1) || !(v2 == 0)))
      have hbad : upM s.2.2.1 → upM s.2.2.2.2.1 → heldBad s i s.2.2.2.1[i] = bad := fun h1 h2 => by
        show _ = ((decide (0 < i) && decide ((s.2.2.2.1[i - 1]?.getD s.2.2.2.1[i]).1 ≥ s.2.2.2.1[i].1)) || ((legsA s.2.2.2.1[i].2 s.1).isEmpty || (!(v1 == 1) || !(v2 == 0))))
        rw [hv1 h1, hv2 h2]; rfl
      have step : ∀ rec : Int → Option Int, (cond (decide ((i : Int) < (lenI s.2.2.2.1)))
  ((geti s.2.2.2.1 (i : Int)).bind fun y21 =>
  ((m_w54q y21).bind fun r22 =>
  (cond (!(r22 == (0 : Int)))
   (some r22)
   (Option.bind
    (cond (decide ((i : Int) > (0 : Int)))
     ((geti s.2.2.2.1 (IntKind.wrap .i64 ((i : Int) - (1 : Int)))).bind fun y30 =>
     (cond (decide (y30.1 ≥ y21.1))
      (some true)
      ((m_w55q (y21, s.1)).bind fun r31 =>
      (cond ((lenI r31) == (0 : Int))
       (some true)
       ((m_w58q (s.2.2.1, y21.1)).bind fun r32 =>
       (cond (!(r32 == (1 : Int)))
        (some true)
        ((m_w58q (s.2.2.2.2.1, y21.1)).bind fun r33 =>
        some (!(r33 == (0 : Int))))))))))
     ((m_w55q (y21, s.1)).bind fun r34 =>
     (cond ((lenI r34) == (0 : Int))
      (some true)
      ((m_w58q (s.2.2.1, y21.1)).bind fun r35 =>
      (cond (!(r35 == (1 : Int)))
       (some true)
       ((m_w58q (s.2.2.2.2.1, y21.1)).bind fun r36 =>
       some (!(r36 == (0 : Int))))))))) fun j37 =>
   (cond j37
    (some (1 : Int))
    (rec (IntKind.wrap .i64 ((i : Int) + (1 : Int)))))))))
  (some (0 : Int))) = cond bad (some 1) (rec ((i + 1 : Nat) : Int)) := by
        intro rec
        show _ = cond ((decide (0 < i) && decide ((s.2.2.2.1[i - 1]?.getD s.2.2.2.1[i]).1 ≥ s.2.2.2.1[i].1)) || ((legsA s.2.2.2.1[i].2 s.1).isEmpty || (!(v1 == 1) || !(v2 == 0)))) _ _
        simp only [lt_lenI hi, cond_true, geti_lt _ i hi, Option.bind_some, t_w54q _ hc, hcc, Bool.not_true, cond_false, L1, hLe, ev1, ev2, hw]
        by_cases h0 : 0 < i
        · have hd : decide ((i : Int) > 0) = true := by simp; omega
          have hi1 : i - 1 < s.2.2.2.1.length := by omega
          simp only [hd, cond_true, prv (i := i) (by unfold B36; omega) h0, geti_lt _ _ hi1, Option.bind_some, h0, decide_true, Bool.true_and, List.getElem?_eq_getElem hi1, Option.getD_some]
          cases decide (s.2.2.2.1[i - 1].1 ≥ s.2.2.2.1[i].1) with
          | true => rfl
          | false =>
            cases (legsA s.2.2.2.1[i].2 s.1).isEmpty with
            | true => rfl
            | false =>
              cases (v1 == 1) with
              | false => rfl
              | true => cases (v2 == 0) <;> rfl
        · have hd : decide ((i : Int) > 0) = false := by simp; omega
          simp only [hd, cond_false, Option.bind_some, h0, decide_false, Bool.false_and, Bool.false_or]
          cases (legsA s.2.2.2.1[i].2 s.1).isEmpty with
          | true => rfl
          | false =>
            cases (v1 == 1) with
            | false => rfl
            | true => cases (v2 == 0) <;> rfl
      cases hb : bad with
      | true =>
        rw [hb] at hbad step
        refine .inl fun rec => ⟨1, step rec, fun h1 h2 => ?_⟩
        have := he h1 h2
        rw [hbad h1 h2] at this
        unfold heldC; rw [this]; rfl
      | false =>
        rw [hb] at hbad step
        refine .inr ⟨((i + 1 : Nat) : Int), ⟨rfl, fun h1 h2 => ?_⟩, fun rec => step rec⟩
        have := he h1 h2
        rw [hbad h1 h2] at this
        exact this
  · obtain ⟨rfl, he⟩ := hz
    refine ⟨0, by simp only [ge_lenI, cond_false], fun h1 h2 => ?_⟩
    unfold heldC; rw [he h1 h2, List.drop_length]; rfl

theorem t_impl_firstOf3 (a b c : Int) : m_w60q [a,b,c] = some (if a = 0 then (if b = 0 then c else b) else a) := by
 show p_w60q FU _ = _
 unfold p_w60q l_w60q_1
 obtain ⟨m,hm⟩ : ∃ m,FU = m + 1 + 1 + 1 + 1 := ⟨18446744073709551612,rfl⟩
 rw [hm]
 have w1 : IntKind.wrap .i64 1 = 1 := rfl
 have w2 : IntKind.wrap .i64 2 = 2 := rfl
 have w3 : IntKind.wrap .i64 3 = 3 := rfl
 by_cases h1 : a = 0
 ·by_cases h2 : b = 0
  ·by_cases h3 : c = 0
   ·simp [lp,geti,lenI,h1,h2,h3,w1,w2,w3]
   ·have hb : (c == 0) = false := by simp [h3]
    simp [lp,geti,lenI,h1,h2,hb,w1,w2,w3]
  ·have hb : (b == 0) = false := by simp [h2]
   simp [lp,geti,lenI,h1,h2,hb,w1,w2]
 ·have hb : (a == 0) = false := by simp [h1]
  simp [lp,geti,lenI,h1,hb]

theorem t_w61q (m : ConT) (c : Int) : m_w61q (m,c) = some (if m.1 < c then -1 else if m.1 > c then 1 else 0) := by
 show p_w61q FU _ = _
 unfold p_w61q
 simp only [t_w44q,Option.bind_some]
theorem t_w62q (s : ShdT) (xs : List ConT) (hs : s.2.2.2.1 = xs) (c : Int) (hl : xs.length ≤ 1048576) : ∃ j : Nat,j ≤ xs.length ∧ m_w62q (s,c) = some ((j : Int),match xs[j]? with | some m => m.1 == c | none => false) ∧
    ((xs.Pairwise fun a b => a.1 < b.1) → (∀ (i : Nat) (h : i < xs.length),i < j → xs[i].1 < c) ∧ ∀ (i : Nat) (h : i < xs.length),j ≤ i → ¬ xs[i].1 < c) := by
  have hB : xs.length ≤ B36 := by unfold B36; omega
  obtain ⟨j,q1,q2,q3⟩ := bs_total xs.length hB (fun i => match xs[i]? with | some m => decide (m.1 < c) | none => false) (step := fun rec13 (z12 : Int × Int) =>
 (cond (decide (z12.1 < z12.2))
  (chk (decide (0 ≤ (1 : Int)))
   ((geti xs (IntKind.wrap .i64 (Int.fdiv (IntKind.wrap .u64 (IntKind.wrap .i64 (z12.1 + z12.2))) (2 ^ (min (1 : Int).toNat 64))))).bind fun y14 =>
   ((m_w61q (y14,c)).bind fun r15 =>
   (cond (decide (r15 < (0 : Int)))
    (rec13 (IntKind.wrap .i64 ((IntKind.wrap .i64 (Int.fdiv (IntKind.wrap .u64 (IntKind.wrap .i64 (z12.1 + z12.2))) (2 ^ (min (1 : Int).toNat 64)))) + (1 : Int)),z12.2))
    (rec13 (z12.1,IntKind.wrap .i64 (Int.fdiv (IntKind.wrap .u64 (IntKind.wrap .i64 (z12.1 + z12.2))) (2 ^ (min (1 : Int).toNat 64)))))))))
  (some z12.1)))
    (fun a b rec hab hb => by
      have hlt : (a + b) / 2 < xs.length := by omega
      have hd : decide ((a : Int) < (b : Int)) = true := decide_eq_true (by omega)
      have hc1 : decide ((0 : Int) ≤ 1) = true := rfl
      simp only [hd,cond_true,chk,hc1,mid_eq (a := a) (b := b) (by omega) (by omega),geti_lt xs _ hlt,Option.bind_some,t_w61q,List.getElem?_eq_getElem hlt,nxt (i := (a + b) / 2) (by omega)]
      by_cases h : xs[(a + b) / 2].1 < c
      · simp [h]
      · by_cases h2 : xs[(a + b) / 2].1 > c <;> simp [h,h2])
    (fun a rec => by
      have hd : decide ((a : Int) < (a : Int)) = false := decide_eq_false (by omega)
      simp only [hd,cond_false])
  refine ⟨j,q1,?_,fun hu => ?_⟩
  · show p_w62q FU _ = _
    unfold p_w62q l_w61q
    simp only [hs]
    rw [lenI_eq]
    rw [q2]
    simp only [Option.bind_some]
    by_cases h : j < xs.length
    · have hd : decide ((j : Int) < (xs.length : Int)) = true := decide_eq_true (by omega)
      simp only [hd,cond_true,geti_lt xs j h,Option.bind_some,t_w61q,List.getElem?_eq_getElem h]
      congr 2
      by_cases h1 : xs[j].1 < c
      · rw [if_pos h1]
        have : (xs[j].1 == c) = false := by rw [beq_eq_false_iff_ne]; omega
        rw [this]; rfl
      · rw [if_neg h1]
        by_cases h2 : xs[j].1 > c
        · rw [if_pos h2]
          have : (xs[j].1 == c) = false := by rw [beq_eq_false_iff_ne]; omega
          rw [this]; rfl
        · rw [if_neg h2]
          have : (xs[j].1 == c) = true := by rw [beq_iff_eq]; omega
          rw [this]; rfl
    · have hd : decide ((j : Int) < (xs.length : Int)) = false := decide_eq_false (by omega)
      simp only [hd,cond_false,List.getElem?_eq_none (Nat.le_of_not_lt h)]
  · obtain ⟨a1,a2⟩ := q3 (fun i k hik hk hp => by
      have hi : i < xs.length := by omega
      simp only [List.getElem?_eq_getElem hk,List.getElem?_eq_getElem hi,decide_eq_true_eq] at hp ⊢
      rcases Nat.eq_or_lt_of_le hik with e | e
      · subst e; exact hp
      · have := List.pairwise_iff_getElem.1 hu i k hi hk e; omega)
    refine ⟨fun i h hij => ?_,fun i h hij => ?_⟩
    · have := a1 i hij
      simpa [List.getElem?_eq_getElem h] using this
    · have := a2 i hij h
      simpa [List.getElem?_eq_getElem h] using this

theorem held_any {xs : List ConT} {c : Int} {j : Nat} (hj : j ≤ xs.length) (hup : xs.Pairwise fun a b => a.1 < b.1) (h1 : ∀ (i : Nat) (h : i < xs.length),i < j → xs[i].1 < c) (h2 : ∀ (i : Nat) (h : i < xs.length),j ≤ i → ¬ xs[i].1 < c) :
  (match xs[j]? with | some m => m.1 == c | none => false) = xs.any fun x => x.1 == c := by
 have hf := up_find (fun x : ConT => x.1) hup c j hj h1 h2
 by_cases h : j < xs.length
 ·rw [dif_pos h] at hf
  simp only [List.getElem?_eq_getElem h]
  cases hb : xs[j].1 == c with
  | true => exact (List.any_eq_true.2 ⟨_,List.getElem_mem h,hb⟩).symm
  | false =>
   rw [if_neg (by simpa using hb),List.find?_eq_none] at hf
   exact (List.any_eq_false.2 hf).symm
 ·rw [dif_neg h,List.find?_eq_none] at hf
  simp only [List.getElem?_eq_none (Nat.le_of_not_lt h)]
  exact (List.any_eq_false.2 hf).symm
theorem t_w63q (s : ShdT) (m : MarkT) (h3 : s.2.2.2.1.length ≤ 1048576) (h4 : s.2.2.2.2.1.length ≤ 1048576) (hup : s.2.2.2.1.Pairwise fun a b => a.1 < b.1) (hd : upM s.2.2.2.2.1) : m_w63q (s,m) = some (openB s m) := by
 obtain ⟨j,hj,e,hu⟩ := t_w62q s _ rfl m.1 h3
 obtain ⟨v,e2,hv⟩ := t_w58q s.2.2.2.2.1 m.1 h4
 rw [held_any hj hup (hu hup).1 (hu hup).2] at e
 suffices key : p_w63q FU (s,m) = some (openB s m) from key
 unfold p_w63q openB
 simp only [e,Option.bind_some,e2,hv hd]
 cases (m.2 == 1) with
 | false => rfl
 | true => cases s.2.2.2.1.any fun x => x.1 == m.1 <;> rfl

theorem t_w64q (xs : List Int) (h : xs.length ≤ 1048576) : m_w64q xs = some (sortI xs,xs) := by
 show p_w64q FU _ = _
 unfold p_w64q sortedRun
 rw [if_pos (by omega)]

theorem t_w65q (a b : List Int) (h : a.length ≤ 1048576) : m_w65q (a,b) = some (decide (a = b)) := by
 show p_w65q FU _ = _
 unfold p_w65q
 simp only [lenI_eq]
 by_cases hl : a.length = b.length
 ·have : ((a.length : Int) == (b.length : Int)) = true := by rw [beq_iff_eq]; omega
  simp only [this,Bool.not_true,cond_false]
  unfold l_w65q_1
  refine lp_for (fun r => r = some (decide (a = b))) (fun i z => z = (i : Int) ∧ a.take i = b.take i) a.length (fun i z hi hz => ?_) (fun z hz rec => ?_) FU _ (FU_gt h) ⟨rfl,by simp⟩
  ·obtain ⟨rfl,hz⟩ := hz
   have hib : i < b.length := by omega
   by_cases he : a[i] = b[i]
   ·refine .inr ⟨_,⟨rfl,?_⟩,fun rec => ?_⟩
    ·rw [List.take_succ_eq_append_getElem hi,List.take_succ_eq_append_getElem hib,hz,he]
    ·have hb : (a[i] == b[i]) = true := by rw [beq_iff_eq]; exact he
     simp only [lt_lenI hi,cond_true,geti_lt a i hi,geti_lt b i hib,Option.bind_some,hb,Bool.not_true,cond_false,wrap_next hi h]
   ·refine .inl fun rec => ?_
    have hb : (a[i] == b[i]) = false := by rw [beq_eq_false_iff_ne]; exact he
    have hne : a ≠ b := fun e => he (by subst e; rfl)
    simp only [lt_lenI hi,cond_true,geti_lt a i hi,geti_lt b i hib,Option.bind_some,hb,Bool.not_false,decide_eq_false hne]
  ·obtain ⟨rfl,hz⟩ := hz
   rw [List.take_length,hl,List.take_length] at hz
   simp only [ge_lenI,cond_false,decide_eq_true hz]
 ·have : ((a.length : Int) == (b.length : Int)) = false := by rw [beq_eq_false_iff_ne]; omega
  have hne : a ≠ b := fun e => hl (by rw [e])
  simp only [this,Bool.not_false,cond_true,decide_eq_false hne]

theorem t_w66q (s : ShdT) (h1 : s.2.2.2.2.1.length ≤ 1048576) (h2 : s.2.2.2.2.2.length ≤ 1048576) : m_w66q s = some (appB s) := by
 show p_w66q FU _ = _
 unfold p_w66q appB
 generalize s.2.2.2.2.1 = done at *
 generalize s.2.2.2.2.2 = ap at *
 have e1 : l_w66q_1 FU done (([] : List Int),(0 : Int)) = some (doneL done) := by
  unfold l_w66q_1
  refine lp_for (fun r => r = some (doneL done)) (fun i z => z = (doneL (done.take i),(i : Int))) done.length (fun i z hi hz => ?_) (fun z hz rec => ?_) FU _ (FU_gt h1) (by simp [doneL])
  ·subst hz
   have hle : (doneL (done.take i)).length ≤ i := by
    unfold doneL
    rw [List.length_map]
    exact Nat.le_trans (List.length_filter_le _ _) (by rw [List.length_take]; omega)
   have e : doneL (done.take (i + 1)) = doneL (done.take i) ++ cond (done[i].2 == 1) [done[i].1] [] := by
    unfold doneL
    rw [List.take_succ_eq_append_getElem hi,List.filter_append,List.map_append]
    cases h : (done[i].2 == 1) <;> simp [h]
   have hb : Nat.ble (((doneL (done.take i)).length + [done[i].1].length) * 8) maxBytes = true := ble_mem (by simp only [maxBytes,List.length_singleton]; omega)
   refine .inr ⟨_,rfl,fun rec => ?_⟩
   rw [e]
   simp only [lt_lenI hi,cond_true,geti_lt done i hi,Option.bind_some,wrap_next hi h1,chk,hb]
   cases (done[i].2 == 1) with
   | true => rfl
   | false => simp only [cond_false,List.append_nil]
  ·subst hz
   simp only [ge_lenI,cond_false,List.take_length]
 simp only [e1,Option.bind_some,t_w64q ap h2,t_w65q (sortI ap) (doneL done) (by rw [sortI_length]; exact h2)]

theorem same_any {α : Type} (xs : List α) (p : α → Bool) : decide (((xs.findIdx? p).elim (-1) (fun j => (j : Int))) ≥ 0) = xs.any p := by
 cases hf : xs.findIdx? p with
 | none =>
  have : xs.any p = false := by
   rw [List.findIdx?_eq_none_iff] at hf
   rw [List.any_eq_false]
   intro s hs
   simpa using hf s hs
  rw [this]; rfl
 | some j =>
  have : xs.any p = true := by
   rw [List.findIdx?_eq_some_iff_getElem] at hf
   obtain ⟨h,h1,_⟩ := hf
   rw [List.any_eq_true]
   exact ⟨_,List.getElem_mem h,h1⟩
  rw [this]
  exact decide_eq_true (by show (0 : Int) ≤ (j : Int); omega)
theorem legsA_same {xs : List LegT} {a : Int} {l : LegT} (h : l ∈ legsA xs a) : l.1 = a := by simpa using (List.mem_filter.1 h).2
theorem meet_eq (a b : List LegT) (c : Int) : ((legsA a c).any fun l => (legsA b c).any fun o => sameP l o) = touchL (legsA a c) (legsA b c) := by
 unfold touchL
 rw [Bool.eq_iff_iff,List.any_eq_true,List.any_eq_true]
 constructor
 ·rintro ⟨l,hl,h⟩
  obtain ⟨o,ho,h⟩ := List.any_eq_true.1 h
  refine ⟨l,hl,List.any_eq_true.2 ⟨o,ho,?_⟩⟩
  simp only [sameP,Bool.and_eq_true] at h ⊢
  exact h.2
 ·rintro ⟨l,hl,h⟩
  obtain ⟨o,ho,h⟩ := List.any_eq_true.1 h
  refine ⟨l,hl,List.any_eq_true.2 ⟨o,ho,?_⟩⟩
  simp only [sameP,Bool.and_eq_true,beq_iff_eq] at h ⊢
  exact ⟨by rw [legsA_same hl,legsA_same ho],h⟩
theorem t_w67q (s : ShdT) (a b : ConT) (ha : a.2.length ≤ 1048576) (hb : b.2.length ≤ 1048576) : m_w67q (s,a,b) = some (touchL (legsA a.2 s.1) (legsA b.2 s.1)) := by
 show p_w67q FU _ = _
 unfold p_w67q
 have L1 : m_w55q (a,s.1) = some (legsA a.2 s.1) := t_w55q a.1 a.2 s.1 ha
 have L2 : m_w55q (b,s.1) = some (legsA b.2 s.1) := t_w55q b.1 b.2 s.1 hb
 have l1 := legsA_len ha s.1
 have l2 := legsA_len hb s.1
 simp only [L1,Option.bind_some]
 have e1 : ∀ y : LegT,l_w67q_1 FU (legsA b.2 s.1) y (0 : Int) = some (((legsA b.2 s.1).findIdx? fun o => sameP y o).elim (-1) (fun j => (j : Int))) := by
  intro y
  unfold l_w67q_1
  refine (lp_place (legsA b.2 s.1) (fun o => sameP y o) (fun j => some (j : Int)) (some (-1 : Int)) (by unfold B36; omega) (fun j hj rec hw => ?_) (fun rec => ?_)).trans ?_
  ·simp only [lt_lenI hj,cond_true,geti_lt _ j hj,Option.bind_some,Int.toNat_natCast,List.getElem?_eq_getElem hj,t_w53q,hw]
  ·simp only [ge_lenI,cond_false]
  ·cases (legsA b.2 s.1).findIdx? fun o => sameP y o <;> rfl
 have e2 : l_w67q_2 FU (legsA a.2 s.1) s.1 b (0 : Int) = some (((legsA a.2 s.1).findIdx? fun l => (legsA b.2 s.1).any fun o => sameP l o).elim (-1) (fun j => (j : Int))) := by
  unfold l_w67q_2
  refine (lp_place (legsA a.2 s.1) (fun l => (legsA b.2 s.1).any fun o => sameP l o) (fun j => some (j : Int)) (some (-1 : Int)) (by unfold B36; omega) (fun j hj rec hw => ?_) (fun rec => ?_)).trans ?_
  ·simp only [lt_lenI hj,cond_true,geti_lt _ j hj,Option.bind_some,Int.toNat_natCast,List.getElem?_eq_getElem hj,L2,e1,same_any,hw]
  ·simp only [ge_lenI,cond_false]
  ·cases (legsA a.2 s.1).findIdx? fun l => (legsA b.2 s.1).any fun o => sameP l o <;> rfl
 rw [e2]
 simp only [Option.bind_some,same_any,meet_eq]

def upB (xs : List BalT) : Prop := xs.Pairwise fun a b => cmpP a b < 0
theorem cmpP_trans {a b c : BalT} (h1 : cmpP a b < 0) (h2 : cmpP b c < 0) : cmpP a c < 0 := by
 rw [cmpP_lt] at *
 omega
theorem balCode_up {xs : List BalT} (h : balCode xs = 0) : upB xs ∧ ∀ b ∈ xs,okBal b = true := by
 unfold balCode at h
 split at h
 ·cases h
 ·have hne : ∀ i b,balStep xs i b ≠ some 0 := by
   intro i b
   unfold balStep
   cases okBal b with
   | false => simp
   | true => cases decide (0 < i) && decide (cmpP (xs[i - 1]?.getD b) b ≥ 0) <;> simp
  have hn : fstI (balStep xs) 0 xs = none := by
   have := fst_getD hne xs 0
   refine this.1 ?_
   cases hf : fstI (balStep xs) 0 xs with
   | none => rfl
   | some r => rw [hf] at h; exact h
  have key : ∀ (j : Nat) (hj : j < xs.length),okBal xs[j] = true ∧ (0 < j → cmpP (xs[j - 1]?.getD xs[j]) xs[j] < 0) := by
   intro j hj
   have := fst_none hn j hj
   unfold balStep at this
   cases ho : okBal xs[j] with
   | false => rw [ho] at this; cases this
   | true =>
    rw [ho] at this
    refine ⟨rfl,fun h0 => ?_⟩
    simp only [Bool.not_true,cond_false,decide_eq_true h0,Bool.true_and] at this
    cases hd : decide (cmpP (xs[j - 1]?.getD xs[j]) xs[j] ≥ 0) with
    | true => rw [hd] at this; cases this
    | false => have := of_decide_eq_false hd; omega
  constructor
  ·have step : ∀ (d i : Nat) (h : i + d + 1 < xs.length),cmpP xs[i] xs[i + d + 1] < 0 := by
    intro d
    induction d with
    | zero =>
     intro i h
     have := (key (i + 1) h).2 (by omega)
     rw [Nat.add_sub_cancel,List.getElem?_eq_getElem (by omega)] at this
     exact this
    | succ d ih =>
     intro i h
     have h1 := ih i (by omega)
     have h2 := (key (i + (d + 1) + 1) h).2 (by omega)
     rw [Nat.add_sub_cancel,List.getElem?_eq_getElem (by omega)] at h2
     exact cmpP_trans h1 h2
   refine List.pairwise_iff_getElem.2 fun i j hi hj hij => ?_
   have := step (j - i - 1) i (by omega)
   have e : i + (j - i - 1) + 1 = j := by omega
   simp only [e] at this
   exact this
  ·intro b hb
   obtain ⟨j,hj,rfl⟩ := List.getElem_of_mem hb
   exact (key j hj).1
theorem t_w68q (xs : List BalT) (a b : Int) (hl : xs.length ≤ 1048576) (hu : upB xs) : m_w68q (xs,a,b) = some (hasB xs a b) := by
  have hB : xs.length ≤ B36 := by unfold B36; omega
  obtain ⟨j,q1,q2,q3⟩ := bs_total xs.length hB (fun i => match xs[i]? with | some m => decide (cmpP m (a,(b,0)) < 0) | none => false) (step := fun rec32 (z31 : Int × Int) =>
 (cond (decide (z31.1 < z31.2))
  (chk (decide (0 ≤ (1 : Int)))
   ((geti xs (IntKind.wrap .i64 (Int.fdiv (IntKind.wrap .u64 (IntKind.wrap .i64 (z31.1 + z31.2))) (2 ^ (min (1 : Int).toNat 64))))).bind fun y33 =>
   ((m_w46q (y33,(a,(b,(0 : Int))))).bind fun r34 =>
   (cond (decide (r34 < (0 : Int)))
    (rec32 (IntKind.wrap .i64 ((IntKind.wrap .i64 (Int.fdiv (IntKind.wrap .u64 (IntKind.wrap .i64 (z31.1 + z31.2))) (2 ^ (min (1 : Int).toNat 64)))) + (1 : Int)),z31.2))
    (rec32 (z31.1,IntKind.wrap .i64 (Int.fdiv (IntKind.wrap .u64 (IntKind.wrap .i64 (z31.1 + z31.2))) (2 ^ (min (1 : Int).toNat 64)))))))))
  (some z31.1)))
    (fun u v rec hab hb => by
      have hlt : (u + v) / 2 < xs.length := by omega
      have hd : decide ((u : Int) < (v : Int)) = true := decide_eq_true (by omega)
      have hc1 : decide ((0 : Int) ≤ 1) = true := rfl
      simp only [hd,cond_true,chk,hc1,mid_eq (a := u) (b := v) (by omega) (by omega),geti_lt xs _ hlt,Option.bind_some,t_w46q,List.getElem?_eq_getElem hlt,nxt (i := (u + v) / 2) (by omega)])
    (fun u rec => by
      have hd : decide ((u : Int) < (u : Int)) = false := decide_eq_false (by omega)
      simp only [hd,cond_false])
  obtain ⟨a1,a2⟩ := q3 (fun i k hik hk hp => by
    have hi : i < xs.length := by omega
    simp only [List.getElem?_eq_getElem hk,List.getElem?_eq_getElem hi,decide_eq_true_eq] at hp ⊢
    rcases Nat.eq_or_lt_of_le hik with e | e
    · subst e; exact hp
    · exact cmpP_trans (List.pairwise_iff_getElem.1 hu i k hi hk e) hp)
  have hfind : xs.find? (fun y => (y.1 == a) && (y.2.1 == b)) = if h : j < xs.length then (if cmpP xs[j] (a,(b,0)) = 0 then some xs[j] else none) else none := by
    have split : xs = xs.take j ++ xs.drop j := (List.take_append_drop j xs).symm
    have hA : (xs.take j).find? (fun y => (y.1 == a) && (y.2.1 == b)) = none := by
      rw [List.find?_eq_none]
      intro m hm
      obtain ⟨i,hi,rfl⟩ := List.getElem_of_mem hm
      rw [List.length_take] at hi
      rw [List.getElem_take]
      have := a1 i (by omega)
      simp only [List.getElem?_eq_getElem (show i < xs.length by omega),decide_eq_true_eq] at this
      rw [cmpP_lt] at this
      simp only [Bool.and_eq_true,beq_iff_eq]
      simp only at this
      omega
    by_cases hlt : j < xs.length
    · rw [dif_pos hlt]
      have eF : xs.find? (fun y => (y.1 == a) && (y.2.1 == b)) = (xs[j] :: xs.drop (j + 1)).find? (fun y => (y.1 == a) && (y.2.1 == b)) := by
        conv => lhs; rw [split,List.find?_append,hA,Option.none_or,List.drop_eq_getElem_cons hlt]
      rw [eF]
      by_cases hk : cmpP xs[j] (a,(b,0)) = 0
      · rw [if_pos hk]
        rw [cmpP_zero] at hk
        rw [List.find?_cons_of_pos (by simp only [Bool.and_eq_true,beq_iff_eq]; exact hk)]
      · rw [if_neg hk,List.find?_cons_of_neg (by rw [cmpP_zero] at hk; simp only [Bool.and_eq_true,beq_iff_eq]; exact hk),List.find?_eq_none]
        intro m hm
        obtain ⟨i,hi,rfl⟩ := List.getElem_of_mem hm
        rw [List.length_drop] at hi
        rw [List.getElem_drop]
        have c1 := List.pairwise_iff_getElem.1 hu j (j + 1 + i) hlt (by omega) (by omega)
        have c2 := a2 j (Nat.le_refl _) hlt
        simp only [List.getElem?_eq_getElem hlt,decide_eq_false_iff_not] at c2
        rw [cmpP_lt] at c1 c2
        rw [cmpP_zero] at hk
        simp only [Bool.and_eq_true,beq_iff_eq]
        simp only at c1 c2 hk
        omega
    · rw [dif_neg hlt]
      have : xs.take j = xs := List.take_of_length_le (by omega)
      rw [this] at hA
      exact hA
  show p_w68q FU _ = _
  unfold p_w68q l_w68q_1 hasB
  rw [lenI_eq]
  rw [q2,hfind]
  simp only [Option.bind_some]
  by_cases h : j < xs.length
  · have hd : decide ((j : Int) < (xs.length : Int)) = true := decide_eq_true (by omega)
    simp only [hd,cond_true,geti_lt xs j h,Option.bind_some,t_w46q,dif_pos h]
    by_cases hk : cmpP xs[j] (a,(b,0)) = 0
    · rw [if_pos hk,hk]
      simp
    · have : (cmpP xs[j] (a,(b,0)) == 0) = false := by simpa using hk
      rw [if_neg hk,this]
      simp
  · have hd : decide ((j : Int) < (xs.length : Int)) = false := decide_eq_false (by omega)
    simp only [hd,cond_false,dif_neg h,Option.bind_some,Bool.not_false,cond_true,Option.map_none,Option.getD_none]

theorem t_w69q (xs : List BalT) (l : LegT) (hl : xs.length ≤ 1048576) (hu : upB xs) : m_w69q (xs,l) = some (legB xs l) := by
 show p_w69q FU _ = _
 unfold p_w69q legB
 simp only [t_w68q xs _ _ hl hu,Option.bind_some]
 cases decide (IntKind.wrap .i64 (hasB xs l.2.1 l.2.2.1 + l.2.2.2) < 0) with
 | true => rfl
 | false => cases decide (IntKind.wrap .i64 (hasB xs l.2.1 l.2.2.1 + l.2.2.2) > 1000000000000) <;> rfl

theorem t_w70q (s : ShdT) (c : ConT) (h1 : s.2.1.length ≤ 1048576) (hu : upB s.2.1) (hc : c.2.length ≤ 1048576) : m_w70q (s,c) = some (legsB s.2.1 (legsA c.2 s.1)) := by
 show p_w70q FU _ = _
 unfold p_w70q
 have L1 : m_w55q (c,s.1) = some (legsA c.2 s.1) := t_w55q c.1 c.2 s.1 hc
 have l1 := legsA_len hc s.1
 simp only [L1,Option.bind_some]
 unfold l_w70q_1 legsB
 refine (lp_fst (legsA c.2 s.1) (fun _ l => nz (legB s.2.1 l)) (some (0 : Int)) (by unfold B36; omega) (fun i hi rec hw => ?_) (fun rec => ?_)).trans ?_
 ·simp only [lt_lenI hi,cond_true,geti_lt _ i hi,Option.bind_some,Int.toNat_natCast,List.getElem?_eq_getElem hi,t_w69q _ _ h1 hu,hw,nz]
  cases (legB s.2.1 (legsA c.2 s.1)[i] == 0) <;> rfl
 ·simp only [ge_lenI,cond_false]
 ·cases fstI (fun _ l => nz (legB s.2.1 l)) 0 (legsA c.2 s.1) <;> rfl

theorem touch_comm (a b : List LegT) : touchL a b = touchL b a := by
 unfold touchL
 rw [Bool.eq_iff_iff,List.any_eq_true,List.any_eq_true]
 constructor
 ·rintro ⟨l,hl,h⟩
  obtain ⟨o,ho,h⟩ := List.any_eq_true.1 h
  refine ⟨o,ho,List.any_eq_true.2 ⟨l,hl,?_⟩⟩
  simp only [Bool.and_eq_true,beq_iff_eq] at h ⊢
  exact ⟨h.1.symm,h.2.symm⟩
 ·rintro ⟨l,hl,h⟩
  obtain ⟨o,ho,h⟩ := List.any_eq_true.1 h
  refine ⟨o,ho,List.any_eq_true.2 ⟨l,hl,?_⟩⟩
  simp only [Bool.and_eq_true,beq_iff_eq] at h ⊢
  exact ⟨h.1.symm,h.2.symm⟩
theorem held_t2 (s : ShdT) (hz : SzS s) : l_w71q_2 FU s (0 : Int) = (fstI (meetStep s) 0 s.2.2.2.1).elim (some (Sum.inl ())) (fun r => some (Sum.inr r)) := by
 obtain ⟨z1,z2,z3,z4,z5,z6⟩ := hz
 have hB : s.2.2.2.1.length ≤ B36 := by unfold B36; omega
 have e1 : ∀ i,i < s.2.2.2.1.length → ∀ c ∈ s.2.2.2.1,l_w71q_1 FU (i : Int) s c (0 : Int) = some (((s.2.2.2.1.take i).findIdx? fun o => touchL (legsA o.2 s.1) (legsA c.2 s.1)).elim (-1) (fun j => (j : Int))) := by
  intro i hi c hc
  have hcut : cutL none (some (i : Int)) s.2.2.2.1 = s.2.2.2.1.take i := by simp [cutL]
  have hlen : (s.2.2.2.1.take i).length ≤ B36 := by rw [List.length_take]; omega
  unfold l_w71q_1
  rw [hcut]
  refine (lp_place (s.2.2.2.1.take i) (fun o => touchL (legsA o.2 s.1) (legsA c.2 s.1)) (fun j => some (j : Int)) (some (-1 : Int)) hlen (fun j hj rec hw => ?_) (fun rec => ?_)).trans ?_
  ·have hm : (s.2.2.2.1.take i)[j].2.length ≤ 1048576 := z6 _ (List.mem_of_mem_take (List.getElem_mem hj))
   simp only [lt_lenI hj,cond_true,geti_lt _ j hj,Option.bind_some,t_w67q s _ c hm (z6 c hc),hw]
  ·simp only [ge_lenI,cond_false]
  ·cases (s.2.2.2.1.take i).findIdx? fun o => touchL (legsA o.2 s.1) (legsA c.2 s.1) <;> rfl
 unfold l_w71q_2
 refine (lp_fst s.2.2.2.1 (fun i c => (meetStep s i c).map (Sum.inr (α := Unit))) (some (Sum.inl ())) hB (fun i hi rec hw => ?_) (fun rec => ?_)).trans ?_
 ·have hbd : bndB none (some (i : Int)) none s.2.2.2.1.length = true := by simp [bndB]; omega
  have hsw : (s.2.2.2.1.take i).any (fun o => touchL (legsA o.2 s.1) (legsA s.2.2.2.1[i].2 s.1)) = (s.2.2.2.1.take i).any (fun o => touchL (legsA s.2.2.2.1[i].2 s.1) (legsA o.2 s.1)) := by
   congr 1
   funext o
   exact touch_comm _ _
  simp only [lt_lenI hi,cond_true,geti_lt _ i hi,Option.bind_some,chk,hbd,e1 i hi _ (List.getElem_mem hi),same_any,hw,meetStep,hsw]
  cases (s.2.2.2.1.take i).any fun o => touchL (legsA s.2.2.2.1[i].2 s.1) (legsA o.2 s.1) <;> rfl
 ·simp only [ge_lenI,cond_false]
 ·rw [fstI_map]
  cases fstI (meetStep s) 0 s.2.2.2.1 <;> rfl
theorem held_t3 (s : ShdT) (hz : SzS s) (hu : upB s.2.1) : l_w71q_3 FU s (0 : Int) = some ((fstI (fun _ c => nz (legsB s.2.1 (legsA c.2 s.1))) 0 s.2.2.2.1).getD 0) := by
 obtain ⟨z1,z2,z3,z4,z5,z6⟩ := hz
 have hB : s.2.2.2.1.length ≤ B36 := by unfold B36; omega
 unfold l_w71q_3
 refine (lp_fst s.2.2.2.1 (fun _ c => nz (legsB s.2.1 (legsA c.2 s.1))) (some (0 : Int)) hB (fun i hi rec hw => ?_) (fun rec => ?_)).trans ?_
 ·simp only [lt_lenI hi,cond_true,geti_lt _ i hi,Option.bind_some,t_w70q s _ z1 hu (z6 _ (List.getElem_mem hi)),hw,nz]
  cases (legsB s.2.1 (legsA s.2.2.2.1[i].2 s.1) == 0) <;> rfl
 ·simp only [ge_lenI,cond_false]
 ·cases fstI (fun _ c => nz (legsB s.2.1 (legsA c.2 s.1))) 0 s.2.2.2.1 <;> rfl
theorem t_w71q (s : ShdT) (hz : SzS s) (hu : upB s.2.1) : m_w71q s = some ((fstI (meetStep s) 0 s.2.2.2.1).getD ((fstI (fun _ c => nz (legsB s.2.1 (legsA c.2 s.1))) 0 s.2.2.2.1).getD 0)) := by
 show p_w71q FU _ = _
 unfold p_w71q
 rw [held_t2 s hz]
 cases fstI (meetStep s) 0 s.2.2.2.1 with
 | some r => simp only [Option.elim_some,Option.bind_some,Sum.elim_inr,Option.getD_some]
 | none =>
  simp only [Option.elim_none,Option.bind_some,Sum.elim_inl,Option.getD_none]
  rw [held_t3 s hz hu]

theorem sh_marks1 (xs : List MarkT) (hl : xs.length ≤ 1048576) : l_w72q_1 FU xs (0 : Int) = some (markC xs) := by
 unfold l_w72q_1 markC
 refine (lp_fst xs (markStep xs) (some (0 : Int)) (by unfold B36; omega) (fun i hi rec hw => ?_) (fun rec => ?_)).trans ?_
 ·simp only [lt_lenI hi,cond_true,geti_lt xs i hi,Option.bind_some,t_w48q,t_w49q,hw,markStep]
  cases idB xs[i].1 with
  | false => rfl
  | true =>
   cases vlu xs[i].2 with
   | false => rfl
   | true =>
    simp only [Bool.not_true,cond_false,Option.bind_some,Bool.and_self]
    by_cases h0 : 0 < i
    ·have hd : decide ((i : Int) > 0) = true := by simp; omega
     have hi1 : i - 1 < xs.length := by omega
     simp only [hd,cond_true,prv (i := i) (by unfold B36; omega) h0,geti_lt xs _ hi1,Option.bind_some,h0,decide_true,Bool.true_and,List.getElem?_eq_getElem hi1,Option.getD_some]
     have ge : decide (xs[i - 1].1 ≥ xs[i].1) = decide (xs[i].1 ≤ xs[i - 1].1) := rfl
     rw [ge]
     cases decide (xs[i].1 ≤ xs[i - 1].1) <;> rfl
    ·have hd : decide ((i : Int) > 0) = false := by simp; omega
     simp only [hd,cond_false,Option.bind_some,h0,decide_false,Bool.false_and]
 ·simp only [ge_lenI,cond_false]
 ·cases fstI (markStep xs) 0 xs <;> rfl
theorem sh_marks2 (xs : List MarkT) (hl : xs.length ≤ 1048576) : l_w72q_2 FU xs (0 : Int) = some (markC xs) := by
 unfold l_w72q_2 markC
 refine (lp_fst xs (markStep xs) (some (0 : Int)) (by unfold B36; omega) (fun i hi rec hw => ?_) (fun rec => ?_)).trans ?_
 ·simp only [lt_lenI hi,cond_true,geti_lt xs i hi,Option.bind_some,t_w48q,t_w50q,hw,markStep]
  cases idB xs[i].1 with
  | false => rfl
  | true =>
   cases vlu xs[i].2 with
   | false => rfl
   | true =>
    simp only [Bool.not_true,cond_false,Option.bind_some,Bool.and_self]
    by_cases h0 : 0 < i
    ·have hd : decide ((i : Int) > 0) = true := by simp; omega
     have hi1 : i - 1 < xs.length := by omega
     simp only [hd,cond_true,prv (i := i) (by unfold B36; omega) h0,geti_lt xs _ hi1,Option.bind_some,h0,decide_true,Bool.true_and,List.getElem?_eq_getElem hi1,Option.getD_some]
     have ge : decide (xs[i - 1].1 ≥ xs[i].1) = decide (xs[i].1 ≤ xs[i - 1].1) := rfl
     rw [ge]
     cases decide (xs[i].1 ≤ xs[i - 1].1) <;> rfl
    ·have hd : decide ((i : Int) > 0) = false := by simp; omega
     simp only [hd,cond_false,Option.bind_some,h0,decide_false,Bool.false_and]
 ·simp only [ge_lenI,cond_false]
 ·cases fstI (markStep xs) 0 xs <;> rfl
theorem sh_open (s : ShdT) (hz : SzS s) (hup : s.2.2.2.1.Pairwise fun a b => a.1 < b.1) (hd : upM s.2.2.2.2.1) : l_w72q_3 FU s (0 : Int) = some ((s.2.2.1.findIdx? (openB s)).elim (-1) (fun j => (j : Int))) := by
 obtain ⟨z1,z2,z3,z4,z5,z6⟩ := hz
 unfold l_w72q_3
 refine (lp_place s.2.2.1 (openB s) (fun j => some (j : Int)) (some (-1 : Int)) (by unfold B36; omega) (fun j hj rec hw => ?_) (fun rec => ?_)).trans ?_
 ·simp only [lt_lenI hj,cond_true,geti_lt _ j hj,Option.bind_some,t_w63q s _ z3 z4 hup hd,hw]
 ·simp only [ge_lenI,cond_false]
 ·cases s.2.2.1.findIdx? (openB s) <;> rfl
theorem max4 (a b c d : Int) : (decide ((if d > (if c > (if b > a then b else a) then c else (if b > a then b else a)) then d else (if c > (if b > a then b else a) then c else (if b > a then b else a))) > (100 : Int))) = decide (100 < a ∨ 100 < b ∨ 100 < c ∨ 100 < d) := by
 rw [Bool.eq_iff_iff,decide_eq_true_eq,decide_eq_true_eq]
 omega
theorem t_w72q (s : ShdT) (hz : SzS s) : m_w72q s = some (shardC s) := by
 show p_w72q FU _ = _
 unfold p_w72q shardC
 simp only [t_w40q,t_w47q,Option.bind_some,max4]
 unfold shB
 cases inB s.1 0 2 with
 | false => rfl
 | true =>
  simp only [Bool.not_true,cond_false]
  by_cases hb : balCode s.2.1 = 0
  ·simp only [hb,beq_self_eq_true,Bool.not_true,cond_false,ne_eq,not_true_eq_false,if_false]
   have emany : decide (100 < lenI s.2.2.1 ∨ 100 < lenI s.2.2.2.1 ∨ 100 < lenI s.2.2.2.2.1 ∨ 100 < lenI s.2.2.2.2.2) = decide (100 < s.2.2.1.length ∨ 100 < s.2.2.2.1.length ∨ 100 < s.2.2.2.2.1.length ∨ 100 < s.2.2.2.2.2.length) := by
    rw [Bool.eq_iff_iff,decide_eq_true_eq,decide_eq_true_eq,lenI_eq,lenI_eq,lenI_eq,lenI_eq]
    omega
   rw [emany]
   by_cases hm : 100 < s.2.2.1.length ∨ 100 < s.2.2.2.1.length ∨ 100 < s.2.2.2.2.1.length ∨ 100 < s.2.2.2.2.2.length
   ·rw [decide_eq_true hm,if_pos hm]; rfl
   ·rw [decide_eq_false hm,if_neg hm,cond_false,sh_marks1 _ hz.2.1,Option.bind_some,sh_marks2 _ hz.2.2.2.1,Option.bind_some]
    obtain ⟨r,er,hr⟩ := t_w59q s hz
    rw [er,Option.bind_some,t_impl_firstOf3,Option.bind_some]
    by_cases hv : markC s.2.2.1 = 0
    ·have hnv : ¬ markC s.2.2.1 ≠ 0 := by rw [hv]; simp
     rw [if_pos hv,if_neg hnv]
     by_cases hd : markC s.2.2.2.2.1 = 0
     ·have hnd : ¬ markC s.2.2.2.2.1 ≠ 0 := by rw [hd]; simp
      rw [if_pos hd,if_neg hnd]
      have hu1 := (markC_zero hv).1
      have hu2 := (markC_zero hd).1
      have hrr := hr hu1 hu2
      subst hrr
      unfold heldAll
      by_cases hh : heldC s = 0
      ·have hnh : ¬ heldC s ≠ 0 := by rw [hh]; simp
       rw [if_neg hnh,hh]
       have hup := (heldC_zero hh).2
       have hub := (balCode_up hb).1
       simp only [beq_self_eq_true,Bool.not_true,cond_false]
       rw [sh_open s hz hup hu2]
       simp only [Option.bind_some,same_any]
       cases s.2.2.1.any (openB s) with
       | true => simp only [cond_true,Option.bind_some,Bool.true_or]
       | false =>
        simp only [cond_false,t_w66q s hz.2.2.2.1 hz.2.2.2.2.1,Option.bind_some,Bool.false_or]
        cases appB s with
        | false => simp only [Bool.not_false,cond_true]
        | true =>
         simp only [Bool.not_true,cond_false]
         rw [t_w71q s hz hub]
         simp only [Option.bind_some]
      ·have hb2 : (heldC s == 0) = false := by simpa using hh
       rw [if_pos hh,hb2]; rfl
     ·have hb2 : (markC s.2.2.2.2.1 == 0) = false := by simpa using hd
      rw [if_neg hd,if_pos hd,hb2]; rfl
    ·have hb2 : (markC s.2.2.1 == 0) = false := by simpa using hv
     rw [if_neg hv,if_pos hv,hb2]; rfl
  ·have hbb : (balCode s.2.1 == 0) = false := by simpa using hb
   rw [if_pos hb,hbb]; rfl

theorem t_w73q (x : Int) (h0 : 0 ≤ x) (h1 : x ≤ 1000000000000) : m_w73q (x,10) = some (itoaB x) := by
 show fmtRun _ = _
 unfold fmtRun
 rw [Nat.ble_eq_true_of_le (by omega)]; rfl

theorem t_w74q (x : Int) (h0 : 0 ≤ x) (h1 : x ≤ 1000000000000) : m_w74q x = some (itoaB x) := by
 show p_w74q FU _ = _
 unfold p_w74q
 rw [t_w73q x h0 h1]; rfl

theorem join_line (a : ByteArray) : ∀ (xs : List Int),joinW (a :: xs.map itoaB) ⟨#[32]⟩ = xs.foldl (fun s x => (s ++ ⟨#[32]⟩) ++ itoaB x) a := by
 have key : ∀ (xs : List Int) (b : ByteArray),(⟨(b.data.toList ++ Lib.joinTail [32] ((xs.map itoaB).map (·.data.toList))).toArray⟩ : ByteArray) = xs.foldl (fun s x => (s ++ ⟨#[32]⟩) ++ itoaB x) b := by
  intro xs
  induction xs with
  | nil => intro b; simp [Lib.joinTail]
  | cons x xs ih =>
   intro b
   rw [List.foldl_cons,← ih]
   apply ByteArray.ext
   simp [Lib.joinTail,ByteArray.data_append]
 intro xs
 rw [← key]
 unfold joinW
 rw [List.map_cons,Lib.join_cons]
theorem t_w76q (a : ByteArray) (xs : List Int) (ha : a.size ≤ 100) (hl : xs.length ≤ 10) (h : okN xs) : m_w76q (a,xs) = some (lineT a xs) := by
 show p_w76q FU _ = _
 have hB : xs.length ≤ B36 := by unfold B36; omega
 have e : l_w76q_1 FU xs ([a],(0 : Int)) = some (xs.foldl (fun s x => s ++ [itoaB x]) [a]) := by
  unfold l_w76q_1
  refine (lp_foldI xs (fun s x => s ++ [itoaB x]) (fun i s => (s,(i : Int))) (fun s => some s) (fun i s => s.length ≤ 1 + i) hB [a] (by simp) (fun i hi s hI => ?_) (fun s hI rec => ?_)).1
  ·have hx := h _ (List.getElem_mem hi)
   have hm : maxBytes = 140737488355328 := rfl
   refine ⟨by rw [List.length_append,List.length_singleton]; omega,fun rec => ?_⟩
   simp only [lt_lenI hi,cond_true,geti_lt xs i hi,Option.bind_some,t_w74q _ hx.1 hx.2,nxt (show i ≤ B36 by omega)]
   rw [chk_true (Nat.ble_eq_true_of_le (by simp only [List.length_singleton]; omega))]
  ·simp only [ge_lenI,cond_false]
 have e2 : ∀ (ys : List Int) (b : List ByteArray),ys.foldl (fun s x => s ++ [itoaB x]) b = b ++ ys.map itoaB := by
  intro ys
  induction ys with
  | nil => intro b; simp
  | cons y ys ih => intro b; rw [List.foldl_cons,ih]; simp
 have hs := line_size xs a h
 have hj : m_w75q ([a] ++ xs.map itoaB,⟨#[32]⟩) = some (xs.foldl (fun s x => (s ++ ⟨#[32]⟩) ++ itoaB x) a) := by
  show joinRun _ = _
  unfold joinRun
  rw [show [a] ++ xs.map itoaB = a :: xs.map itoaB from rfl,join_line]
  rw [Nat.ble_eq_true_of_le (show (a :: xs.map itoaB).length ≤ 140737488355328 by simp; omega),Nat.ble_eq_true_of_le (show (xs.foldl (fun s x => (s ++ ⟨#[32]⟩) ++ itoaB x) a).size ≤ 140737488355328 by omega)]
  rfl
 unfold p_w76q
 simp only
 rw [e,e2,Option.bind_some,hj,Option.bind_some,chk_true (Nat.ble_eq_true_of_le (by rw [show (⟨#[10]⟩ : ByteArray).size = 1 from rfl]; omega))]
 rfl

theorem has_impl (xs : List BalT) (hl : xs.length ≤ 100) (ho : ∀ b ∈ xs,okN [b.1,b.2.1,b.2.2]) (t : ByteArray) (N : Nat) (ht : t.size ≤ N) (hN : N ≤ 100000) : l_w79q_1 FU xs ((0 : Int),t) = some (xs.foldl hasG t) ∧ (xs.foldl hasG t).size ≤ N + 100 * xs.length := by
 unfold l_w79q_1
 have hB : xs.length ≤ B36 := by unfold B36; omega
 refine lp_foldI xs hasG (fun i s => ((i : Int),s)) (fun s => some s) (fun i s => s.size ≤ N + 100 * i) hB t (by omega) (fun i hi s hI => ?_) (fun s hI rec => ?_)
 ·have hx := ho _ (List.getElem_mem hi)
  have hg := hasG_size s xs[i] hx
  refine ⟨by omega,fun rec => ?_⟩
  have e := t_w76q (⟨#[104,97,115]⟩ : ByteArray) [xs[i].1,xs[i].2.1,xs[i].2.2] (by decide) (by simp) hx
  simp only [lt_lenI hi,cond_true,geti_lt xs i hi,Option.bind_some,e,nxt (show i ≤ B36 by omega)]
  have hm : maxBytes = 140737488355328 := rfl
  unfold hasG at hg ⊢
  rw [ByteArray.size_append] at hg
  rw [chk_true (Nat.ble_eq_true_of_le (by omega))]
 ·simp only [ge_lenI,cond_false]
theorem vote_impl (xs : List MarkT) (hl : xs.length ≤ 100) (ho : ∀ b ∈ xs,okN [b.1,b.2]) (t : ByteArray) (N : Nat) (ht : t.size ≤ N) (hN : N ≤ 100000) : l_w79q_2 FU xs ((0 : Int),t) = some (xs.foldl voteG t) ∧ (xs.foldl voteG t).size ≤ N + 100 * xs.length := by
 unfold l_w79q_2
 have hB : xs.length ≤ B36 := by unfold B36; omega
 refine lp_foldI xs voteG (fun i s => ((i : Int),s)) (fun s => some s) (fun i s => s.size ≤ N + 100 * i) hB t (by omega) (fun i hi s hI => ?_) (fun s hI rec => ?_)
 ·have hx := ho _ (List.getElem_mem hi)
  have hg := voteG_size s xs[i] hx
  refine ⟨by omega,fun rec => ?_⟩
  have e := t_w76q (⟨#[118,111,116,101]⟩ : ByteArray) [xs[i].1,xs[i].2] (by decide) (by simp) hx
  simp only [lt_lenI hi,cond_true,geti_lt xs i hi,Option.bind_some,e,nxt (show i ≤ B36 by omega)]
  have hm : maxBytes = 140737488355328 := rfl
  unfold voteG at hg ⊢
  rw [ByteArray.size_append] at hg
  rw [chk_true (Nat.ble_eq_true_of_le (by omega))]
 ·simp only [ge_lenI,cond_false]
theorem held_impl (xs : List ConT) (hl : xs.length ≤ 100) (ho : ∀ b ∈ xs,okN [b.1]) (t : ByteArray) (N : Nat) (ht : t.size ≤ N) (hN : N ≤ 100000) : l_w79q_3 FU xs ((0 : Int),t) = some (xs.foldl heldG t) ∧ (xs.foldl heldG t).size ≤ N + 100 * xs.length := by
 unfold l_w79q_3
 have hB : xs.length ≤ B36 := by unfold B36; omega
 refine lp_foldI xs heldG (fun i s => ((i : Int),s)) (fun s => some s) (fun i s => s.size ≤ N + 100 * i) hB t (by omega) (fun i hi s hI => ?_) (fun s hI rec => ?_)
 ·have hx := ho _ (List.getElem_mem hi)
  have hg := heldG_size s xs[i] hx
  refine ⟨by omega,fun rec => ?_⟩
  have e := t_w76q (⟨#[104,101,108,100]⟩ : ByteArray) [xs[i].1] (by decide) (by simp) hx
  simp only [lt_lenI hi,cond_true,geti_lt xs i hi,Option.bind_some,e,nxt (show i ≤ B36 by omega)]
  have hm : maxBytes = 140737488355328 := rfl
  unfold heldG at hg ⊢
  rw [ByteArray.size_append] at hg
  rw [chk_true (Nat.ble_eq_true_of_le (by omega))]
 ·simp only [ge_lenI,cond_false]
theorem done_impl (xs : List MarkT) (hl : xs.length ≤ 100) (ho : ∀ b ∈ xs,okN [b.1,b.2]) (t : ByteArray) (N : Nat) (ht : t.size ≤ N) (hN : N ≤ 100000) : l_w79q_4 FU xs ((0 : Int),t) = some (xs.foldl doneG t) ∧ (xs.foldl doneG t).size ≤ N + 100 * xs.length := by
 unfold l_w79q_4
 have hB : xs.length ≤ B36 := by unfold B36; omega
 refine lp_foldI xs doneG (fun i s => ((i : Int),s)) (fun s => some s) (fun i s => s.size ≤ N + 100 * i) hB t (by omega) (fun i hi s hI => ?_) (fun s hI rec => ?_)
 ·have hx := ho _ (List.getElem_mem hi)
  have hg := doneG_size s xs[i] hx
  refine ⟨by omega,fun rec => ?_⟩
  have e := t_w76q (⟨#[100,111,110,101]⟩ : ByteArray) [xs[i].1,xs[i].2] (by decide) (by simp) hx
  simp only [lt_lenI hi,cond_true,geti_lt xs i hi,Option.bind_some,e,nxt (show i ≤ B36 by omega)]
  have hm : maxBytes = 140737488355328 := rfl
  unfold doneG at hg ⊢
  rw [ByteArray.size_append] at hg
  rw [chk_true (Nat.ble_eq_true_of_le (by omega))]
 ·simp only [ge_lenI,cond_false]
theorem shardT_pos (s : ShdT) : 1 ≤ (shardT s).size := by
 have f : ∀ {α : Type} (g : ByteArray → α → ByteArray) (hg : ∀ t x,t.size ≤ (g t x).size) (xs : List α) (t : ByteArray),t.size ≤ (xs.foldl g t).size := by
  intro α g hg xs
  induction xs with
  | nil => intro t; exact Nat.le_refl _
  | cons x xs ih => intro t; exact Nat.le_trans (hg t x) (ih _)
 have p : 1 ≤ (lineT ⟨#[115,104,97,114,100]⟩ [s.1]).size := by
  unfold lineT
  rw [ByteArray.size_append,show (⟨#[10]⟩ : ByteArray).size = 1 from rfl]; omega
 refine Nat.le_trans p (Nat.le_trans (f hasG ?_ s.2.1 _) (Nat.le_trans (f voteG ?_ s.2.2.1 _) (Nat.le_trans (f heldG ?_ s.2.2.2.1 _) (f doneG ?_ s.2.2.2.2.1 _)))) <;> intro t x <;> simp only [hasG,voteG,heldG,doneG,ByteArray.size_append] <;> omega
theorem t_w79q (s : ShdT) (hz : SzS s) : m_w79q s = some (textR s) := by
 show p_w79q FU _ = _
 unfold p_w79q textR
 rw [t_w72q s hz,Option.bind_some]
 cases hc : shardC s == 0 with
 | false => rfl
 | true =>
  have h := eq_of_beq hc
  obtain ⟨n1,n2,n3,n4,n5⟩ := shard_nums h
  obtain ⟨l1,l2,l3,l4,_⟩ := shardC_len h
  have s0 : (lineT ⟨#[115,104,97,114,100]⟩ [s.1]).size ≤ 100 := by
   have := lineT_size (a := ⟨#[115,104,97,114,100]⟩) n1
   have h2 : (⟨#[115,104,97,114,100]⟩ : ByteArray).size ≤ 5 := by decide
   simp only [List.length_cons,List.length_nil] at this
   omega
  obtain ⟨a1,b1⟩ := has_impl s.2.1 (by omega) n2 (lineT ⟨#[115,104,97,114,100]⟩ [s.1]) 100 s0 (by omega)
  obtain ⟨a2,b2⟩ := vote_impl s.2.2.1 (by omega) n3 (s.2.1.foldl hasG (lineT ⟨#[115,104,97,114,100]⟩ [s.1])) 2000 (by omega) (by omega)
  obtain ⟨a3,b3⟩ := held_impl s.2.2.2.1 (by omega) n4 (s.2.2.1.foldl voteG (s.2.1.foldl hasG (lineT ⟨#[115,104,97,114,100]⟩ [s.1]))) 12000 (by omega) (by omega)
  obtain ⟨a4,b4⟩ := done_impl s.2.2.2.2.1 (by omega) n5 (s.2.2.2.1.foldl heldG (s.2.2.1.foldl voteG (s.2.1.foldl hasG (lineT ⟨#[115,104,97,114,100]⟩ [s.1])))) 22000 (by omega) (by omega)
  have hm : maxBytes = 140737488355328 := rfl
  have e0 : ∀ t : ByteArray,ByteArray.empty ++ t = t := fun t => by apply ByteArray.ext; simp
  have z0 : ByteArray.empty.size = 0 := rfl
  have hp := shardT_pos s
  simp only [Bool.not_true,cond_false,cond_true]
  rw [t_w76q _ _ (by decide) (by simp) n1,Option.bind_some,chk_true (Nat.ble_eq_true_of_le (by omega)),e0,a1,Option.bind_some,a2,Option.bind_some,a3,Option.bind_some,a4,Option.bind_some]
  exact chk_true (Nat.ble_eq_true_of_le hp) _

theorem szS_of (x : ShdT) (h : W_Shard x ≤ 1048576) : SzS x := by
 unfold W_Shard W_BalanceS W_MarkS W_ContractS W_Int64S at h
 refine ⟨by omega,by omega,by omega,by omega,by omega,fun c hc => ?_⟩
 have h1 := wsum_mem W_Contract x.2.2.2.1 c hc
 have h2 : W_Contract c = c.2.length := rfl
 omega
theorem eq_text (x : Int × ByteArray) : m_w80q (x,x) = some true := by
 show p_w80q FU _ = _
 unfold p_w80q
 simp
theorem law_w91q (x : ShdT) (h : WFs S_w91q.ps x) : m_w91q x = some true := by
 show p_w91q FU _ = _
 unfold p_w91q
 rcases z_w6q x h 1048576 (by omega) (by omega) with e1 | ⟨e1,b1⟩
 ·rw [e1]; rfl
 ·have hW : W_Shard x ≤ 1048576 := by omega
  have hz := szS_of x hW
  have d1 : decide ((1048576 : Int) - (W_Shard x : Int) < 0) = false := decide_eq_false (by omega)
  simp only [e1,Option.bind_some,d1,cond_false,o_w16q x hW,t_w38q x hz,t_w79q x hz,eq_text,Bool.not_true,eq_w90q x hW]
end Go.RvP
