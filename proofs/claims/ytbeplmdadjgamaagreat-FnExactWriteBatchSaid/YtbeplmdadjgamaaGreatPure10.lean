/- The plain law: spec and program answer alike, for FnExactWriteBatch. Condition: the data are such as can come in. -/
import Derived.Test.YtbeplmdadjgamaaGreatRvP10
import Derived.Test.YtbeplmdadjgamaaGreatRvO
import Derived.Test.YtbeplmdadjgamaaGreatRvM
namespace Go.RvP
open Go.Rv
theorem t_laws_markText (k : Int) (h0 : 0 ≤ k) (hk : k ≤ 1099511627776) : ∃ t, m_laws_markText k = some t := by
  show ∃ t, p_laws_markText FU k = some t
  unfold p_laws_markText
  by_cases h : k ≤ 0
  · rw [decide_eq_true h]; exact ⟨_, rfl⟩
  · rw [decide_eq_false h, cond_false]
    unfold l_laws_markText_1
    refine lp_for (fun r => ∃ t, r = some t) (fun i z => (0 ≤ z.1 ∧ z.1 ≤ 1099511627776) ∧ z.1 * 10 ^ i ≤ 1099511627776 ∧ z.2.size ≤ i) 13 (fun i z hi hz => ?_) (fun z hz rec => ?_) FU _ (by unfold FU; omega) ⟨⟨h0, hk⟩, by rw [Int.pow_zero, Int.mul_one]; exact hk, by show Array.size _ ≤ 0; simp⟩
    · obtain ⟨h1, h2, h3⟩ := hz
      have hs : ∀ b : Int, (strOfNums [b]).size = 1 := fun b => by show Array.size _ = 1; simp
      by_cases hp : z.1 > 0
      · refine .inr ⟨(z.1 / 10, strOfNums [IntKind.wrap .u8 (IntKind.wrap .i64 ((48 : Int) + (Int.tmod z.1 (10 : Int))))] ++ z.2), ⟨⟨by simp only; omega, by simp only; omega⟩, ?_, by simp only [_root_.ByteArray.size_append, hs]; omega⟩, fun rec => ?_⟩
        · simp only
          rw [Int.pow_succ, Int.mul_comm (10 ^ i) 10, ← Int.mul_assoc]
          refine Int.le_trans (Int.mul_le_mul_of_nonneg_right (show z.1 / 10 * 10 ≤ z.1 by omega) (Int.le_of_lt (Int.pow_pos (by omega)))) h2
        · rw [decide_eq_true hp, cond_true, show ((10 : Int) == 0) = false from rfl, cond_false, chk_true (decide_eq_true (by rw [hs]; omega)), cond_false, Int.tdiv_eq_ediv_of_nonneg h1.1, wrap64 (n := z.1 / 10) (by omega) (by omega)]
      · refine .inl fun rec => ?_
        have hm : (⟨#[109]⟩ : ByteArray).size = 1 := rfl
        rw [decide_eq_false hp, cond_false, chk_true (decide_eq_true (by rw [hm]; omega))]
        exact ⟨_, rfl⟩
    · obtain ⟨h1, h2, h3⟩ := hz
      have hz0 : ¬ z.1 > 0 := by
        intro hp
        have e : (10 : Int) ^ 13 = 10000000000000 := rfl
        rw [e] at h2
        omega
      have hm : (⟨#[109]⟩ : ByteArray).size = 1 := rfl
      rw [decide_eq_false hz0, cond_false, chk_true (decide_eq_true (by rw [hm]; omega))]
      exact ⟨_, rfl⟩

def W_ByteS (xs : (List Int)) : Nat := xs.length

theorem z_laws_szByteS (xs : (List Int)) (h : WFk (.sl none (.int .u8)) xs) : SZ m_laws_szByteS W_ByteS xs := szf xs h.1

def W_Log (x : ((List Int) × (List Int))) : Nat := W_ByteS x.1 + W_ByteS x.2

theorem z_laws_szLog (x : ((List Int) × (List Int))) (h : WFk (.pair (.sl none (.int .u8)) (.sl none (.int .u8))) x) : SZ m_laws_szLog W_Log x := by
  intro left h0 h1
  have hm : maxLen = 9223372036854775807 := rfl
  show p_laws_szLog FU _ = _ ∨ (p_laws_szLog FU _ = _ ∧ _)
  unfold p_laws_szLog W_Log
  have b1 : 0 ≤ left := by omega
  rcases z_laws_szByteS x.1 h.1 (left) (by omega) (by omega) with e1 | ⟨e1, f1⟩
  · left; simp only [e1, Option.bind_some]; rfl
  · have d1 : decide (left - (W_ByteS x.1 : Int) < 0) = false := decide_eq_false (by omega)
    have b2 : 0 ≤ left - (W_ByteS x.1 : Int) := by omega
    rcases z_laws_szByteS x.2 h.2 (left - (W_ByteS x.1 : Int)) (by omega) (by omega) with e2 | ⟨e2, f2⟩
    · left; simp only [e1, d1, e2, Option.bind_some, cond_false]; rfl
    · have d2 : decide (left - (W_ByteS x.1 : Int) - (W_ByteS x.2 : Int) < 0) = false := decide_eq_false (by omega)
      refine .inr ⟨?_, by omega⟩
      simp only [e1, d1, e2, d2, Option.bind_some, cond_false]
      congr 1; omega

def W_Row (x : (ByteArray × (Int × (ByteArray × Bool)))) : Nat := x.1.size + x.2.2.1.size

theorem z_laws_szRow (x : (ByteArray × (Int × (ByteArray × Bool)))) (h : WFk (.pair .str (.pair (.int .i64) (.pair .str .bool))) x) : SZ m_laws_szRow W_Row x := by
  intro left h0 h1
  have hm : maxLen = 9223372036854775807 := rfl
  show p_laws_szRow FU _ = _ ∨ (p_laws_szRow FU _ = _ ∧ _)
  unfold p_laws_szRow W_Row
  have b1 : 0 ≤ left := by omega
  have w1 : IntKind.wrap .i64 (left - (x.1.size : Int)) = left - (x.1.size : Int) := wrap64 (by have : x.1.size ≤ maxLen := h.1; omega) (by omega)
  by_cases c1 : left - (x.1.size : Int) < 0
  · have d1 : decide (left - (x.1.size : Int) < 0) = true := decide_eq_true c1
    left; simp only [w1, d1, cond_true]
  · have d1 : decide (left - (x.1.size : Int) < 0) = false := decide_eq_false c1
    have b2 : 0 ≤ left - (x.1.size : Int) := by omega
    have w2 : IntKind.wrap .i64 (left - (x.1.size : Int) - (x.2.2.1.size : Int)) = left - (x.1.size : Int) - (x.2.2.1.size : Int) := wrap64 (by have : x.2.2.1.size ≤ maxLen := h.2.2.1; omega) (by omega)
    by_cases c2 : left - (x.1.size : Int) - (x.2.2.1.size : Int) < 0
    · have d2 : decide (left - (x.1.size : Int) - (x.2.2.1.size : Int) < 0) = true := decide_eq_true c2
      left; simp only [w1, d1, w2, d2, cond_false, cond_true]
    · have d2 : decide (left - (x.1.size : Int) - (x.2.2.1.size : Int) < 0) = false := decide_eq_false c2
      refine .inr ⟨?_, by omega⟩
      simp only [w1, d1, w2, d2, cond_false]
      congr 1; omega

def W_RowS (xs : (List (ByteArray × (Int × (ByteArray × Bool))))) : Nat := xs.length + wsum W_Row xs

theorem z_laws_szRowS (xs : (List (ByteArray × (Int × (ByteArray × Bool))))) (h : WFk (.sl none (.pair .str (.pair (.int .i64) (.pair .str .bool)))) xs) : SZ m_laws_szRowS W_RowS xs := szl xs m_laws_szRow W_Row h.1 (fun x hx => z_laws_szRow x (h.2 x hx))

def W_RowSS (xs : (List (List (ByteArray × (Int × (ByteArray × Bool)))))) : Nat := xs.length + wsum W_RowS xs

theorem z_laws_szRowSS (xs : (List (List (ByteArray × (Int × (ByteArray × Bool)))))) (h : WFk (.sl none (.sl none (.pair .str (.pair (.int .i64) (.pair .str .bool))))) xs) : SZ m_laws_szRowSS W_RowSS xs := szl xs m_laws_szRowS W_RowS h.1 (fun x hx => z_laws_szRowS x (h.2 x hx))

def W_Engine (x : (((List Int) × (List Int)) × ((List (ByteArray × (Int × (ByteArray × Bool)))) × ((List (List (ByteArray × (Int × (ByteArray × Bool))))) × Int)))) : Nat := W_Log x.1 + W_RowS x.2.1 + W_RowSS x.2.2.1

theorem z_laws_szEngine (x : (((List Int) × (List Int)) × ((List (ByteArray × (Int × (ByteArray × Bool)))) × ((List (List (ByteArray × (Int × (ByteArray × Bool))))) × Int)))) (h : WFk (.pair (.pair (.sl none (.int .u8)) (.sl none (.int .u8))) (.pair (.sl none (.pair .str (.pair (.int .i64) (.pair .str .bool)))) (.pair (.sl none (.sl none (.pair .str (.pair (.int .i64) (.pair .str .bool))))) (.int .i64)))) x) : SZ m_laws_szEngine W_Engine x := by
  intro left h0 h1
  have hm : maxLen = 9223372036854775807 := rfl
  show p_laws_szEngine FU _ = _ ∨ (p_laws_szEngine FU _ = _ ∧ _)
  unfold p_laws_szEngine W_Engine
  have b1 : 0 ≤ left := by omega
  rcases z_laws_szLog x.1 h.1 (left) (by omega) (by omega) with e1 | ⟨e1, f1⟩
  · left; simp only [e1, Option.bind_some]; rfl
  · have d1 : decide (left - (W_Log x.1 : Int) < 0) = false := decide_eq_false (by omega)
    have b2 : 0 ≤ left - (W_Log x.1 : Int) := by omega
    rcases z_laws_szRowS x.2.1 h.2.1 (left - (W_Log x.1 : Int)) (by omega) (by omega) with e2 | ⟨e2, f2⟩
    · left; simp only [e1, d1, e2, Option.bind_some, cond_false]; rfl
    · have d2 : decide (left - (W_Log x.1 : Int) - (W_RowS x.2.1 : Int) < 0) = false := decide_eq_false (by omega)
      have b3 : 0 ≤ left - (W_Log x.1 : Int) - (W_RowS x.2.1 : Int) := by omega
      rcases z_laws_szRowSS x.2.2.1 h.2.2.1 (left - (W_Log x.1 : Int) - (W_RowS x.2.1 : Int)) (by omega) (by omega) with e3 | ⟨e3, f3⟩
      · left; simp only [e1, d1, e2, d2, e3, Option.bind_some, cond_false]; rfl
      · have d3 : decide (left - (W_Log x.1 : Int) - (W_RowS x.2.1 : Int) - (W_RowSS x.2.2.1 : Int) < 0) = false := decide_eq_false (by omega)
        refine .inr ⟨?_, by omega⟩
        simp only [e1, d1, e2, d2, e3, d3, Option.bind_some, cond_false]
        congr 1; omega

def W_Write (x : (ByteArray × (ByteArray × Bool))) : Nat := x.1.size + x.2.1.size

theorem z_laws_szWrite (x : (ByteArray × (ByteArray × Bool))) (h : WFk (.pair .str (.pair .str .bool)) x) : SZ m_laws_szWrite W_Write x := by
  intro left h0 h1
  have hm : maxLen = 9223372036854775807 := rfl
  show p_laws_szWrite FU _ = _ ∨ (p_laws_szWrite FU _ = _ ∧ _)
  unfold p_laws_szWrite W_Write
  have b1 : 0 ≤ left := by omega
  have w1 : IntKind.wrap .i64 (left - (x.1.size : Int)) = left - (x.1.size : Int) := wrap64 (by have : x.1.size ≤ maxLen := h.1; omega) (by omega)
  by_cases c1 : left - (x.1.size : Int) < 0
  · have d1 : decide (left - (x.1.size : Int) < 0) = true := decide_eq_true c1
    left; simp only [w1, d1, cond_true]
  · have d1 : decide (left - (x.1.size : Int) < 0) = false := decide_eq_false c1
    have b2 : 0 ≤ left - (x.1.size : Int) := by omega
    have w2 : IntKind.wrap .i64 (left - (x.1.size : Int) - (x.2.1.size : Int)) = left - (x.1.size : Int) - (x.2.1.size : Int) := wrap64 (by have : x.2.1.size ≤ maxLen := h.2.1; omega) (by omega)
    by_cases c2 : left - (x.1.size : Int) - (x.2.1.size : Int) < 0
    · have d2 : decide (left - (x.1.size : Int) - (x.2.1.size : Int) < 0) = true := decide_eq_true c2
      left; simp only [w1, d1, w2, d2, cond_false, cond_true]
    · have d2 : decide (left - (x.1.size : Int) - (x.2.1.size : Int) < 0) = false := decide_eq_false c2
      refine .inr ⟨?_, by omega⟩
      simp only [w1, d1, w2, d2, cond_false]
      congr 1; omega

def W_WriteS (xs : (List (ByteArray × (ByteArray × Bool)))) : Nat := xs.length + wsum W_Write xs

theorem z_laws_szWriteS (xs : (List (ByteArray × (ByteArray × Bool)))) (h : WFk (.sl none (.pair .str (.pair .str .bool))) xs) : SZ m_laws_szWriteS W_WriteS xs := szl xs m_laws_szWrite W_Write h.1 (fun x hx => z_laws_szWrite x (h.2 x hx))

theorem o_laws_toByteS (xs : (List Int)) (h : W_ByteS xs ≤ 1048576) : m_laws_toByteS xs = some xs := by
  unfold W_ByteS at h
  show p_laws_toByteS FU xs = _
  unfold p_laws_toByteS
  rw [if_pos rfl, if_pos (by simp [lenI_eq])]
  have hb : Nat.ble (1 * (lenI xs).toNat) maxBytes = true := by rw [Nat.ble_eq]; simp only [lenI_eq, Int.toNat_natCast, maxBytes]; omega
  rw [chk_true hb]
  exact copy_flat xs _ (by omega)

theorem o_laws_toLog (x : ((List Int) × (List Int))) (h : W_Log x ≤ 1048576) : m_laws_toLog x = some x := by
  unfold W_Log at h
  show p_laws_toLog FU _ = _
  unfold p_laws_toLog
  simp only [o_laws_toByteS x.1 (by omega), o_laws_toByteS x.2 (by omega), Option.bind_some]

theorem o_laws_toRow (x : (ByteArray × (Int × (ByteArray × Bool)))) (h : W_Row x ≤ 1048576) : m_laws_toRow x = some x := by
  unfold W_Row at h
  show p_laws_toRow FU _ = _
  unfold p_laws_toRow
  rfl

theorem o_laws_toRowS (xs : (List (ByteArray × (Int × (ByteArray × Bool))))) (h : W_RowS xs ≤ 1048576) : m_laws_toRowS xs = some xs := by
  unfold W_RowS at h
  show p_laws_toRowS FU xs = _
  unfold p_laws_toRowS
  rw [if_pos rfl, if_pos (by simp [lenI_eq])]
  have hb : Nat.ble (48 * (lenI xs).toNat) maxBytes = true := by rw [Nat.ble_eq]; simp only [lenI_eq, Int.toNat_natCast, maxBytes]; omega
  rw [chk_true hb]
  exact copy_loop2 xs _ m_laws_toRow (fun x hx => o_laws_toRow x (by have := wsum_mem W_Row xs x hx; omega)) (by omega)

theorem o_laws_toRowSS (xs : (List (List (ByteArray × (Int × (ByteArray × Bool)))))) (h : W_RowSS xs ≤ 1048576) : m_laws_toRowSS xs = some xs := by
  unfold W_RowSS at h
  show p_laws_toRowSS FU xs = _
  unfold p_laws_toRowSS
  rw [if_pos rfl, if_pos (by simp [lenI_eq])]
  have hb : Nat.ble (24 * (lenI xs).toNat) maxBytes = true := by rw [Nat.ble_eq]; simp only [lenI_eq, Int.toNat_natCast, maxBytes]; omega
  rw [chk_true hb]
  exact copy_loop2 xs _ m_laws_toRowS (fun x hx => o_laws_toRowS x (by have := wsum_mem W_RowS xs x hx; omega)) (by omega)

theorem o_laws_toEngine (x : (((List Int) × (List Int)) × ((List (ByteArray × (Int × (ByteArray × Bool)))) × ((List (List (ByteArray × (Int × (ByteArray × Bool))))) × Int)))) (h : W_Engine x ≤ 1048576) : m_laws_toEngine x = some x := by
  unfold W_Engine at h
  show p_laws_toEngine FU _ = _
  unfold p_laws_toEngine
  simp only [o_laws_toLog x.1 (by omega), o_laws_toRowS x.2.1 (by omega), o_laws_toRowSS x.2.2.1 (by omega), Option.bind_some]

theorem o_laws_toWrite (x : (ByteArray × (ByteArray × Bool))) (h : W_Write x ≤ 1048576) : m_laws_toWrite x = some x := by
  unfold W_Write at h
  show p_laws_toWrite FU _ = _
  unfold p_laws_toWrite
  rfl

theorem o_laws_toWriteS (xs : (List (ByteArray × (ByteArray × Bool)))) (h : W_WriteS xs ≤ 1048576) : m_laws_toWriteS xs = some xs := by
  unfold W_WriteS at h
  show p_laws_toWriteS FU xs = _
  unfold p_laws_toWriteS
  rw [if_pos rfl, if_pos (by simp [lenI_eq])]
  have hb : Nat.ble (40 * (lenI xs).toNat) maxBytes = true := by rw [Nat.ble_eq]; simp only [lenI_eq, Int.toNat_natCast, maxBytes]; omega
  rw [chk_true hb]
  exact copy_loop2 xs _ m_laws_toWrite (fun x hx => o_laws_toWrite x (by have := wsum_mem W_Write xs x hx; omega)) (by omega)

theorem eq_laws_eqByteS (xs : (List Int)) (h : W_ByteS xs ≤ 1048576) : m_laws_eqByteS (xs, xs) = some true := by
  unfold W_ByteS at h
  show p_laws_eqByteS FU _ = _
  unfold p_laws_eqByteS
  simp only [beq_self_eq_true, Bool.not_true, cond_false]
  exact eq_flat xs (by omega)

theorem eq_laws_eqLog (x : ((List Int) × (List Int))) (h : W_Log x ≤ 1048576) : m_laws_eqLog (x, x) = some true := by
  unfold W_Log at h
  show p_laws_eqLog FU _ = _
  unfold p_laws_eqLog
  simp only [Bool.not_true, cond_false, eq_laws_eqByteS x.1 (by omega), eq_laws_eqByteS x.2 (by omega), Option.bind_some]

theorem eq_laws_eqRow (x : (ByteArray × (Int × (ByteArray × Bool)))) (h : W_Row x ≤ 1048576) : m_laws_eqRow (x, x) = some true := by
  unfold W_Row at h
  show p_laws_eqRow FU _ = _
  unfold p_laws_eqRow
  simp only [beq_self_eq_true, Bool.not_true, cond_false]

theorem eq_laws_eqRowS (xs : (List (ByteArray × (Int × (ByteArray × Bool))))) (h : W_RowS xs ≤ 1048576) : m_laws_eqRowS (xs, xs) = some true := by
  unfold W_RowS at h
  show p_laws_eqRowS FU _ = _
  unfold p_laws_eqRowS
  simp only [beq_self_eq_true, Bool.not_true, cond_false]
  exact eq_loop xs m_laws_eqRow (fun x hx => eq_laws_eqRow x (by have := wsum_mem W_Row xs x hx; omega)) (by omega)

theorem eq_laws_eqRowSS (xs : (List (List (ByteArray × (Int × (ByteArray × Bool)))))) (h : W_RowSS xs ≤ 1048576) : m_laws_eqRowSS (xs, xs) = some true := by
  unfold W_RowSS at h
  show p_laws_eqRowSS FU _ = _
  unfold p_laws_eqRowSS
  simp only [beq_self_eq_true, Bool.not_true, cond_false]
  exact eq_loop xs m_laws_eqRowS (fun x hx => eq_laws_eqRowS x (by have := wsum_mem W_RowS xs x hx; omega)) (by omega)

theorem eq_laws_eqEngine (x : (((List Int) × (List Int)) × ((List (ByteArray × (Int × (ByteArray × Bool)))) × ((List (List (ByteArray × (Int × (ByteArray × Bool))))) × Int)))) (h : W_Engine x ≤ 1048576) : m_laws_eqEngine (x, x) = some true := by
  unfold W_Engine at h
  show p_laws_eqEngine FU _ = _
  unfold p_laws_eqEngine
  simp only [beq_self_eq_true, Bool.not_true, cond_false, eq_laws_eqLog x.1 (by omega), eq_laws_eqRowS x.2.1 (by omega), eq_laws_eqRowSS x.2.2.1 (by omega), Option.bind_some]

def W_EngineResult (x : (Int × (Int × (((List Int) × (List Int)) × ((List (ByteArray × (Int × (ByteArray × Bool)))) × ((List (List (ByteArray × (Int × (ByteArray × Bool))))) × Int)))))) : Nat := W_Engine x.2.2

theorem eq_laws_eqEngineResult (x : (Int × (Int × (((List Int) × (List Int)) × ((List (ByteArray × (Int × (ByteArray × Bool)))) × ((List (List (ByteArray × (Int × (ByteArray × Bool))))) × Int)))))) (h : W_EngineResult x ≤ 1048576) : m_laws_eqEngineResult (x, x) = some true := by
  unfold W_EngineResult at h
  show p_laws_eqEngineResult FU _ = _
  unfold p_laws_eqEngineResult
  simp only [beq_self_eq_true, Bool.not_true, cond_false, eq_laws_eqEngine x.2.2 (by omega), Option.bind_some]

theorem eq_laws_eqWrite (x : (ByteArray × (ByteArray × Bool))) (h : W_Write x ≤ 1048576) : m_laws_eqWrite (x, x) = some true := by
  unfold W_Write at h
  show p_laws_eqWrite FU _ = _
  unfold p_laws_eqWrite
  simp only [beq_self_eq_true, Bool.not_true, cond_false]

theorem eq_laws_eqWriteS (xs : (List (ByteArray × (ByteArray × Bool)))) (h : W_WriteS xs ≤ 1048576) : m_laws_eqWriteS (xs, xs) = some true := by
  unfold W_WriteS at h
  show p_laws_eqWriteS FU _ = _
  unfold p_laws_eqWriteS
  simp only [beq_self_eq_true, Bool.not_true, cond_false]
  exact eq_loop xs m_laws_eqWrite (fun x hx => eq_laws_eqWrite x (by have := wsum_mem W_Write xs x hx; omega)) (by omega)

def V_Write (_ : (ByteArray × (ByteArray × Bool))) : Nat := 3

def V_WriteS (xs : (List (ByteArray × (ByteArray × Bool)))) : Nat := wsum V_Write xs

theorem vb_WriteS (xs : (List (ByteArray × (ByteArray × Bool)))) : V_WriteS xs ≤ 3 * W_WriteS xs := wsum_le V_Write W_Write 3 xs (fun x _ => by unfold V_Write W_Write; omega)

theorem mk_WriteS (xs : (List (ByteArray × (ByteArray × Bool)))) (k : Int) (hW : W_WriteS xs ≤ 1048576) (h0 : 0 ≤ k) (hk : k + (V_WriteS xs : Int) ≤ B40) : ∃ L : (List (ByteArray × (ByteArray × Bool))), L.length = xs.length ∧ m_laws_markWriteS (xs, k) = some (k + (V_WriteS xs : Int), L) := by
  unfold W_WriteS at hW
  have hB : B40 = 1099511627776 := rfl
  show ∃ L : (List (ByteArray × (ByteArray × Bool))), _ ∧ p_laws_markWriteS FU (xs, k) = _
  unfold p_laws_markWriteS l_laws_markWriteS_1
  dsimp only
  refine mark_only V_Write xs k (by unfold B36; omega) h0 hk (fun i k x hx hi h0 hk hw => ?_) (fun k L rec => ?_)
  · have hx : W_Write x ≤ 1048576 := by have := wsum_mem W_Write xs x hx; omega
    unfold W_Write at hx
    unfold V_Write at hk ⊢
    obtain ⟨T1, t1⟩ := t_laws_markText (k) (by omega) (by omega)
    have w2 : IntKind.wrap .i64 (k + 1) = k + 1 := wrap64 (by omega) (by omega)
    obtain ⟨T2, t2⟩ := t_laws_markText (k + 1) (by omega) (by omega)
    have w4 : IntKind.wrap .i64 (k + 1 + 1) = k + 1 + 1 := wrap64 (by omega) (by omega)
    have w7 : IntKind.wrap .i64 (k + 1 + 1 + 1) = k + 1 + 1 + 1 := wrap64 (by omega) (by omega)
    have ew : k + ((3 : Nat) : Int) = k + 1 + 1 + 1 := by omega
    rw [ew]
    refine ⟨(T1, (T2, (Int.tmod (k + 1 + 1) 3 == 0))), fun L hL g1 g2 rec => ?_⟩
    · simp only [lt_lenI hL, cond_true, g1, g2, Option.bind_some, Int.toNat_natCast, geti_set hL, gets_set hL, List.set_set, t1, w2, t2, w4, show ((3 : Int) == 0) = false from rfl, cond_false, w7, hw]
  · simp only [ge_lenI, cond_false]

def V_Byte (_ : Int) : Nat := 1

def V_ByteS (xs : (List Int)) : Nat := wsum V_Byte xs

theorem vb_ByteS (xs : (List Int)) : V_ByteS xs ≤ 1 * W_ByteS xs := wsum_bnd V_Byte 1 xs (fun x _ => by unfold V_Byte; omega)

theorem mh_ByteS (xs : (List Int)) (k : Int) (hW : W_ByteS xs ≤ 1048576) (h0 : 0 ≤ k) (hk : k + (V_ByteS xs : Int) ≤ B40) : ∃ L : (List Int), L.length = xs.length ∧ m_laws_markByteS (xs, k) = some (k + (V_ByteS xs : Int), L) ∧ m_laws_heldByteS (L, k) = some (k + (V_ByteS xs : Int)) := by
  unfold W_ByteS at hW
  have hB : B40 = 1099511627776 := rfl
  show ∃ L : (List Int), _ ∧ p_laws_markByteS FU (xs, k) = _ ∧ p_laws_heldByteS FU (L, k) = _
  unfold p_laws_markByteS l_laws_markByteS_1 p_laws_heldByteS l_laws_heldByteS_1
  dsimp only
  refine mark_held V_Byte xs k (by unfold B36; omega) h0 hk (fun i k x hx hi h0 hk hw => ?_) (fun k L rec => ?_) (fun k L rec => ?_)
  · have hx := True.intro
    unfold V_Byte at hk ⊢
    have w1 : IntKind.wrap .i64 (k + 1) = k + 1 := wrap64 (by omega) (by omega)
    have ew : k + ((1 : Nat) : Int) = k + 1 := by omega
    rw [ew]
    refine ⟨IntKind.wrap .u8 (k), fun L hL g1 g2 rec => ?_, fun L hL g1 rec => ?_⟩
    · simp only [lt_lenI hL, cond_true, g1, g2, Option.bind_some, Int.toNat_natCast, w1, hw]
    · simp only [lt_lenI hL, cond_true, g1, Option.bind_some, beq_self_eq_true, Bool.not_true, cond_false, w1, hw]
  · simp only [ge_lenI, cond_false]
  · simp only [ge_lenI, cond_false]

theorem h_laws_heldLog (x : ((List Int) × (List Int))) (k k1 k2 : Int) (e1 : m_laws_heldByteS (x.1, k) = some k1) (n1 : 0 ≤ k1) (e2 : m_laws_heldByteS (x.2, k1) = some k2) (n2 : 0 ≤ k2) : m_laws_heldLog (x, k) = some k2 := by
  show p_laws_heldLog FU _ = _
  unfold p_laws_heldLog
  simp only [e1, decide_eq_false (show ¬ k1 < 0 by omega), e2, decide_eq_false (show ¬ k2 < 0 by omega), Option.bind_some, cond_false]

def V_Row (_ : (ByteArray × (Int × (ByteArray × Bool)))) : Nat := 4

def V_RowS (xs : (List (ByteArray × (Int × (ByteArray × Bool))))) : Nat := wsum V_Row xs

theorem vb_RowS (xs : (List (ByteArray × (Int × (ByteArray × Bool))))) : V_RowS xs ≤ 4 * W_RowS xs := wsum_le V_Row W_Row 4 xs (fun x _ => by unfold V_Row W_Row; omega)

theorem mh_RowS (xs : (List (ByteArray × (Int × (ByteArray × Bool))))) (k : Int) (hW : W_RowS xs ≤ 1048576) (h0 : 0 ≤ k) (hk : k + (V_RowS xs : Int) ≤ B40) : ∃ L : (List (ByteArray × (Int × (ByteArray × Bool)))), L.length = xs.length ∧ m_laws_markRowS (xs, k) = some (k + (V_RowS xs : Int), L) ∧ m_laws_heldRowS (L, k) = some (k + (V_RowS xs : Int)) := by
  unfold W_RowS at hW
  have hB : B40 = 1099511627776 := rfl
  show ∃ L : (List (ByteArray × (Int × (ByteArray × Bool)))), _ ∧ p_laws_markRowS FU (xs, k) = _ ∧ p_laws_heldRowS FU (L, k) = _
  unfold p_laws_markRowS l_laws_markRowS_1 p_laws_heldRowS l_laws_heldRowS_1
  dsimp only
  refine mark_held V_Row xs k (by unfold B36; omega) h0 hk (fun i k x hx hi h0 hk hw => ?_) (fun k L rec => ?_) (fun k L rec => ?_)
  · have hx : W_Row x ≤ 1048576 := by have := wsum_mem W_Row xs x hx; omega
    unfold W_Row at hx
    unfold V_Row at hk ⊢
    obtain ⟨T1, t1⟩ := t_laws_markText (k) (by omega) (by omega)
    have w2 : IntKind.wrap .i64 (k + 1) = k + 1 := wrap64 (by omega) (by omega)
    have w3 : IntKind.wrap .i64 (k + 1 + 1) = k + 1 + 1 := wrap64 (by omega) (by omega)
    obtain ⟨T2, t2⟩ := t_laws_markText (k + 1 + 1) (by omega) (by omega)
    have w5 : IntKind.wrap .i64 (k + 1 + 1 + 1) = k + 1 + 1 + 1 := wrap64 (by omega) (by omega)
    have w8 : IntKind.wrap .i64 (k + 1 + 1 + 1 + 1) = k + 1 + 1 + 1 + 1 := wrap64 (by omega) (by omega)
    have ew : k + ((4 : Nat) : Int) = k + 1 + 1 + 1 + 1 := by omega
    rw [ew]
    refine ⟨(T1, (k + 1, (T2, (Int.tmod (k + 1 + 1 + 1) 3 == 0)))), fun L hL g1 g2 rec => ?_, fun L hL g1 rec => ?_⟩
    · simp only [lt_lenI hL, cond_true, g1, g2, Option.bind_some, Int.toNat_natCast, geti_set hL, gets_set hL, List.set_set, t1, w2, w3, t2, w5, show ((3 : Int) == 0) = false from rfl, cond_false, w8, hw]
    · simp only [lt_lenI hL, cond_true, g1, Option.bind_some, beq_self_eq_true, Bool.not_true, cond_false, t1, w2, w3, t2, w5, show ((3 : Int) == 0) = false from rfl, cond_false, w8, hw]
  · simp only [ge_lenI, cond_false]
  · simp only [ge_lenI, cond_false]

def V_RowSS (xs : (List (List (ByteArray × (Int × (ByteArray × Bool)))))) : Nat := wsum V_RowS xs

theorem vb_RowSS (xs : (List (List (ByteArray × (Int × (ByteArray × Bool)))))) : V_RowSS xs ≤ 4 * W_RowSS xs := wsum_le V_RowS W_RowS 4 xs (fun x _ => by have := vb_RowS x; omega)

theorem mh_RowSS (xs : (List (List (ByteArray × (Int × (ByteArray × Bool)))))) (k : Int) (hW : W_RowSS xs ≤ 1048576) (h0 : 0 ≤ k) (hk : k + (V_RowSS xs : Int) ≤ B40) : ∃ L : (List (List (ByteArray × (Int × (ByteArray × Bool))))), L.length = xs.length ∧ m_laws_markRowSS (xs, k) = some (k + (V_RowSS xs : Int), L) ∧ m_laws_heldRowSS (L, k) = some (k + (V_RowSS xs : Int)) := by
  unfold W_RowSS at hW
  have hB : B40 = 1099511627776 := rfl
  show ∃ L : (List (List (ByteArray × (Int × (ByteArray × Bool))))), _ ∧ p_laws_markRowSS FU (xs, k) = _ ∧ p_laws_heldRowSS FU (L, k) = _
  unfold p_laws_markRowSS l_laws_markRowSS_1 p_laws_heldRowSS l_laws_heldRowSS_1
  dsimp only
  refine mark_held V_RowS xs k (by unfold B36; omega) h0 hk (fun i k x hx hi h0 hk hw => ?_) (fun k L rec => ?_) (fun k L rec => ?_)
  · have hx : W_RowS x ≤ 1048576 := by have := wsum_mem W_RowS xs x hx; omega
    obtain ⟨L1, _, m1, q1⟩ := mh_RowS x (k) (by omega) (by omega) (by omega)
    have d1 : decide (k + (V_RowS x : Int) < 0) = false := decide_eq_false (by omega)
    have ew : k + ((V_RowS x : Nat) : Int) = k + (V_RowS x : Int) := by omega
    rw [ew]
    refine ⟨L1, fun L hL g1 g2 rec => ?_, fun L hL g1 rec => ?_⟩
    · simp only [lt_lenI hL, cond_true, g1, g2, Option.bind_some, Int.toNat_natCast, m1, hw]
    · simp only [lt_lenI hL, cond_true, g1, Option.bind_some, cond_false, q1, d1, hw]
  · simp only [ge_lenI, cond_false]
  · simp only [ge_lenI, cond_false]

theorem h_laws_heldEngine (x : (((List Int) × (List Int)) × ((List (ByteArray × (Int × (ByteArray × Bool)))) × ((List (List (ByteArray × (Int × (ByteArray × Bool))))) × Int)))) (k k1 k2 k3 : Int) (e1 : m_laws_heldLog (x.1, k) = some k1) (n1 : 0 ≤ k1) (e2 : m_laws_heldRowS (x.2.1, k1) = some k2) (n2 : 0 ≤ k2) (e3 : m_laws_heldRowSS (x.2.2.1, k2) = some k3) (n3 : 0 ≤ k3) : m_laws_heldEngine (x, k) = some k3 := by
  show p_laws_heldEngine FU _ = _
  unfold p_laws_heldEngine
  simp only [e1, decide_eq_false (show ¬ k1 < 0 by omega), e2, decide_eq_false (show ¬ k2 < 0 by omega), e3, decide_eq_false (show ¬ k3 < 0 by omega), Option.bind_some, cond_false]

theorem h_laws_heldEngineResult (x : (Int × (Int × (((List Int) × (List Int)) × ((List (ByteArray × (Int × (ByteArray × Bool)))) × ((List (List (ByteArray × (Int × (ByteArray × Bool))))) × Int)))))) (k k1 : Int) (e1 : m_laws_heldEngine (x.2.2, k) = some k1) (n1 : 0 ≤ k1) : m_laws_heldEngineResult (x, k) = some k1 := by
  show p_laws_heldEngineResult FU _ = _
  unfold p_laws_heldEngineResult
  simp only [e1, decide_eq_false (show ¬ k1 < 0 by omega), Option.bind_some, cond_false]

theorem t_spec_LogFault (g : LogT) (h1 : g.1.length ≤ 1048576) (h2 : g.2.length ≤ 1048576) : m_spec_LogFault g = some (if g.1.length + g.2.length > 6000 then 2 else 0) := by
  show p_spec_LogFault FU _ = _
  unfold p_spec_LogFault
  rw [lenI_eq, lenI_eq, wrap64 (by omega) (by omega)]
  by_cases h : g.1.length + g.2.length > 6000
  · rw [if_pos h, decide_eq_true (by omega)]; rfl
  · rw [if_neg h, decide_eq_false (by omega)]; rfl

theorem t_spec_l1In (a b c : Int) : m_spec_l1In (a, b, c) = some (inB a b c) := by
  show p_spec_l1In FU _ = _
  unfold p_spec_l1In inB
  by_cases h : b ≤ a <;> simp [h]

theorem t_spec_RowFault (r : RowT) : m_spec_RowFault r = some (rowC r) := by
  show p_spec_RowFault FU _ = _
  unfold p_spec_RowFault rowC
  simp only [t_spec_l1In, Option.bind_some]
  by_cases h1 : ((r.1.size : Nat) : Int) < 1
  · have e : inB ((r.1.size : Nat) : Int) 1 20 = false := by unfold inB; rw [decide_eq_false (show ¬ (1 : Int) ≤ ((r.1.size : Nat) : Int) by omega)]; rfl
    rw [decide_eq_true h1, e]; rfl
  · by_cases h2 : ((r.1.size : Nat) : Int) > 20
    · have e : inB ((r.1.size : Nat) : Int) 1 20 = false := by unfold inB; rw [decide_eq_false (show ¬ ((r.1.size : Nat) : Int) ≤ 20 by omega), Bool.and_false]
      rw [decide_eq_false h1, decide_eq_true h2, e]; rfl
    · have e : inB ((r.1.size : Nat) : Int) 1 20 = true := by unfold inB; rw [decide_eq_true (show (1 : Int) ≤ ((r.1.size : Nat) : Int) by omega), decide_eq_true (show ((r.1.size : Nat) : Int) ≤ 20 by omega)]; rfl
      rw [decide_eq_false h1, decide_eq_false h2, e]
      cases r.2.2.2 <;> simp only [cond_true, cond_false, Option.bind_some, Bool.not_true, Bool.false_or, Bool.true_and, Bool.false_and] <;> (try cases (r.2.2.1.toList == (⟨#[]⟩ : ByteArray).toList)) <;> (try simp only [cond_true, cond_false, Bool.not_true, Bool.not_false]) <;> cases (decide (((r.2.2.1.size : Nat) : Int) > 100)) <;> (try simp only [cond_true, cond_false]) <;> cases inB r.2.1 1 1000000 <;> rfl

theorem t_spec_l5Ahead (a b : RowT) : m_spec_l5Ahead (a, b) = some (decide (cfRow a b < 0)) := by
  show p_spec_l5Ahead FU _ = _
  unfold p_spec_l5Ahead
  simp only
  rw [Go.ByteArray.toList_eq, Go.ByteArray.toList_eq]
  by_cases h : a.1.data.toList = b.1.data.toList
  · have e : cmpB a.1 b.1 = 0 := (cmpL_zero _ _).2 h
    rw [h, beq_self_eq_true, Bool.not_true, cond_false]
    congr 1
    refine decide_eq_decide.2 ?_
    rw [cfRow_lt, e]
    constructor
    · intro h; exact .inr ⟨rfl, h⟩
    · rintro (h | ⟨_, h⟩)
      · omega
      · exact h
  · have e : ¬ cmpB a.1 b.1 = 0 := fun h' => h ((cmpL_zero _ _).1 h')
    rw [show (a.1.data.toList == b.1.data.toList) = false from beq_eq_false_iff_ne.2 h, Bool.not_false, cond_true]
    congr 1
    rw [Bool.eq_iff_iff, decide_eq_true_eq, cfRow_lt]
    have := cmpL_lt a.1.data.toList b.1.data.toList
    constructor
    · intro h; exact .inl (this.2 h)
    · rintro (h | ⟨h, _⟩)
      · exact this.1 h
      · exact absurd h e

theorem t_spec_TableFault (xs : List RowT) : m_spec_TableFault xs = some (tabC xs) := by
  show p_spec_TableFault FU _ = _
  unfold p_spec_TableFault tabC
  by_cases hl : xs.length > 200
  · rw [if_pos hl, decide_eq_true (show lenI xs > 200 by rw [lenI_eq]; omega)]; rfl
  · rw [if_neg hl, decide_eq_false (show ¬ lenI xs > 200 by rw [lenI_eq]; omega), cond_false]
    unfold l_spec_TableFault_1
    refine (lp_fst xs (tabStep xs) (some 0) (by unfold B36; omega) (fun i hi rec hw => ?_) (fun rec => ?_)).trans (by cases fstI (tabStep xs) 0 xs <;> rfl)
    · simp only [lt_lenI hi, cond_true, geti_lt xs i hi, Option.bind_some, t_spec_RowFault, tabStep, hw]
      cases (rowC xs[i] == 0)
      · rfl
      · simp only [Bool.not_true, cond_false]
        by_cases h0 : 0 < i
        · have hp : i - 1 < xs.length := by omega
          rw [decide_eq_true (show ((i : Int) > 0) by omega), decide_eq_true h0, prv (by unfold B36; omega) h0]
          simp only [geti_lt xs (i - 1) hp, List.getElem?_eq_getElem hp, Option.getD_some, t_spec_l5Ahead, Option.bind_some, cond_true, Bool.true_and]
          cases decide (cfRow xs[i - 1] xs[i] < 0) <;> rfl
        · rw [decide_eq_false (show ¬ ((i : Int) > 0) by omega), decide_eq_false h0]
          simp only [cond_false, Option.bind_some, Bool.false_and]
    · simp only [ge_lenI, cond_false]

theorem t_spec_l6Below (xs : List RowT) (v : Int) (hl : xs.length ≤ 1048576) : m_spec_l6Below (xs, v) = some (belowB xs v) := by
  show p_spec_l6Below FU _ = _
  unfold p_spec_l6Below l_spec_l6Below_1
  refine (lp_hit xs (fun y => decide (y.2.1 ≥ v)) (some false) (some true) (by unfold B36; omega) (fun i hi rec hw => ?_) (fun rec => ?_)).trans ?_
  · simp only [lt_lenI hi, cond_true, geti_lt xs i hi, Option.bind_some, hw]
  · simp only [ge_lenI, cond_false]
  · unfold belowB
    rw [show (xs.all fun r => decide (r.2.1 < v)) = !(xs.any fun y => decide (y.2.1 ≥ v)) by
      rw [List.not_any_eq_all_not]
      congr 1
      funext r
      by_cases h : r.2.1 < v
      · rw [decide_eq_true h, decide_eq_false (show ¬ r.2.1 ≥ v by omega)]; rfl
      · rw [decide_eq_false h, decide_eq_true (show r.2.1 ≥ v by omega)]; rfl]
    cases xs.any fun y => decide (y.2.1 ≥ v) <;> rfl

theorem t_spec_l4Sync (g : LogT) (hl : g.1.length + g.2.length ≤ 2097152) : m_spec_l4Sync g = some (g.1 ++ g.2, []) := by
  show p_spec_l4Sync FU _ = _
  unfold p_spec_l4Sync
  rw [chk_true (ble_mem (by unfold maxBytes; omega)), chk_true (ble_mem (by unfold maxBytes; omega))]

theorem t_spec_CheckOf (bs : List Int) (hb : byB bs) (hl : bs.length ≤ 1048576) : m_spec_CheckOf bs = some (chkB bs) := by
  show p_spec_CheckOf FU _ = _
  unfold p_spec_CheckOf l_spec_CheckOf_1 chkB
  refine Eq.trans (lp_foldI bs chkF (fun i s => (s, (i : Int))) (fun s => some s) (fun i s => 0 ≤ s ∧ s < 65521) (by unfold B36; omega) 1 (by omega) (fun i hi s hs => ?_) (fun s hs rec => ?_)).1 rfl
  · have hbi := hb bs[i] (List.getElem_mem hi)
    refine ⟨by unfold chkF; rw [Int.tmod_eq_emod_of_nonneg (by omega)]; omega, fun rec => ?_⟩
    simp only [lt_lenI hi, cond_true, geti_lt bs i hi, Option.bind_some]
    rw [nxt (by unfold B36; omega), wrap64 (n := bs[i]) (by omega) (by omega), wrap64 (n := s * 257) (by omega) (by omega), wrap64 (n := s * 257 + bs[i]) (by omega) (by omega), wrap64 (n := s * 257 + bs[i] + 1) (by omega) (by omega)]
    rfl
  · simp only [ge_lenI, cond_false]

theorem t_spec_l3Records (D : List Int) (hb : byB D) (hl : D.length ≤ 1048576) : m_spec_l3Records D = some ((recsL D).1, ((recsL D).2 : Int)) := by
  show p_spec_l3Records FU _ = _
  unfold p_spec_l3Records l_spec_l3Records_1
  refine lp_recs D (by omega) (fun s => (s.1, (s.2 : Int))) (fun s => (s.1, (s.2 : Int))) (fun s hs hn rec => ?_)
  simp only []
  have w4 : IntKind.wrap .i64 ((s.2 : Int) + 4) = ((s.2 + 4 : Nat) : Int) := by rw [wrap64 (by omega) (by omega)]; omega
  rw [w4]
  by_cases h4 : s.2 + 4 < D.length
  · obtain ⟨a, b, c, d, t, hr⟩ := four (r := D.drop s.2) (by rw [List.length_drop]; omega)
    have hlt : t.length + 4 = D.length - s.2 := by have := congrArg List.length hr; simp only [List.length_drop, List.length_cons] at this; omega
    have g0 := geti_drop hr
    have hr1 := (drop_cons hr).2
    have g1 := geti_drop hr1
    have hr2 := (drop_cons hr1).2
    have g2 := geti_drop hr2
    have hr3 := (drop_cons hr2).2
    have g3 := geti_drop hr3
    have hr4 := (drop_cons hr3).2
    have hbd := byB_drop hb s.2
    rw [hr] at hbd
    obtain ⟨ha, hbd⟩ := byB_cons hbd
    obtain ⟨hbb, hbd⟩ := byB_cons hbd
    obtain ⟨hc, hbd⟩ := byB_cons hbd
    obtain ⟨hd, hbd⟩ := byB_cons hbd
    rw [decide_eq_true (show ((s.2 + 4 : Nat) : Int) < lenI D by rw [lenI_eq]; omega), cond_true, hr]
    rw [show IntKind.wrap .i64 ((s.2 : Int) + 1) = ((s.2 + 1 : Nat) : Int) by rw [wrap64 (by omega) (by omega)]; omega, show IntKind.wrap .i64 ((s.2 : Int) + 2) = ((s.2 + 1 + 1 : Nat) : Int) by rw [wrap64 (by omega) (by omega)]; omega, show IntKind.wrap .i64 ((s.2 : Int) + 3) = ((s.2 + 1 + 1 + 1 : Nat) : Int) by rw [wrap64 (by omega) (by omega)]; omega]
    simp only [g0, g1, g2, g3, Option.bind_some]
    rw [wrap64 (n := a) (by omega) (by omega), wrap64 (n := b) (by omega) (by omega), wrap64 (n := a * 256) (by omega) (by omega), wrap64 (n := a * 256 + b) (by omega) (by omega), wrap64 (n := c) (by omega) (by omega), wrap64 (n := d) (by omega) (by omega), wrap64 (n := c * 256) (by omega) (by omega), wrap64 (n := c * 256 + d) (by omega) (by omega)]
    obtain ⟨n, hn'⟩ : ∃ n : Nat, a * 256 + b = (n : Int) := ⟨(a * 256 + b).toNat, by omega⟩
    have hu : unfr (a :: b :: c :: d :: t) = if (1 ≤ a * 256 + b ∧ a * 256 + b ≤ 500) ∧ a * 256 + b ≤ t.length ∧ chkB (t.take (a * 256 + b).toNat) = c * 256 + d then some (t.take (a * 256 + b).toNat) else none := rfl
    rw [hu, hn', Int.toNat_natCast, wrap64 (n := ((s.2 + 4 : Nat) : Int) + (n : Int)) (by omega) (by omega)]
    by_cases h1 : (n : Int) < 1
    · rw [decide_eq_true h1, cond_true, Option.bind_some, cond_true, if_neg (by omega)]
    · rw [decide_eq_false h1, cond_false]
      by_cases h2 : (n : Int) > 500
      · rw [decide_eq_true h2, cond_true, Option.bind_some, cond_true, if_neg (by omega)]
      · rw [decide_eq_false h2, cond_false]
        by_cases h3 : ((s.2 + 4 : Nat) : Int) + (n : Int) > lenI D
        · rw [decide_eq_true h3, Option.bind_some, cond_true]
          rw [lenI_eq] at h3
          rw [if_neg (by omega)]
        · rw [decide_eq_false h3, Option.bind_some, cond_false]
          rw [lenI_eq] at h3
          rw [show ((s.2 + 4 : Nat) : Int) + (n : Int) = ((s.2 + 4 + n : Nat) : Int) by omega, chk_true (bnd_nat _ _ _ (by omega) (by omega)), cutL_nat, show s.2 + 4 = s.2 + 1 + 1 + 1 + 1 by omega, hr4, show s.2 + 1 + 1 + 1 + 1 + n - (s.2 + 1 + 1 + 1 + 1) = n by omega, t_spec_CheckOf _ (byB_take hbd n) (by rw [List.length_take]; omega), Option.bind_some, List.nil_append]
          have hlt2 : (t.take n).length = n := by rw [List.length_take]; omega
          by_cases h5 : chkB (t.take n) = c * 256 + d
          · rw [if_pos ⟨by omega, by omega, h5⟩, h5, beq_self_eq_true, Bool.not_true, cond_false, chk_true (ble_mem (by simp only [List.length_nil]; unfold maxBytes; omega)), chk_true (ble_mem (by simp only [List.length_cons, List.length_nil]; unfold maxBytes; omega))]
            simp only [hlt2]
            rw [show s.2 + 1 + 1 + 1 + 1 + n = s.2 + (4 + n) by omega]
          · rw [if_neg (fun h => h5 h.2.2), show (chkB (t.take n) == c * 256 + d) = false from beq_eq_false_iff_ne.2 h5]
            rfl
  · rw [decide_eq_false (show ¬ ((s.2 + 4 : Nat) : Int) < lenI D by rw [lenI_eq]; omega), cond_false, unfr_short (by rw [List.length_drop]; omega)]

theorem t_spec_l3Number (bs : List Int) (h : bs.length = 8) : m_spec_l3Number bs = some (numB bs) := by
  show p_spec_l3Number FU _ = _
  unfold p_spec_l3Number l_spec_l3Number_1 numB
  refine lp_fold bs numF (fun i s => (s, (i : Int))) (fun s => some (IntKind.wrap .i64 s)) (by unfold B36; omega) (fun i hi s rec hw => ?_) (fun s rec => ?_) 0
  · simp only [geti_lt bs i hi, Option.bind_some, hw]
    rw [decide_eq_true (show (i : Int) < 8 by omega), cond_true]
    rfl
  · simp only []
    rw [decide_eq_false (show ¬ (bs.length : Int) < 8 by omega), cond_false]

theorem t_spec_l6Text (x : List Int) (k : Nat) (hb : byB x) (hl : x.length ≤ 1048576) (hk : k ≤ x.length) : m_spec_l6Text (x, (k : Int)) = some (match takeT (x.drop k) with
    | some (t, r) => (t, ((x.length - r.length : Nat) : Int))
    | none => ((⟨#[]⟩ : ByteArray), (-1 : Int))) := by
  show p_spec_l6Text FU _ = _
  unfold p_spec_l6Text
  simp only
  have hbd := byB_drop hb k
  cases hr : x.drop k with
  | nil =>
    have hlen := congrArg List.length hr
    simp only [List.length_drop, List.length_nil] at hlen
    rw [decide_eq_true (show (k : Int) ≥ lenI x by rw [lenI_eq]; omega)]
    rfl
  | cons a t =>
    rw [hr] at hbd
    obtain ⟨ha, hbt⟩ := byB_cons hbd
    have hlen := congrArg List.length hr
    simp only [List.length_drop, List.length_cons] at hlen
    have g0 := geti_drop hr
    have hr1 := (drop_cons hr).2
    rw [decide_eq_false (show ¬ (k : Int) ≥ lenI x by rw [lenI_eq]; omega), cond_false]
    simp only [g0, Option.bind_some]
    rw [wrap64 (n := a) (by omega) (by omega), wrap64 (n := (k : Int) + 1) (by omega) (by omega), wrap64 (n := (k : Int) + 1 + a) (by omega) (by omega)]
    simp only [takeT]
    by_cases h : (t.length : Int) < a
    · rw [decide_eq_true (show (k : Int) + 1 + a > lenI x by rw [lenI_eq]; omega), cond_true, if_pos h]
    · rw [decide_eq_false (show ¬ (k : Int) + 1 + a > lenI x by rw [lenI_eq]; omega), cond_false, if_neg h]
      obtain ⟨n, hn⟩ : ∃ n : Nat, a = (n : Int) := ⟨a.toNat, by omega⟩
      subst hn
      rw [show (k : Int) + 1 + (n : Int) = ((k + 1 + n : Nat) : Int) by omega, show (k : Int) + 1 = ((k + 1 : Nat) : Int) by omega, chk_true (bnd_nat _ _ _ (by omega) (by omega)), cutL_nat, hr1, show k + 1 + n - (k + 1) = n by omega, Int.toNat_natCast]
      simp only [Option.some.injEq, Prod.mk.injEq, true_and, List.length_drop]
      omega

theorem t_spec_PackNumber (v : Int) (h0 : 0 ≤ v) (h1 : v ≤ 1000000) : m_spec_PackNumber v = some (num8 v) := by
  show p_spec_PackNumber FU _ = _
  unfold p_spec_PackNumber l_spec_PackNumber_1
  refine lp_for (fun r => r = some (num8 v)) (fun i z => z = ((num8 v).take i, 7 - (i : Int))) 8 (fun i z hi hz => ?_) (fun z hz rec => ?_) FU _ (by unfold FU; omega) rfl
  · subst hz
    refine .inr ⟨_, rfl, fun rec => ?_⟩
    simp only []
    rw [decide_eq_true (show (7 : Int) - (i : Int) ≥ 0 by omega), cond_true, wrap64 (n := 8 * (7 - (i : Int))) (by omega) (by omega), wrapu64 (n := 8 * (7 - (i : Int))) (by omega) (by omega), chk_true (decide_eq_true (by omega)), chk_true (ble_mem (by rw [List.length_take, num8_len]; simp only [List.length_cons, List.length_nil]; unfold maxBytes; omega)), wrapu64 (n := v) (by omega) (by omega), wrap64 (n := 7 - (i : Int) - 1) (by omega) (by omega)]
    have hg : i < (num8 v).length := by rw [num8_len]; exact hi
    rw [List.take_succ_eq_append_getElem hg, num8_get, show min (8 * (7 - (i : Int))).toNat 64 = 8 * (7 - i) by omega, Int.fdiv_eq_ediv_of_nonneg _ (Int.le_of_lt (Int.pow_pos (by omega))), wrapu8 (Int.ediv_nonneg h0 (Int.le_of_lt (Int.pow_pos (by omega)))), show (7 : Int) - (i : Int) - 1 = 7 - ((i + 1 : Nat) : Int) by omega]
  · subst hz
    rw [List.take_of_length_le (by rw [num8_len]; omega)]
    rfl

theorem t_spec_PackText (t : ByteArray) : m_spec_PackText t = some (if t.size > 200 then 2 else 0, pT t) := by
  show p_spec_PackText FU _ = _
  unfold p_spec_PackText pT
  by_cases h : t.size > 200
  · rw [if_pos h, if_pos h, decide_eq_true (by omega)]; rfl
  · rw [if_neg h, if_neg h, decide_eq_false (by omega), cond_false, chk_true (ble_mem (by rw [len_bytes]; simp only [List.length_cons, List.length_nil]; unfold maxBytes; omega)), wrapu8 (by omega), Int.emod_eq_of_lt (by omega) (by omega)]
    rfl

theorem t_spec_l6Pack (v : Int) (ws : List WriteT) (h0 : 0 ≤ v) (h1 : v ≤ 1000000) (hl : ws.length ≤ 1048576) : m_spec_l6Pack (v, ws) = some (packL v ws) := by
  show p_spec_l6Pack FU _ = _
  unfold p_spec_l6Pack l_spec_l6Pack_1 packL
  simp only
  rw [t_spec_PackNumber v h0 h1, Option.bind_some]
  refine Eq.trans (lp_foldI ws packF (fun i s => (s, (i : Int))) (fun s => some s) (fun i s => s.length ≤ 8 + 403 * i) (by unfold B36; omega) (num8 v) (by rw [num8_len]; omega) (fun i hi s hs => ?_) (fun s hs rec => ?_)).1 rfl
  · have hp := packOne_len ws[i]
    refine ⟨by unfold packF; rw [List.length_append]; omega, fun rec => ?_⟩
    have q1 := pT_len ws[i].1
    have q2 := pT_len ws[i].2.1
    simp only [lt_lenI hi, cond_true, geti_lt ws i hi, Option.bind_some, t_spec_PackText]
    rw [nxt (by unfold B36; omega)]
    unfold packF packOne
    cases ws[i].2.2
    · simp only [cond_false, cond_true, Bool.not_false]
      rw [chk_true (ble_mem (by simp only [List.length_cons, List.length_nil]; unfold maxBytes; omega)), Option.bind_some, chk_true (ble_mem (by simp only [List.length_append, List.length_cons, List.length_nil]; unfold maxBytes; omega)), chk_true (ble_mem (by simp only [List.length_append, List.length_cons, List.length_nil]; unfold maxBytes; omega))]
      simp only [List.append_assoc]
    · simp only [cond_false, cond_true, Bool.not_true]
      rw [chk_true (ble_mem (by simp only [List.length_cons, List.length_nil]; unfold maxBytes; omega)), Option.bind_some, chk_true (ble_mem (by simp only [List.length_append, List.length_cons, List.length_nil]; unfold maxBytes; omega))]
      simp only [List.append_assoc, List.append_nil]
  · simp only [ge_lenI, cond_false]

theorem t_spec_WritesFault_1 (ws : List WriteT) (i : Nat) (hi : i ≤ ws.length) (hl : ws.length ≤ 1048576) (k : ByteArray) : l_spec_WritesFault_1 FU (i : Int) ws k 0 = cond ((ws.take i).any fun u => u.1.toList == k.toList) (some (Sum.inr (Sum.inr (7 : Int)))) (some (Sum.inl ())) := by
  unfold l_spec_WritesFault_1
  have hlen : (ws.take i).length = i := by rw [List.length_take]; omega
  refine lp_hit (ws.take i) (fun u => u.1.toList == k.toList) _ _ (by unfold B36; omega) (fun j hj rec hw => ?_) (fun rec => ?_)
  · rw [hlen] at hj
    rw [decide_eq_true (show (j : Int) < (i : Int) by omega), cond_true, geti_lt ws j (by omega), Option.bind_some, hw, List.getElem_take]
  · rw [hlen, decide_eq_false (show ¬ (i : Int) < (i : Int) by omega), cond_false]
theorem t_spec_WritesFault (ws : List WriteT) (hl : ws.length ≤ 1048576) : m_spec_WritesFault ws = some (wrC ws) := by
  show p_spec_WritesFault FU _ = _
  unfold p_spec_WritesFault wrC
  by_cases h1 : ws.length < 1
  · rw [decide_eq_true (show lenI ws < 1 by rw [lenI_eq]; omega), cond_true, Option.bind_some, cond_true, if_pos (.inl h1)]
  · rw [decide_eq_false (show ¬ lenI ws < 1 by rw [lenI_eq]; omega), cond_false]
    by_cases h2 : ws.length > 8
    · rw [decide_eq_true (show lenI ws > 8 by rw [lenI_eq]; omega), Option.bind_some, cond_true, if_pos (.inr h2)]
    · rw [decide_eq_false (show ¬ lenI ws > 8 by rw [lenI_eq]; omega), Option.bind_some, cond_false, if_neg (by omega)]
      have e : l_spec_WritesFault_2 FU ws 0 = match fstI (fun i y => (wrStep ws i y).map (Sum.inr (α := Unit))) 0 ws with
          | some r => some r
          | none => some (Sum.inl ()) := by
        unfold l_spec_WritesFault_2
        refine (lp_fst ws (fun i y => (wrStep ws i y).map (Sum.inr (α := Unit))) (some (Sum.inl ())) (by unfold B36; omega) (fun i hi rec hw => ?_) (fun rec => ?_)).trans (by cases fstI (fun i y => (wrStep ws i y).map (Sum.inr (α := Unit))) 0 ws <;> rfl)
        · simp only [lt_lenI hi, cond_true, geti_lt ws i hi, Option.bind_some, t_spec_RowFault, wrStep, hw]
          cases (rowC (ws[i].1, (1, ws[i].2)) == 0)
          · rfl
          · simp only [Bool.not_true, cond_false]
            rw [t_spec_WritesFault_1 ws i (by omega) hl]
            cases ((ws.take i).any fun u => u.1.toList == ws[i].1.toList) <;> rfl
        · simp only [ge_lenI, cond_false]
      rw [e, fstI_map]
      cases fstI (wrStep ws) 0 ws with
      | some r => rfl
      | none =>
        simp only [Option.map_none, Option.bind_some, Sum.elim_inl]
        rw [t_spec_l6Pack 1 ws (by omega) (by omega) hl, Option.bind_some]
        by_cases h : (packL 1 ws).length > 500
        · rw [if_pos h, decide_eq_true (by rw [lenI_eq]; omega), cond_true]
        · rw [if_neg h, decide_eq_false (by rw [lenI_eq]; omega), cond_false]

theorem t_spec_PackWrites (v : Int) (ws : List WriteT) (hl : ws.length ≤ 1048576) : m_spec_PackWrites (v, ws) = some (packW v ws) := by
  show p_spec_PackWrites FU _ = _
  unfold p_spec_PackWrites packW
  simp only [t_spec_l1In, Option.bind_some, t_spec_WritesFault ws hl]
  cases h : inB v 1 1000000
  · rfl
  · unfold inB at h
    simp only [Bool.and_eq_true, decide_eq_true_eq] at h
    rw [t_spec_l6Pack v ws (by omega) h.2 hl]
    simp only [Bool.not_true, cond_false, Option.bind_some]
    cases (wrC ws == 0) <;> rfl

theorem t_spec_l6Unpack (x : List Int) (hb : byB x) (hl : x.length ≤ 1048576) : m_spec_l6Unpack x = some (unpR x) := by
  show p_spec_l6Unpack FU _ = _
  unfold p_spec_l6Unpack unpR
  by_cases h8 : x.length < 8
  · rw [if_pos h8, decide_eq_true (show lenI x < 8 by rw [lenI_eq]; omega), cond_true]
  · rw [if_neg h8, decide_eq_false (show ¬ lenI x < 8 by rw [lenI_eq]; omega), cond_false, show (some (8 : Int)) = some ((8 : Nat) : Int) from rfl, chk_true (by simp [bndB]; omega), show cutL none (some ((8 : Nat) : Int)) x = x.take 8 by simp [cutL], t_spec_l3Number _ (by rw [List.length_take]; omega), Option.bind_some]
    have e : l_spec_l6Unpack_1 FU x (([] : List WriteT), (8 : Int)) = (wrsL (x.drop 8)).elim (some (Sum.inr ((0 : Int), ([], false)))) (fun ws => some (Sum.inl ws)) := by
      unfold l_spec_l6Unpack_1
      have hl8 : (x.drop 8).length = x.length - 8 := List.length_drop
      refine Eq.trans (congrArg _ ?_) (lp_wrs (x.drop 8) (byB_drop hb 8) (by omega) (fun s => (s.1, ((x.length - s.2.length : Nat) : Int))) (fun o => o.elim (some (Sum.inr ((0 : Int), (([] : List WriteT), false)))) (fun ws => some (Sum.inl ws))) (fun s hs rec => ?_))
      · simp only [hl8]
        rw [show x.length - (x.length - 8) = 8 by omega]; rfl
      · obtain ⟨k, hk1, hk2, hk3⟩ := hs
        rw [List.drop_drop] at hk1
        have hsl : s.2.length = x.length - (8 + k) := by rw [hk1, List.length_drop]
        simp only []
        rw [show x.length - s.2.length = 8 + k by omega]
        cases hr : s.2 with
        | nil =>
          rw [hr] at hsl
          simp only [List.length_nil] at hsl
          rw [decide_eq_false (show ¬ ((8 + k : Nat) : Int) < lenI x by rw [lenI_eq]; omega), cond_false, if_pos rfl]
          rfl
        | cons f t =>
          rw [hr] at hsl
          simp only [List.length_cons] at hsl
          have hd : x.drop (8 + k) = f :: t := by rw [← hk1, hr]
          have hbd := byB_drop hb (8 + k)
          rw [hd] at hbd
          obtain ⟨hf, hbt⟩ := byB_cons hbd
          have hd1 := (drop_cons hd).2
          rw [decide_eq_true (show ((8 + k : Nat) : Int) < lenI x by rw [lenI_eq]; omega), cond_true, if_neg (List.cons_ne_nil _ _)]
          simp only [geti_drop hd, Option.bind_some]
          simp only [takeW]
          by_cases h1 : f > 1
          · rw [decide_eq_true h1, cond_true, if_pos h1]; rfl
          · rw [decide_eq_false h1, cond_false, if_neg h1, nxt (by unfold B36; omega), t_spec_l6Text x (8 + k + 1) hb hl (by omega), hd1]
            cases ht : takeT t with
            | none => rfl
            | some p =>
              obtain ⟨key, r1⟩ := p
              obtain ⟨i, hi, hi1, hi2⟩ := takeT_len hbt ht
              have hlr : r1.length = t.length - i := by rw [hi, List.length_drop]
              simp only [Option.bind_some]
              rw [decide_eq_false (show ¬ ((x.length - r1.length : Nat) : Int) < 0 by omega), cond_false]
              by_cases h2 : f = 1
              · rw [h2, beq_self_eq_true, Bool.not_true, cond_false, Option.bind_some, Sum.elim_inl, if_pos rfl, chk_true (ble_mem (by simp only [List.length_cons, List.length_nil]; unfold maxBytes; omega))]
              · rw [show (f == 1) = false from beq_eq_false_iff_ne.2 h2, Bool.not_false, cond_true, if_neg h2, t_spec_l6Text x _ hb hl (by omega), show x.drop (x.length - r1.length) = r1 by
                  rw [show x.length - r1.length = 8 + k + 1 + i by omega, ← List.drop_drop, hd1, hi]]
                cases ht2 : takeT r1 with
                | none => rfl
                | some p =>
                  obtain ⟨v, r2⟩ := p
                  simp only [Option.bind_some]
                  rw [decide_eq_false (show ¬ ((x.length - r2.length : Nat) : Int) < 0 by omega), cond_false, Option.bind_some, Sum.elim_inl, chk_true (ble_mem (by simp only [List.length_cons, List.length_nil]; unfold maxBytes; omega))]
    have e' : l_spec_l6Unpack_1 FU x (([] : List (ByteArray × (ByteArray × Bool))), (8 : Int)) = _ := e
    rw [e']
    cases hw : wrsL (x.drop 8) with
    | none => rfl
    | some ws =>
      simp only [Option.elim_some, Option.bind_some, Sum.elim_inl]
      have hlw : ws.length ≤ 1048576 := by
        have := wrsL_len (byB_drop hb 8) hw
        rw [List.length_drop] at this; omega
      rw [t_spec_PackWrites _ ws hlw, Option.bind_some]

theorem t_spec_l6Rows (v : Int) (ws : List WriteT) (hl : ws.length ≤ 1048576) : m_spec_l6Rows (v, ws) = some (rowsW v ws) := by
  show p_spec_l6Rows FU _ = _
  unfold p_spec_l6Rows l_spec_l6Rows_1
  have key := lp_foldI ws (fun (s : List RowT) w => s ++ [(w.1, (v, w.2))]) (fun i s => (s, (i : Int))) (fun s => some s) (fun i s => s = rowsW v (ws.take i)) (by unfold B36; omega) [] rfl (step := fun (rec6 : List RowT × Int → Option (List RowT)) (z5 : List RowT × Int) =>
 (cond (decide (z5.2 < (lenI ws)))
  ((geti ws z5.2).bind fun y7 =>
  ((geti ws z5.2).bind fun y8 =>
  ((geti ws z5.2).bind fun y9 =>
  (chk (Nat.ble ((z5.1.length + [(y7.1, (v, (y8.2.1, y9.2.2)))].length) * 48) maxBytes)
  (rec6 ((z5.1 ++ [(y7.1, (v, (y8.2.1, y9.2.2)))]), IntKind.wrap .i64 (z5.2 + (1 : Int))))))))
  (some z5.1))) (fun i hi s hs => by
    refine ⟨by rw [hs, List.take_succ_eq_append_getElem hi]; unfold rowsW; rw [List.map_append]; rfl, fun rec => ?_⟩
    simp only [lt_lenI hi, cond_true, geti_lt ws i hi, Option.bind_some]
    rw [chk_true (ble_mem (by rw [hs]; simp only [rowsW, List.length_map, List.length_take, List.length_cons, List.length_nil]; unfold maxBytes; omega)), nxt (by unfold B36; omega)]) (fun s hs rec => by simp only [ge_lenI, cond_false])
  refine key.1.trans ?_
  rw [key.2, List.take_length]

theorem t_spec_l5Put (xs : List RowT) (r : RowT) (hl : xs.length ≤ 2097152) : m_spec_l5Put (xs, r) = some (putL xs r) := by
  show p_spec_l5Put FU _ = _
  unfold p_spec_l5Put putL
  have e : l_spec_l5Put_1 FU xs r 0 = some (putAtR xs r : Int) := by
    unfold l_spec_l5Put_1 putAtR
    refine lp_for (fun o => o = some ((xs.takeWhile (aheadR r)).length : Int)) (fun i z => z = (i : Int) ∧ ∀ (j : Nat) (hj : j < i) (hx : j < xs.length), aheadR r xs[j] = true) xs.length (fun i z hi hz => ?_) (fun z hz rec => ?_) FU _ (by unfold FU; omega) ⟨rfl, fun j hj => by omega⟩
    · obtain ⟨rfl, hz⟩ := hz
      simp only [lt_lenI hi, cond_true, geti_lt xs i hi, Option.bind_some, t_spec_l5Ahead]
      cases ha : decide (cfRow xs[i] r < 0) with
      | true =>
        refine .inr ⟨_, ⟨nxt (by unfold B36; omega), fun j hj hx => ?_⟩, fun rec => rfl⟩
        rcases Nat.lt_or_ge j i with h | h
        · exact hz j h hx
        · have : j = i := by omega
          subst this; exact ha
      | false =>
        refine .inl fun rec => ?_
        rw [cond_false, takeWhile_len (aheadR r) xs i (by omega) (fun j hj => hz j hj (by omega)) (fun h => ha)]
    · obtain ⟨rfl, hz⟩ := hz
      simp only [ge_lenI, cond_false, Option.bind_some]
      rw [takeWhile_len (aheadR r) xs xs.length (by omega) (fun j hj => hz j hj hj) (fun h => by omega)]
  have hle := putAtR_le xs r
  simp only [e, Option.bind_some]
  have hins : (chk (bndB none (some (putAtR xs r : Int)) none xs.length)
  (chk (bndB (some (putAtR xs r : Int)) none none xs.length)
   (chk (Nat.ble ((cutL none (some (putAtR xs r : Int)) xs).length * 48) maxBytes)
   (chk (Nat.ble (((cutL none (some (putAtR xs r : Int)) xs).length + [r].length) * 48) maxBytes)
   (chk (Nat.ble ((((cutL none (some (putAtR xs r : Int)) xs) ++ [r]).length + (cutL (some (putAtR xs r : Int)) none xs).length) * 48) maxBytes)
   (some (((cutL none (some (putAtR xs r : Int)) xs) ++ [r]) ++ (cutL (some (putAtR xs r : Int)) none xs)))))))) = some ((xs.take (putAtR xs r) ++ [r]) ++ xs.drop (putAtR xs r)) := by
    have e1 : cutL none (some (putAtR xs r : Int)) xs = xs.take (putAtR xs r) := by simp [cutL]
    rw [e1, cutL_from _ _ hle, chk_true (by simp [bndB]; omega), chk_true (bnd_from _ _ hle), chk_true (ble_mem (by rw [List.length_take]; unfold maxBytes; omega)), chk_true (ble_mem (by rw [List.length_take]; simp only [List.length_cons, List.length_nil]; unfold maxBytes; omega)), chk_true (ble_mem (by rw [List.length_append, List.length_take, List.length_drop]; simp only [List.length_cons, List.length_nil]; unfold maxBytes; omega))]
  rw [hins]
  by_cases h : putAtR xs r < xs.length
  · simp only [lt_lenI h, cond_true, geti_lt xs _ h, Option.bind_some, t_spec_l5Ahead, decide_eq_true h, Bool.true_and, List.getElem?_eq_getElem h, Option.getD_some]
    cases decide (cfRow r xs[putAtR xs r] < 0) <;> rfl
  · rw [decide_eq_false (show ¬ (putAtR xs r : Int) < lenI xs by rw [lenI_eq]; omega), cond_false, Option.bind_some, cond_false, decide_eq_false h, Bool.false_and, cond_false]

theorem t_spec_l6Replay_1 (rs : List RowT) (v : Int) (xs : List RowT) (hl : rs.length ≤ 1048576) (hx : xs.length ≤ 1048576) : l_spec_l6Replay_1 FU rs v (xs, (0 : Int)) = some (Sum.inl (rs.foldl putL xs, v)) := by
  unfold l_spec_l6Replay_1
  refine Eq.trans (lp_foldI rs putL (fun i s => (s, (i : Int))) (fun s => some (Sum.inl (s, v))) (fun i s => s.length ≤ xs.length + i) (by unfold B36; omega) xs (by omega) (fun i hi s hs => ?_) (fun s hs rec => ?_)).1 rfl
  · have := putL_len s rs[i]
    refine ⟨by omega, fun rec => ?_⟩
    simp only [lt_lenI hi, cond_true, geti_lt rs i hi, Option.bind_some, Int.toNat_natCast, List.getElem?_eq_getElem hi]
    rw [t_spec_l5Put s _ (by omega), Option.bind_some, nxt (by unfold B36; omega)]
  · simp only [ge_lenI, cond_false]
theorem t_spec_l6Replay (g : LogT) (nx : Int) (hb1 : byB g.1) (hb2 : byB g.2) (hl : g.1.length + g.2.length ≤ 6000) : m_spec_l6Replay (g, nx) = some (logR g nx) := by
  show p_spec_l6Replay FU _ = _
  unfold p_spec_l6Replay logR
  have hb := byB_app hb1 hb2
  have hlD : (g.1 ++ g.2).length ≤ 6000 := by rw [List.length_append]; omega
  simp only
  rw [t_spec_l4Sync g (by omega), Option.bind_some, t_spec_l3Records _ hb (by omega), Option.bind_some, lenI_eq, lenI_eq, wrap64 (by omega) (by omega)]
  by_cases hu : (recsL (g.1 ++ g.2)).2 < g.1.length + g.2.length
  · rw [if_pos hu, decide_eq_true (show ((recsL (g.1 ++ g.2)).2 : Int) < (g.1.length : Int) + (g.2.length : Int) by omega), cond_true]
  · rw [if_neg hu, decide_eq_false (show ¬ ((recsL (g.1 ++ g.2)).2 : Int) < (g.1.length : Int) + (g.2.length : Int) by omega), cond_false]
    obtain ⟨q1, q2, q3⟩ := recsL_ok hb
    unfold l_spec_l6Replay_2
    refine ((lp_opt (recsL (g.1 ++ g.2)).1 (logF nx) (fun i s => (s.1.foldl putL [], (s.2, (i : Int)))) (fun s => some (s.1.foldl putL [], true)) (some ([], false)) logI (by unfold B36; omega) ([], 0) ⟨by simp, by simp, by simp⟩ (fun i hi s hs => ⟨fun rec => ?_, fun s' h => (logI_next hs h).1⟩) (fun s hs rec => ?_)).1).trans ?_
    · obtain ⟨w1, w2⟩ := q3 _ (List.getElem_mem hi)
      simp only [lt_lenI hi, cond_true, geti_lt _ i hi, Option.bind_some, Int.toNat_natCast, List.getElem?_eq_getElem hi]
      rw [t_spec_l6Unpack _ w2 (by omega), Option.bind_some, nxt (by unfold B36; omega)]
      unfold logF
      cases h1 : (unpR (recsL (g.1 ++ g.2)).1[i]).2.2 with
      | false => rfl
      | true =>
        have hok := (wrC_zero (unpR_ok h1).2).1
        simp only [Bool.not_true, cond_false, Bool.false_or]
        cases h2 : decide ((unpR (recsL (g.1 ++ g.2)).1[i]).1 ≥ nx) with
        | true =>
          cases decide ((unpR (recsL (g.1 ++ g.2)).1[i]).1 ≤ s.2) <;> rfl
        | false =>
          cases h3 : decide ((unpR (recsL (g.1 ++ g.2)).1[i]).1 ≤ s.2) with
          | true => rfl
          | false =>
            have h4 := putF_len s.1 []
            have h5 := hs.1
            simp only [cond_false, Option.bind_some, Bool.or_false]
            rw [t_spec_l6Rows _ _ (by omega), Option.bind_some, t_spec_l6Replay_1 _ _ _ (by simp only [rowsW, List.length_map]; omega) (by simp only [List.length_nil] at h4; omega), Option.bind_some, Sum.elim_inl, Option.elim_some, List.foldl_append]
    · simp only [ge_lenI, cond_false]
    · cases (recsL (g.1 ++ g.2)).1.foldlM (logF nx) ([], 0) <;> rfl

theorem t_spec_l6Same (xs ys : List RowT) (hl : xs.length ≤ 1048576) : m_spec_l6Same (xs, ys) = some (sameR xs ys) := by
  show p_spec_l6Same FU _ = _
  unfold p_spec_l6Same sameR
  by_cases he : xs.length = ys.length
  · have hz : (xs.zip ys).length = xs.length := by rw [List.length_zip]; omega
    simp only
    rw [show (lenI xs == lenI ys) = true by rw [lenI_eq, lenI_eq, he]; simp, Bool.not_true, cond_false, Bool.true_and]
    unfold l_spec_l6Same_1
    refine (lp_hit (xs.zip ys) (fun p => !(rowE p.1 p.2)) (some false) (some true) (by unfold B36; omega) (fun i hi rec hw => ?_) (fun rec => ?_)).trans (by cases (xs.zip ys).any fun p => !(rowE p.1 p.2) <;> rfl)
    · have hx : i < xs.length := by omega
      have hy : i < ys.length := by omega
      simp only [lt_lenI hx, cond_true, geti_lt xs i hx, geti_lt ys i hy, Option.bind_some, hw, List.getElem_zip]
      rfl
    · rw [hz]; simp only [ge_lenI, cond_false]
  · simp only
    rw [show (lenI xs == lenI ys) = false by rw [lenI_eq, lenI_eq, beq_eq_false_iff_ne]; omega]
    rfl

theorem t_spec_EngineFault (e : EngT) (hb1 : byB e.1.1) (hb2 : byB e.1.2) (h1 : e.1.1.length ≤ 1048576) (h2 : e.1.2.length ≤ 1048576) : m_spec_EngineFault e = some (engC e) := by
  show p_spec_EngineFault FU _ = _
  unfold p_spec_EngineFault engC
  rw [t_spec_LogFault e.1 h1 h2, Option.bind_some]
  by_cases c1 : e.1.1.length + e.1.2.length > 6000
  · rw [if_pos c1, if_pos c1]; rfl
  rw [if_neg c1, if_neg c1, show (!((0 : Int) == 0)) = false from rfl, cond_false, t_spec_TableFault, Option.bind_some]
  by_cases c2 : tabC e.2.1 = 0
  case neg => rw [if_pos c2, show (tabC e.2.1 == 0) = false from beq_eq_false_iff_ne.2 c2]; rfl
  rw [if_neg (fun h => h c2), c2, show (!((0 : Int) == 0)) = false from rfl, cond_false]
  obtain ⟨hl0, hrow⟩ := tabC_zero c2
  by_cases c3 : e.2.2.1.length > 6
  · rw [if_pos c3, decide_eq_true (by rw [lenI_eq]; omega), cond_true]
  rw [if_neg c3, decide_eq_false (by rw [lenI_eq]; omega), cond_false]
  have e1 : l_spec_EngineFault_1 FU e.2.2.1 0 = match fstI (fun i t => (cond (!(tabC t == 0)) (some (tabC t)) none).map (Sum.inr (α := Unit))) 0 e.2.2.1 with
      | some r => some r
      | none => some (Sum.inl ()) := by
    unfold l_spec_EngineFault_1
    refine (lp_fst e.2.2.1 (fun i t => (cond (!(tabC t == 0)) (some (tabC t)) none).map (Sum.inr (α := Unit))) (some (Sum.inl ())) (by unfold B36; omega) (fun i hi rec hw => ?_) (fun rec => ?_)).trans (by cases fstI (fun i t => (cond (!(tabC t == 0)) (some (tabC t)) none).map (Sum.inr (α := Unit))) 0 e.2.2.1 <;> rfl)
    · simp only [lt_lenI hi, cond_true, geti_lt _ i hi, Option.bind_some, t_spec_TableFault, hw]
      cases (tabC e.2.2.1[i] == 0) <;> rfl
    · simp only [ge_lenI, cond_false]
  rw [e1, fstI_map (fun _ t => cond (!(tabC t == 0)) (some (tabC t)) none) (Sum.inr (α := Unit))]
  cases hf : fstI (fun _ t => cond (!(tabC t == 0)) (some (tabC t)) none) 0 e.2.2.1 with
  | some r => rfl
  | none =>
    have htab : ∀ t ∈ e.2.2.1, t.length ≤ 200 := tabs_len hf
    simp only [Option.map_none, Option.bind_some, Sum.elim_inl, Option.getD_none, t_spec_l1In]
    cases hin : inB e.2.2.2 1 1000000 with
    | false => rfl
    | true =>
      simp only [Bool.not_true, cond_false, Bool.false_or]
      rw [t_spec_l6Below _ _ (by omega), Option.bind_some]
      cases hbo : belowB e.2.1 e.2.2.2 with
      | false => rfl
      | true =>
        simp only [Bool.not_true, cond_false, Option.bind_some, Bool.false_or]
        have e2 : l_spec_EngineFault_2 FU e.2.2.1 e.2.2.2 0 = cond (e.2.2.1.any fun t => !(belowB t e.2.2.2)) (some (Sum.inr (3 : Int))) (some (Sum.inl ())) := by
          unfold l_spec_EngineFault_2
          refine lp_hit e.2.2.1 (fun t => !(belowB t e.2.2.2)) _ _ (by unfold B36; omega) (fun i hi rec hw => ?_) (fun rec => ?_)
          · simp only [lt_lenI hi, cond_true, geti_lt _ i hi, Option.bind_some, hw]
            rw [t_spec_l6Below _ _ (by have := htab _ (List.getElem_mem hi); omega), Option.bind_some]
          · simp only [ge_lenI, cond_false]
        rw [e2]
        cases hany : e.2.2.1.any fun t => !(belowB t e.2.2.2) with
        | true => rfl
        | false =>
          simp only [cond_false, Option.bind_some, Sum.elim_inl]
          rw [t_spec_l6Replay e.1 e.2.2.2 hb1 hb2 (by omega), Option.bind_some]
          have hlr := logR_len e.1 e.2.2.2 (by omega)
          cases hlo : (logR e.1 e.2.2.2).2 with
          | false => rfl
          | true =>
            simp only [Bool.not_true, cond_false, Bool.false_or]
            rw [t_spec_l6Same _ _ (by omega), Option.bind_some]
            cases hsm : sameR (logR e.1 e.2.2.2).1 e.2.1 with
            | false => rfl
            | true =>
              simp only [Bool.not_true, cond_false, Option.bind_some]
              have e3 : ∀ (i : Nat) (hi : i < e.2.1.length), l_spec_EngineFault_3 FU e.2.1 e.2.2.1 (i : Int) 0 = cond (e.2.2.1.any fun t => !(belowB t e.2.1[i].2.1)) (some (Sum.inr (1 : Int))) (some (Sum.inl ())) := fun i hi => by
                unfold l_spec_EngineFault_3
                refine lp_hit e.2.2.1 (fun t => !(belowB t e.2.1[i].2.1)) _ _ (by unfold B36; omega) (fun j hj rec hw => ?_) (fun rec => ?_)
                · simp only [lt_lenI hj, cond_true, geti_lt _ j hj, geti_lt _ i hi, Option.bind_some, hw]
                  rw [t_spec_l6Below _ _ (by have := htab _ (List.getElem_mem hj); omega), Option.bind_some]
                · simp only [ge_lenI, cond_false]
              unfold l_spec_EngineFault_4
              refine (lp_hit e.2.1 (fun y => e.2.2.1.any fun t => !(belowB t y.2.1)) (some 1) (some 0) (by unfold B36; omega) (fun i hi rec hw => ?_) (fun rec => ?_)).trans (by cases e.2.1.any fun y => e.2.2.1.any fun t => !(belowB t y.2.1) <;> rfl)
              · simp only [lt_lenI hi, cond_true, hw, e3 i hi]
                cases (e.2.2.1.any fun t => !(belowB t e.2.1[i].2.1)) <;> rfl
              · simp only [ge_lenI, cond_false]

theorem t_spec_l4Copy (g : LogT) (h1 : g.1.length ≤ 1048576) (h2 : g.2.length ≤ 1048576) : m_spec_l4Copy g = some g := by
  show p_spec_l4Copy FU _ = _
  unfold p_spec_l4Copy
  rw [chk_true (ble_mem (by unfold maxBytes; omega)), chk_true (ble_mem (by unfold maxBytes; omega))]

theorem t_spec_l6Copy (e : EngT) (h1 : e.1.1.length ≤ 1048576) (h2 : e.1.2.length ≤ 1048576) (h3 : e.2.1.length ≤ 1048576) (h4 : e.2.2.1.length ≤ 1048576) (h5 : ∀ t ∈ e.2.2.1, t.length ≤ 1048576) : m_spec_l6Copy e = some e := by
  show p_spec_l6Copy FU _ = _
  unfold p_spec_l6Copy
  rw [t_spec_l4Copy e.1 h1 h2]
  simp only [Option.bind_some, dup_eq, same_self]
  rw [chk_true (ble_mem (by unfold maxBytes; omega))]
  unfold l_spec_l6Copy_1
  have key := lp_foldI e.2.2.1 (fun (s : List (List RowT)) t => s ++ [t]) (fun i s => ((i : Int), (e.1, (e.2.1, (s, e.2.2.2))))) (fun s => some (e.1, (e.2.1, (s, e.2.2.2)))) (fun i s => s = e.2.2.1.take i) (by unfold B36; omega) [] rfl (step := fun (rec7 : Int × EngT → Option EngT) (z6 : Int × EngT) =>
 (cond (decide (z6.1 < (lenI e.2.2.1)))
  ((geti e.2.2.1 z6.1).bind fun y8 =>
  (chk (Nat.ble (y8.length * 48) maxBytes)
  (chk (Nat.ble ((z6.2.2.2.1.length + [y8].length) * 24) maxBytes)
  (rec7 (IntKind.wrap .i64 (z6.1 + (1 : Int)), (z6.2.1, (z6.2.2.1, ((z6.2.2.2.1 ++ [y8]), z6.2.2.2.2))))))))
  (some z6.2))) (fun i hi s hs => by
    refine ⟨by rw [hs, List.take_succ_eq_append_getElem hi], fun rec => ?_⟩
    have := h5 _ (List.getElem_mem hi)
    simp only [lt_lenI hi, cond_true, geti_lt _ i hi, Option.bind_some]
    rw [chk_true (ble_mem (by unfold maxBytes; omega)), chk_true (ble_mem (by rw [hs, List.length_take]; simp only [List.length_cons, List.length_nil]; unfold maxBytes; omega)), nxt (by unfold B36; omega)]) (fun s hs rec => by simp only [ge_lenI, cond_false])
  refine key.1.trans ?_
  rw [key.2, List.take_length]

theorem t_spec_l3Short (n : Int) (h0 : 0 ≤ n) (h1 : n < 65536) : m_spec_l3Short n = some [n / 256, n % 256] := by
  show p_spec_l3Short FU _ = _
  unfold p_spec_l3Short
  rw [show ((256 : Int) == 0) = false from rfl, cond_false, Int.tdiv_eq_ediv_of_nonneg h0, Int.tmod_eq_emod_of_nonneg h0, wrap64 (by omega) (by omega), wrapu8 (by omega), wrapu8 (by omega)]
  simp only [cond_false, Option.some.injEq, List.cons.injEq, and_true]
  omega

theorem t_spec_l3Frame (p : List Int) (hb : byB p) (hl : p.length ≤ 500) : m_spec_l3Frame p = some (frameD p) := by
  show p_spec_l3Frame FU _ = _
  unfold p_spec_l3Frame frameD
  have hk := chkB_ok hb
  rw [lenI_eq, t_spec_l3Short _ (by omega) (by omega), Option.bind_some, t_spec_CheckOf p hb (by omega), Option.bind_some, t_spec_l3Short _ hk.1 (by omega), Option.bind_some, chk_true (ble_mem (by simp only [List.length_cons, List.length_nil]; unfold maxBytes; omega)), chk_true (ble_mem (by simp only [List.length_append, List.length_cons, List.length_nil]; unfold maxBytes; omega))]

theorem t_spec_l4Append (g : LogT) (p : List Int) (hb : byB p) (hl : p.length ≤ 500) (hg : g.1.length + g.2.length ≤ 6000) : m_spec_l4Append (g, p) = some ((g.1, g.2 ++ frameD p), if g.1.length + (g.2 ++ frameD p).length > 6000 then 2 else 0) := by
  show p_spec_l4Append FU _ = _
  unfold p_spec_l4Append
  have hf := frameD_len p
  simp only
  rw [t_spec_l4Copy g (by omega) (by omega), Option.bind_some, t_spec_l3Frame p hb hl, Option.bind_some, chk_true (ble_mem (by unfold maxBytes; omega)), t_spec_LogFault _ (by simp only; omega) (by simp only [List.length_append]; omega), Option.bind_some]

theorem t_spec_WriteBatch_1 (rs : List RowT) (g : LogT) (xs : List RowT) (z : List (List RowT) × Int) (hl : rs.length ≤ 1048576) (hx : xs.length ≤ 1048576) : l_spec_WriteBatch_1 FU rs ((0 : Int), (g, (xs, z))) = some (g, (rs.foldl putL xs, z)) := by
  unfold l_spec_WriteBatch_1
  refine Eq.trans (lp_foldI rs putL (fun i s => ((i : Int), (g, (s, z)))) (fun s => some (g, (s, z))) (fun i s => s.length ≤ xs.length + i) (by unfold B36; omega) xs (by omega) (fun i hi s hs => ?_) (fun s hs rec => ?_)).1 rfl
  · have := putL_len s rs[i]
    refine ⟨by omega, fun rec => ?_⟩
    simp only [lt_lenI hi, cond_true, geti_lt rs i hi, Option.bind_some, Int.toNat_natCast, List.getElem?_eq_getElem hi]
    rw [t_spec_l5Put s _ (by omega), Option.bind_some, nxt (by unfold B36; omega)]
  · simp only [ge_lenI, cond_false]
theorem t_spec_WriteBatch (e : EngT) (ws : List WriteT) (sync : Bool) (hb1 : byB e.1.1) (hb2 : byB e.1.2) (h1 : e.1.1.length ≤ 1048576) (h2 : e.1.2.length ≤ 1048576) (hl : ws.length ≤ 1048576) : m_spec_WriteBatch (e, (ws, sync)) = some (writeR e ws sync) := by
  show p_spec_WriteBatch FU _ = _
  unfold p_spec_WriteBatch writeR
  simp only
  rw [t_spec_EngineFault e hb1 hb2 h1 h2, Option.bind_some]
  cases hc : (engC e == 0) with
  | false => rfl
  | true =>
    have hc0 := beq_iff_eq.1 hc
    obtain ⟨q1, q2, q3, q4⟩ := engC_zero hc0
    have m1 := (engC_more hc0).1
    have hl0 := (tabC_zero q2).1
    simp only [Bool.not_true, cond_false]
    rw [t_spec_WritesFault ws hl, Option.bind_some]
    cases hw : (wrC ws == 0) with
    | false => rfl
    | true =>
      obtain ⟨w1, w2, w3, w4⟩ := wrC_zero (beq_iff_eq.1 hw)
      have hp := packL_len e.2.2.2 ws
      simp only [Bool.not_true, cond_false]
      cases hn : (e.2.2.2 == 1000000) with
      | true => rfl
      | false =>
        simp only [cond_false]
        rw [t_spec_l6Copy e h1 h2 (by omega) (by omega) (fun t ht => by have := (tabC_zero (q4 t ht)).1; omega)]
        simp only [Option.bind_some, dup_eq, same_self]
        rw [t_spec_l6Pack _ ws (by omega) (by omega) hl, Option.bind_some, t_spec_l4Append e.1 _ (byB_packL _ _) (by omega) q1, Option.bind_some]
        have hfr := frameD_len (packL e.2.2.2 ws)
        by_cases hbig : e.1.1.length + (e.1.2 ++ frameD (packL e.2.2.2 ws)).length > 6000
        · rw [if_pos hbig, decide_eq_true hbig]; rfl
        · rw [if_neg hbig, decide_eq_false hbig]
          simp only [cond_false, show (!((0 : Int) == 0)) = false from rfl]
          have hsync : (cond sync ((m_spec_l4Sync (e.1.1, e.1.2 ++ frameD (packL e.2.2.2 ws))).bind fun r7 => some r7) (some (e.1.1, e.1.2 ++ frameD (packL e.2.2.2 ws)))) = some (cond sync (e.1.1 ++ (e.1.2 ++ frameD (packL e.2.2.2 ws)), []) (e.1.1, e.1.2 ++ frameD (packL e.2.2.2 ws))) := by
            cases sync
            · rfl
            · rw [cond_true, t_spec_l4Sync _ (by simp only; omega)]; rfl
          rw [hsync, Option.bind_some, t_spec_l6Rows _ ws hl, Option.bind_some, t_spec_WriteBatch_1 _ _ e.2.1 e.2.2 (by unfold rowsW; rw [List.length_map]; omega) (by omega), Option.bind_some]
          simp only
          cases decide (lenI ((rowsW e.2.2.2 ws).foldl putL e.2.1) > 200) with
          | true => rfl
          | false => rw [cond_false, cond_false, wrap64 (by omega) (by omega)]

theorem t_impl_LogFault (g : LogT) (h1 : g.1.length ≤ 1048576) (h2 : g.2.length ≤ 1048576) : m_impl_LogFault g = some (if g.1.length + g.2.length > 6000 then 2 else 0) := by
  show p_impl_LogFault FU _ = _
  unfold p_impl_LogFault
  rw [lenI_eq, lenI_eq, wrap64 (by omega) (by omega)]
  by_cases h : g.1.length + g.2.length > 6000
  · rw [if_pos h, decide_eq_true (by omega)]; rfl
  · rw [if_neg h, decide_eq_false (by omega)]; rfl

theorem t_impl_within (a b c : Int) : m_impl_within (a, b, c) = some (inB a b c) := by
  show p_impl_within FU _ = _
  unfold p_impl_within inB
  by_cases h : b ≤ a <;> simp [h]

theorem t_impl_isKey (k : ByteArray) : m_impl_isKey k = some (inB ((k.size : Nat) : Int) 1 20) := by
  show p_impl_isKey FU _ = _
  unfold p_impl_isKey
  simp only [t_impl_within, Option.bind_some]

theorem t_impl_isVersion (k : Int) : m_impl_isVersion k = some (inB k 1 1000000) := by
  show p_impl_isVersion FU _ = _
  unfold p_impl_isVersion
  simp only [t_impl_within, Option.bind_some]

theorem t_impl_RowFault (r : RowT) : m_impl_RowFault r = some (rowC r) := by
  show p_impl_RowFault FU _ = _
  unfold p_impl_RowFault rowC
  simp only [t_impl_isKey, t_impl_isVersion, Option.bind_some]
  cases inB ((r.1.size : Nat) : Int) 1 20 <;> simp only [cond_true, cond_false, Option.bind_some, Bool.not_true, Bool.not_false, Bool.false_or, Bool.true_or]
  cases r.2.2.2 <;> simp only [cond_true, cond_false, Option.bind_some, Bool.true_and, Bool.false_and] <;> (try cases (r.2.2.1.toList == (⟨#[]⟩ : ByteArray).toList)) <;> (try simp only [cond_true, cond_false, Bool.not_true, Bool.not_false]) <;> cases (decide (((r.2.2.1.size : Nat) : Int) > 100)) <;> (try simp only [cond_true, cond_false]) <;> cases inB r.2.1 1 1000000 <;> rfl

theorem t_strings_Compare (a b : ByteArray) : m_strings_Compare (a, b) = some (cmpB a b) := by
  show p_strings_Compare FU _ = _
  unfold p_strings_Compare
  rfl

theorem t_cmp_Compare_int64 (a b : Int) : m_cmp_Compare_int64 (a, b) = some (if a < b then -1 else if a > b then 1 else 0) := by
  show p_cmp_Compare_int64 FU _ = _
  unfold p_cmp_Compare_int64
  have e : ∀ a : Int, m_cmp_isNaN_int64 a = some false := fun a => by
    show p_cmp_isNaN_int64 FU a = _
    unfold p_cmp_isNaN_int64
    simp
  simp only [e, Option.bind_some, cond_false]
  by_cases h1 : a < b
  · simp [h1]
  · by_cases h2 : a > b <;> simp [h1, h2]

theorem t_cmp_Or_int (a b : Int) : m_cmp_Or_int [a, b] = some (if a = 0 then b else a) := by
  show p_cmp_Or_int FU _ = _
  unfold p_cmp_Or_int l_cmp_Or_int_1
  obtain ⟨m, hm⟩ : ∃ m, FU = m + 1 + 1 + 1 := ⟨18446744073709551613, rfl⟩
  rw [hm]
  have w1 : IntKind.wrap .i64 1 = 1 := rfl
  have w2 : IntKind.wrap .i64 2 = 2 := rfl
  by_cases h1 : a = 0
  · by_cases h2 : b = 0
    · simp [lp, geti, lenI, h1, h2, w1, w2]
    · have hb : (b == 0) = false := by simp [h2]
      simp [lp, geti, lenI, h1, hb, w1, w2]
  · have hb : (a == 0) = false := by simp [h1]
    simp [lp, geti, lenI, h1, hb]

theorem t_impl_compareRows (a b : RowT) : m_impl_compareRows (a, b) = some (cfRow a b) := by
  show p_impl_compareRows FU _ = _
  unfold p_impl_compareRows
  simp only [t_strings_Compare, t_cmp_Compare_int64, t_cmp_Or_int, Option.bind_some]
  rfl

theorem t_impl_TableFault (xs : List RowT) : m_impl_TableFault xs = some (tabC xs) := by
  show p_impl_TableFault FU _ = _
  unfold p_impl_TableFault tabC
  by_cases hl : xs.length > 200
  · rw [if_pos hl, decide_eq_true (show lenI xs > 200 by rw [lenI_eq]; omega)]; rfl
  · rw [if_neg hl, decide_eq_false (show ¬ lenI xs > 200 by rw [lenI_eq]; omega), cond_false]
    unfold l_impl_TableFault_1
    refine (lp_fst xs (tabStep xs) (some 0) (by unfold B36; omega) (fun i hi rec hw => ?_) (fun rec => ?_)).trans (by cases fstI (tabStep xs) 0 xs <;> rfl)
    · simp only [lt_lenI hi, cond_true, geti_lt xs i hi, Option.bind_some, t_impl_RowFault, tabStep, hw]
      cases (rowC xs[i] == 0)
      · rfl
      · simp only [Bool.not_true, cond_false]
        by_cases h0 : 0 < i
        · have hp : i - 1 < xs.length := by omega
          rw [decide_eq_true (show ((i : Int) > 0) by omega), decide_eq_true h0, prv (by unfold B36; omega) h0]
          simp only [geti_lt xs (i - 1) hp, List.getElem?_eq_getElem hp, Option.getD_some, t_impl_compareRows, Option.bind_some, cond_true, Bool.true_and]
          by_cases hc : cfRow xs[i - 1] xs[i] < 0
          · rw [decide_eq_true hc, decide_eq_false (show ¬ cfRow xs[i - 1] xs[i] ≥ 0 by omega)]; rfl
          · rw [decide_eq_false hc, decide_eq_true (show cfRow xs[i - 1] xs[i] ≥ 0 by omega)]; rfl
        · rw [decide_eq_false (show ¬ ((i : Int) > 0) by omega), decide_eq_false h0]
          simp only [cond_false, Option.bind_some, Bool.false_and]
    · simp only [ge_lenI, cond_false]

theorem t_impl_firstOf (a b : Int) : m_impl_firstOf [a, b] = some (if a = 0 then b else a) := by
  show p_impl_firstOf FU _ = _
  unfold p_impl_firstOf l_impl_firstOf_1
  obtain ⟨m, hm⟩ : ∃ m, FU = m + 1 + 1 + 1 := ⟨18446744073709551613, rfl⟩
  rw [hm]
  have w1 : IntKind.wrap .i64 1 = 1 := rfl
  have w2 : IntKind.wrap .i64 2 = 2 := rfl
  by_cases h1 : a = 0
  · by_cases h2 : b = 0
    · simp [lp, geti, lenI, h1, h2, w1, w2]
    · have hb : (b == 0) = false := by simp [h2]
      simp [lp, geti, lenI, h1, hb, w1, w2]
  · have hb : (a == 0) = false := by simp [h1]
    simp [lp, geti, lenI, h1, hb]
theorem t_impl_firstOf3 (a b c : Int) : m_impl_firstOf [a, b, c] = some (if a = 0 then (if b = 0 then c else b) else a) := by
  show p_impl_firstOf FU _ = _
  unfold p_impl_firstOf l_impl_firstOf_1
  obtain ⟨m, hm⟩ : ∃ m, FU = m + 1 + 1 + 1 + 1 := ⟨18446744073709551612, rfl⟩
  rw [hm]
  have w1 : IntKind.wrap .i64 1 = 1 := rfl
  have w2 : IntKind.wrap .i64 2 = 2 := rfl
  have w3 : IntKind.wrap .i64 3 = 3 := rfl
  by_cases h1 : a = 0
  · by_cases h2 : b = 0
    · by_cases h3 : c = 0
      · simp [lp, geti, lenI, h1, h2, h3, w1, w2, w3]
      · have hb : (c == 0) = false := by simp [h3]
        simp [lp, geti, lenI, h1, h2, hb, w1, w2, w3]
    · have hb : (b == 0) = false := by simp [h2]
      simp [lp, geti, lenI, h1, h2, hb, w1, w2]
  · have hb : (a == 0) = false := by simp [h1]
    simp [lp, geti, lenI, h1, hb]

theorem t_slices_Concat_impl_Row_impl_Row (xss : List (List RowT)) (hl : xss.length ≤ 1048576) (hf : xss.flatten.length ≤ 2097152) : m_slices_Concat_impl_Row_impl_Row xss = some xss.flatten := by
  show p_slices_Concat_impl_Row_impl_Row FU _ = _
  unfold p_slices_Concat_impl_Row_impl_Row
  have hle : ∀ i : Nat, (xss.take i).flatten.length ≤ xss.flatten.length := fun i => by
    conv => rhs; rw [← List.take_append_drop i xss]
    rw [List.flatten_append, List.length_append]; omega
  have hs : ∀ (i : Nat) (hi : i < xss.length), (xss.take (i + 1)).flatten = (xss.take i).flatten ++ xss[i] := fun i hi => by
    rw [List.take_succ_eq_append_getElem hi, List.flatten_append]; simp
  have e1 : l_slices_Concat_impl_Row_impl_Row_1 FU xss ((0 : Int), (0 : Int)) = some (xss.flatten.length : Int) := by
    unfold l_slices_Concat_impl_Row_impl_Row_1
    have key := lp_foldI xss (fun (s : Int) t => s + (t.length : Int)) (fun i s => (s, (i : Int))) (fun s => some s) (fun i s => s = ((xss.take i).flatten.length : Int)) (step := fun rec10 (z9 : Int × Int) =>
 (cond (decide (z9.2 < (lenI xss)))
  ((geti xss z9.2).bind fun y11 =>
  (cond (decide ((IntKind.wrap .i64 (z9.1 + (lenI y11))) < (0 : Int)))
   none
   (rec10 (IntKind.wrap .i64 (z9.1 + (lenI y11)), IntKind.wrap .i64 (z9.2 + (1 : Int))))))
  (some z9.1))) (by unfold B36; omega) 0 (by simp) (fun i hi s hs' => by
      have h1 := hle (i + 1)
      rw [hs i hi, List.length_append] at h1
      refine ⟨by rw [hs', hs i hi, List.length_append]; omega, fun rec => ?_⟩
      simp only [lt_lenI hi, cond_true, geti_lt xss i hi, Option.bind_some]
      rw [lenI_eq, wrap64 (by omega) (by omega), decide_eq_false (by omega), cond_false, nxt (by unfold B36; omega)]) (fun s hs' rec => by simp only [ge_lenI, cond_false])
    refine key.1.trans ?_
    have k2 := key.2
    rw [List.take_length] at k2
    rw [k2]
  have e2 : l_slices_Concat_impl_Row_impl_Row_2 FU xss (([] : List RowT), (0 : Int)) = some xss.flatten := by
    unfold l_slices_Concat_impl_Row_impl_Row_2
    have key := lp_foldI xss (fun (s : List RowT) t => s ++ t) (fun i s => (s, (i : Int))) (fun s => some s) (fun i s => s = (xss.take i).flatten) (step := fun rec18 (z17 : List RowT × Int) =>
 (cond (decide (z17.2 < (lenI xss)))
  ((geti xss z17.2).bind fun y19 =>
  (chk (Nat.ble ((z17.1.length + y19.length) * 48) maxBytes)
  (rec18 ((z17.1 ++ y19), IntKind.wrap .i64 (z17.2 + (1 : Int))))))
  (some z17.1))) (by unfold B36; omega) [] (by simp) (fun i hi s hs' => by
      have h1 := hle (i + 1)
      rw [hs i hi, List.length_append] at h1
      refine ⟨by rw [hs', hs i hi], fun rec => ?_⟩
      simp only [lt_lenI hi, cond_true, geti_lt xss i hi, Option.bind_some]
      rw [chk_true (ble_mem (by rw [hs']; unfold maxBytes; omega)), nxt (by unfold B36; omega)]) (fun s hs' rec => by simp only [ge_lenI, cond_false])
    refine key.1.trans ?_
    have k2 := key.2
    rw [List.take_length] at k2
    rw [k2]
  rw [e1, Option.bind_some, decide_eq_false (by omega), cond_false, show IntKind.wrap .i64 ((0 : Int) - (0 : Int)) = 0 from rfl, Int.sub_zero, wrap64 (by omega) (by omega)]
  by_cases h : xss.flatten.length = 0
  · rw [decide_eq_false (by omega), cond_false, Option.bind_some]; exact e2
  · rw [decide_eq_true (by omega), cond_true, chk_true (by simp [bndB]), chk_true (by simp only [Int.toNat_natCast, Bool.and_eq_true, Nat.ble_eq]; exact ⟨trivial, by unfold maxBytes; omega⟩), chk_true (by simp [bndB]), Option.bind_some, Int.toNat_zero, List.take_zero]; exact e2

theorem t_impl_greatest (xs : List RowT) (hl : xs.length ≤ 1048576) : m_impl_greatest xs = some (maxV xs) := by
  show p_impl_greatest FU _ = _
  unfold p_impl_greatest l_impl_greatest_1 maxV
  refine (lp_fold xs (fun m r => if r.2.1 > m then r.2.1 else m) (fun i s => (s, (i : Int))) (fun s => some s) (by unfold B36; omega) (fun i hi s rec hw => ?_) (fun s rec => ?_) 0)
  · simp only [lt_lenI hi, cond_true, geti_lt xs i hi, Option.bind_some, hw]
  · simp only [ge_lenI, cond_false]

theorem t_slices_Concat_byte_byte (xss : List (List Int)) (hl : xss.length ≤ 1048576) (hf : xss.flatten.length ≤ 2097152) : m_slices_Concat_byte_byte xss = some xss.flatten := by
  show p_slices_Concat_byte_byte FU _ = _
  unfold p_slices_Concat_byte_byte
  have hle : ∀ i : Nat, (xss.take i).flatten.length ≤ xss.flatten.length := fun i => by
    conv => rhs; rw [← List.take_append_drop i xss]
    rw [List.flatten_append, List.length_append]; omega
  have hs : ∀ (i : Nat) (hi : i < xss.length), (xss.take (i + 1)).flatten = (xss.take i).flatten ++ xss[i] := fun i hi => by
    rw [List.take_succ_eq_append_getElem hi, List.flatten_append]; simp
  have e1 : l_slices_Concat_byte_byte_1 FU xss ((0 : Int), (0 : Int)) = some (xss.flatten.length : Int) := by
    unfold l_slices_Concat_byte_byte_1
    have key := lp_foldI xss (fun (s : Int) t => s + (t.length : Int)) (fun i s => (s, (i : Int))) (fun s => some s) (fun i s => s = ((xss.take i).flatten.length : Int)) (step := fun rec10 (z9 : Int × Int) =>
 (cond (decide (z9.2 < (lenI xss)))
  ((geti xss z9.2).bind fun y11 =>
  (cond (decide ((IntKind.wrap .i64 (z9.1 + (lenI y11))) < (0 : Int)))
   none
   (rec10 (IntKind.wrap .i64 (z9.1 + (lenI y11)), IntKind.wrap .i64 (z9.2 + (1 : Int))))))
  (some z9.1))) (by unfold B36; omega) 0 (by simp) (fun i hi s hs' => by
      have h1 := hle (i + 1)
      rw [hs i hi, List.length_append] at h1
      refine ⟨by rw [hs', hs i hi, List.length_append]; omega, fun rec => ?_⟩
      simp only [lt_lenI hi, cond_true, geti_lt xss i hi, Option.bind_some]
      rw [lenI_eq, wrap64 (by omega) (by omega), decide_eq_false (by omega), cond_false, nxt (by unfold B36; omega)]) (fun s hs' rec => by simp only [ge_lenI, cond_false])
    refine key.1.trans ?_
    have k2 := key.2
    rw [List.take_length] at k2
    rw [k2]
  have e2 : l_slices_Concat_byte_byte_2 FU xss (([] : List Int), (0 : Int)) = some xss.flatten := by
    unfold l_slices_Concat_byte_byte_2
    have key := lp_foldI xss (fun (s : List Int) t => s ++ t) (fun i s => (s, (i : Int))) (fun s => some s) (fun i s => s = (xss.take i).flatten) (step := fun rec18 (z17 : List Int × Int) =>
 (cond (decide (z17.2 < (lenI xss)))
  ((geti xss z17.2).bind fun y19 =>
  (chk (Nat.ble ((z17.1.length + y19.length) * 1) maxBytes)
  (rec18 ((z17.1 ++ y19), IntKind.wrap .i64 (z17.2 + (1 : Int))))))
  (some z17.1))) (by unfold B36; omega) [] (by simp) (fun i hi s hs' => by
      have h1 := hle (i + 1)
      rw [hs i hi, List.length_append] at h1
      refine ⟨by rw [hs', hs i hi], fun rec => ?_⟩
      simp only [lt_lenI hi, cond_true, geti_lt xss i hi, Option.bind_some]
      rw [chk_true (ble_mem (by rw [hs']; unfold maxBytes; omega)), nxt (by unfold B36; omega)]) (fun s hs' rec => by simp only [ge_lenI, cond_false])
    refine key.1.trans ?_
    have k2 := key.2
    rw [List.take_length] at k2
    rw [k2]
  rw [e1, Option.bind_some, decide_eq_false (by omega), cond_false, show IntKind.wrap .i64 ((0 : Int) - (0 : Int)) = 0 from rfl, Int.sub_zero, wrap64 (by omega) (by omega)]
  by_cases h : xss.flatten.length = 0
  · rw [decide_eq_false (by omega), cond_false, Option.bind_some]; exact e2
  · rw [decide_eq_true (by omega), cond_true, chk_true (by simp [bndB]), chk_true (by simp only [Int.toNat_natCast, Bool.and_eq_true, Nat.ble_eq]; exact ⟨trivial, by unfold maxBytes; omega⟩), chk_true (by simp [bndB]), Option.bind_some, Int.toNat_zero, List.take_zero]; exact e2

theorem t_impl_CheckOf (bs : List Int) (hb : byB bs) (hl : bs.length ≤ 1048576) : m_impl_CheckOf bs = some (chkB bs) := by
  show p_impl_CheckOf FU _ = _
  unfold p_impl_CheckOf l_impl_CheckOf_1 chkB
  refine Eq.trans (lp_foldI bs chkF (fun i s => (s, (i : Int))) (fun s => some s) (fun i s => 0 ≤ s ∧ s < 65521) (by unfold B36; omega) 1 (by omega) (fun i hi s hs => ?_) (fun s hs rec => ?_)).1 rfl
  · have hbi := hb bs[i] (List.getElem_mem hi)
    refine ⟨by unfold chkF; rw [Int.tmod_eq_emod_of_nonneg (by omega)]; omega, fun rec => ?_⟩
    simp only [lt_lenI hi, cond_true, geti_lt bs i hi, Option.bind_some]
    rw [nxt (by unfold B36; omega), wrap64 (n := bs[i]) (by omega) (by omega), wrap64 (n := s * 257) (by omega) (by omega), wrap64 (n := s * 257 + bs[i]) (by omega) (by omega), wrap64 (n := s * 257 + bs[i] + 1) (by omega) (by omega)]
    rfl
  · simp only [ge_lenI, cond_false]

theorem t_impl_pair (r : Int) (h0 : 0 ≤ r) (h1 : r < 65536) : m_impl_pair r = some [r / 256, r % 256] := by
  show p_impl_pair FU _ = _
  unfold p_impl_pair
  rw [show (2 : Int) ^ (min (8 : Int).toNat 64) = 256 from rfl, Int.fdiv_eq_ediv_of_nonneg _ (by omega), wrapu8 (by omega), wrapu8 h0, chk_true (by decide)]
  congr 2
  omega

theorem t_bytes_Equal (x y : List Int) (hx : byB x) (hy : byB y) : m_bytes_Equal (x, y) = some (x == y) := by
  show p_bytes_Equal FU _ = _
  unfold p_bytes_Equal
  rw [strOf_eq hx hy]

theorem t_impl_unframe (x : List Int) (hb : byB x) (hl : x.length ≤ 1048576) : ∃ y, m_impl_unframe x = some (y, (unfr x).isSome) ∧ ∀ b, unfr x = some b → y = b := by
  show ∃ y, p_impl_unframe FU _ = some (y, _) ∧ _
  unfold p_impl_unframe
  match x, hb, hl with
  | [], _, _ => exact ⟨[], rfl, fun b h => by cases h⟩
  | [_], _, _ => exact ⟨[], rfl, fun b h => by cases h⟩
  | [_, _], _, _ => exact ⟨[], rfl, fun b h => by cases h⟩
  | [_, _, _], _, _ => exact ⟨[], rfl, fun b h => by cases h⟩
  | a :: b :: c :: d :: t, hb, hl =>
    obtain ⟨ha, hb⟩ := byB_cons hb
    obtain ⟨hbb, hb⟩ := byB_cons hb
    obtain ⟨hc, hb⟩ := byB_cons hb
    obtain ⟨hd, hb⟩ := byB_cons hb
    have hlen : (a :: b :: c :: d :: t).length = t.length + 4 := rfl
    rw [hlen] at hl
    rw [decide_eq_false (show ¬ lenI (a :: b :: c :: d :: t) < 4 by rw [lenI_eq, hlen]; omega), cond_false]
    rw [show geti (a :: b :: c :: d :: t) 0 = some a from rfl, show geti (a :: b :: c :: d :: t) 1 = some b from rfl]
    simp only [Option.bind_some]
    rw [chk_true (by decide), show (2 : Int) ^ (min (8 : Int).toNat 64) = 256 from rfl, wrap64 (n := a) (by omega) (by omega), wrap64 (n := b) (by omega) (by omega), wrap64 (n := a * 256) (by omega) (by omega), wrap64 (n := a * 256 + b) (by omega) (by omega)]
    obtain ⟨n, hn⟩ : ∃ n : Nat, a * 256 + b = (n : Int) := ⟨(a * 256 + b).toNat, by omega⟩
    rw [hn, t_impl_within, wrap64 (n := 4 + (n : Int)) (by omega) (by omega)]
    simp only [Option.bind_some]
    have hu : unfr (a :: b :: c :: d :: t) = if (1 ≤ a * 256 + b ∧ a * 256 + b ≤ 500) ∧ a * 256 + b ≤ t.length ∧ chkB (t.take (a * 256 + b).toNat) = c * 256 + d then some (t.take (a * 256 + b).toNat) else none := rfl
    rw [hu, hn, Int.toNat_natCast]
    by_cases h1 : 1 ≤ (n : Int) ∧ (n : Int) ≤ 500
    · have e : inB (n : Int) 1 500 = true := by unfold inB; rw [decide_eq_true h1.1, decide_eq_true h1.2]; rfl
      rw [e, Bool.not_true, cond_false, Option.bind_some]
      by_cases h2 : (n : Int) ≤ t.length
      · rw [decide_eq_false (show ¬ lenI (a :: b :: c :: d :: t) < 4 + (n : Int) by rw [lenI_eq, hlen]; omega), cond_false, show (4 : Int) + (n : Int) = ((4 + n : Nat) : Int) by omega, hlen, show (some (4 : Int)) = some ((4 : Nat) : Int) from rfl, show (some (2 : Int)) = some ((2 : Nat) : Int) from rfl, chk_true (bnd_nat _ _ _ (by omega) (by omega)), chk_true (bnd_nat _ _ _ (by omega) (by omega)), cutL_nat, cutL_nat]
        rw [show 4 + n - 4 = n by omega, show List.take n (List.drop 4 (a :: b :: c :: d :: t)) = t.take n from rfl, show List.take (4 - 2) (List.drop 2 (a :: b :: c :: d :: t)) = [c, d] from rfl]
        have hk := chkB_ok (byB_take hb n)
        rw [t_impl_CheckOf _ (byB_take hb n) (by rw [List.length_take]; omega), Option.bind_some, t_impl_pair _ hk.1 (by omega), Option.bind_some, t_bytes_Equal [c, d] _ (fun v hv => by
          simp only [List.mem_cons, List.not_mem_nil, or_false] at hv
          rcases hv with rfl | rfl <;> assumption) (fun v hv => by
          simp only [List.mem_cons, List.not_mem_nil, or_false] at hv
          rcases hv with rfl | rfl <;> omega), Option.bind_some]
        by_cases h3 : chkB (t.take n) = c * 256 + d
        · rw [if_pos ⟨h1, h2, h3⟩, h3]
          refine ⟨t.take n, ?_, fun b h => by simpa using h⟩
          rw [show ([c, d] == [(c * 256 + d) / 256, (c * 256 + d) % 256]) = true by
            rw [show (c * 256 + d) / 256 = c by omega, show (c * 256 + d) % 256 = d by omega]; simp]
          rfl
        · rw [if_neg (fun h => h3 h.2.2)]
          refine ⟨t.take n, ?_, fun b h => by cases h⟩
          rw [show ([c, d] == [chkB (t.take n) / 256, chkB (t.take n) % 256]) = false by
            rw [beq_eq_false_iff_ne]
            intro he
            simp only [List.cons.injEq, and_true] at he
            omega]
          rfl
      · rw [decide_eq_true (show lenI (a :: b :: c :: d :: t) < 4 + (n : Int) by rw [lenI_eq, hlen]; omega), cond_true, if_neg (fun h => h2 h.2.1)]
        exact ⟨[], rfl, fun b h => by cases h⟩
    · have e : inB (n : Int) 1 500 = false := by
        unfold inB
        by_cases h2 : 1 ≤ (n : Int)
        · rw [decide_eq_false (show ¬ (n : Int) ≤ 500 by omega), Bool.and_false]
        · rw [decide_eq_false h2]; rfl
      rw [e, Bool.not_false, cond_true, Option.bind_some, cond_true, if_neg (fun h => h1 h.1)]
      exact ⟨[], rfl, fun b h => by cases h⟩

theorem t_bytes_Clone (xs : List Int) (hl : xs.length ≤ 2097152) : m_bytes_Clone xs = some xs := by
  show p_bytes_Clone FU _ = _
  unfold p_bytes_Clone
  refine clone_same xs _ ?_
  rw [chk_true (ble_mem (by unfold maxBytes; simp only [List.length_nil]; omega)), List.nil_append]

theorem t_impl_size_byte (xs : List Int) : m_impl_size_byte xs = some (xs.length : Int) := by
  show p_impl_size_byte FU _ = _
  unfold p_impl_size_byte
  rfl

theorem t_impl_UnframeAll (D : List Int) (hb : byB D) (hl : D.length ≤ 6000) : m_impl_UnframeAll D = some ((0 : Int), (((recsL D).2 : Int), (recsL D).1)) := by
  show p_impl_UnframeAll FU _ = _
  unfold p_impl_UnframeAll l_impl_UnframeAll_1
  rw [decide_eq_false (show ¬ lenI D > 6000 by rw [lenI_eq]; omega), cond_false]
  refine lp_recs D (by omega) (fun s => ((0 : Int), ((s.2 : Int), s.1))) (fun s => ((0 : Int), ((s.2 : Int), s.1))) (fun s hs hn rec => ?_)
  simp only []
  rw [chk_true (bnd_from _ _ hs), cutL_from _ _ hs]
  obtain ⟨y, e1, e2⟩ := t_impl_unframe (D.drop s.2) (byB_drop hb _) (by rw [List.length_drop]; omega)
  rw [e1, Option.bind_some]
  cases hu : unfr (D.drop s.2) with
  | none => rfl
  | some b =>
    obtain ⟨q1, q2, _⟩ := unfr_some hu
    rw [List.length_drop] at q2
    simp only [Option.isSome_some, Bool.not_true, cond_false, e2 b hu]
    rw [t_bytes_Clone b (by omega), Option.bind_some, chk_true (ble_mem (by simp only [List.length_cons, List.length_nil]; unfold maxBytes; omega)), t_impl_size_byte, Option.bind_some, wrap64 (n := 4 + (b.length : Int)) (by omega) (by omega), wrap64 (by omega) (by omega)]
    simp only [Int.natCast_add]
    rfl

theorem t_impl_ReadLog (g : LogT) (hb1 : byB g.1) (hb2 : byB g.2) (hl : g.1.length + g.2.length ≤ 6000) : m_impl_ReadLog g = some ((0 : Int), (((recsL (g.1 ++ g.2)).2 : Int), (recsL (g.1 ++ g.2)).1)) := by
  show p_impl_ReadLog FU _ = _
  unfold p_impl_ReadLog
  rw [t_impl_LogFault g (by omega) (by omega), Option.bind_some, if_neg (by omega)]
  have hf : [g.1, g.2].flatten = g.1 ++ g.2 := by simp
  rw [show (!((0 : Int) == 0)) = false from rfl, cond_false, t_slices_Concat_byte_byte [g.1, g.2] (by simp) (by rw [hf, List.length_append]; omega), Option.bind_some, hf, t_impl_UnframeAll _ (byB_app hb1 hb2) (by rw [List.length_append]; omega), Option.bind_some]

theorem t_impl_UnpackNumber (bs : List Int) (h : bs.length = 8) : m_impl_UnpackNumber bs = some ((0 : Int), numB bs) := by
  show p_impl_UnpackNumber FU _ = _
  unfold p_impl_UnpackNumber l_impl_UnpackNumber_1 numB
  rw [show (lenI bs == 8) = true by rw [lenI_eq, h]; rfl, Bool.not_true, cond_false]
  refine lp_fold bs numF (fun i s => (s, (i : Int))) (fun s => some ((0 : Int), IntKind.wrap .i64 s)) (by unfold B36; omega) (fun i hi s rec hw => ?_) (fun s rec => ?_) 0
  · simp only [lt_lenI hi, cond_true, geti_lt bs i hi, Option.bind_some, hw]
    rw [chk_true (by decide)]
    rfl
  · simp only [ge_lenI, cond_false]

theorem t_impl_takeText (d : List Int) (hb : byB d) (hl : d.length ≤ 1048576) : m_impl_takeText d = some (match takeT d with
    | some (t, r) => (t, (r, true))
    | none => ((⟨#[]⟩ : ByteArray), (([] : List Int), false))) := by
  show p_impl_takeText FU _ = _
  unfold p_impl_takeText
  cases d with
  | nil => rfl
  | cons a t =>
    obtain ⟨ha, hbt⟩ := byB_cons hb
    have hlen : (a :: t).length = t.length + 1 := rfl
    rw [hlen] at hl
    rw [show (lenI (a :: t) == 0) = false by rw [lenI_eq, hlen, beq_eq_false_iff_ne]; omega, cond_false, show geti (a :: t) 0 = some a from rfl]
    simp only [Option.bind_some]
    rw [wrap64 (n := a) (by omega) (by omega), wrap64 (n := 1 + a) (by omega) (by omega)]
    simp only [takeT]
    by_cases h : (t.length : Int) < a
    · rw [decide_eq_true (show lenI (a :: t) < 1 + a by rw [lenI_eq, hlen]; omega), cond_true, if_pos h]
    · rw [decide_eq_false (show ¬ lenI (a :: t) < 1 + a by rw [lenI_eq, hlen]; omega), cond_false, if_neg h]
      obtain ⟨n, hn⟩ : ∃ n : Nat, a = (n : Int) := ⟨a.toNat, by omega⟩
      subst hn
      rw [show (1 : Int) + (n : Int) = ((1 + n : Nat) : Int) by omega, show (some (1 : Int)) = some ((1 : Nat) : Int) from rfl, hlen, chk_true (bnd_nat _ _ _ (by omega) (by omega)), chk_true (bnd_from _ _ (by omega)), cutL_nat, cutL_from _ _ (by rw [hlen]; omega), show 1 + n - 1 = n by omega, show 1 + n = n + 1 by omega, Int.toNat_natCast]
      rfl

theorem t_impl_takeWrite (d : List Int) (hd : d ≠ []) (hb : byB d) (hl : d.length ≤ 1048576) : ∃ y, m_impl_takeWrite d = some y ∧ y.2.2 = (takeW d).isSome ∧ ∀ w r, takeW d = some (w, r) → y = (w, (r, true)) := by
  show ∃ y, p_impl_takeWrite FU _ = _ ∧ _
  unfold p_impl_takeWrite
  cases d with
  | nil => exact absurd rfl hd
  | cons f t =>
    obtain ⟨hf, hbt⟩ := byB_cons hb
    have hlen : (f :: t).length = t.length + 1 := rfl
    rw [hlen] at hl
    rw [show geti (f :: t) 0 = some f from rfl]
    simp only [Option.bind_some, takeW]
    by_cases h1 : f > 1
    · rw [decide_eq_true h1, cond_true, if_pos h1]
      exact ⟨_, rfl, rfl, fun w r h => by cases h⟩
    · rw [decide_eq_false h1, cond_false, if_neg h1, show (some (1 : Int)) = some ((1 : Nat) : Int) from rfl, hlen, chk_true (bnd_from _ _ (by omega)), cutL_from _ _ (by rw [hlen]; omega), show (f :: t).drop 1 = t from rfl, t_impl_takeText t hbt (by omega)]
      cases ht : takeT t with
      | none =>
        exact ⟨_, rfl, rfl, fun w r h => by cases h⟩
      | some p =>
        obtain ⟨k, r1⟩ := p
        simp only [Option.bind_some, cond_true]
        by_cases h2 : f = 1
        · rw [h2, beq_self_eq_true, Bool.not_true, cond_false, if_pos rfl]
          exact ⟨_, rfl, rfl, fun w r h => by
            simp only [Option.some.injEq, Prod.mk.injEq] at h
            rw [← h.1, ← h.2]⟩
        · rw [show (f == 1) = false from beq_eq_false_iff_ne.2 h2, Bool.not_false, cond_true, if_neg h2]
          obtain ⟨i, hi, _, _⟩ := takeT_len hbt ht
          rw [t_impl_takeText r1 (by rw [hi]; exact byB_drop hbt i) (by rw [hi, List.length_drop]; omega)]
          cases ht2 : takeT r1 with
          | none => exact ⟨_, rfl, rfl, fun w r h => by cases h⟩
          | some p =>
            obtain ⟨v, r2⟩ := p
            exact ⟨_, rfl, rfl, fun w r h => by
              simp only [Option.some.injEq, Prod.mk.injEq] at h
              rw [← h.1, ← h.2]⟩

theorem t_impl_size_impl_Write (ws : List WriteT) : m_impl_size_impl_Write ws = some (ws.length : Int) := by
  show p_impl_size_impl_Write FU _ = _
  unfold p_impl_size_impl_Write
  rfl

theorem t_impl_Write_row (w : WriteT) (v : Int) : m_impl_Write_row (w, v) = some (w.1, (v, w.2)) := by
  show p_impl_Write_row FU _ = _
  unfold p_impl_Write_row
  rfl

theorem t_impl_PackNumber (v : Int) (h0 : 0 ≤ v) : m_impl_PackNumber v = some (num8 v) := by
  show p_impl_PackNumber FU _ = _
  unfold p_impl_PackNumber l_impl_PackNumber_1
  rw [if_pos rfl, if_pos (by omega), chk_true (by decide)]
  refine lp_for (fun r => r = some (num8 v)) (fun i z => z = ((i : Int), (num8 v).take i ++ List.replicate ((num8 v).length - i) (0 : Int))) 8 (fun i z hi hz => ?_) (fun z hz rec => ?_) FU _ (by unfold FU; omega) (by rw [num8_len]; rfl)
  · subst hz
    refine .inr ⟨_, rfl, fun rec => ?_⟩
    have hg : i < (num8 v).length := by rw [num8_len]; exact hi
    have hlen : i < ((num8 v).take i ++ List.replicate ((num8 v).length - i) (0 : Int)).length := by rw [List.length_append, List.length_take, List.length_replicate, num8_len]; omega
    simp only []
    rw [decide_eq_true (show (i : Int) < lenI (List.replicate (8 : Int).toNat (0 : Int)) by rw [lenI_eq, List.length_replicate]; omega), cond_true, wrap64 (n := 8 * (i : Int)) (by omega) (by omega), wrap64 (n := 56 - 8 * (i : Int)) (by omega) (by omega), chk_true (decide_eq_true (by omega)), geti_lt _ i hlen, Option.bind_some, Int.toNat_natCast, List.getElem?_eq_getElem hlen, Option.bind_some, nxt (by unfold B36; omega), ← set_step (num8 v) 0 i hg, num8_get, show min (56 - 8 * (i : Int)).toNat 64 = 8 * (7 - i) by omega, Int.fdiv_eq_ediv_of_nonneg _ (Int.le_of_lt (Int.pow_pos (by omega))), wrapu8 (Int.ediv_nonneg h0 (Int.le_of_lt (Int.pow_pos (by omega))))]
  · subst hz
    rw [num8_len, List.take_of_length_le (by rw [num8_len]; omega)]
    simp only [Nat.sub_self, List.replicate_zero, List.append_nil]
    rfl

theorem t_impl_PackText (t : ByteArray) : m_impl_PackText t = some (if t.size > 200 then 2 else 0, pT t) := by
  show p_impl_PackText FU _ = _
  unfold p_impl_PackText pT
  by_cases h : t.size > 200
  · rw [if_pos h, if_pos h, decide_eq_true (by omega)]; rfl
  · rw [if_neg h, if_neg h, decide_eq_false (by omega), cond_false, chk_true (by rw [Nat.ble_eq]; simp only [List.length_cons, List.length_nil]; unfold maxBytes; omega), wrapu8 (by omega), Int.emod_eq_of_lt (by omega) (by omega)]
    rfl

theorem t_impl_packWrites (v : Int) (ws : List WriteT) (h0 : 0 ≤ v) (hl : ws.length ≤ 1048576) : m_impl_packWrites (v, ws) = some (packL v ws) := by
  show p_impl_packWrites FU _ = _
  unfold p_impl_packWrites l_impl_packWrites_1 packL
  simp only
  rw [t_impl_PackNumber v h0, Option.bind_some]
  refine Eq.trans (lp_foldI ws packF (fun i s => (s, (i : Int))) (fun s => some s) (fun i s => s.length ≤ 8 + 403 * i) (by unfold B36; omega) (num8 v) (by rw [num8_len]; omega) (fun i hi s hs => ?_) (fun s hs rec => ?_)).1 rfl
  · have hp := packOne_len ws[i]
    refine ⟨by unfold packF; rw [List.length_append]; omega, fun rec => ?_⟩
    have q1 := pT_len ws[i].1
    have q2 := pT_len ws[i].2.1
    simp only [lt_lenI hi, cond_true, geti_lt ws i hi, Option.bind_some, t_impl_PackText]
    rw [nxt (by unfold B36; omega)]
    unfold packF packOne
    cases ws[i].2.2
    · simp only [cond_false, cond_true, Bool.not_false, Option.bind_some]
      rw [chk_true (ble_mem (by simp only [List.length_cons, List.length_nil]; unfold maxBytes; omega)), chk_true (ble_mem (by simp only [List.length_append, List.length_cons, List.length_nil]; unfold maxBytes; omega)), chk_true (ble_mem (by simp only [List.length_append, List.length_cons, List.length_nil]; unfold maxBytes; omega))]
      simp only [List.append_assoc]
    · simp only [cond_false, cond_true, Bool.not_true, Option.bind_some]
      rw [chk_true (ble_mem (by simp only [List.length_cons, List.length_nil]; unfold maxBytes; omega)), chk_true (ble_mem (by simp only [List.length_append, List.length_cons, List.length_nil]; unfold maxBytes; omega))]
      simp only [List.append_assoc, List.append_nil]
  · simp only [ge_lenI, cond_false]

theorem t_impl_WritesFault_1 (ws : List WriteT) (i : Nat) (hi : i ≤ ws.length) (hl : ws.length ≤ 1048576) (k : ByteArray) : ∃ j : Int, l_impl_WritesFault_1 FU (i : Int) ws k 0 = some j ∧ decide (j ≥ 0) = (ws.take i).any fun u => u.1.toList == k.toList := by
  unfold l_impl_WritesFault_1
  have hlen : (ws.take i).length = i := by rw [List.length_take]; omega
  have hc : cutL none (some (i : Int)) ws = ws.take i := by simp [cutL]
  rw [hc, lp_place (ws.take i) (fun u => u.1.toList == k.toList) (fun j => some (j : Int)) (some (-1)) (by unfold B36; omega) (fun j hj rec hw => by simp only [lt_lenI hj, cond_true, geti_lt _ j hj, Option.bind_some, hw]) (fun rec => by simp only [ge_lenI, cond_false])]
  cases hf : (ws.take i).findIdx? fun u => u.1.toList == k.toList with
  | none => exact ⟨-1, rfl, by
      rw [List.findIdx?_eq_none_iff] at hf
      symm
      rw [show decide ((-1 : Int) ≥ 0) = false from rfl, List.any_eq_false]
      intro u hu
      rw [hf u hu]; decide⟩
  | some j => exact ⟨(j : Int), rfl, by
      obtain ⟨hj, hp, _⟩ := List.findIdx?_eq_some_iff_getElem.1 hf
      rw [decide_eq_true (by omega)]
      exact (List.any_eq_true.2 ⟨_, List.getElem_mem hj, hp⟩).symm⟩
theorem t_impl_WritesFault (ws : List WriteT) (hl : ws.length ≤ 1048576) : m_impl_WritesFault ws = some (wrC ws) := by
  show p_impl_WritesFault FU _ = _
  unfold p_impl_WritesFault wrC
  rw [t_impl_size_impl_Write, Option.bind_some, t_impl_within, Option.bind_some]
  by_cases h1 : ws.length < 1 ∨ ws.length > 8
  · have e : inB (ws.length : Int) 1 8 = false := by
      unfold inB
      rcases h1 with h1 | h1
      · rw [decide_eq_false (show ¬ (1 : Int) ≤ (ws.length : Int) by omega)]; rfl
      · rw [decide_eq_false (show ¬ (ws.length : Int) ≤ 8 by omega), Bool.and_false]
    rw [if_pos h1, e]; rfl
  · have e : inB (ws.length : Int) 1 8 = true := by
      unfold inB
      rw [decide_eq_true (show (1 : Int) ≤ (ws.length : Int) by omega), decide_eq_true (show (ws.length : Int) ≤ 8 by omega)]; rfl
    rw [if_neg h1, e, Bool.not_true, cond_false]
    have e : l_impl_WritesFault_2 FU ws 0 = match fstI (fun i y => (wrStep ws i y).map (Sum.inr (α := Unit))) 0 ws with
        | some r => some r
        | none => some (Sum.inl ()) := by
      unfold l_impl_WritesFault_2
      refine (lp_fst ws (fun i y => (wrStep ws i y).map (Sum.inr (α := Unit))) (some (Sum.inl ())) (by unfold B36; omega) (fun i hi rec hw => ?_) (fun rec => ?_)).trans (by cases fstI (fun i y => (wrStep ws i y).map (Sum.inr (α := Unit))) 0 ws <;> rfl)
      · simp only [lt_lenI hi, cond_true, geti_lt ws i hi, Option.bind_some, t_impl_RowFault, t_impl_Write_row, wrStep, hw]
        cases (rowC (ws[i].1, (1, ws[i].2)) == 0)
        · rfl
        · simp only [Bool.not_true, cond_false]
          obtain ⟨j, q1, q2⟩ := t_impl_WritesFault_1 ws i (by omega) hl ws[i].1
          rw [chk_true (by simp [bndB]; omega), q1, Option.bind_some, q2]
          cases ((ws.take i).any fun u => u.1.toList == ws[i].1.toList) <;> rfl
      · simp only [ge_lenI, cond_false]
    rw [e, fstI_map]
    cases fstI (wrStep ws) 0 ws with
    | some r => rfl
    | none =>
      simp only [Option.map_none, Option.bind_some, Sum.elim_inl]
      rw [t_impl_packWrites 1 ws (by omega) hl, Option.bind_some]
      by_cases h : (packL 1 ws).length > 500
      · rw [if_pos h, decide_eq_true (by rw [lenI_eq]; omega), cond_true]
      · rw [if_neg h, decide_eq_false (by rw [lenI_eq]; omega), cond_false]

theorem t_impl_PackWrites (v : Int) (ws : List WriteT) (hl : ws.length ≤ 1048576) : m_impl_PackWrites (v, ws) = some (packW v ws) := by
  show p_impl_PackWrites FU _ = _
  unfold p_impl_PackWrites packW
  simp only [t_impl_isVersion, Option.bind_some, t_impl_WritesFault ws hl]
  cases h : inB v 1 1000000
  · rfl
  · unfold inB at h
    simp only [Bool.and_eq_true, decide_eq_true_eq] at h
    rw [t_impl_packWrites v ws (by omega) hl]
    simp only [Bool.not_true, cond_false, Option.bind_some]
    cases (wrC ws == 0) <;> rfl

theorem t_impl_unpackWrites (x : List Int) (hb : byB x) (hl : x.length ≤ 1048576) : m_impl_unpackWrites x = some (unpR x) := by
  show p_impl_unpackWrites FU _ = _
  unfold p_impl_unpackWrites unpR
  by_cases h8 : x.length < 8
  · rw [if_pos h8, decide_eq_true (show lenI x < 8 by rw [lenI_eq]; omega), cond_true]
  · rw [if_neg h8, decide_eq_false (show ¬ lenI x < 8 by rw [lenI_eq]; omega), cond_false, show (some (8 : Int)) = some ((8 : Nat) : Int) from rfl, chk_true (by simp [bndB]; omega), show cutL none (some ((8 : Nat) : Int)) x = x.take 8 by simp [cutL], t_impl_UnpackNumber _ (by rw [List.length_take]; omega), Option.bind_some, chk_true (bnd_from _ _ (by omega)), cutL_from _ _ (by omega)]
    have e : l_impl_unpackWrites_1 FU (([] : List WriteT), x.drop 8) = (wrsL (x.drop 8)).elim (some (Sum.inr ((0 : Int), ([], false)))) (fun ws => some (Sum.inl ws)) := by
      unfold l_impl_unpackWrites_1
      refine lp_wrs (x.drop 8) (byB_drop hb 8) (by rw [List.length_drop]; omega) (fun s => s) (fun o => o.elim (some (Sum.inr ((0 : Int), (([] : List WriteT), false)))) (fun ws => some (Sum.inl ws))) (fun s hs rec => ?_)
      obtain ⟨k, hk1, hk2, hk3⟩ := hs
      rw [List.length_drop] at hk2
      by_cases hd : s.2 = []
      · rw [if_pos hd, hd, decide_eq_false (show ¬ lenI ([] : List Int) > 0 by rw [lenI_eq]; simp), cond_false]
        rfl
      · have hpos : 0 < s.2.length := List.length_pos_iff.2 hd
        have hls : s.2.length ≤ x.length := by rw [hk1, List.length_drop, List.length_drop]; omega
        obtain ⟨y, q1, q2, q3⟩ := t_impl_takeWrite s.2 hd (by rw [hk1]; exact byB_drop (byB_drop hb 8) k) (by omega)
        rw [if_neg hd, decide_eq_true (show lenI s.2 > 0 by rw [lenI_eq]; omega), cond_true, q1, Option.bind_some, q2]
        cases ht : takeW s.2 with
        | none => rfl
        | some p =>
          obtain ⟨w, r⟩ := p
          rw [q3 w r ht]
          simp only [Option.isSome_some, Bool.not_true, cond_false]
          rw [chk_true (ble_mem (by simp only [List.length_cons, List.length_nil]; unfold maxBytes; omega))]
    have e' : l_impl_unpackWrites_1 FU (([] : List (ByteArray × (ByteArray × Bool))), x.drop 8) = _ := e
    rw [e']
    cases hw : wrsL (x.drop 8) with
    | none => rfl
    | some ws =>
      simp only [Option.elim_some, Option.bind_some, Sum.elim_inl]
      have hlw : ws.length ≤ 1048576 := by
        have := wrsL_len (byB_drop hb 8) hw
        rw [List.length_drop] at this; omega
      rw [t_impl_PackWrites _ ws hlw, Option.bind_some]
      cases hz : ((packW (numB (x.take 8)) ws).1 == 0) with
      | false => rfl
      | true =>
        have := unp_same hb h8 hw (beq_iff_eq.1 hz)
        rw [cond_true, this, t_bytes_Equal x x hb hb, Option.bind_some, beq_self_eq_true]

theorem t_impl_rowsOf (v : Int) (ws : List WriteT) (hl : ws.length ≤ 1048576) : m_impl_rowsOf (v, ws) = some (rowsW v ws) := by
  show p_impl_rowsOf FU _ = _
  unfold p_impl_rowsOf l_impl_rowsOf_1
  have key := lp_foldI ws (fun (s : List RowT) w => s ++ [(w.1, (v, w.2))]) (fun i s => (s, (i : Int))) (fun s => some s) (fun i s => s = rowsW v (ws.take i)) (by unfold B36; omega) [] rfl (step := fun (rec5 : List RowT × Int → Option (List RowT)) (z4 : List RowT × Int) =>
 (cond (decide (z4.2 < (lenI ws)))
  ((geti ws z4.2).bind fun y6 =>
  ((m_impl_Write_row (y6, v)).bind fun r7 =>
  (chk (Nat.ble ((z4.1.length + [r7].length) * 48) maxBytes)
  (rec5 ((z4.1 ++ [r7]), IntKind.wrap .i64 (z4.2 + (1 : Int)))))))
  (some z4.1))) (fun i hi s hs => by
    refine ⟨by rw [hs, List.take_succ_eq_append_getElem hi]; unfold rowsW; rw [List.map_append]; rfl, fun rec => ?_⟩
    simp only [lt_lenI hi, cond_true, geti_lt ws i hi, Option.bind_some, t_impl_Write_row]
    rw [chk_true (ble_mem (by rw [hs]; simp only [rowsW, List.length_map, List.length_take, List.length_cons, List.length_nil]; unfold maxBytes; omega)), nxt (by unfold B36; omega)]) (fun s hs rec => by simp only [ge_lenI, cond_false])
  refine key.1.trans ?_
  rw [key.2, List.take_length]

theorem t_impl_logRows (g : LogT) (nx : Int) (hb1 : byB g.1) (hb2 : byB g.2) (hl : g.1.length + g.2.length ≤ 6000) : m_impl_logRows (g, nx) = some (logR g nx) := by
  show p_impl_logRows FU _ = _
  unfold p_impl_logRows logR
  have hb := byB_app hb1 hb2
  have hlD : (g.1 ++ g.2).length ≤ 6000 := by rw [List.length_append]; omega
  simp only
  rw [t_impl_ReadLog g hb1 hb2 hl, Option.bind_some, t_impl_size_byte, Option.bind_some, t_impl_size_byte, Option.bind_some, wrap64 (by omega) (by omega)]
  obtain ⟨q1, q2, q3⟩ := recsL_ok hb
  rw [List.length_append] at q1
  by_cases hu : (recsL (g.1 ++ g.2)).2 < g.1.length + g.2.length
  · rw [if_pos hu, show (((recsL (g.1 ++ g.2)).2 : Int) == (g.1.length : Int) + (g.2.length : Int)) = false by rw [beq_eq_false_iff_ne]; omega, Bool.not_false, cond_true]
  · rw [if_neg hu, show (((recsL (g.1 ++ g.2)).2 : Int) == (g.1.length : Int) + (g.2.length : Int)) = true by rw [beq_iff_eq]; omega, Bool.not_true, cond_false]
    have key : l_impl_logRows_1 FU (recsL (g.1 ++ g.2)).1 nx (([] : List RowT), ((0 : Int), (0 : Int))) = ((recsL (g.1 ++ g.2)).1.foldlM (logF nx) ([], 0)).elim (some (Sum.inr (([] : List RowT), false))) (fun s => some (Sum.inl s.1)) ∧ ∀ s, (recsL (g.1 ++ g.2)).1.foldlM (logF nx) ([], 0) = some s → logI (recsL (g.1 ++ g.2)).1.length s := by
      unfold l_impl_logRows_1
      refine lp_opt (recsL (g.1 ++ g.2)).1 (logF nx) (fun i s => (s.1, (s.2, (i : Int)))) (fun s => some (Sum.inl s.1)) (some (Sum.inr ([], false))) logI (by unfold B36; omega) ([], 0) ⟨by simp, by simp, by simp⟩ (fun i hi s hs => ⟨fun rec => ?_, fun s' h => (logI_next hs h).1⟩) (fun s hs rec => ?_)
      · obtain ⟨w1, w2⟩ := q3 _ (List.getElem_mem hi)
        simp only [lt_lenI hi, cond_true, geti_lt _ i hi, Option.bind_some, Int.toNat_natCast, List.getElem?_eq_getElem hi]
        rw [t_impl_unpackWrites _ w2 (by omega), Option.bind_some, nxt (by unfold B36; omega)]
        unfold logF
        cases h1 : (unpR (recsL (g.1 ++ g.2)).1[i]).2.2 with
        | false => rfl
        | true =>
          have hok := (wrC_zero (unpR_ok h1).2).1
          simp only [Bool.not_true, cond_false, Bool.false_or]
          cases h2 : decide ((unpR (recsL (g.1 ++ g.2)).1[i]).1 ≥ nx) with
          | true => rfl
          | false =>
            cases h3 : decide ((unpR (recsL (g.1 ++ g.2)).1[i]).1 ≤ s.2) with
            | true => rfl
            | false =>
              have h5 := hs.1
              simp only [cond_false, Option.bind_some, Bool.or_false]
              rw [t_impl_rowsOf _ _ (by omega), Option.bind_some, chk_true (ble_mem (by simp only [rowsW, List.length_map]; unfold maxBytes; omega)), Option.elim_some]
      · simp only [ge_lenI, cond_false]
    have k1 : l_impl_logRows_1 FU (recsL (g.1 ++ g.2)).1 nx (([] : List (ByteArray × (Int × (ByteArray × Bool)))), ((0 : Int), (0 : Int))) = _ := key.1
    rw [k1]
    cases hf : (recsL (g.1 ++ g.2)).1.foldlM (logF nx) ([], 0) with
    | none => rfl
    | some s =>
      have hI := key.2 s hf
      simp only [Option.elim_some, Option.bind_some, Sum.elim_inl]
      have hsort : m_slices_SortFunc_impl_Row_impl_Row (s.1, true) = some (s.1.foldl putL []) := by
        show p_slices_SortFunc_impl_Row_impl_Row FU _ = _
        unfold p_slices_SortFunc_impl_Row_impl_Row
        exact sort_put (rs := s.1) (by have := hI.1; omega) hI.2.1
      rw [hsort, Option.bind_some]

theorem t_slices_Equal_impl_Row_impl_Row (xs ys : List RowT) (hl : xs.length ≤ 1048576) : m_slices_Equal_impl_Row_impl_Row (xs, ys) = some (sameR xs ys) := by
  show p_slices_Equal_impl_Row_impl_Row FU _ = _
  unfold p_slices_Equal_impl_Row_impl_Row sameR
  by_cases he : xs.length = ys.length
  · have hz : (xs.zip ys).length = xs.length := by rw [List.length_zip]; omega
    simp only
    rw [show (lenI xs == lenI ys) = true by rw [lenI_eq, lenI_eq, he]; simp, Bool.not_true, cond_false, Bool.true_and]
    unfold l_slices_Equal_impl_Row_impl_Row_1
    refine (lp_hit (xs.zip ys) (fun p => !(rowE p.1 p.2)) (some false) (some true) (by unfold B36; omega) (fun i hi rec hw => ?_) (fun rec => ?_)).trans (by cases (xs.zip ys).any fun p => !(rowE p.1 p.2) <;> rfl)
    · have hx : i < xs.length := by omega
      have hy : i < ys.length := by omega
      simp only [lt_lenI hx, cond_true, geti_lt xs i hx, geti_lt ys i hy, Option.bind_some, hw, List.getElem_zip]
      rfl
    · rw [hz]; simp only [ge_lenI, cond_false]
  · simp only
    rw [show (lenI xs == lenI ys) = false by rw [lenI_eq, lenI_eq, beq_eq_false_iff_ne]; omega]
    rfl

theorem t_impl_EngineFault (e : EngT) (hb1 : byB e.1.1) (hb2 : byB e.1.2) (h1 : e.1.1.length ≤ 1048576) (h2 : e.1.2.length ≤ 1048576) : m_impl_EngineFault e = some (engC e) := by
  show p_impl_EngineFault FU _ = _
  unfold p_impl_EngineFault engC
  rw [t_impl_LogFault e.1 h1 h2, Option.bind_some, t_impl_TableFault, Option.bind_some, t_impl_firstOf, Option.bind_some]
  by_cases c1 : e.1.1.length + e.1.2.length > 6000
  · rw [if_pos c1, if_pos c1]; rfl
  rw [if_neg c1, if_neg c1, if_pos rfl]
  by_cases c2 : tabC e.2.1 = 0
  case neg => rw [if_pos c2, show (tabC e.2.1 == 0) = false from beq_eq_false_iff_ne.2 c2]; rfl
  rw [if_neg (fun h => h c2), c2, show (!((0 : Int) == 0)) = false from rfl, cond_false]
  obtain ⟨hl0, hrow⟩ := tabC_zero c2
  by_cases c3 : e.2.2.1.length > 6
  · rw [if_pos c3, decide_eq_true (by rw [lenI_eq]; omega), cond_true]
  rw [if_neg c3, decide_eq_false (by rw [lenI_eq]; omega), cond_false]
  have e1 : l_impl_EngineFault_1 FU e.2.2.1 0 = match fstI (fun i t => (cond (!(tabC t == 0)) (some (tabC t)) none).map (Sum.inr (α := Unit))) 0 e.2.2.1 with
      | some r => some r
      | none => some (Sum.inl ()) := by
    unfold l_impl_EngineFault_1
    refine (lp_fst e.2.2.1 (fun i t => (cond (!(tabC t == 0)) (some (tabC t)) none).map (Sum.inr (α := Unit))) (some (Sum.inl ())) (by unfold B36; omega) (fun i hi rec hw => ?_) (fun rec => ?_)).trans (by cases fstI (fun i t => (cond (!(tabC t == 0)) (some (tabC t)) none).map (Sum.inr (α := Unit))) 0 e.2.2.1 <;> rfl)
    · simp only [lt_lenI hi, cond_true, geti_lt _ i hi, Option.bind_some, t_impl_TableFault, hw]
      cases (tabC e.2.2.1[i] == 0) <;> rfl
    · simp only [ge_lenI, cond_false]
  rw [e1, fstI_map (fun _ t => cond (!(tabC t == 0)) (some (tabC t)) none) (Sum.inr (α := Unit))]
  cases hf : fstI (fun _ t => cond (!(tabC t == 0)) (some (tabC t)) none) 0 e.2.2.1 with
  | some r => rfl
  | none =>
    have htab : ∀ t ∈ e.2.2.1, t.length ≤ 200 := tabs_len hf
    have hfl : e.2.2.1.flatten.length ≤ 200 * e.2.2.1.length := flat_len htab
    simp only [Option.map_none, Option.bind_some, Sum.elim_inl, Option.getD_none]
    rw [t_slices_Concat_impl_Row_impl_Row _ (by omega) (by omega), Option.bind_some, t_impl_greatest _ (by omega), Option.bind_some, t_impl_isVersion, Option.bind_some]
    cases hin : inB e.2.2.2 1 1000000 with
    | false => rfl
    | true =>
      simp only [Bool.not_true, cond_false, Bool.false_or]
      rw [t_impl_greatest _ (by omega), Option.bind_some, Option.bind_some]
      have hpos : 0 < e.2.2.2 := by
        unfold inB at hin
        simp only [Bool.and_eq_true, decide_eq_true_eq] at hin
        omega
      have hmax : decide ((if maxV e.2.1 > maxV e.2.2.1.flatten then maxV e.2.1 else maxV e.2.2.1.flatten) ≥ e.2.2.2) = (!(belowB e.2.1 e.2.2.2) || (e.2.2.1.any fun t => !(belowB t e.2.2.2))) := by
        have m1 := maxV_lt e.2.1 e.2.2.2
        have m2 := maxV_lt e.2.2.1.flatten e.2.2.2
        rw [below_flat] at m2
        generalize maxV e.2.1 = a at *
        generalize maxV e.2.2.1.flatten = b at *
        cases hbo : belowB e.2.1 e.2.2.2 <;> cases hany : (e.2.2.1.any fun t => !(belowB t e.2.2.2)) <;> simp only [hbo, hany, Bool.not_true, Bool.not_false, Bool.or_true, Bool.or_false, Bool.false_eq_true, and_false, and_true, iff_false] at m1 m2 ⊢ <;> (first | (apply decide_eq_true; split <;> omega) | (apply decide_eq_false; split <;> omega))
      rw [hmax]
      cases (!(belowB e.2.1 e.2.2.2) || (e.2.2.1.any fun t => !(belowB t e.2.2.2))) with
      | true => rfl
      | false =>
        simp only [cond_false]
        rw [t_impl_logRows e.1 e.2.2.2 hb1 hb2 (by omega), Option.bind_some]
        have hlr := logR_len e.1 e.2.2.2 (by omega)
        cases hlo : (logR e.1 e.2.2.2).2 with
        | false => rfl
        | true =>
          simp only [Bool.not_true, cond_false, Bool.false_or]
          rw [t_slices_Equal_impl_Row_impl_Row _ _ (by omega), Option.bind_some]
          cases hsm : sameR (logR e.1 e.2.2.2).1 e.2.1 with
          | false => rfl
          | true =>
            simp only [Bool.not_true, cond_false]
            have e2 : ∃ j : Int, l_impl_EngineFault_2 FU e.2.1 (maxV e.2.2.1.flatten) 0 = some j ∧ decide (j ≥ 0) = e.2.1.any fun y => decide (y.2.1 ≤ maxV e.2.2.1.flatten) := by
              unfold l_impl_EngineFault_2
              rw [lp_place e.2.1 (fun y => decide (y.2.1 ≤ maxV e.2.2.1.flatten)) (fun j => some (j : Int)) (some (-1)) (by unfold B36; omega) (fun j hj rec hw => by simp only [lt_lenI hj, cond_true, geti_lt _ j hj, Option.bind_some, hw]) (fun rec => by simp only [ge_lenI, cond_false])]
              cases hq : e.2.1.findIdx? fun y => decide (y.2.1 ≤ maxV e.2.2.1.flatten) with
              | none => exact ⟨-1, rfl, by
                  rw [List.findIdx?_eq_none_iff] at hq
                  symm
                  rw [show decide ((-1 : Int) ≥ 0) = false from rfl, List.any_eq_false]
                  intro u hu
                  rw [hq u hu]; decide⟩
              | some j => exact ⟨(j : Int), rfl, by
                  obtain ⟨hj, hp, _⟩ := List.findIdx?_eq_some_iff_getElem.1 hq
                  rw [decide_eq_true (by omega)]
                  exact (List.any_eq_true.2 ⟨_, List.getElem_mem hj, hp⟩).symm⟩
            obtain ⟨j, q1, q2⟩ := e2
            rw [q1, Option.bind_some, q2, Option.bind_some, old_same hrow]
            cases e.2.1.any fun y => e.2.2.1.any fun t => !(belowB t y.2.1) <;> rfl

theorem t_impl_frame (p : List Int) (hb : byB p) (hl : p.length ≤ 500) : m_impl_frame p = some (frameD p) := by
  show p_impl_frame FU _ = _
  unfold p_impl_frame frameD
  have hk := chkB_ok hb
  rw [t_impl_size_byte, Option.bind_some, t_impl_pair _ (by omega) (by omega), Option.bind_some, t_impl_CheckOf p hb (by omega), Option.bind_some, t_impl_pair _ hk.1 (by omega), Option.bind_some, chk_true (ble_mem (by simp only [List.length_cons, List.length_nil]; unfold maxBytes; omega)), chk_true (ble_mem (by simp only [List.length_append, List.length_cons, List.length_nil]; unfold maxBytes; omega))]

theorem t_impl_FrameRecord (p : List Int) (hb : byB p) (h1 : 1 ≤ p.length) (hl : p.length ≤ 500) : m_impl_FrameRecord p = some ((0 : Int), frameD p) := by
  show p_impl_FrameRecord FU _ = _
  unfold p_impl_FrameRecord
  have e : inB (p.length : Int) 1 500 = true := by
    unfold inB
    rw [decide_eq_true (show (1 : Int) ≤ (p.length : Int) by omega), decide_eq_true (show (p.length : Int) ≤ 500 by omega)]; rfl
  rw [t_impl_size_byte, Option.bind_some, t_impl_within, Option.bind_some, e, Bool.not_true, cond_false, t_impl_frame p hb hl, Option.bind_some]

theorem t_impl_copyLog (g : LogT) (h1 : g.1.length ≤ 1048576) (h2 : g.2.length ≤ 1048576) : m_impl_copyLog g = some g := by
  show p_impl_copyLog FU _ = _
  unfold p_impl_copyLog
  rw [t_bytes_Clone _ (by omega), Option.bind_some, t_bytes_Clone _ (by omega), Option.bind_some]

theorem t_impl_AppendLog (g : LogT) (p : List Int) (hb : byB p) (h1 : 1 ≤ p.length) (hl : p.length ≤ 500) (hg : g.1.length + g.2.length ≤ 6000) : m_impl_AppendLog (g, p) = some (cond (decide (g.1.length + (g.2 ++ frameD p).length > 6000)) (2, ([], [])) (0, (g.1, g.2 ++ frameD p))) := by
  show p_impl_AppendLog FU _ = _
  unfold p_impl_AppendLog
  have hf := frameD_len p
  simp only
  rw [t_impl_FrameRecord p hb h1 hl, Option.bind_some, t_impl_LogFault g (by omega) (by omega), Option.bind_some, t_impl_firstOf, Option.bind_some, if_neg (show ¬ g.1.length + g.2.length > 6000 by omega), if_pos rfl, show (!((0 : Int) == 0)) = false from rfl, cond_false, t_impl_copyLog g (by omega) (by omega), Option.bind_some, chk_true (ble_mem (by simp only; unfold maxBytes; omega)), t_impl_LogFault _ (by simp only; omega) (by simp only [List.length_append]; omega), Option.bind_some]
  simp only
  by_cases hbig : g.1.length + (g.2 ++ frameD p).length > 6000
  · rw [if_pos hbig, decide_eq_true hbig]; rfl
  · rw [if_neg hbig, decide_eq_false hbig]; rfl

theorem t_impl_SyncLog (g : LogT) (hg : g.1.length + g.2.length ≤ 6000) : m_impl_SyncLog g = some ((0 : Int), (g.1 ++ g.2, [])) := by
  show p_impl_SyncLog FU _ = _
  unfold p_impl_SyncLog
  have hf : [g.1, g.2].flatten = g.1 ++ g.2 := by simp
  rw [t_impl_LogFault g (by omega) (by omega), Option.bind_some, if_neg (by omega), show (!((0 : Int) == 0)) = false from rfl, cond_false, t_slices_Concat_byte_byte [g.1, g.2] (by simp) (by rw [hf, List.length_append]; omega), Option.bind_some, hf]

theorem t_slices_Clone_impl_Row_impl_Row (xs : List RowT) (hl : xs.length ≤ 2097152) : m_slices_Clone_impl_Row_impl_Row xs = some xs := by
  show p_slices_Clone_impl_Row_impl_Row FU _ = _
  unfold p_slices_Clone_impl_Row_impl_Row
  refine clone_same xs _ ?_
  rw [chk_true (ble_mem (by unfold maxBytes; simp only [List.length_nil]; omega)), List.nil_append]

theorem t_impl_copyTables (xs : List (List RowT)) (h4 : xs.length ≤ 1048576) (h5 : ∀ t ∈ xs, t.length ≤ 1048576) : m_impl_copyTables xs = some xs := by
  show p_impl_copyTables FU _ = _
  unfold p_impl_copyTables l_impl_copyTables_1
  have key := lp_foldI xs (fun (s : List (List RowT)) t => s ++ [t]) (fun i s => (s, (i : Int))) (fun s => some s) (fun i s => s = xs.take i) (by unfold B36; omega) [] rfl (step := fun (rec5 : List (List RowT) × Int → Option (List (List RowT))) (z4 : List (List RowT) × Int) =>
 (cond (decide (z4.2 < (lenI xs)))
  ((geti xs z4.2).bind fun y6 =>
  ((m_slices_Clone_impl_Row_impl_Row y6).bind fun r7 =>
  (chk (Nat.ble ((z4.1.length + [r7].length) * 24) maxBytes)
  (rec5 ((z4.1 ++ [r7]), IntKind.wrap .i64 (z4.2 + (1 : Int)))))))
  (some z4.1))) (fun i hi s hs => by
    refine ⟨by rw [hs, List.take_succ_eq_append_getElem hi], fun rec => ?_⟩
    have := h5 _ (List.getElem_mem hi)
    simp only [lt_lenI hi, cond_true, geti_lt _ i hi, Option.bind_some]
    rw [t_slices_Clone_impl_Row_impl_Row _ (by omega), Option.bind_some, chk_true (ble_mem (by rw [hs, List.length_take]; simp only [List.length_cons, List.length_nil]; unfold maxBytes; omega)), nxt (by unfold B36; omega)]) (fun s hs rec => by simp only [ge_lenI, cond_false])
  refine key.1.trans ?_
  rw [key.2, List.take_length]

theorem t_impl_copyEngine (e : EngT) (h1 : e.1.1.length ≤ 1048576) (h2 : e.1.2.length ≤ 1048576) (h3 : e.2.1.length ≤ 1048576) (h4 : e.2.2.1.length ≤ 1048576) (h5 : ∀ t ∈ e.2.2.1, t.length ≤ 1048576) : m_impl_copyEngine e = some e := by
  show p_impl_copyEngine FU _ = _
  unfold p_impl_copyEngine
  rw [t_impl_copyLog e.1 h1 h2, Option.bind_some, t_slices_Clone_impl_Row_impl_Row _ (by omega), Option.bind_some, t_impl_copyTables _ h4 h5, Option.bind_some]

theorem t_impl_writeBatch (e : EngT) (ws : List WriteT) (sync : Bool) (hc0 : engC e = 0) (h1 : e.1.1.length ≤ 1048576) (h2 : e.1.2.length ≤ 1048576) (hl : ws.length ≤ 1048576) : m_impl_writeBatch (e, (ws, sync)) = some (writeR e ws sync) := by
  show p_impl_writeBatch FU _ = _
  unfold p_impl_writeBatch writeR
  obtain ⟨q1, q2, q3, q4⟩ := engC_zero hc0
  have m1 := (engC_more hc0).1
  have hl0 := (tabC_zero q2).1
  simp only [hc0, beq_self_eq_true, Bool.not_true, cond_false]
  rw [t_impl_WritesFault ws hl, Option.bind_some]
  cases hw : (wrC ws == 0) with
  | false => rfl
  | true =>
    obtain ⟨w1, w2, w3, w4⟩ := wrC_zero (beq_iff_eq.1 hw)
    have hp := packL_len e.2.2.2 ws
    simp only [Bool.not_true, cond_false]
    cases hn : (e.2.2.2 == 1000000) with
    | true => rfl
    | false =>
      simp only [cond_false, dup_eq, same_self]
      rw [t_impl_packWrites _ ws (by omega) hl, Option.bind_some, t_impl_AppendLog e.1 _ (byB_packL _ _) (by omega) (by omega) q1, Option.bind_some]
      have hfr := frameD_len (packL e.2.2.2 ws)
      by_cases hbig : e.1.1.length + (e.1.2 ++ frameD (packL e.2.2.2 ws)).length > 6000
      · rw [decide_eq_true hbig]; rfl
      · rw [decide_eq_false hbig]
        simp only [cond_false, show (!((0 : Int) == 0)) = false from rfl]
        have hsync : (cond sync ((m_impl_SyncLog (e.1.1, e.1.2 ++ frameD (packL e.2.2.2 ws))).bind fun r5 => some r5) (some ((0 : Int), (e.1.1, e.1.2 ++ frameD (packL e.2.2.2 ws))))) = some ((0 : Int), cond sync (e.1.1 ++ (e.1.2 ++ frameD (packL e.2.2.2 ws)), []) (e.1.1, e.1.2 ++ frameD (packL e.2.2.2 ws))) := by
          cases sync
          · rfl
          · rw [cond_true, t_impl_SyncLog _ (by simp only; omega)]; rfl
        have hsort : m_slices_SortFunc_impl_Row_impl_Row (e.2.1 ++ rowsW e.2.2.2 ws, true) = some ((rowsW e.2.2.2 ws).foldl putL e.2.1) := by
          show p_slices_SortFunc_impl_Row_impl_Row FU _ = _
          unfold p_slices_SortFunc_impl_Row_impl_Row
          exact write_sort hc0 (beq_iff_eq.1 hw)
        rw [hsync, Option.bind_some, t_impl_copyEngine e h1 h2 (by omega) (by omega) (fun t ht => by have := (tabC_zero (q4 t ht)).1; omega), Option.bind_some, t_impl_rowsOf _ ws hl, Option.bind_some, chk_true (ble_mem (by unfold rowsW; rw [List.length_map]; unfold maxBytes; omega)), hsort, Option.bind_some]
        cases decide (lenI ((rowsW e.2.2.2 ws).foldl putL e.2.1) > 200) with
        | true => rfl
        | false => rw [cond_false, cond_false, wrap64 (by omega) (by omega)]

theorem t_impl_WriteBatch (e : EngT) (ws : List WriteT) (sync : Bool) (hb1 : byB e.1.1) (hb2 : byB e.1.2) (h1 : e.1.1.length ≤ 1048576) (h2 : e.1.2.length ≤ 1048576) (hl : ws.length ≤ 1048576) : m_impl_WriteBatch (e, (ws, sync)) = some (writeR e ws sync) := by
  show p_impl_WriteBatch FU _ = _
  unfold p_impl_WriteBatch
  simp only
  rw [t_impl_EngineFault e hb1 hb2 h1 h2, Option.bind_some]
  cases hc : (engC e == 0) with
  | false => unfold writeR; rw [hc]; rfl
  | true =>
    rw [Bool.not_true, cond_false, t_impl_writeBatch e ws sync (beq_iff_eq.1 hc) h1 h2 hl, Option.bind_some]

theorem w_row {r : RowT} (h : rowC r = 0) : W_Row r ≤ 120 := by
  have := rowC_zero h
  unfold W_Row; omega
theorem w_tab {t : List RowT} (h : tabC t = 0) : W_RowS t ≤ 24200 := by
  obtain ⟨h1, h2⟩ := tabC_zero h
  have := wsum_bnd W_Row 120 t (fun r hr => w_row (h2 r hr))
  unfold W_RowS; omega
theorem w_tabs {tt : List (List RowT)} (h0 : tt.length ≤ 7) (h : ∀ t ∈ tt, tabC t = 0) : W_RowSS tt ≤ 200000 := by
  have := wsum_bnd W_RowS 24200 tt (fun t ht => w_tab (h t ht))
  unfold W_RowSS; omega
theorem w_write (e : EngT) (ws : List WriteT) (sync : Bool) : W_EngineResult (writeR e ws sync) ≤ 1048576 := by
  have z : ∀ c : Int, W_EngineResult (c, zE) ≤ 1048576 := fun c => by
    show W_Engine zE.2 ≤ _
    decide
  unfold writeR
  cases hc : (engC e == 0) with
  | false => exact z _
  | true =>
    obtain ⟨q1, q2, q3, q4⟩ := engC_zero (beq_iff_eq.1 hc)
    have m1 := (engC_more (beq_iff_eq.1 hc)).1
    have hl0 := tabC_zero q2
    simp only [Bool.not_true, cond_false]
    cases hw : (wrC ws == 0) with
    | false => exact z _
    | true =>
      obtain ⟨w1, w2, w3, w4⟩ := wrC_zero (beq_iff_eq.1 hw)
      simp only [Bool.not_true, cond_false]
      cases (e.2.2.2 == 1000000) with
      | true => exact z _
      | false =>
        simp only [cond_false]
        by_cases hbig : e.1.1.length + (e.1.2 ++ frameD (packL e.2.2.2 ws)).length > 6000
        · rw [decide_eq_true hbig]; exact z _
        · rw [decide_eq_false hbig]
          simp only [cond_false]
          cases decide (lenI ((rowsW e.2.2.2 ws).foldl putL e.2.1) > 200) with
          | true => exact z _
          | false =>
            have h1 := w_tabs (tt := e.2.2.1) (by omega) q4
            have hfl := putF_len (rowsW e.2.2.2 ws) e.2.1
            have hrl : (rowsW e.2.2.2 ws).length = ws.length := by unfold rowsW; rw [List.length_map]
            have h2 := wsum_bnd W_Row 120 ((rowsW e.2.2.2 ws).foldl putL e.2.1) (fun r hr => by
              rcases putF_sub _ _ r hr with h | h
              · unfold rowsW at h
                obtain ⟨w, hw', rfl⟩ := List.mem_map.1 h
                have := rowC_zero (w2 w hw')
                unfold W_Row; simp only at this ⊢; omega
              · exact w_row (hl0.2 r h))
            have h3 : W_RowS ((rowsW e.2.2.2 ws).foldl putL e.2.1) = ((rowsW e.2.2.2 ws).foldl putL e.2.1).length + wsum W_Row ((rowsW e.2.2.2 ws).foldl putL e.2.1) := rfl
            simp only [cond_false]
            unfold W_EngineResult W_Engine W_Log W_ByteS
            cases sync <;> simp only [cond_true, cond_false, List.length_append, List.length_nil] at hbig ⊢ <;> omega
theorem mhE (e : EngT) (hW : W_Engine e ≤ 1048576) : ∃ (L1 L2 : List Int) (L3 : List RowT) (L4 : List (List RowT)) (k1 k2 k3 k4 : Int), m_laws_markByteS (e.1.1, 1) = some (k1, L1) ∧ m_laws_markByteS (e.1.2, k1) = some (k2, L2) ∧ m_laws_markRowS (e.2.1, k2) = some (k3, L3) ∧ m_laws_markRowSS (e.2.2.1, k3) = some (k4, L4) ∧ m_laws_heldEngine (((L1, L2), (L3, (L4, e.2.2.2))), 1) = some k4 ∧ 0 ≤ k4 ∧ k4 ≤ 8388608 := by
  have hB : B40 = 1099511627776 := rfl
  unfold W_Engine W_Log at hW
  have v1 := vb_ByteS e.1.1
  have v2 := vb_ByteS e.1.2
  have v3 := vb_RowS e.2.1
  have v4 := vb_RowSS e.2.2.1
  obtain ⟨A1, _, a1, b1⟩ := mh_ByteS e.1.1 1 (by omega) (by omega) (by omega)
  obtain ⟨A2, _, a2, b2⟩ := mh_ByteS e.1.2 (1 + (V_ByteS e.1.1 : Int)) (by omega) (by omega) (by omega)
  obtain ⟨A3, _, a3, b3⟩ := mh_RowS e.2.1 (1 + (V_ByteS e.1.1 : Int) + (V_ByteS e.1.2 : Int)) (by omega) (by omega) (by omega)
  obtain ⟨A4, _, a4, b4⟩ := mh_RowSS e.2.2.1 (1 + (V_ByteS e.1.1 : Int) + (V_ByteS e.1.2 : Int) + (V_RowS e.2.1 : Int)) (by omega) (by omega) (by omega)
  exact ⟨A1, A2, A3, A4, _, _, _, _, a1, a2, a3, a4, h_laws_heldEngine ((A1, A2), (A3, (A4, e.2.2.2))) _ _ _ _ (h_laws_heldLog (A1, A2) _ _ _ b1 (by omega) b2 (by omega)) (by omega) b3 (by omega) b4 (by omega), by omega, by omega⟩
theorem law_laws_FnExactWriteBatch (x : EngT × (List WriteT × Bool)) (h : WFs S_laws_FnExactWriteBatch.ps x) : m_laws_FnExactWriteBatch x = some true := by
  obtain ⟨x, ws, sync⟩ := x
  show p_laws_FnExactWriteBatch FU _ = _
  unfold p_laws_FnExactWriteBatch
  simp only
  rcases z_laws_szEngine x h.1 1048576 (by omega) (by omega) with e1 | ⟨e1, b1⟩
  · simp only [e1, Option.bind_some]; rfl
  · have hW : W_Engine x ≤ 1048576 := by omega
    have d1 : decide ((1048576 : Int) - (W_Engine x : Int) < 0) = false := decide_eq_false (by omega)
    rcases z_laws_szWriteS ws h.2.1 (1048576 - (W_Engine x : Int)) (by omega) (by omega) with e2 | ⟨e2, b2⟩
    · simp only [e1, d1, e2, Option.bind_some, cond_false]; rfl
    · have hW2 : W_WriteS ws ≤ 1048576 := by omega
      have d2 : decide ((1048576 : Int) - (W_Engine x : Int) - (W_WriteS ws : Int) < 0) = false := decide_eq_false (by omega)
      have hlw : ws.length ≤ 1048576 := by unfold W_WriteS at hW2; omega
      have hw1 : x.1.1.length ≤ 1048576 := by unfold W_Engine W_Log W_ByteS at hW; omega
      have hw2 : x.1.2.length ≤ 1048576 := by unfold W_Engine W_Log W_ByteS at hW; omega
      have hb1 : byB x.1.1 := byB_wf h.1.1.1
      have hb2 : byB x.1.2 := byB_wf h.1.1.2
      have hWr := w_write x ws sync
      have s1 := t_spec_WriteBatch x ws sync hb1 hb2 hw1 hw2 hlw
      have s2 := t_impl_WriteBatch x ws sync hb1 hb2 hw1 hw2 hlw
      generalize writeR x ws sync = r at hWr s1 s2
      have eqr := eq_laws_eqEngineResult r hWr
      obtain ⟨A1, A2, A3, A4, k1, k2, k3, k4, a1, a2, a3, a4, _, n4, u4⟩ := mhE x hW
      obtain ⟨B1, B2, B3, B4, j1, j2, j3, j4, c1, c2, c3, c4, hh, m4, _⟩ := mhE r.2.2 hWr
      have hB : B40 = 1099511627776 := rfl
      have v5 := vb_WriteS ws
      obtain ⟨A5, _, a5⟩ := mk_WriteS ws k4 hW2 n4 (by omega)
      have hr := h_laws_heldEngineResult (r.1, (r.2.1, ((B1, B2), (B3, (B4, r.2.2.2.2.2))))) 1 j4 hh m4
      simp only [e1, d1, e2, d2, Option.bind_some, cond_false, o_laws_toEngine x hW, o_laws_toWriteS ws hW2, s1, s2, eqr, eq_laws_eqEngine x hW, eq_laws_eqWriteS ws hW2, Bool.not_true, a1, a2, a3, a4, a5, decide_eq_false (show ¬ k4 + (V_WriteS ws : Int) < 0 by omega), c1, c2, c3, c4, hr, decide_eq_false (show ¬ j4 < 0 by omega), beq_self_eq_true]
end Go.RvP
