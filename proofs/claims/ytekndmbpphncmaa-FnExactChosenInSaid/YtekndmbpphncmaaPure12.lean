/- The plain law: spec and program answer alike, for FnExactChosenIn. Condition: the data are such as can come in. -/
import Derived.Test.YtekndmbpphncmaaRvP12
import Derived.Test.YtekndmbpphncmaaRvM
namespace Go.RvP
open Go.Rv
def W_VoteS (xs : (List (Int × Int))) : Nat := xs.length

theorem z_laws_szVoteS (xs : (List (Int × Int))) (h : WFk (.sl none (.pair (.int .i64) (.int .i64))) xs) : SZ m_laws_szVoteS W_VoteS xs := szf xs h.1

def W_Slot (x : (Int × (Int × (Int × ((Int × Int) × (List (Int × Int))))))) : Nat := W_VoteS x.2.2.2.2

theorem z_laws_szSlot (x : (Int × (Int × (Int × ((Int × Int) × (List (Int × Int))))))) (h : WFk (.pair (.int .i64) (.pair (.int .i64) (.pair (.int .i64) (.pair (.pair (.int .i64) (.int .i64)) (.sl none (.pair (.int .i64) (.int .i64))))))) x) : SZ m_laws_szSlot W_Slot x := by
  intro left h0 h1
  have hm : maxLen = 9223372036854775807 := rfl
  show p_laws_szSlot FU _ = _ ∨ (p_laws_szSlot FU _ = _ ∧ _)
  unfold p_laws_szSlot W_Slot
  have b1 : 0 ≤ left := by omega
  rcases z_laws_szVoteS x.2.2.2.2 h.2.2.2.2 (left) (by omega) (by omega) with e1 | ⟨e1, f1⟩
  · left; simp only [e1, Option.bind_some]; rfl
  · have d1 : decide (left - (W_VoteS x.2.2.2.2 : Int) < 0) = false := decide_eq_false (by omega)
    exact .inr ⟨by simp only [e1, d1, Option.bind_some, cond_false], f1⟩

def W_SlotS (xs : (List (Int × (Int × (Int × ((Int × Int) × (List (Int × Int)))))))) : Nat := xs.length + wsum W_Slot xs

theorem z_laws_szSlotS (xs : (List (Int × (Int × (Int × ((Int × Int) × (List (Int × Int)))))))) (h : WFk (.sl none (.pair (.int .i64) (.pair (.int .i64) (.pair (.int .i64) (.pair (.pair (.int .i64) (.int .i64)) (.sl none (.pair (.int .i64) (.int .i64)))))))) xs) : SZ m_laws_szSlotS W_SlotS xs := szl xs m_laws_szSlot W_Slot h.1 (fun x hx => z_laws_szSlot x (h.2 x hx))

theorem o_laws_toVote (x : (Int × Int)) : m_laws_toVote x = some x := by
  show p_laws_toVote FU _ = _
  unfold p_laws_toVote
  rfl

theorem o_laws_toVoteS (xs : (List (Int × Int))) (h : W_VoteS xs ≤ 1048576) : m_laws_toVoteS xs = some xs := by
  unfold W_VoteS at h
  show p_laws_toVoteS FU xs = _
  unfold p_laws_toVoteS
  rw [if_pos rfl, if_pos (by simp [lenI_eq])]
  have hb : Nat.ble (16 * (lenI xs).toNat) maxBytes = true := by rw [Nat.ble_eq]; simp only [lenI_eq, Int.toNat_natCast, maxBytes]; omega
  rw [chk_true hb]
  exact copy_loop2 xs _ m_laws_toVote (fun x _ => o_laws_toVote x) (by omega)

theorem o_laws_toSlot (x : (Int × (Int × (Int × ((Int × Int) × (List (Int × Int))))))) (h : W_Slot x ≤ 1048576) : m_laws_toSlot x = some x := by
  unfold W_Slot at h
  show p_laws_toSlot FU _ = _
  unfold p_laws_toSlot
  simp only [o_laws_toVote x.2.2.2.1, o_laws_toVoteS x.2.2.2.2 (by omega), Option.bind_some]

theorem o_laws_toSlotS (xs : (List (Int × (Int × (Int × ((Int × Int) × (List (Int × Int)))))))) (h : W_SlotS xs ≤ 1048576) : m_laws_toSlotS xs = some xs := by
  unfold W_SlotS at h
  show p_laws_toSlotS FU xs = _
  unfold p_laws_toSlotS
  rw [if_pos rfl, if_pos (by simp [lenI_eq])]
  have hb : Nat.ble (64 * (lenI xs).toNat) maxBytes = true := by rw [Nat.ble_eq]; simp only [lenI_eq, Int.toNat_natCast, maxBytes]; omega
  rw [chk_true hb]
  exact copy_loop2 xs _ m_laws_toSlot (fun x hx => o_laws_toSlot x (by have := wsum_mem W_Slot xs x hx; omega)) (by omega)

theorem eq_laws_eqVote (x : (Int × Int)) : m_laws_eqVote (x, x) = some true := by
  show p_laws_eqVote FU _ = _
  unfold p_laws_eqVote
  simp only [beq_self_eq_true, Bool.not_true, cond_false]

theorem eq_laws_eqVoteResult (x : (Int × (Int × Int))) : m_laws_eqVoteResult (x, x) = some true := by
  show p_laws_eqVoteResult FU _ = _
  unfold p_laws_eqVoteResult
  simp only [beq_self_eq_true, Bool.not_true, cond_false, eq_laws_eqVote x.2, Option.bind_some]

theorem eq_laws_eqVoteS (xs : (List (Int × Int))) (h : W_VoteS xs ≤ 1048576) : m_laws_eqVoteS (xs, xs) = some true := by
  unfold W_VoteS at h
  show p_laws_eqVoteS FU _ = _
  unfold p_laws_eqVoteS
  simp only [beq_self_eq_true, Bool.not_true, cond_false]
  exact eq_loop xs m_laws_eqVote (fun x _ => eq_laws_eqVote x) (by omega)

theorem eq_laws_eqSlot (x : (Int × (Int × (Int × ((Int × Int) × (List (Int × Int))))))) (h : W_Slot x ≤ 1048576) : m_laws_eqSlot (x, x) = some true := by
  unfold W_Slot at h
  show p_laws_eqSlot FU _ = _
  unfold p_laws_eqSlot
  simp only [beq_self_eq_true, Bool.not_true, cond_false, eq_laws_eqVote x.2.2.2.1, eq_laws_eqVoteS x.2.2.2.2 (by omega), Option.bind_some]

theorem eq_laws_eqSlotS (xs : (List (Int × (Int × (Int × ((Int × Int) × (List (Int × Int)))))))) (h : W_SlotS xs ≤ 1048576) : m_laws_eqSlotS (xs, xs) = some true := by
  unfold W_SlotS at h
  show p_laws_eqSlotS FU _ = _
  unfold p_laws_eqSlotS
  simp only [beq_self_eq_true, Bool.not_true, cond_false]
  exact eq_loop xs m_laws_eqSlot (fun x hx => eq_laws_eqSlot x (by have := wsum_mem W_Slot xs x hx; omega)) (by omega)

theorem t_laws_szVoteS (xs : List (Int × Int)) (h : (xs.length : Int) ≤ 9223372036854775807) : m_laws_szVoteS (xs, 1048576) = some (if 1048576 - (xs.length : Int) < 0 then -1 else 1048576 - (xs.length : Int)) := by
  show p_laws_szVoteS FU _ = _
  unfold p_laws_szVoteS
  have hw : IntKind.wrap .i64 (1048576 - (xs.length : Int)) = 1048576 - (xs.length : Int) := wrap64 (by omega) (by omega)
  simp only [lenI_eq, hw]
  by_cases hh : (1048576 : Int) - (xs.length : Int) < 0 <;> simp [hh]

theorem sz_laws_szSlot (x : SlotT) (h : x.2.2.2.2.length ≤ maxLen) : SZ m_laws_szSlot (fun x => x.2.2.2.2.length) x := by
  intro left h0 h1
  have hm : maxLen = 9223372036854775807 := rfl
  show p_laws_szSlot FU _ = _ ∨ (p_laws_szSlot FU _ = _ ∧ _)
  unfold p_laws_szSlot
  have e : m_laws_szVoteS (x.2.2.2.2, left) = some (if left - (x.2.2.2.2.length : Int) < 0 then -1 else left - (x.2.2.2.2.length : Int)) := by
    show p_laws_szVoteS FU _ = _
    unfold p_laws_szVoteS
    have hw : IntKind.wrap .i64 (left - (x.2.2.2.2.length : Int)) = left - (x.2.2.2.2.length : Int) := wrap64 (by omega) (by omega)
    simp only [lenI_eq, hw]
    by_cases hh : left - (x.2.2.2.2.length : Int) < 0 <;> simp [hh]
  rw [e]
  by_cases hh : left - (x.2.2.2.2.length : Int) < 0
  · simp [hh]
  · right
    simp [hh]
    omega

theorem t_laws_szSlot (x : SlotT) (h : (x.2.2.2.2.length : Int) ≤ 9223372036854775807) : m_laws_szSlot (x, 1048576) = some (if 1048576 - (x.2.2.2.2.length : Int) < 0 then -1 else 1048576 - (x.2.2.2.2.length : Int)) := by
  show p_laws_szSlot FU _ = _
  unfold p_laws_szSlot
  rw [t_laws_szVoteS _ h]
  by_cases hh : (1048576 : Int) - (x.2.2.2.2.length : Int) < 0 <;> simp [hh]

def wSlots (xs : List SlotT) : Nat := xs.length + (xs.map fun x => x.2.2.2.2.length).sum

theorem sz_laws_szSlotS (xs : List SlotT) (hl : xs.length ≤ maxLen) (h : ∀ x ∈ xs, x.2.2.2.2.length ≤ maxLen) : SZ m_laws_szSlotS wSlots xs := by
  intro left h0 h1
  have hm : maxLen = 9223372036854775807 := rfl
  show p_laws_szSlotS FU _ = _ ∨ (p_laws_szSlotS FU _ = _ ∧ _)
  unfold p_laws_szSlotS wSlots
  have hw : IntKind.wrap .i64 (left - (xs.length : Int)) = left - (xs.length : Int) := wrap64 (by omega) (by omega)
  simp only [lenI_eq, hw]
  by_cases hh : left - (xs.length : Int) < 0
  · left; simp [hh]
  · have := sz_loop xs m_laws_szSlot (fun x => x.2.2.2.2.length) (fun x hx => sz_laws_szSlot x (h x hx)) (by omega) (left - (xs.length : Int)) (by omega) (by omega)
    simp only [hh, decide_false, cond_false]
    rcases this with h2 | ⟨h2, h3⟩
    · exact .inl h2
    · right
      refine ⟨?_, by omega⟩
      rw [show left - ((xs.length + (xs.map fun x => x.2.2.2.2.length).sum : Nat) : Int) = left - (xs.length : Int) - (((xs.map fun x => x.2.2.2.2.length).sum : Nat) : Int) from by omega]
      exact h2

theorem t_laws_toVote (a : Int × Int) : m_laws_toVote a = some a := rfl

theorem t_laws_toVoteS (xs : List (Int × Int)) (hl : xs.length ≤ 1048576) : m_laws_toVoteS xs = some xs := by
  show p_laws_toVoteS FU xs = _
  unfold p_laws_toVoteS
  rw [if_pos rfl, if_pos (by simp [lenI_eq])]
  have hb : Nat.ble (16 * (lenI xs).toNat) maxBytes = true := by rw [Nat.ble_eq]; simp only [lenI_eq, Int.toNat_natCast, maxBytes]; omega
  simp only [hb, chk, cond_true]
  exact copy_loop2 xs _ m_laws_toVote (fun x hx => t_laws_toVote x) hl

theorem t_laws_toSlot (x : SlotT) (h : x.2.2.2.2.length ≤ 1048576) : m_laws_toSlot x = some x := by
  show p_laws_toSlot FU _ = _
  unfold p_laws_toSlot
  simp only [t_laws_toVote, Option.bind_some, t_laws_toVoteS _ h]

theorem t_laws_toSlotS (xs : List SlotT) (hl : xs.length ≤ 1048576) (h : ∀ x ∈ xs, x.2.2.2.2.length ≤ 1048576) : m_laws_toSlotS xs = some xs := by
  show p_laws_toSlotS FU xs = _
  unfold p_laws_toSlotS
  rw [if_pos rfl, if_pos (by simp [lenI_eq])]
  have hb : Nat.ble (64 * (lenI xs).toNat) maxBytes = true := by rw [Nat.ble_eq]; simp only [lenI_eq, Int.toNat_natCast, maxBytes]; omega
  simp only [hb, chk, cond_true]
  exact copy_loop2 xs _ m_laws_toSlot (fun x hx => t_laws_toSlot x (h x hx)) hl

theorem t_spec_l1In (a b c : Int) : m_spec_l1In (a, b, c) = some (inB a b c) := by
  show p_spec_l1In FU _ = _
  unfold p_spec_l1In inB
  by_cases h : b ≤ a <;> simp [h]

theorem t_spec_l1Id (a : Int) : m_spec_l1Id a = some (idB a) := by
  show p_spec_l1Id FU _ = _
  unfold p_spec_l1Id idB
  rw [t_spec_l1In]; rfl

theorem t_spec_l8Ballot (a : Int) : m_spec_l8Ballot a = some (bal a) := by
  show p_spec_l8Ballot FU _ = _
  unfold p_spec_l8Ballot bal
  rw [t_spec_l1In]; rfl

theorem t_spec_l8Value (a : Int) : m_spec_l8Value a = some (vlu a) := by
  show p_spec_l8Value FU _ = _
  unfold p_spec_l8Value vlu
  cases h : (a == (1 : Int)) <;> simp

theorem t_spec_l8None : m_spec_l8None () = some (-1, 0) := rfl

theorem t_spec_l8Last (x : SlotT) (h : x.2.2.2.2.length ≤ 60) : m_spec_l8Last x = some (lastV x.2.2.2.2) := by
  obtain ⟨a, b, c, d, xs⟩ := x
  simp only at h
  show p_spec_l8Last FU _ = _
  unfold p_spec_l8Last lastV
  simp only
  by_cases h0 : xs.length = 0
  · have : xs = [] := List.eq_nil_of_length_eq_zero h0
    subst this
    rfl
  · have h1 : (lenI xs == 0) = false := by rw [lenI_eq, beq_eq_false_iff_ne]; omega
    have h2 : IntKind.wrap .i64 (lenI xs - 1) = ((xs.length - 1 : Nat) : Int) := by rw [lenI_eq, wrap64 (by omega) (by omega)]; omega
    have hlt : xs.length - 1 < xs.length := by omega
    simp only [h1, cond_false, h2, geti_lt xs _ hlt, Option.bind_some]
    rw [List.getLast?_eq_getElem?, List.getElem?_eq_getElem hlt]
    rfl

theorem t_spec_SlotFault (x : SlotT) : m_spec_SlotFault x = some (slotCode x) := by
  obtain ⟨a, b, c, d, xs⟩ := x
  show p_spec_SlotFault FU _ = _
  unfold p_spec_SlotFault slotCode
  simp only [t_spec_l1Id, t_spec_l1In, Option.bind_some]
  have e0 : (cond (!idB a) (some true) (cond (!inB b 0 2) (some true) (some (!inB c (-1) 1000)))) = some (!(idB a && (shB b && inB c (-1) 1000))) := by
    unfold shB
    cases idB a <;> cases inB b 0 2 <;> rfl
  rw [e0]
  simp only [Option.bind_some]
  cases (idB a && (shB b && inB c (-1) 1000)) with
  | false => rfl
  | true =>
    simp only [Bool.not_true, cond_false]
    by_cases hl : xs.length > 60
    · have : decide (lenI xs > 60) = true := by simp [lenI_eq]; omega
      simp [this, hl]
    · have : decide (lenI xs > 60) = false := by simp [lenI_eq]; omega
      simp only [this, cond_false, if_neg hl]
      have e1 : l_spec_SlotFault_1 FU xs 0 = match fstI (castF xs) 0 xs with
          | some r => some (Sum.inr r)
          | none => some (Sum.inl ()) := by
        unfold l_spec_SlotFault_1
        refine (lp_fst xs (fun i v => (castF xs i v).map Sum.inr) (some (Sum.inl ())) (by unfold B36; omega) (fun i hi rec hw => ?_) (fun rec => ?_)).trans ?_
        · simp only [lt_lenI hi, cond_true, geti_lt xs i hi, Option.bind_some, t_spec_l8Ballot, t_spec_l8Value, castF, hw, votB]
          cases bal xs[i].1 with
          | false => rfl
          | true =>
            cases vlu xs[i].2 with
            | false => rfl
            | true =>
              simp only [Bool.not_true, cond_false, Bool.and_self, Option.bind_some]
              by_cases h0 : 0 < i
              · have hd : decide ((i : Int) > 0) = true := by simp; omega
                have hp := prv (i := i) (by unfold B36; omega) h0
                have hi1 : i - 1 < xs.length := by omega
                simp only [hd, cond_true, hp, geti_lt xs _ hi1, Option.bind_some, h0, decide_true, Bool.true_and, List.getElem?_eq_getElem hi1, Option.getD_some, badP]
                cases decide (xs[i].1 < xs[i - 1].1) <;> cases (xs[i].1 == xs[i - 1].1) <;> cases (xs[i].2 == xs[i - 1].2) <;> rfl
              · have hd : decide ((i : Int) > 0) = false := by simp; omega
                simp only [hd, cond_false, Option.bind_some, h0, decide_false, Bool.false_and, Option.map_none]
        · simp only [ge_lenI, cond_false]
        · have : ∀ (ys : List (Int × Int)) (i : Nat), fstI (R := Unit ⊕ Int) (fun i v => (castF xs i v).map Sum.inr) i ys = (fstI (castF xs) i ys).map Sum.inr := by
            intro ys
            induction ys with
            | nil => intro i; rfl
            | cons y ys ih =>
              intro i
              simp only [fstI]
              cases castF xs i y with
              | some r => rfl
              | none => exact ih (i + 1)
          rw [this]
          cases fstI (castF xs) 0 xs <;> rfl
      rw [e1]
      have hc := cast_all xs
      have nz : ∀ (ys : List (Int × Int)) (i : Nat) r, fstI (castF xs) i ys = some r → r ≠ 0 := by
        intro ys
        induction ys with
        | nil => intro i r h; cases h
        | cons y ys ih =>
          intro i r h
          simp only [fstI] at h
          split at h
          · rename_i q hq
            simp only [Option.some.injEq] at h
            subst h
            unfold castF at hq
            cases hv : votB y <;> rw [hv] at hq <;> simp only [Bool.not_true, Bool.not_false, cond_true, cond_false, Option.some.injEq] at hq
            · omega
            · cases hv2 : (decide (0 < i) && badP (xs[i - 1]?.getD (0, 0)) y) <;> rw [hv2] at hq <;> simp only [cond_true, cond_false, Option.some.injEq] at hq
              · cases hq
              · omega
          · exact ih _ _ h
      cases hf : fstI (castF xs) 0 xs with
      | some r =>
        rw [hf] at hc
        simp only at hc
        have hr : r ≠ 0 := nz _ _ _ hf
        rw [← hc]
        simp [hr]
      | none =>
        rw [hf] at hc
        simp only at hc
        rw [← hc]
        simp only [Option.bind_some, Sum.elim_inl, t_spec_l8Last (a, b, c, d, xs) (by show xs.length ≤ 60; omega)]
        obtain ⟨d1, d2⟩ := d
        have e2 : (!((d1 == (lastV xs).1) && ((d2 == (lastV xs).2) && true))) = !((d1, d2) == lastV xs) := by
          rw [Bool.and_true]; rfl
        rw [e2]
        cases ((d1, d2) == lastV xs) with
        | false => simp
        | true => by_cases hh : d1 > c <;> simp [hh]

theorem t_spec_l8Asked (xs : List SlotT) (hl : xs.length ≤ 1048576) : m_spec_l8Asked xs = some (askCode xs) := by
  show p_spec_l8Asked FU _ = _
  unfold p_spec_l8Asked askCode
  have hB : xs.length ≤ B36 := by unfold B36; omega
  have e1 : l_spec_l8Asked_1 FU xs 0 = match fstI askF 0 xs with
      | some r => some (Sum.inr r)
      | none => some (Sum.inl ()) := by
    unfold l_spec_l8Asked_1
    refine (lp_fst xs (fun i v => (askF i v).map Sum.inr) (some (Sum.inl ())) hB (fun i hi rec hw => ?_) (fun rec => ?_)).trans ?_
    · simp only [lt_lenI hi, cond_true, geti_lt xs i hi, Option.bind_some, t_spec_SlotFault, askF, hw]
      cases slotCode xs[i] == 0 <;> rfl
    · simp only [ge_lenI, cond_false]
    · rw [fstI_map]
      cases fstI askF 0 xs <;> rfl
  rw [e1]
  cases fstI askF 0 xs with
  | some r => rfl
  | none =>
    simp only [Option.bind_some, Sum.elim_inl]
    by_cases h1 : xs.length < 1
    · have : decide (lenI xs < 1) = true := decide_eq_true (by rw [lenI_eq]; omega)
      simp only [this, cond_true, Option.bind_some, if_pos (Or.inl h1)]
    · have d1 : decide (lenI xs < 1) = false := decide_eq_false (by rw [lenI_eq]; omega)
      simp only [d1, cond_false, Option.bind_some]
      by_cases h2 : 9 < xs.length
      · have : decide (lenI xs > 9) = true := decide_eq_true (by rw [lenI_eq]; omega)
        simp only [this, cond_true, if_pos (Or.inr h2)]
      · have d2 : decide (lenI xs > 9) = false := decide_eq_false (by rw [lenI_eq]; omega)
        have hn : ¬ (xs.length < 1 ∨ 9 < xs.length) := by omega
        simp only [d2, cond_false, if_neg hn]
        unfold l_spec_l8Asked_2
        have h0 : 0 < xs.length := by omega
        refine (lp_hit xs (fun s => !(s.1 == (xs[0]?.getD s).1) || !(s.2.1 == (xs[0]?.getD s).2.1)) (some (1 : Int)) (some 0) hB (fun i hi rec hw => ?_) (fun rec => ?_)).trans ?_
        · have hz : geti xs (0 : Int) = some xs[0] := geti_lt xs 0 h0
          have hz2 : xs[0]? = some xs[0] := List.getElem?_eq_getElem h0
          simp only [lt_lenI hi, cond_true, geti_lt xs i hi, hz, hz2, Option.bind_some, Option.getD_some, hw]
          cases (xs[i].1 == xs[0].1) with
          | false => rfl
          | true => cases (xs[i].2.1 == xs[0].2.1) <;> rfl
        · simp only [ge_lenI, cond_false]
        · cases xs.any _ <;> rfl

theorem t_spec_l8Cast (s : SlotT) (v : VoteT) (hl : (castS s).length ≤ 1048576) : m_spec_l8Cast (s, v) = some ((castS s).contains v) := by
  show p_spec_l8Cast FU _ = _
  unfold p_spec_l8Cast l_spec_l8Cast_1
  refine (lp_hit (castS s) (fun u => u == v) (some true) (some false) (by unfold B36; omega) (fun i hi rec hw => ?_) (fun rec => ?_)).trans ?_
  · show cond (decide ((i : Int) < lenI (castS s))) ((geti (castS s) (i : Int)).bind _) _ = _
    simp only [lt_lenI hi, cond_true, geti_lt _ i hi, Option.bind_some, hw]
    have e : (((castS s)[i].1 == v.1) && (((castS s)[i].2 == v.2) && true)) = ((castS s)[i] == v) := by rw [Bool.and_true]; rfl
    rw [e]
  · show cond (decide (((castS s).length : Int) < lenI (castS s))) _ _ = _
    simp only [ge_lenI, cond_false]
  · have e : (castS s).any (fun u => u == v) = (castS s).contains v := by
      rw [Bool.eq_iff_iff]
      simp [List.any_eq_true]
    rw [e]
    cases (castS s).contains v <;> rfl

theorem t_spec_l8Quorum (n : Nat) (hn : n ≤ B36) : m_spec_l8Quorum (n : Int) = some ((quo n : Nat) : Int) := by
  show p_spec_l8Quorum FU _ = _
  unfold p_spec_l8Quorum quo
  unfold B36 at hn
  have e1 : ((2 : Int) == 0) = false := rfl
  rw [e1, cond_false, Int.tdiv_eq_ediv_of_nonneg (by omega), wrap64 (n := (n : Int) / 2) (by omega) (by omega), wrap64 (by omega) (by omega)]
  rfl

theorem t_l8Chosen_1 (xs : List SlotT) (v : VoteT) (hl : xs.length ≤ 9) (hc : ∀ s ∈ xs, (castS s).length ≤ 60) : l_spec_l8Chosen_1 FU xs v ((0 : Int), (0 : Int)) = some ((cntV xs v : Nat) : Int) := by
  unfold l_spec_l8Chosen_1
  refine lp_for (fun r => r = some ((cntV xs v : Nat) : Int)) (fun i z => z = (((cntV (xs.take i) v : Nat) : Int), (i : Int))) xs.length (fun i z hi hz => ?_) (fun z hz rec => ?_) FU _ (FU_gt (by omega)) (by simp [cntV])
  · subst hz
    have hb := cntV_le (xs.take i) v
    have e : cntV (xs.take (i + 1)) v = cntV (xs.take i) v + if v ∈ castS xs[i] then 1 else 0 := by
      rw [List.take_succ_eq_append_getElem hi]
      unfold cntV
      rw [List.countP_append, List.countP_singleton]
      simp
    have hlt : (xs.take i).length ≤ 9 := by rw [List.length_take]; omega
    have hw : IntKind.wrap .i64 (((cntV (xs.take i) v : Nat) : Int) + 1) = ((cntV (xs.take i) v + 1 : Nat) : Int) := by rw [wrap64 (by omega) (by omega)]; omega
    refine .inr ⟨_, rfl, fun rec => ?_⟩
    simp only [lt_lenI hi, cond_true, geti_lt xs i hi, Option.bind_some, t_spec_l8Cast xs[i] v (Nat.le_trans (hc _ (List.getElem_mem hi)) (by omega)), wrap_next hi (Nat.le_trans hl (by omega)), hw]
    rw [e]
    by_cases hm : v ∈ castS xs[i]
    · have : (castS xs[i]).contains v = true := by simpa using hm
      rw [this, if_pos hm]; rfl
    · have : (castS xs[i]).contains v = false := by simpa using hm
      rw [this, if_neg hm]; rfl
  · subst hz
    simp only [ge_lenI, cond_false, List.take_length]
theorem t_l8Chosen_2 (out : List VoteT) (b : Int) (hl : out.length ≤ 1048576) : l_spec_l8Chosen_2 FU out b (0 : Int) = some ((atV out b : Nat) : Int) := by
  unfold l_spec_l8Chosen_2
  refine lp_for (fun r => r = some ((atV out b : Nat) : Int)) (fun i z => z = (i : Int) ∧ ∀ (j : Nat) (hj : j < i) (h : j < out.length), out[j].1 < b) out.length (fun i z hi hz => ?_) (fun z hz rec => ?_) FU _ (FU_gt hl) ⟨rfl, fun j hj => by omega⟩
  · obtain ⟨rfl, hz⟩ := hz
    by_cases hb : out[i].1 < b
    · refine .inr ⟨((i + 1 : Nat) : Int), ⟨rfl, fun j hj h => ?_⟩, fun rec => ?_⟩
      · rcases Nat.lt_or_ge j i with q | q
        · exact hz j q h
        · have : j = i := by omega
          subst this; exact hb
      · simp only [lt_lenI hi, cond_true, geti_lt out i hi, Int.toNat_natCast, List.getElem?_eq_getElem hi, Option.bind_some, decide_eq_true hb, wrap_next hi hl]
    · refine .inl fun rec => ?_
      have e := takeWhile_len (fun u : VoteT => decide (u.1 < b)) out i (by omega) (fun j hj => by simpa using hz j hj (by omega)) (fun h => by simpa using hb)
      simp only [lt_lenI hi, cond_true, geti_lt out i hi, Int.toNat_natCast, List.getElem?_eq_getElem hi, Option.bind_some, decide_eq_false hb, cond_false]
      unfold atV; rw [e]
  · obtain ⟨rfl, hz⟩ := hz
    have e := takeWhile_len (fun u : VoteT => decide (u.1 < b)) out out.length (by omega) (fun j hj => by simpa using hz j hj hj) (fun h => by omega)
    simp only [ge_lenI, cond_false, Option.bind_some]
    unfold atV; rw [e]
def upTo (xs : List SlotT) (i : Nat) (out : List VoteT) : Prop :=
  out.Pairwise (fun a b => a.1 < b.1) ∧ (∀ v, v ∈ out ↔ quo xs.length ≤ cntV xs v ∧ ∃ s ∈ xs.take i, v ∈ castS s) ∧ out.length ≤ 60 * i
theorem t_l8Chosen_3 (xs : List SlotT) (hl : xs.length ≤ 9) (hc : ∀ s ∈ xs, (castS s).length ≤ 60) (ho : ∀ s ∈ xs, castGo none (castS s) = 0) (i : Nat) (hi : i < xs.length) (out : List VoteT) (h : upTo xs i out) :
    ∃ out', l_spec_l8Chosen_3 FU xs (i : Int) (out, (0 : Int)) = some out' ∧ upTo xs (i + 1) out' := by
  unfold l_spec_l8Chosen_3
  have hci := hc _ (List.getElem_mem hi)
  have hQ : quo xs.length ≤ xs.length + 1 := by unfold quo; omega
  refine lp_for (fun r => ∃ out', r = some out' ∧ upTo xs (i + 1) out') (fun k z => z.2 = (k : Int) ∧ z.1.Pairwise (fun a b => a.1 < b.1) ∧ (∀ v, v ∈ z.1 ↔ quo xs.length ≤ cntV xs v ∧ ((∃ s ∈ xs.take i, v ∈ castS s) ∨ v ∈ (castS xs[i]).take k)) ∧ z.1.length ≤ 60 * i + k) (castS xs[i]).length (fun k z hk hz => ?_) (fun z hz rec => ?_) FU _ (FU_gt (by omega)) ⟨rfl, h.1, fun v => by rw [h.2.1]; simp, by simpa using h.2.2⟩
  · obtain ⟨o, kk⟩ := z
    obtain ⟨rfl, h1, h2, h3⟩ := hz
    simp only at h1 h2 h3
    have hol : o.length ≤ 1048576 := by omega
    have hv : (castS xs[i])[k] ∈ castS xs[i] := List.getElem_mem hk
    generalize hve : (castS xs[i])[k] = v at hv
    have hgo : geti (castS xs[i]) (k : Int) = some v := by rw [geti_lt _ k hk, hve]
    have hgi : geti xs (i : Int) = some xs[i] := geti_lt xs i hi
    have hcs : castS xs[i] = xs[i].2.2.2.2 := rfl
    have hcn := cntV_le xs v
    have hq : m_spec_l8Quorum (lenI xs) = some ((quo xs.length : Nat) : Int) := t_spec_l8Quorum xs.length (by unfold B36; omega)
    have tk : ∀ u, u ∈ (castS xs[i]).take (k + 1) ↔ u ∈ (castS xs[i]).take k ∨ u = v := by
      intro u
      rw [List.take_succ_eq_append_getElem hk, hve, List.mem_append, List.mem_singleton]
    obtain ⟨a1, _, _⟩ := takeWhile_at (fun u : VoteT => decide (u.1 < v.1)) o
    change atV o v.1 ≤ o.length at a1
    rw [hcs] at hgo hk
    by_cases hqc : quo xs.length ≤ cntV xs v
    · have hnew := ins_new (v := v) h1
      have hdq : decide (((cntV xs v : Nat) : Int) ≥ ((quo xs.length : Nat) : Int)) = true := by simpa using hqc
      by_cases hm : v ∈ o
      · refine .inr ⟨(o, ((k + 1 : Nat) : Int)), ⟨rfl, h1, fun u => ?_, by show o.length ≤ _; omega⟩, fun rec => ?_⟩
        · rw [h2, tk]
          constructor
          · rintro ⟨q1, q2 | q2⟩
            · exact ⟨q1, .inl q2⟩
            · exact ⟨q1, .inr (.inl q2)⟩
          · rintro ⟨q1, q2 | q2 | rfl⟩
            · exact ⟨q1, .inl q2⟩
            · exact ⟨q1, .inr q2⟩
            · exact (h2 u).1 hm
        · have hlt : atV o v.1 < o.length := by
            rcases Nat.lt_or_ge (atV o v.1) o.length with q | q
            · exact q
            · exact absurd hm (hnew.1 (.inl (by omega)))
          have he : o[atV o v.1] = v := by
            by_cases e : o[atV o v.1] = v
            · exact e
            · exact absurd hm (hnew.1 (.inr ⟨hlt, e⟩))
          have d1 : (((atV o v.1 : Nat) : Int) == lenI o) = false := by rw [lenI_eq, beq_eq_false_iff_ne]; omega
          have d2 : ((v.1 == v.1) && ((v.2 == v.2) && true)) = true := by simp
          simp only [hgi, Option.bind_some, lt_lenI hk, cond_true, hgo, t_l8Chosen_1 xs v hl hc, t_l8Chosen_2 o v.1 hol, hq, hdq, d1, cond_false, geti_lt o _ hlt, Int.toNat_natCast, List.getElem?_eq_getElem hlt, he, d2, Bool.not_true, wrap_next hk (Nat.le_trans hci (by omega))]
      · have hins := ins_sorted h1 (fun u hu e => quo_one ho ((h2 u).1 hu).1 hqc e) hm
        have hlen : (o.take (atV o v.1) ++ [v] ++ o.drop (atV o v.1)).length = o.length + 1 := by simp; omega
        refine .inr ⟨(o.take (atV o v.1) ++ [v] ++ o.drop (atV o v.1), ((k + 1 : Nat) : Int)), ⟨rfl, hins, fun u => ?_, by show List.length (o.take (atV o v.1) ++ [v] ++ o.drop (atV o v.1)) ≤ _; rw [hlen]; omega⟩, fun rec => ?_⟩
        · rw [ins_mem, h2, tk]
          constructor
          · rintro (rfl | ⟨q1, q2 | q2⟩)
            · exact ⟨hqc, .inr (.inr rfl)⟩
            · exact ⟨q1, .inl q2⟩
            · exact ⟨q1, .inr (.inl q2)⟩
          · rintro ⟨q1, q2 | q2 | rfl⟩
            · exact .inr ⟨q1, .inl q2⟩
            · exact .inr ⟨q1, .inr q2⟩
            · exact .inl rfl
        · have hcond : (cond (((atV o v.1 : Nat) : Int) == lenI o) (some true) ((geti o ((atV o v.1 : Nat) : Int)).bind fun _ => (o[((atV o v.1 : Nat) : Int).toNat]?).bind fun y753 => some (!((y753.1 == v.1) && ((y753.2 == v.2) && true))))) = some true := by
            rcases hnew.2 hm with e | ⟨hlt, e⟩
            · have d1 : (((atV o v.1 : Nat) : Int) == lenI o) = true := by rw [lenI_eq, e]; simp
              rw [d1, cond_true]
            · have d1 : (((atV o v.1 : Nat) : Int) == lenI o) = false := by rw [lenI_eq, beq_eq_false_iff_ne]; omega
              have d2 : ((o[atV o v.1].1 == v.1) && ((o[atV o v.1].2 == v.2) && true)) = false := by
                rw [Bool.and_true]
                have : (o[atV o v.1] == v) = false := by simpa using e
                exact this
              simp only [d1, cond_false, geti_lt o _ hlt, Option.bind_some, Int.toNat_natCast, List.getElem?_eq_getElem hlt, d2, Bool.not_false]
          simp only [Int.toNat_natCast] at hcond
          have b1 : bndB none (some ((atV o v.1 : Nat) : Int)) none o.length = true := by simp [bndB]; omega
          have b2 : bndB (some ((atV o v.1 : Nat) : Int)) none none o.length = true := by simp [bndB]; omega
          have eD : (o.drop (atV o v.1)).take (o.length - atV o v.1) = o.drop (atV o v.1) := List.take_of_length_le (by rw [List.length_drop]; omega)
          have n1 : Nat.ble ((o.take (atV o v.1)).length * 16) maxBytes = true := by rw [Nat.ble_eq, List.length_take]; unfold maxBytes; omega
          have n2 : Nat.ble (((o.take (atV o v.1)).length + [v].length) * 16) maxBytes = true := by rw [Nat.ble_eq, List.length_take]; simp only [List.length_singleton]; unfold maxBytes; omega
          have n3 : Nat.ble (((o.take (atV o v.1) ++ [v]).length + (o.drop (atV o v.1)).length) * 16) maxBytes = true := by rw [Nat.ble_eq, List.length_append, List.length_take, List.length_drop]; simp only [List.length_singleton]; unfold maxBytes; omega
          simp only [hgi, Option.bind_some, lt_lenI hk, cond_true, hgo, t_l8Chosen_1 xs v hl hc, t_l8Chosen_2 o v.1 hol, hq, hdq, hcond, Int.toNat_natCast, List.drop_zero, b1, b2, eD, n1, n2, n3, chk, wrap_next hk (Nat.le_trans hci (by omega))]
    · have hdq : decide (((cntV xs v : Nat) : Int) ≥ ((quo xs.length : Nat) : Int)) = false := by simpa using hqc
      refine .inr ⟨(o, ((k + 1 : Nat) : Int)), ⟨rfl, h1, fun u => ?_, by show o.length ≤ _; omega⟩, fun rec => ?_⟩
      · rw [h2, tk]
        constructor
        · rintro ⟨q1, q2 | q2⟩
          · exact ⟨q1, .inl q2⟩
          · exact ⟨q1, .inr (.inl q2)⟩
        · rintro ⟨q1, q2 | q2 | rfl⟩
          · exact ⟨q1, .inl q2⟩
          · exact ⟨q1, .inr q2⟩
          · exact absurd q1 hqc
      · simp only [hgi, Option.bind_some, lt_lenI hk, cond_true, hgo, t_l8Chosen_1 xs v hl hc, t_l8Chosen_2 o v.1 hol, hq, hdq, cond_false, wrap_next hk (Nat.le_trans hci (by omega))]
  · obtain ⟨o, kk⟩ := z
    obtain ⟨rfl, h1, h2, h3⟩ := hz
    simp only at h1 h2 h3
    have hgi : geti xs (i : Int) = some xs[i] := geti_lt xs i hi
    refine ⟨o, ?_, h1, fun v => ?_, by omega⟩
    · simp only [hgi, Option.bind_some]
      show cond (decide (((castS xs[i]).length : Int) < lenI (castS xs[i]))) _ _ = _
      simp only [ge_lenI, cond_false]
    · rw [h2, List.take_length, List.take_succ_eq_append_getElem hi]
      constructor
      · rintro ⟨q1, ⟨s, hs, q2⟩ | q2⟩
        · exact ⟨q1, s, List.mem_append_left _ hs, q2⟩
        · exact ⟨q1, xs[i], List.mem_append_right _ (by simp), q2⟩
      · rintro ⟨q1, s, hs, q2⟩
        rcases List.mem_append.1 hs with hs | hs
        · exact ⟨q1, .inl ⟨s, hs, q2⟩⟩
        · rw [List.mem_singleton] at hs; subst hs; exact ⟨q1, .inr q2⟩
theorem t_spec_l8Chosen (xs : List SlotT) (hl : xs.length ≤ 9) (hc : ∀ s ∈ xs, (castS s).length ≤ 60) (ho : ∀ s ∈ xs, castGo none (castS s) = 0) : ∃ out, m_spec_l8Chosen xs = some out ∧ chosenOK xs out ∧ out.length ≤ 540 := by
  show ∃ out, p_spec_l8Chosen FU xs = some out ∧ _
  unfold p_spec_l8Chosen l_spec_l8Chosen_4
  refine lp_for (fun r => ∃ out, r = some out ∧ chosenOK xs out ∧ out.length ≤ 540) (fun i z => z.2 = (i : Int) ∧ upTo xs i z.1) xs.length (fun i z hi hz => ?_) (fun z hz rec => ?_) FU _ (FU_gt (by omega)) ⟨rfl, List.Pairwise.nil, fun v => by simp, by simp⟩
  · obtain ⟨o, ii⟩ := z
    obtain ⟨rfl, h⟩ := hz
    obtain ⟨o', e, h'⟩ := t_l8Chosen_3 xs hl hc ho i hi o h
    refine .inr ⟨(o', ((i + 1 : Nat) : Int)), ⟨rfl, h'⟩, fun rec => ?_⟩
    simp only [lt_lenI hi, cond_true, e, Option.bind_some, wrap_next hi (Nat.le_trans hl (by omega))]
  · obtain ⟨o, ii⟩ := z
    obtain ⟨rfl, h1, h2, h3⟩ := hz
    simp only at h1 h2 h3
    refine ⟨o, by simp only [ge_lenI, cond_false], ⟨h1, fun v => ?_⟩, by omega⟩
    rw [h2, List.take_length]
    constructor
    · exact fun h => h.1
    · intro h
      refine ⟨h, ?_⟩
      have : 0 < cntV xs v := by unfold quo at h; omega
      obtain ⟨s, hs, h⟩ := List.countP_pos_iff.1 this
      exact ⟨s, hs, by simpa using h⟩

theorem t_spec_ChosenIn (xs : List SlotT) (hl : xs.length ≤ 1048576) : ∃ r, m_spec_ChosenIn xs = some r ∧ chosenP xs r := by
  show ∃ r, p_spec_ChosenIn FU xs = some r ∧ _
  unfold p_spec_ChosenIn
  simp only [t_spec_l8Asked xs hl, Option.bind_some]
  by_cases h0 : askCode xs = 0
  · obtain ⟨q1, q2, q3⟩ := ask_cast h0
    obtain ⟨out, e, ho, hlo⟩ := t_spec_l8Chosen xs q1 q2 q3
    have hb : (!(askCode xs == 0)) = false := by rw [h0]; rfl
    simp only [hb, cond_false, e, Option.bind_some]
    refine ⟨_, ?_, .inr ⟨h0, out, ho, rfl⟩⟩
    cases out with
    | nil => rfl
    | cons v r =>
      have d : (lenI (v :: r) == 0) = false := by rw [lenI_eq, beq_eq_false_iff_ne, List.length_cons]; omega
      have hz : geti (v :: r) (0 : Int) = some v := rfl
      simp only [d, cond_false, hz, Option.bind_some]
      rfl
  · have hb : (!(askCode xs == 0)) = true := by simpa using h0
    simp only [hb, cond_true]
    exact ⟨_, rfl, .inl ⟨h0, rfl⟩⟩

theorem t_impl_within (a b c : Int) : m_impl_within (a, b, c) = some (inB a b c) := by
  show p_impl_within FU _ = _
  unfold p_impl_within inB
  by_cases h : b ≤ a <;> simp [h]

theorem t_impl_isId (a : Int) : m_impl_isId a = some (idB a) := by
  show p_impl_isId FU _ = _
  unfold p_impl_isId idB
  rw [t_impl_within]; rfl

theorem t_impl_isShard (a : Int) : m_impl_isShard a = some (shB a) := by
  show p_impl_isShard FU _ = _
  unfold p_impl_isShard shB
  rw [t_impl_within]; rfl

theorem t_impl_isBallot (a : Int) : m_impl_isBallot a = some (bal a) := by
  show p_impl_isBallot FU _ = _
  unfold p_impl_isBallot bal
  rw [t_impl_within]; rfl

theorem t_impl_isValue (a : Int) : m_impl_isValue a = some (vlu a) := by
  show p_impl_isValue FU _ = _
  unfold p_impl_isValue vlu
  cases h : (a == (1 : Int)) <;> simp

theorem t_impl_isVote (a : Int × Int) : m_impl_isVote a = some (votB a) := by
  show p_impl_isVote FU _ = _
  unfold p_impl_isVote votB
  rw [t_impl_isBallot, t_impl_isValue]
  cases bal a.1 <;> rfl

theorem t_impl_castFault (xs : List (Int × Int)) (h : xs.length ≤ 60) : m_impl_castFault xs = some (castGo none xs) := by
  show p_impl_castFault FU _ = _
  unfold p_impl_castFault l_impl_castFault_1
  rw [← cast_all]
  refine (lp_fst xs (castF xs) (some 0) (by unfold B36; omega) (fun i hi rec hw => ?_) (fun rec => ?_)).trans (by cases fstI (castF xs) 0 xs <;> rfl)
  · simp only [lt_lenI hi, cond_true, geti_lt xs i hi, Option.bind_some, t_impl_isVote, castF, hw]
    cases votB xs[i] with
    | false => rfl
    | true =>
      simp only [Bool.not_true, cond_false]
      by_cases h0 : 0 < i
      · have hd : decide ((i : Int) > 0) = true := by simp; omega
        have hp := prv (i := i) (by unfold B36; omega) h0
        have hi1 : i - 1 < xs.length := by omega
        simp only [hd, cond_true, hp, geti_lt xs _ hi1, Option.bind_some, h0, decide_true, Bool.true_and, List.getElem?_eq_getElem hi1, Option.getD_some, badP]
        cases decide (xs[i].1 < xs[i - 1].1) <;> cases (xs[i].1 == xs[i - 1].1) <;> cases (xs[i].2 == xs[i - 1].2) <;> rfl
      · have hd : decide ((i : Int) > 0) = false := by simp; omega
        simp only [hd, cond_false, Option.bind_some, h0, decide_false, Bool.false_and, cond_false]
  · simp only [ge_lenI, cond_false]

theorem t_impl_noVote : m_impl_noVote () = some (-1, 0) := rfl

theorem t_impl_lastCast (xs : List (Int × Int)) (h : xs.length ≤ 60) : m_impl_lastCast xs = some (lastV xs) := by
  show p_impl_lastCast FU _ = _
  unfold p_impl_lastCast lastV
  by_cases h0 : xs.length = 0
  · have : xs = [] := List.eq_nil_of_length_eq_zero h0
    subst this
    rfl
  · have h1 : (lenI xs == 0) = false := by rw [lenI_eq, beq_eq_false_iff_ne]; omega
    have h2 : IntKind.wrap .i64 (lenI xs - 1) = ((xs.length - 1 : Nat) : Int) := by rw [lenI_eq, wrap64 (by omega) (by omega)]; omega
    have hlt : xs.length - 1 < xs.length := by omega
    simp only [h1, cond_false, h2, geti_lt xs _ hlt, Option.bind_some]
    rw [List.getLast?_eq_getElem?, List.getElem?_eq_getElem hlt]
    rfl

theorem t_impl_SlotFault (x : SlotT) : m_impl_SlotFault x = some (slotCode x) := by
  obtain ⟨a, b, c, d, xs⟩ := x
  show p_impl_SlotFault FU _ = _
  unfold p_impl_SlotFault slotCode
  simp only [t_impl_isId, t_impl_isShard, t_impl_within, Option.bind_some]
  have e0 : (cond (!idB a) (some true) (cond (!shB b) (some true) (some (!inB c (-1) 1000)))) = some (!(idB a && (shB b && inB c (-1) 1000))) := by
    cases idB a <;> cases shB b <;> rfl
  rw [e0]
  simp only [Option.bind_some]
  cases (idB a && (shB b && inB c (-1) 1000)) with
  | false => rfl
  | true =>
    simp only [Bool.not_true, cond_false]
    by_cases hl : xs.length > 60
    · have : decide (lenI xs > 60) = true := by simp [lenI_eq]; omega
      simp [this, hl]
    · have : decide (lenI xs > 60) = false := by simp [lenI_eq]; omega
      simp only [this, cond_false, if_neg hl, t_impl_castFault xs (by omega), t_impl_lastCast xs (by omega), Option.bind_some]
      by_cases hc : castGo none xs = 0
      · obtain ⟨d1, d2⟩ := d
        have e2 : (!((d1 == (lastV xs).1) && ((d2 == (lastV xs).2) && true))) = !((d1, d2) == lastV xs) := by
          rw [Bool.and_true]; rfl
        simp only [hc, e2]
        cases ((d1, d2) == lastV xs) with
        | false => simp
        | true => by_cases hh : d1 > c <;> simp [hh]
      · have hb : (castGo none xs == 0) = false := by rw [beq_eq_false_iff_ne]; exact hc
        simp [hc, hb]

theorem t_impl_size_impl_Slot (xs : List SlotT) : m_impl_size_impl_Slot xs = some (lenI xs) := rfl

theorem t_impl_slotsFault (xs : List SlotT) (hl : xs.length ≤ 1048576) : m_impl_slotsFault xs = some (askCode xs) := by
  show p_impl_slotsFault FU _ = _
  unfold p_impl_slotsFault askCode
  have hB : xs.length ≤ B36 := by unfold B36; omega
  have e1 : l_impl_slotsFault_1 FU xs 0 = match fstI askF 0 xs with
      | some r => some (Sum.inr r)
      | none => some (Sum.inl ()) := by
    unfold l_impl_slotsFault_1
    refine (lp_fst xs (fun i v => (askF i v).map Sum.inr) (some (Sum.inl ())) hB (fun i hi rec hw => ?_) (fun rec => ?_)).trans ?_
    · simp only [lt_lenI hi, cond_true, geti_lt xs i hi, Option.bind_some, t_impl_SlotFault, askF, hw]
      cases slotCode xs[i] == 0 <;> rfl
    · simp only [ge_lenI, cond_false]
    · rw [fstI_map]
      cases fstI askF 0 xs <;> rfl
  rw [e1]
  cases fstI askF 0 xs with
  | some r => rfl
  | none =>
    simp only [Option.bind_some, Sum.elim_inl, t_impl_size_impl_Slot, t_impl_within]
    by_cases hn : xs.length < 1 ∨ 9 < xs.length
    · have : inB (lenI xs) 1 9 = false := by
        unfold inB; rw [lenI_eq]
        rcases hn with h | h
        · have : decide ((1 : Int) ≤ (xs.length : Int)) = false := decide_eq_false (by omega)
          rw [this]; rfl
        · have : decide ((xs.length : Int) ≤ (9 : Int)) = false := decide_eq_false (by omega)
          rw [this, Bool.and_false]
      simp only [this, Bool.not_false, cond_true, if_pos hn]
    · have : inB (lenI xs) 1 9 = true := by
        unfold inB; rw [lenI_eq, decide_eq_true (show (1 : Int) ≤ (xs.length : Int) by omega), decide_eq_true (show (xs.length : Int) ≤ 9 by omega)]; rfl
      simp only [this, Bool.not_true, cond_false, if_neg hn]
      unfold l_impl_slotsFault_2
      have h0 : 0 < xs.length := by omega
      have e2 := lp_place (R := Int) xs (fun s => !(s.1 == (xs[0]?.getD s).1) || !(s.2.1 == (xs[0]?.getD s).2.1)) (fun i => some (i : Int)) (some (-1 : Int)) (step := fun rec44 (z43 : Int) =>
        (cond (decide (z43 < (lenI xs))) ((geti xs z43).bind fun y45 => (Option.bind ((geti xs (0 : Int)).bind fun y48 => (cond (!(y45.1 == y48.1)) (some true) ((geti xs (0 : Int)).bind fun y49 => some (!(y45.2.1 == y49.2.1))))) fun j50 => (cond j50 (some z43) (rec44 (IntKind.wrap .i64 (z43 + (1 : Int))))))) (some (-1 : Int)))) hB (fun i hi rec hw => by
          have hz : geti xs (0 : Int) = some xs[0] := geti_lt xs 0 h0
          have hz2 : xs[0]? = some xs[0] := List.getElem?_eq_getElem h0
          simp only [lt_lenI hi, cond_true, geti_lt xs i hi, hz, hz2, Option.bind_some, Option.getD_some, hw]
          cases (xs[i].1 == xs[0].1) with
          | false => rfl
          | true => cases (xs[i].2.1 == xs[0].2.1) <;> rfl) (fun rec => by simp only [ge_lenI, cond_false])
      rw [e2]
      cases hf : xs.findIdx? (fun s => !(s.1 == (xs[0]?.getD s).1) || !(s.2.1 == (xs[0]?.getD s).2.1)) with
      | none =>
        have : xs.any (fun s => !(s.1 == (xs[0]?.getD s).1) || !(s.2.1 == (xs[0]?.getD s).2.1)) = false := by
          rw [List.findIdx?_eq_none_iff] at hf
          rw [List.any_eq_false]
          intro s hs
          have := hf s hs
          simpa using this
        rw [this]; rfl
      | some i =>
        have : xs.any (fun s => !(s.1 == (xs[0]?.getD s).1) || !(s.2.1 == (xs[0]?.getD s).2.1)) = true := by
          rw [List.findIdx?_eq_some_iff_getElem] at hf
          obtain ⟨h, h1, _⟩ := hf
          rw [List.any_eq_true]
          exact ⟨_, List.getElem_mem h, h1⟩
        rw [this]
        simp only [Option.bind_some, cond_true]
        have : decide ((i : Int) ≥ 0) = true := decide_eq_true (by omega)
        rw [this, cond_true]

theorem t_slices_Clone_impl_Vote_impl_Vote (xs : List (Int × Int)) (h : xs.length ≤ 1048576) : m_slices_Clone_impl_Vote_impl_Vote xs = some xs := by
  show p_slices_Clone_impl_Vote_impl_Vote FU _ = _
  unfold p_slices_Clone_impl_Vote_impl_Vote
  have hb : Nat.ble ((([] : List (Int × Int)).length + xs.length) * 16) maxBytes = true := ble_mem (by simp only [List.length_nil, maxBytes]; omega)
  rw [chk_true hb]
  exact clone_same xs _ rfl

theorem t_slices_Compact_impl_Vote_impl_Vote (x : List VoteT) (hl : x.length ≤ 1048576) : m_slices_Compact_impl_Vote_impl_Vote x = some (dd x, true) := by
  show p_slices_Compact_impl_Vote_impl_Vote FU x = _
  unfold p_slices_Compact_impl_Vote_impl_Vote
  by_cases h2 : x.length < 2
  · have : decide (lenI x < 2) = true := decide_eq_true (by rw [lenI_eq]; omega)
    rw [this, cond_true, dd_same x (fun i hi => by omega)]
  · have : decide (lenI x < 2) = false := decide_eq_false (by rw [lenI_eq]; omega)
    rw [this, cond_false]
    unfold l_slices_Compact_impl_Vote_impl_Vote_2
    have hee : ∀ a b : VoteT, ((a.1 == b.1) && ((a.2 == b.2) && true)) = (a == b) := fun a b => by rw [Bool.and_true]; rfl
    refine lp_for (fun r => r = some (dd x, true)) (fun i z => z = ((i + 1 : Nat) : Int) ∧ ∀ (j : Nat) (h : j + 1 < i + 1) (h' : j + 1 < x.length), (x[j + 1] == x[j]) = false) (x.length - 1) (fun i z hi hz => ?_) (fun z hz rec => ?_) FU _ (FU_gt (by omega)) ⟨rfl, fun j hj => by omega⟩
    · obtain ⟨rfl, hz⟩ := hz
      have hi1 : i + 1 < x.length := by omega
      have wp : IntKind.wrap .i64 (((i + 1 : Nat) : Int) - 1) = ((i : Nat) : Int) := by rw [wrap64 (by omega) (by omega)]; omega
      have wn : IntKind.wrap .i64 (((i + 1 : Nat) : Int) + 1) = ((i + 1 + 1 : Nat) : Int) := by rw [wrap64 (by omega) (by omega)]; omega
      cases hq : x[i + 1] == x[i] with
      | false =>
        refine .inr ⟨((i + 1 + 1 : Nat) : Int), ⟨rfl, fun j hj h' => ?_⟩, fun rec => ?_⟩
        · rcases Nat.lt_or_ge (j + 1) (i + 1) with q | q
          · exact hz j q h'
          · have : j = i := by omega
            subst this; exact hq
        · simp only [lt_lenI hi1, cond_true, geti_lt x (i + 1) hi1, wp, geti_lt x i (by omega), Int.toNat_natCast, List.getElem?_eq_getElem hi1, List.getElem?_eq_getElem (show i < x.length by omega), Option.bind_some, hee, hq, cond_false, Sum.elim_inl, wn]
      | true =>
        obtain ⟨w, cur, e1, e2, e3, e4⟩ := compact1 (fun a b : VoteT => (a.1 == b.1) && ((a.2 == b.2) && true)) hee x hl (i + 1) (by omega) hi1 (fun j h => hz j h (by omega)) hq
        have e1' : l_slices_Compact_impl_Vote_impl_Vote_1 FU x ((i + 1 : Nat) : Int) (((i + 1 : Nat) : Int), (1 : Int), x) = some (((w : Nat) : Int), cur) := e1
        refine .inl fun rec => ?_
        have b1 : bndB (some ((i + 1 : Nat) : Int)) none none x.length = true := by simp [bndB]; omega
        have b2 : bndB (some ((w : Nat) : Int)) none none cur.length = true := by simp [bndB]; omega
        have hlen : (cur.take w ++ List.replicate (cur.length - w) ((0 : Int), (0 : Int)) ++ cur.drop (w + (cur.length - w))).length = cur.length := by simp; omega
        have b3 : bndB none (some ((w : Nat) : Int)) none (cur.take w ++ List.replicate (cur.length - w) ((0 : Int), (0 : Int)) ++ cur.drop (w + (cur.length - w))).length = true := by rw [hlen]; simp [bndB]; omega
        have ht : (cur.take w ++ List.replicate (cur.length - w) ((0 : Int), (0 : Int)) ++ cur.drop (w + (cur.length - w))).take w = dd x := by
          rw [List.append_assoc, List.take_append_of_le_length (by rw [List.length_take]; omega), List.take_take, Nat.min_self, e4]
        simp only [lt_lenI hi1, cond_true, geti_lt x (i + 1) hi1, wp, geti_lt x i (by omega), Int.toNat_natCast, List.getElem?_eq_getElem hi1, List.getElem?_eq_getElem (show i < x.length by omega), Option.bind_some, hee, hq, chk, b1, e1', b2, b3, ht, Sum.elim_inr]
    · obtain ⟨rfl, hz⟩ := hz
      have : decide (((x.length - 1 + 1 : Nat) : Int) < lenI x) = false := decide_eq_false (by rw [lenI_eq]; omega)
      simp only [this, cond_false]
      rw [dd_same x (fun i hi => hz i (by omega) hi)]

theorem t_impl_quorum (n : Nat) (hn : n ≤ B36) : m_impl_quorum (n : Int) = some ((quo n : Nat) : Int) := by
  show p_impl_quorum FU _ = _
  unfold p_impl_quorum quo
  unfold B36 at hn
  have e1 : ((2 : Int) == 0) = false := rfl
  rw [e1, cond_false, Int.tdiv_eq_ediv_of_nonneg (by omega), wrap64 (n := (n : Int) / 2) (by omega) (by omega), wrap64 (by omega) (by omega)]
  rfl

theorem t_slices_SortFunc_impl_Vote_impl_Vote (o : List VoteT) : m_slices_SortFunc_impl_Vote_impl_Vote (o, true) = sortRun okVote ((0 : Int), (0 : Int)) rfl cfVote o := by
  show p_slices_SortFunc_impl_Vote_impl_Vote FU _ = _
  unfold p_slices_SortFunc_impl_Vote_impl_Vote
  rfl

theorem keq_vote : ∀ a b : (Kd.pair (.int .i64) (.int .i64)).ty, keqB (.pair (.int .i64) (.int .i64)) a b = true ↔ a = b := by
  intro a b
  rw [keqB_vote a b]
  exact beq_iff_eq (α := VoteT)
def cntK (xs : List SlotT) (i : Nat) (D : List VoteT) (k : Nat) (v : VoteT) : Nat := cntV (xs.take i) v + if v ∈ D.take k then 1 else 0
def chI (xs : List SlotT) (c : VoteT → Nat) (n : Nat) (o : List VoteT) (m : List (VoteT × Int)) : Prop :=
  o.Nodup ∧ (∀ v, v ∈ o ↔ quo xs.length ≤ c v) ∧ (∀ v, mlook (.pair (.int .i64) (.int .i64)) m v = ((c v : Nat) : Int)) ∧ o.length ≤ n
theorem chI_of {xs : List SlotT} {c c' : VoteT → Nat} {n n' : Nat} {o : List VoteT} {m : List (VoteT × Int)} (h : chI xs c n o m) (hc : ∀ v, c' v = c v) (hn : n ≤ n') : chI xs c' n' o m :=
  ⟨h.1, fun v => by rw [hc]; exact h.2.1 v, fun v => by rw [hc]; exact h.2.2.1 v, Nat.le_trans h.2.2.2 hn⟩
theorem t_chosen_1 (f : Nat) (hf : 70 < f) (xs : List SlotT) (hl : xs.length ≤ 9) (i : Nat) (D : List VoteT) (hD : D.Nodup) (hDl : D.length ≤ 60) (hi : i < 9) (n : Nat) (hn : n ≤ 540) (o : List VoteT) (m : List (VoteT × Int)) (h : chI xs (cntV (xs.take i)) n o m) :
    ∃ o' m', l_impl_chosen_1 f D xs (o, (0 : Int), m) = some (o', m') ∧ chI xs (cntK xs i D D.length) (n + D.length) o' m' := by
  unfold l_impl_chosen_1
  refine lp_for (fun r => ∃ o' m', r = some (o', m') ∧ chI xs (cntK xs i D D.length) (n + D.length) o' m') (fun k z => z.2.1 = (k : Int) ∧ chI xs (cntK xs i D k) (n + k) z.1 z.2.2) D.length (fun k z hk hz => ?_) (fun z hz rec => ?_) f _ (by omega) ⟨rfl, chI_of h (fun v => by simp [cntK]) (by omega)⟩
  · obtain ⟨o, kk, m⟩ := z
    obtain ⟨rfl, h1, h2, h3, h4⟩ := hz
    simp only at h1 h2 h3 h4
    generalize hy : D[k] = y
    have hgy : geti D (k : Int) = some y := by rw [geti_lt D k hk, hy]
    have hgy2 : D[k]? = some y := by rw [List.getElem?_eq_getElem hk, hy]
    have hyn : y ∉ D.take k := by
      intro hm
      obtain ⟨j, hj, e⟩ := List.getElem_of_mem hm
      rw [List.length_take] at hj
      rw [List.getElem_take] at e
      exact nodup_ne hD (show j < k by omega) hk (e.trans hy.symm)
    have hcK : ∀ v, cntK xs i D (k + 1) v = cntK xs i D k v + if v = y then 1 else 0 := by
      intro v
      unfold cntK
      rw [List.take_succ_eq_append_getElem hk, hy]
      simp only [List.mem_append, List.mem_singleton]
      by_cases e : v = y
      · subst e
        rw [if_neg hyn, if_pos (.inr rfl), if_pos rfl]
      · rw [if_neg e]
        by_cases e2 : v ∈ D.take k
        · rw [if_pos (.inl e2), if_pos e2]
        · rw [if_neg (by rintro (q | q); exact e2 q; exact e q), if_neg e2]
    have hle : cntK xs i D k y ≤ 10 := by
      have := cntV_le (xs.take i) y
      rw [List.length_take] at this
      unfold cntK
      split <;> omega
    have hw : IntKind.wrap .i64 (mlook (.pair (.int .i64) (.int .i64)) m y + (1 : Int)) = ((cntK xs i D k y + 1 : Nat) : Int) := by rw [h3, wrap64 (by omega) (by omega)]; omega
    have hput := fun v c => mlook_set1 (.pair (.int .i64) (.int .i64)) keq_vote m y v c
    have hf := (hput y 0).1
    have hgf : geti (mput (.pair (.int .i64) (.int .i64)) m y) ((mfind (.pair (.int .i64) (.int .i64)) m y : Nat) : Int) = some ((mput (.pair (.int .i64) (.int .i64)) m y)[mfind (.pair (.int .i64) (.int .i64)) m y]) := geti_lt _ _ hf
    have hll : ∀ v, mlook (.pair (.int .i64) (.int .i64)) (mset (.pair (.int .i64) (.int .i64)) (mput (.pair (.int .i64) (.int .i64)) m y) (mfind (.pair (.int .i64) (.int .i64)) m y) ((cntK xs i D k y + 1 : Nat) : Int)) v = ((cntK xs i D (k + 1) v : Nat) : Int) := by
      intro v
      rw [(hput v _).2, hcK, keqB_vote]
      by_cases e : v = y
      · subst e
        have : ((v : VoteT) == v) = true := by simp
        rw [this, cond_true, if_pos rfl]
      · have : ((v : VoteT) == y) = false := by simpa using e
        rw [this, cond_false, if_neg e, h3]; rfl
    have hq : m_impl_quorum (lenI xs) = some ((quo xs.length : Nat) : Int) := t_impl_quorum xs.length (by unfold B36; omega)
    have hyy := hll y
    rw [hcK, if_pos rfl] at hyy
    have wn := wrap_next hk (Nat.le_trans hDl (by omega))
    by_cases hqc : cntK xs i D k y + 1 = quo xs.length
    · have hb : (((cntK xs i D k y + 1 : Nat) : Int) == ((quo xs.length : Nat) : Int)) = true := by rw [hqc]; simp
      have hyo : y ∉ o := fun hm => by have := (h2 y).1 hm; omega
      refine .inr ⟨(o ++ [y], ((k + 1 : Nat) : Int), mset (.pair (.int .i64) (.int .i64)) (mput (.pair (.int .i64) (.int .i64)) m y) (mfind (.pair (.int .i64) (.int .i64)) m y) ((cntK xs i D k y + 1 : Nat) : Int)), ⟨rfl, ?_, fun v => ?_, hll, ?_⟩, fun rec => ?_⟩
      · exact List.nodup_append.2 ⟨h1, by simp, fun a ha b hb => by rw [List.mem_singleton] at hb; subst hb; exact fun e => hyo (e ▸ ha)⟩
      · rw [List.mem_append, List.mem_singleton, h2, hcK]
        by_cases e : v = y
        · subst e; rw [if_pos rfl]; exact ⟨fun _ => by omega, fun _ => .inr rfl⟩
        · rw [if_neg e]; exact ⟨fun h => by rcases h with h | h; omega; exact absurd h e, fun h => .inl (by omega)⟩
      · show (o ++ [y]).length ≤ _
        rw [List.length_append, List.length_singleton]; omega
      · have n1 : Nat.ble ((o.length + [y].length) * 16) maxBytes = true := by rw [Nat.ble_eq]; simp only [List.length_singleton]; unfold maxBytes; omega
        simp only [lt_lenI hk, cond_true, hgy, hgy2, Int.toNat_natCast, Option.bind_some, hgf, hq, hw, hyy, hb, chk, n1, wn]
    · have hb : (((cntK xs i D k y + 1 : Nat) : Int) == ((quo xs.length : Nat) : Int)) = false := by rw [beq_eq_false_iff_ne]; omega
      refine .inr ⟨(o, ((k + 1 : Nat) : Int), mset (.pair (.int .i64) (.int .i64)) (mput (.pair (.int .i64) (.int .i64)) m y) (mfind (.pair (.int .i64) (.int .i64)) m y) ((cntK xs i D k y + 1 : Nat) : Int)), ⟨rfl, h1, fun v => ?_, hll, ?_⟩, fun rec => ?_⟩
      · rw [h2, hcK]
        by_cases e : v = y
        · subst e; rw [if_pos rfl]; omega
        · rw [if_neg e]; omega
      · show o.length ≤ _; omega
      · simp only [lt_lenI hk, cond_true, hgy, hgy2, Int.toNat_natCast, Option.bind_some, hgf, hq, hw, hyy, hb, cond_false, wn]
  · obtain ⟨o, kk, m⟩ := z
    obtain ⟨rfl, h⟩ := hz
    exact ⟨o, m, by simp only [ge_lenI, cond_false], h⟩
theorem t_chosen_2 (xs : List SlotT) (hl : xs.length ≤ 9) (hc : ∀ s ∈ xs, (castS s).length ≤ 60) (ho : ∀ s ∈ xs, castGo none (castS s) = 0) : ∃ o m, l_impl_chosen_2 FU xs (([] : List (Int × Int)), (0 : Int), ([] : List ((Int × Int) × Int))) = some (o, m) ∧ chI xs (cntV xs) 540 o m := by
  suffices key : ∀ n, 70 < n → ∃ o m, l_impl_chosen_2 n xs (([] : List (Int × Int)), (0 : Int), ([] : List ((Int × Int) × Int))) = some (o, m) ∧ chI xs (cntV xs) 540 o m from key FU (by unfold FU; omega)
  intro n hn
  unfold l_impl_chosen_2
  have hq1 : 1 ≤ quo xs.length := by unfold quo; omega
  refine lp_for (fun r => ∃ o m, r = some (o, m) ∧ chI xs (cntV xs) 540 o m) (fun i z => z.2.1 = (i : Int) ∧ chI xs (cntV (xs.take i)) (60 * i) z.1 z.2.2) xs.length (fun i z hi hz => ?_) (fun z hz rec => ?_) n _ (by omega) ⟨rfl, List.nodup_nil, fun v => ?_, fun v => ?_, by simp⟩
  · obtain ⟨o, ii, m⟩ := z
    obtain ⟨rfl, h⟩ := hz
    have hs : xs[i] ∈ xs := List.getElem_mem hi
    have hord := cast_ord (ho _ hs)
    have hcl := hc _ hs
    have hdl := dd_len (castS xs[i])
    have hN := dd_nodup hord
    have hM := dd_mem (castS xs[i])
    have c1 : m_slices_Clone_impl_Vote_impl_Vote xs[i].2.2.2.2 = some (castS xs[i]) := t_slices_Clone_impl_Vote_impl_Vote (castS xs[i]) (by omega)
    have c2 := t_slices_Compact_impl_Vote_impl_Vote (castS xs[i]) (by omega)
    generalize dd (castS xs[i]) = D at hdl hN c2 hM
    obtain ⟨o', m', e, h'⟩ := t_chosen_1 n hn xs hl i D hN (by omega) (by omega) (60 * i) (by omega) o m h
    refine .inr ⟨(o', ((i + 1 : Nat) : Int), m'), ⟨rfl, chI_of h' (fun v => ?_) (by omega)⟩, fun rec => ?_⟩
    · rw [List.take_succ_eq_append_getElem hi]
      unfold cntK cntV
      rw [List.countP_append, List.countP_singleton, List.take_length]
      congr 1
      by_cases hm : v ∈ D
      · rw [if_pos hm, if_pos (by simpa using (hM v).1 hm)]
      · rw [if_neg hm, if_neg (by simpa using fun q => hm ((hM v).2 q))]
    · simp only [lt_lenI hi, cond_true, geti_lt xs i hi, Option.bind_some, c1, c2, e, wrap_next hi (Nat.le_trans hl (by omega))]
  · obtain ⟨o, ii, m⟩ := z
    obtain ⟨rfl, h⟩ := hz
    refine ⟨o, m, by simp only [ge_lenI, cond_false], chI_of h (fun v => by rw [List.take_length]) (by omega)⟩
  · simp only [List.take_zero]
    constructor
    · intro h; cases h
    · intro h; simp [cntV] at h; omega
  · have : cntV (xs.take 0) v = 0 := by simp [cntV]
    rw [this]; rfl
theorem t_impl_chosen (xs : List SlotT) (hl : xs.length ≤ 9) (hc : ∀ s ∈ xs, (castS s).length ≤ 60) (ho : ∀ s ∈ xs, castGo none (castS s) = 0) : ∃ out, m_impl_chosen xs = some out ∧ chosenOK xs out ∧ out.length ≤ 540 := by
  show ∃ out, p_impl_chosen FU xs = some out ∧ _
  unfold p_impl_chosen
  have e1 := t_chosen_2 xs hl hc ho
  obtain ⟨o, m, e, h1, h2, h3, h4⟩ := e1
  have hok : ∀ v ∈ o, okVote v = true := by
    intro v hv
    have := quo_bal ho ((h2 v).1 hv)
    unfold okVote
    rw [decide_eq_true this.1, decide_eq_true (show v.1 < 4611686018427387904 by omega)]; rfl
  obtain ⟨ys, s1, s2, s3⟩ := sortRun_some (d0 := ((0 : Int), (0 : Int))) (h0 := rfl) swoVote (xs := o) (by omega) hok
  have s1' : m_slices_SortFunc_impl_Vote_impl_Vote (o, true) = some ys := (t_slices_SortFunc_impl_Vote_impl_Vote o).trans s1
  refine ⟨ys, by simp only [e, Option.bind_some, s1'], ⟨?_, fun v => (s2.mem_iff).trans (h2 v)⟩, by rw [s2.length_eq]; exact h4⟩
  have hnd : ys.Nodup := s2.nodup_iff.2 h1
  have := List.pairwise_iff_getElem.1 s3
  rw [List.pairwise_iff_getElem]
  intro a b ha hb hab
  have q := this a b ha hb hab
  have ma : ys[a] ∈ o := s2.mem_iff.1 (List.getElem_mem ha)
  have mb : ys[b] ∈ o := s2.mem_iff.1 (List.getElem_mem hb)
  rw [cfVote_ok (hok _ mb) (hok _ ma)] at q
  have hne : ys[a] ≠ ys[b] := nodup_ne hnd hab hb
  have hne1 : ys[a].1 ≠ ys[b].1 := fun e => hne (quo_one ho ((h2 _).1 ma) ((h2 _).1 mb) e)
  omega

theorem t_impl_ChosenIn (xs : List SlotT) (hl : xs.length ≤ 1048576) : ∃ r, m_impl_ChosenIn xs = some r ∧ chosenP xs r := by
  show ∃ r, p_impl_ChosenIn FU xs = some r ∧ _
  unfold p_impl_ChosenIn
  simp only [t_impl_slotsFault xs hl, Option.bind_some]
  by_cases h0 : askCode xs = 0
  · obtain ⟨q1, q2, q3⟩ := ask_cast h0
    obtain ⟨out, e, ho, hlo⟩ := t_impl_chosen xs q1 q2 q3
    have hb : (!(askCode xs == 0)) = false := by rw [h0]; rfl
    simp only [hb, cond_false, e, Option.bind_some]
    refine ⟨_, ?_, .inr ⟨h0, out, ho, rfl⟩⟩
    cases out with
    | nil => rfl
    | cons v r =>
      have d : (lenI (v :: r) == 0) = false := by rw [lenI_eq, beq_eq_false_iff_ne, List.length_cons]; omega
      have hz : geti (v :: r) (0 : Int) = some v := rfl
      simp only [d, cond_false, hz, Option.bind_some]
      rfl
  · have hb : (!(askCode xs == 0)) = true := by simpa using h0
    simp only [hb, cond_true]
    exact ⟨_, rfl, .inl ⟨h0, rfl⟩⟩

theorem t_laws_eqVote (a : Int × Int) : m_laws_eqVote (a, a) = some true := by
  show p_laws_eqVote FU _ = _
  unfold p_laws_eqVote
  simp

theorem t_laws_eqVoteS (xs : List (Int × Int)) (hl : xs.length ≤ 1048576) : m_laws_eqVoteS (xs, xs) = some true := by
  show p_laws_eqVoteS FU _ = _
  unfold p_laws_eqVoteS
  simp only [beq_self_eq_true, Bool.not_true, cond_false]
  exact eq_loop xs m_laws_eqVote (fun x hx => t_laws_eqVote x) hl

theorem t_laws_eqSlot (x : SlotT) (h : x.2.2.2.2.length ≤ 1048576) : m_laws_eqSlot (x, x) = some true := by
  show p_laws_eqSlot FU _ = _
  unfold p_laws_eqSlot
  simp only [beq_self_eq_true, Bool.not_true, cond_false, t_laws_eqVote, t_laws_eqVoteS _ h, Option.bind_some]

theorem t_laws_eqSlotS (xs : List SlotT) (hl : xs.length ≤ 1048576) (h : ∀ x ∈ xs, x.2.2.2.2.length ≤ 1048576) : m_laws_eqSlotS (xs, xs) = some true := by
  show p_laws_eqSlotS FU _ = _
  unfold p_laws_eqSlotS
  simp only [beq_self_eq_true, Bool.not_true, cond_false]
  exact eq_loop xs m_laws_eqSlot (fun x hx => t_laws_eqSlot x (h x hx)) hl

theorem law_laws_FnExactChosenIn (x : List SlotT) (h : WFs S_laws_FnExactChosenIn.ps x) : m_laws_FnExactChosenIn x = some true := by
  show p_laws_FnExactChosenIn FU _ = _
  unfold p_laws_FnExactChosenIn
  rcases z_laws_szSlotS x h 1048576 (by omega) (by omega) with e1 | ⟨e1, b1⟩
  · rw [e1]; rfl
  · have hW : W_SlotS x ≤ 1048576 := by omega
    have hl : x.length ≤ 1048576 := by unfold W_SlotS at hW; omega
    have d1 : decide ((1048576 : Int) - (W_SlotS x : Int) < 0) = false := decide_eq_false (by omega)
    obtain ⟨r, e2, p2⟩ := t_spec_ChosenIn x hl
    obtain ⟨r', e3, p3⟩ := t_impl_ChosenIn x hl
    have er := chosenP_same p2 p3
    subst er
    simp only [e1, Option.bind_some, d1, cond_false, o_laws_toSlotS x hW, e2, e3, eq_laws_eqVoteResult, Bool.not_true, eq_laws_eqSlotS x hW]
end Go.RvP
